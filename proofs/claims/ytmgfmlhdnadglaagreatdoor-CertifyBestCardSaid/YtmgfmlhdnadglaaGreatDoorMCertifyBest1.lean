/- Proved: part 5 of the proof that the law CertifyBest returns true at all its arguments (no further conditions). -/
import Derived.Test.YtmgfmlhdnadglaaGreatDoorMCertifyBest0
set_option linter.unusedVariables false
set_option linter.unusedSimpArgs false
namespace Go.Proofs.YtmgfmlhdnadglaaGreatDoor
open Go Th Go.Proofs
variable {R:Type}
theorem UaU {n:Nat} (hn:10 ^ 400≤n):200000≤n:=Nat.le_trans (by decide +kernel) hn
def idx (s:List UInt8):Nat:=(s.takeWhile (· != 47)).length
theorem Urr:idx []=0:=rfl
theorem Ucb (c:UInt8) (r:List UInt8):idx (c::r)=if c=47 then 0 else idx r + 1:=by
 unfold idx
 rw [List.takeWhile_cons]
 by_cases h:c=47 <;> simp [h]
theorem UiZ:∀ {s:List UInt8},(∀ c∈s,c≠47)→idx s=s.length
 | [],_=>rfl
 | c::r,h=>by rw [Ucb,if_neg (h c (List.mem_cons_self ..)),UiZ fun x hx=>h x (List.mem_cons_of_mem _ hx),List.length_cons]
theorem Upo:∀ {a:List UInt8} (b:List UInt8),(∀ c∈a,c≠47)→idx (a++47::b)=a.length
 | [],b,_=>by rw [List.nil_append,Ucb,if_pos rfl]; rfl
 | c::r,b,h=>by rw [List.cons_append,Ucb,if_neg (h c (List.mem_cons_self ..)),Upo b fun x hx=>h x (List.mem_cons_of_mem _ hx),List.length_cons]
theorem Ugk:∀ {s:List UInt8},idx s<s.length→s=s.take (idx s)++47::s.drop (idx s + 1)
 | [],h=>by simp [Urr] at h
 | c::r,h=>by
  rw [Ucb,List.length_cons] at *
  by_cases hc:c=47
  · rw [if_pos hc] at *; rw [hc]; rfl
  · rw [if_neg hc] at *
    have ih:=Ugk (s:=r) (by omega)
    rw [List.take_succ_cons,List.drop_succ_cons,List.cons_append,←ih]
theorem Ucc:∀ (s:List UInt8),Lib.indexByte s 47=if idx s<s.length then (idx s:Int) else -1
 | []=>rfl
 | c::r=>by
  have ih:=Ucc r
  simp only [Lib.indexByte,Ucb,List.length_cons]
  by_cases hc:c=47
  · subst hc; simp
  · rw [if_neg (by simpa using hc),ih,if_neg hc]
    by_cases h:idx r<r.length
    · simp only [if_pos h]
      rw [if_neg (by simp),if_pos (by omega)]; omega
    · simp only [if_neg h]
      rw [if_pos (by decide),if_neg (by omega)]
theorem Uo2 (n:Nat) (s:List UInt8) (hs:s.length<2 ^ 40) (k0:ByteArray→ByteArray→Bool→Option R) :
 p96 n (bs s) k0=if idx s<s.length then k0 (bs (s.take (idx s))) (bs (s.drop (idx s + 1))) true else k0 (bs s) (bs []) false:=by
 unfold p96 Uxf
 have e:((⟨#[47]⟩:ByteArray).data.toList.headD 0)=47:=rfl
 have hz:(⟨#[47]⟩:ByteArray).size=1:=rfl
 rw [Jg7,e,Ucc]
 by_cases h:idx s<s.length
 · rw [if_pos h,if_pos h]
   have e1:(idx s:Int) + ((1:Nat):Int)=((idx s + 1:Nat):Int):=by omega
   have e2:List.drop (0:Int).toNat (List.take (idx s) s)=s.take (idx s):=rfl
   have e3:List.drop 0 (List.take (idx s) s)=s.take (idx s):=rfl
   have e4:List.drop (idx s + 1) (List.take s.length s)=s.drop (idx s + 1):=by rw [List.take_length]
   have hz2:(bs [47]).size=1:=rfl
   simp (disch:=(first | omega | (simp only [JlE]; omega))) only [↓JlH,JlF,hz,hz2,e1,Jji,e2,e3,e4,List.length_nil]
 · rw [if_neg h,if_neg h]
   simp (disch:=(first | omega | (simp only [JlE]; omega))) only [↓JlH,JlF]
theorem UnY (a:Nat):∀ c∈dec a,c≠47:=by
 intro c hc h
 have:=UaM.1 (Ubi a c hc)
 rw [h] at this
 exact absurd this.1 (by decide)
theorem Ugo (z:Int):∀ c∈Lib.itoa z,c≠47:=by
 have h:=UdO (Lib.itoa z)
 rw [Uax] at h
 rw [h]
 intro c hc
 rcases List.mem_append.1 hc with h1 | h1
 · split at h1
   · rw [List.mem_singleton.1 h1]; decide
   · cases h1
 · exact UnY _ c h1
theorem Ui2 {z:Int} (h:z.natAbs<10 ^ 400):(Lib.itoa z).length≤401:=by
 have h1:=UcB h
 have h2:=UdO (Lib.itoa z)
 rw [Uax] at h2
 rw [h2,List.length_append]
 split <;> simp <;> omega
theorem UaR {q:Rat} (h:fits q):(Uaa q).length≤802:=by
 unfold Uaa
 have h1:=Ui2 h.1
 have h2:=UcB h.2
 rw [List.length_append]
 split <;> simp <;> omega
theorem Uku:dec 1=[49]:=UaK (by omega)
theorem Uc0 (q:Rat):(Uaa q).take (idx (Uaa q))=Lib.itoa q.num∧(idx (Uaa q)<(Uaa q).length↔q.den≠1)∧(q.den≠1→(Uaa q).drop (idx (Uaa q) + 1)=dec q.den):=by
 unfold Uaa
 by_cases h:q.den=1
 · rw [if_pos h,List.append_nil,UiZ (Ugo _),List.take_length]
   exact ⟨rfl,by simp [h],fun q=>absurd h q⟩
 · rw [if_neg h,Upo _ (Ugo _),List.take_left]
   refine ⟨rfl,by simp [h],fun _=>?_⟩
   rw [List.drop_append,List.drop_of_length_le (by omega),show (Lib.itoa q.num).length + 1 - (Lib.itoa q.num).length=1 from by omega]
   rfl
theorem UdD {p q:Rat} (h:Uaa p=Uaa q):p=q:=by
 obtain ⟨a1,a2,a3⟩:=Uc0 p
 obtain ⟨b1,b2,b3⟩:=Uc0 q
 rw [h] at a1 a2 a3
 have hn:Lib.itoa p.num=Lib.itoa q.num:=a1.symm.trans b1
 have hc:=congrArg Ubt hn
 rw [Uax,Uax] at hc
 have h1:=UbS (Prod.mk.inj hc).2
 have h2:(p.num<0)=(q.num<0):=by simpa using (Prod.mk.inj hc).1
 have hnum:p.num=q.num:=by
  have:p.num<0↔q.num<0:=by rw [h2]
  omega
 by_cases hd:q.den=1
 · have:p.den=1:=by
    apply Classical.byContradiction
    intro hp
    exact (b2.1 (a2.2 hp)) hd
   exact Rat.ext hnum (this.trans hd.symm)
 · have hp:p.den≠1:=a2.1 (b2.2 hd)
   exact Rat.ext hnum (UbS ((a3 hp).symm.trans (b3 hd)))
def isQ (s:List UInt8):Prop:=∃ q:Rat,fits q∧s=Uaa q
theorem Ume (n:Nat) (z w:Nat) (hz:z<10 ^ 400) (hw:w<10 ^ 400) (hw0:w≠0) (hn:10 ^ 400≤n) (x1 x3:Bool) (x5:List PV) (k0:Bool→List PV→List PV→Bool→Option R) :
 UfB n x1 (bs (dec w)) x3 (NN z) x5 k0=k0 x3 (NN z) (NN w) (Nat.gcd w z == 1):=by
 have hN:=Nat.le_trans (by decide +kernel:2 ^ 20≤10 ^ 400) hn
 have m1:=Uar hz
 have m2:=Uar hw
 have lw:=UcB hw
 have q2:=fun k0=>UfP (R:=R) n (dec w) (Ubi _) (by omega) (by omega) k0
 rw [UcF] at q2
 have hg:=fun k0=>Upm (R:=R) n z w (by omega) (by omega) (by omega) (by omega) (by omega) k0
 obtain ⟨g,hge⟩:∃ g,Nat.gcd w z=g:=⟨_,rfl⟩
 have hg0:g≠0:=by rw [←hge]; intro e; exact hw0 (Nat.gcd_eq_zero_iff.1 e).1
 rw [hge] at hg ⊢
 have hgl:(toL 1000000000 g).length≤45:=Ubk m2 (by rw [←hge]; exact Nat.le_of_dvd (by omega) (Nat.gcd_dvd_left _ _))
 unfold UfB
 clear hz hw hn
 simp only [q2,hg,UjH]
 by_cases c:(toL 1000000000 g).length=1
 · have hg1:g<1000000000:=by
    have:=(Uai hB2 g 1).1 (by omega)
    rwa [Nat.pow_one] at this
   have hgi:∀ (K:Int→Option R),Jj .u32 ((NN g).getD (0:Int).toNat (PV.v (Value.bool false))) K=K (g:Int):=fun K=>by rw [UeJ hg0 hg1]; rfl
   have e1:(((toL 1000000000 g).length:Int) == 1)=true:=by rw [c]; rfl
   have e2:((g:Int) == 1)=(g == 1):=JdC g 1
   simp (disch:=(first | omega | (simp only [JlE]; omega))) only [↓JlH,JlF,JlG,e1,hgi,e2]
 · have e1:(((toL 1000000000 g).length:Int) == 1)=false:=by
    simp only [beq_eq_false_iff_ne,ne_eq]; omega
   have e2:(g == 1)=false:=by
    simp only [beq_eq_false_iff_ne,ne_eq]
    intro e
    rw [e,Ude hB2 (by omega) (by omega)] at c
    exact c rfl
   rw [e2]
   simp (disch:=(first | omega | (simp only [JlE]; omega))) only [↓JlH,JlF,JlG,e1]
theorem UgS (q:Rat):Nat.gcd q.den q.num.natAbs=1:=by rw [Nat.gcd_comm]; exact q.reduced
theorem UnM {s:List UInt8}:eqS (bs s) (⟨#[48]⟩:ByteArray)=(s == [48]):=rfl
theorem Urd {s:List UInt8}:eqS (bs s) (⟨#[49]⟩:ByteArray)=(s == [49]):=rfl
theorem Umh (z:Int) (w:Nat) (hz:z.natAbs<10 ^ 400) (hw:w<10 ^ 400) (h0:w≠0) (hc:Nat.gcd w z.natAbs=1):∃ q:Rat,fits q∧q.num=z∧q.den=w :=
 ⟨⟨z,w,h0,by rw [Nat.gcd_comm] at hc; exact hc⟩,⟨hz,hw⟩,rfl,rfl⟩
theorem Ubn (n:Nat) (hn:10 ^ 400≤n) (q:Rat) (hq:fits q) (k0:Bool→List PV→List PV→Bool→Option R) :
 p56 n (bs (Uaa q)) k0=k0 (sg q.num) (NN q.num.natAbs) (NN q.den) true:=by
 have hN:=Nat.le_trans (by decide +kernel:2 ^ 20≤10 ^ 400) hn
 have hl:=UaR hq
 obtain ⟨a1,a2,a3⟩:=Uc0 q
 have c1:=fun k0=>Uo2 (R:=R) n (Uaa q) (by omega) k0
 have li:=Ui2 hq.1
 have i1:=fun k0=>UcE (R:=R) n (Lib.itoa q.num) (by omega) k0
 rw [Uax,Umg hq.1] at i1
 have ln:=UcB hq.1
 have q1:=fun k0=>UfP (R:=R) n (dec q.num.natAbs) (Ubi _) (by omega) (by omega) k0
 rw [UcF] at q1
 unfold p56
 by_cases hd:q.den=1
 · have e1:Uaa q=Lib.itoa q.num:=by unfold Uaa; rw [if_pos hd,List.append_nil]
   simp only [if_neg (fun h=>a2.1 h hd)] at c1
   rw [e1] at c1 ⊢
   simp only [c1,i1,q1,Bool.not_true,Bool.not_false,Uaq,Uag]
   rw [hd,UsF]
 · simp only [if_pos (a2.2 hd),a1,a3 hd] at c1
   have d1:=fun k0=>UdP (R:=R) n (dec q.den) (by have:=UcB hq.2; omega) k0
   rw [Uie hq.2] at d1
   have g1:=fun x1 x3 x5 k0=>Ume (R:=R) n q.num.natAbs q.den hq.1 hq.2 q.den_nz hn x1 x3 x5 k0
   rw [UgS] at g1
   have e48:(dec q.den == [48])=false:=by
    simp only [beq_eq_false_iff_ne,ne_eq]
    intro e; exact q.den_nz (UbS (e.trans Uan.symm))
   have e49:(dec q.den == [49])=false:=by
    simp only [beq_eq_false_iff_ne,ne_eq]
    intro e; exact hd (UbS (e.trans Uku.symm))
   simp only [c1,i1,q1,d1,UnM,Urd,e48,e49,g1,Bool.not_true,Bool.not_false,Uaq,Uag,show ((1:Nat) == 1)=true from rfl]
theorem Usc (n:Nat) (hn:10 ^ 400≤n) (s:List UInt8) (hs:s.length<2 ^ 20) :
 isQ s∨∃ a b c,∀ k0:Bool→List PV→List PV→Bool→Option R,p56 n (bs s) k0=k0 a b c false:=by
 have hN:=Nat.le_trans (by decide +kernel:2 ^ 20≤10 ^ 400) hn
 have c1:=fun k0=>Uo2 (R:=R) n s (by omega) k0
 by_cases hsl:idx s<s.length
 · simp only [if_pos hsl] at c1
   have hspl:=Ugk hsl
   have lt:(s.take (idx s)).length<2 ^ 20:=by rw [List.length_take]; omega
   have lb:(s.drop (idx s + 1)).length<2 ^ 20:=by rw [List.length_drop]; omega
   generalize s.take (idx s)=t at *
   generalize s.drop (idx s + 1)=b at *
   have i1:=fun k0=>UcE (R:=R) n t (by omega) k0
   have d1:=fun k0=>UdP (R:=R) n b (by omega) k0
   cases hI:Upp t with
   | false =>
    rw [hI] at i1
    exact Or.inr ⟨false,[],[],fun k0=>by unfold p56; simp only [c1,i1,Bool.not_false,Uaq]⟩
   | true =>
    rw [hI] at i1
    obtain ⟨z,hz,rfl⟩:=Ui0 hI
    rw [Uax] at i1
    have ln:=UcB hz
    have q1:=fun k0=>UfP (R:=R) n (dec z.natAbs) (Ubi _) (by omega) (by omega) k0
    rw [UcF] at q1
    cases hD:UgI b with
    | false =>
     rw [hD] at d1
     exact Or.inr ⟨false,[],[],fun k0=>by unfold p56; simp only [c1,i1,q1,d1,Bool.not_true,Bool.not_false,Uaq,Uag]⟩
    | true =>
     rw [hD] at d1
     obtain ⟨hw,hb⟩:=Uif hD
     by_cases h48:b=[48]
     · have e48:(b == [48])=true:=by simpa using h48
       exact Or.inr ⟨false,[],[],fun k0=>by unfold p56; simp only [c1,i1,q1,d1,UnM,e48,Bool.not_true,Bool.not_false,Uaq,Uag]⟩
     have e48:(b == [48])=false:=by simpa using h48
     by_cases h49:b=[49]
     · have e49:(b == [49])=true:=by simpa using h49
       exact Or.inr ⟨false,[],[],fun k0=>by unfold p56; simp only [c1,i1,q1,d1,UnM,Urd,e48,e49,Bool.not_true,Bool.not_false,Uaq,Uag]⟩
     have e49:(b == [49])=false:=by simpa using h49
     have hw0:ofD b≠0:=fun e=>h48 (by rw [hb,e,Uan])
     have hw1:ofD b≠1:=fun e=>h49 (by rw [hb,e,Uku])
     have g1:=fun x1 x3 x5 k0=>Ume (R:=R) n z.natAbs (ofD b) hz hw hw0 hn x1 x3 x5 k0
     rw [←hb] at g1
     by_cases hg:Nat.gcd (ofD b) z.natAbs=1
     · obtain ⟨q,f1,f2,f3⟩:=Umh z (ofD b) hz hw hw0 hg
       refine Or.inl ⟨q,f1,?_⟩
       unfold Uaa
       rw [f2,f3,if_neg hw1,←hb]
       exact hspl
     · rw [show (Nat.gcd (ofD b) z.natAbs == 1)=false from by simpa using hg] at g1
       exact Or.inr ⟨decide (z<0),NN z.natAbs,NN (ofD b),fun k0=>by unfold p56; simp only [c1,i1,q1,d1,UnM,Urd,e48,e49,g1,Bool.not_true,Bool.not_false,Uaq,Uag]⟩
 · simp only [if_neg hsl] at c1
   have i1:=fun k0=>UcE (R:=R) n s (by omega) k0
   cases hI:Upp s with
   | false =>
    rw [hI] at i1
    exact Or.inr ⟨false,[],[],fun k0=>by unfold p56; simp only [c1,i1,Bool.not_false,Uaq]⟩
   | true =>
    obtain ⟨z,hz,rfl⟩:=Ui0 hI
    obtain ⟨q,f1,f2,f3⟩:=Umh z 1 hz (by decide +kernel) (by omega) (Nat.gcd_one_left _)
    refine Or.inl ⟨q,f1,?_⟩
    unfold Uaa
    rw [f2,f3,if_pos rfl,List.append_nil]
theorem Uoj (n:Nat) (hn:10 ^ 400≤n) (s:List UInt8) (hs:s.length<2 ^ 20) (h:¬ isQ s):∃ a b c,∀ k0:Bool→List PV→List PV→Bool→Option R,p56 n (bs s) k0=k0 a b c false :=
 (Usc n hn s hs).resolve_left h
theorem Uat (v:Int):Lib.itoa v=Uaa (v:Rat):=by
 unfold Uaa
 rw [Rat.num_intCast,Rat.den_intCast,if_pos rfl,List.append_nil]
theorem Ufd {v:Int} (h:v.natAbs<10 ^ 400):fits (v:Rat):=by
 unfold fits
 rw [Rat.num_intCast,Rat.den_intCast]
 exact ⟨h,by decide +kernel⟩
theorem UjI (n:Nat) (hn:10 ^ 400≤n) (s:List UInt8) (hs:s.length<2 ^ 20) (k0:Bool→Option R) [Decidable (isQ s)]:p53 n (bs s) k0=k0 (decide (isQ s)):=by
 have hN:=Nat.le_trans (by decide +kernel:2 ^ 20≤10 ^ 400) hn
 unfold p53
 by_cases hv:∃ v:Int,v.natAbs<10 ^ 9∧s=Lib.itoa v
 · obtain ⟨v,h1,rfl⟩:=hv
   have hq:isQ (Lib.itoa v):=⟨(v:Rat),Ufd (Nat.lt_trans h1 (by decide +kernel)),Uat v⟩
   rw [UdC n (by omega) v h1,decide_eq_true hq]; rfl
 · rw [Ugy n (by omega) s (by omega) hv,Uag]
   by_cases hq:isQ s
   · obtain ⟨q,h1,rfl⟩:=hq
     rw [Ubn n hn q h1,decide_eq_true ⟨q,h1,rfl⟩]
   · obtain ⟨a,b,c,h⟩:=Uoj (R:=R) n hn s hs hq
     rw [h,decide_eq_false hq]
end Go.Proofs.YtmgfmlhdnadglaaGreatDoor
set_option linter.unusedVariables false
set_option maxRecDepth 100000
namespace Go.Proofs.YtmgfmlhdnadglaaGreatDoor
open Go Th Go.Proofs
noncomputable section
variable {R:Type}
def UeT:Ann:={ loops:=[(2,ids [5,6,7],ids [2])],cuts:=[],frz:=[],rm:=[.id] }
abbrev Uq9 (n:Nat):Env:=eC 53 (Urm n) eN
theorem Ulk (n:Nat):EnvOK Tryz.prog GI (Uq9 n):=.cons (.nil) (Usx n)
def UfG (n:Nat) (l0:LP→Int→Int→O R) (x1:LP) (x2 x3:Int) (k0:Bool→O R) (k1:O R):O R :=
 bif (decide (x3<x2)) then (bif (inR x3 ((x1).length)) then (Jj3 ((x1).getD ((x3:Int).toNat) (.v (.bool false))) fun e4=>p53 n e4 (fun y5=>bif (!y5) then (k0 false) else (l0 x1 x2 (IntKind.i64.wrap (x3 + 1))))) else none) else (k1)
def UcV (n:Nat):Nat→LP→Int→Int→(Bool→O R)→(O R)→O R
 | 0,_,_,_,_,_=>none
 | m + 1,x1,x2,x3,k0,k1=>UfG n (fun x1 x2 x3=>UcV n m x1 x2 x3 k0 k1) x1 x2 x3 k0 k1
def UpH (n:Nat) (x1:LP) (x2 x3:Int) (k0:Bool→O R) (k1:O R):O R:=UcV n n x1 x2 x3 k0 k1
def p66 (n:Nat) (x1:LP) (k0:Bool→O R):O R :=
 UpH n x1 ((x1).length:Int) 0 (fun y2=>k0 y2) (k0 true)
abbrev E66 (n:Nat):Code→Fr→Kc R→O R:=evC Tryz.prog (Uq9 n) UeT n (15,[])
noncomputable def UoS:Code:=Jj4 (Jll Tryz.f66) [1,0,1,0,0]
abbrev UeF:Sl (List SV):=(cH (cI (cI .n)))
abbrev Ul5 (n m:Nat) (K:Kc R):UeF.T (O R):=fun x1 x2 x3=>UcV n m x1 x2 x3 (fun y1=>xL UeT 2 K .ret [vB y1]) (xL UeT 2 K (.exit 0) [dD])
abbrev Us0 (n:Nat) (K:Kc R) (l0:UeF.T (O R)):UeF.T (O R):=fun x1 x2 x3=>UfG n l0 x1 x2 x3 (fun y1=>xL UeT 2 K .ret [vB y1]) (xL UeT 2 K (.exit 0) [dD])
abbrev Uze (n:Nat):Orc R:=oL UeT (E66 n) n 2 UoS UeF (Ul5 n n) oN
abbrev Uyo (n:Nat):Orc R:=oN
abbrev K66 (R:Type) (n:Nat):=JcH (R:=R) Tryz.prog (Uq9 n) UeT n (15,[]) (Uze n) (Uyo n)
theorem Uv (n:Nat):K66 R n (false,2,UoS):=JkF (lo:=Uze n) (cu:=Uyo n) (pO pN (by kernel_rfl)) UeF (Ul5 n n) (JiE (F:=Ul5 n) UeF (Us0 n) (fun K _ _ _=>rfl) (fun _ _=>rfl) (fun L K _ _ _=>by show _=_; kernel_rfl) n) fun _ _=>rfl
theorem UBS (n:Nat):Je6 (K66 R n) (JaJ UeT (Jll Tryz.f66)):=pO (pC (Uv n) pN) (by kernel_rfl)
abbrev t66:Sl (List SV):=(cH .n)
abbrev f66 (n:Nat) (K:List SV→O R):t66.T (O R):=fun x1=>p66 n x1 (fun y1=>K [vB y1])
abbrev Uws (n:Nat):FS:=fT [false] t66 (f66 n)
theorem Uzs (n:Nat):FSound Tryz.prog GI 66 (Uws n):=gd UeT n (Ulk n) Tryz.func66 (.cons (Ulk n) t66 (f66 n) (fun K _=>(Jkq (c:=Jll Tryz.f66) (by kernel_rfl) (UBS n) K).trans (by kernel_rfl)) .nil) (by kernel_rfl)
abbrev t41:Sl (List SV):=(cH .n)
end
end Go.Proofs.YtmgfmlhdnadglaaGreatDoor
set_option linter.unusedVariables false
set_option linter.unusedSimpArgs false
namespace Go.Proofs.YtmgfmlhdnadglaaGreatDoor
open Go Th Go.Proofs
variable {R:Type}
theorem Udo {α β:Type} (f:α→β) {l:List α} {i:Nat} {d:β} (h:i<l.length):(l.map f).getD i d=f l[i]:=by
 rw [List.getD_eq_getElem?_getD,List.getElem?_map,List.getElem?_eq_getElem h]; rfl
abbrev TermT:=Int × List UInt8
def tPV (t:TermT):PV:=.agg [.v (.int .i64 t.1),.v (.string (bs t.2))]
def tms (l:List TermT):List PV:=l.map tPV
theorem Ua (l:List TermT):(tms l).length=l.length:=by unfold tms; rw [List.length_map]
theorem UaB {l:List TermT} {i:Nat} {d:PV} (h:i<l.length) (K:Int→ByteArray→Option R) :
 (Jh2 ((tms l).getD i d) fun a=>JdT a fun h1 t1=>Jj .i64 h1 fun e1=>JdT t1 fun h2 t2=>Jj3 h2 fun e2=>Ji2 t2 (K e1 e2))=K (l[i]).1 (bs (l[i]).2):=by
 unfold tms; rw [Udo tPV h]; rfl
structure RowT where
 tm:List TermT
 c:List UInt8
 eq:Bool
 mark:Int
def rPV (r:RowT):PV:=.agg [.sh (tms r.tm),.v (.string (bs r.c)),.v (.bool r.eq),.v (.int .i64 r.mark)]
def rws (l:List RowT):List PV:=l.map rPV
theorem Uae (l:List RowT):(rws l).length=l.length:=by unfold rws; rw [List.length_map]
theorem UaF {l:List RowT} {i:Nat} {d:PV} (h:i<l.length) (K:List PV→ByteArray→Bool→Int→Option R) :
 (Jh2 ((rws l).getD i d) fun a=>JdT a fun h1 t1=>Jkr h1 fun e1=>JdT t1 fun h2 t2=>Jj3 h2 fun e2=>JdT t2 fun h3 t3=>Jj2 h3 fun e3=>JdT t3 fun h4 t4=>Jj .i64 h4 fun e4=>Ji2 t4 (K e1 e2 e3 e4)) =
   K (tms (l[i]).tm) (bs (l[i]).c) (l[i]).eq (l[i]).mark:=by
 unfold rws; rw [Udo rPV h]; rfl
def qPV (q:Rat):PV:=.agg [.v (.bool (sg q.num)),.sh (II q.num.natAbs),.v (.bool false),.sh (II q.den)]
def qs (l:List Rat):List PV:=l.map qPV
theorem UbW {l:List (List UInt8)} {i:Nat} {d:PV} (h:i<l.length) (K:ByteArray→Option R):Jj3 ((sl l).getD i d) K=K (bs l[i]):=by
 unfold sl; rw [Udo _ h]; rfl
theorem UaL {α:Type} {l:List α} {i:Nat} (h:i<l.length):l.drop i=l[i]::l.drop (i + 1):=List.drop_eq_getElem_cons h
theorem Uam {α:Type} {l:List α} {ok:α→Bool} {kbad kend:Option R} (L:Nat→Nat→Option R) (hend:∀ m,L (m + 1) l.length=kend)
 (hstep:∀ m i (h:i<l.length),L (m + 1) i=if ok l[i] then L m (i + 1) else kbad):∀ (d m i:Nat),d + i=l.length→d<m→L m i=if (l.drop i).all ok then kend else kbad
 | 0,m + 1,i,hd,hm=>by
  have:i=l.length:=by omega
  subst this
  rw [hend,List.drop_length]; rfl
 | d + 1,m + 1,i,hd,hm=>by
  have hi:i<l.length:=by omega
  rw [hstep m i hi,Uam L hend hstep d m (i + 1) (by omega) (by omega),UaL hi,List.all_cons]
  cases ok l[i] <;> simp
def Usz {α σ:Type} (step:σ→α→(σ→Option R)→Option R) (kend:σ→Option R):σ→List α→Option R
 | s,[]=>kend s
 | s,a::l=>step s a fun s'=>Usz step kend s' l
theorem Uht {α σ:Type} {l:List α} {step:σ→α→(σ→Option R)→Option R} {kend:σ→Option R} (L:Nat→σ→Nat→Option R) (hend:∀ m s,L (m + 1) s l.length=kend s)
 (hstep:∀ m s i (h:i<l.length),L (m + 1) s i=step s l[i] fun s'=>L m s' (i + 1)):∀ (d m i:Nat) (s:σ),d + i=l.length→d<m→L m s i=Usz step kend s (l.drop i)
 | 0,m + 1,i,s,hd,hm=>by
  have:i=l.length:=by omega
  subst this
  rw [hend,List.drop_length]; rfl
 | d + 1,m + 1,i,s,hd,hm=>by
  have hi:i<l.length:=by omega
  rw [hstep m s i hi,UaL hi]
  show step s l[i] _=step s l[i] _
  congr 1
  funext s'
  exact Uht L hend hstep d m (i + 1) s' (by omega) (by omega)
theorem Unx {a b:List UInt8} (h:a=b):(a == b)=true:=by rw [h]; exact beq_self_eq_true b
theorem UjV {a b:List UInt8} (h:¬ a=b):(a == b)=false:=by rw [Bool.eq_false_iff]; intro q; exact h (eq_of_beq q)
theorem i1 (i:Nat):(i:Int) + 1=((i + 1:Nat):Int):=by omega
noncomputable def qb (s:List UInt8):Bool:=@decide (isQ s) (Classical.propDecidable _)
theorem UxF {s:List UInt8}:qb s=true↔isQ s:=by unfold qb; exact @decide_eq_true_iff _ (Classical.propDecidable _)
theorem Ubq (n:Nat) (hn:10 ^ 400≤n) (s:List UInt8) (hs:s.length<2 ^ 17) (k0:Bool→Option R):p53 n (bs s) k0=k0 (qb s):=@UjI R n hn s (Nat.lt_trans hs (by decide)) k0 (Classical.propDecidable _)
noncomputable def Ud4 (l:List (List UInt8)):Bool:=l.all qb
def smS (l:List (List UInt8)):Prop:=l.length<2 ^ 17∧∀ s∈l,s.length<2 ^ 17
theorem Ueg (n:Nat) (hn:10 ^ 400≤n) (l:List (List UInt8)) (hl:smS l) (k0:Bool→Option R):p66 n (sl l) k0=k0 (Ud4 l):=by
 have hN:=UaU hn
 have hL:=hl.1
 unfold p66 UpH
 have h:=Uam (R:=R) (l:=l) (ok:=qb) (kbad:=k0 false) (kend:=k0 true) (fun m i=>UcV n m (sl l) ((sl l).length:Int) (i:Int) k0 (k0 true))
  (fun m=>by simp only [UcV,UfG]; simp (disch:=(first | omega | (simp only [JlE]; omega))) only [↓JlH,JlF,Uaj])
  (fun m i hi=>by
    have hv:=fun k=>Ubq (R:=R) n hn l[i] (hl.2 _ (List.getElem_mem hi)) k
    simp only [UcV,UfG]
    simp (disch:=(first | omega | (simp only [JlE]; omega))) only [↓JlH,JlF,Uaj,Jji,UbW hi,hv,i1]
    cases qb l[i] <;> rfl) l.length n 0 (by omega) (by omega)
 rw [List.drop_zero] at h
 refine Eq.trans h ?_
 unfold Ud4
 cases l.all qb <;> rfl
end Go.Proofs.YtmgfmlhdnadglaaGreatDoor
set_option linter.unusedVariables false
set_option maxRecDepth 100000
namespace Go.Proofs.YtmgfmlhdnadglaaGreatDoor
open Go Th Go.Proofs
noncomputable section
variable {R:Type}
def Ub3:Ann:={ loops:=[(3,ids [1,2,5,9,10,11],ids [2,4])],cuts:=[],frz:=[],rm:=[.id] }
abbrev UkD (n:Nat):Env:=eC 53 (Urm n) eN
theorem Uir (n:Nat):EnvOK Tryz.prog GI (UkD n):=.cons (.nil) (Usx n)
def Udt (n:Nat) (l0:Int→LP→ByteArray→Bool→Int→Int→LP→Int→Int→O R) (x1:Int) (x2:LP) (x3:ByteArray) (x4:Bool) (x5 x6:Int) (x7:LP) (x8 x9:Int) (k0:LP→ByteArray→Bool→Int→Bool→O R) (k1:LP→ByteArray→Bool→Int→O R):O R :=
 bif (decide (x9<x8)) then (bif (inR x9 ((x7).length)) then (Jh2 ((x7).getD ((x9:Int).toNat) (.v (.bool false))) fun a10=>JdT a10 fun h11 t12=>Jj .i64 h11 fun e13=>JdT t12 fun h14 t15=>Jj3 h14 fun e16=>Ji2 t15 (bif (decide (e13≤x6)) then (k0 x2 x3 x4 x5 false) else (bif (bif false then true else (decide (e13≥x1))) then (k0 x2 x3 x4 x5 false) else (bif (bif false then true else eqS e16 (⟨#[48]⟩:ByteArray)) then (k0 x2 x3 x4 x5 false) else (p53 n e16 (fun y17=>bif (bif false then true else (!y17)) then (k0 x2 x3 x4 x5 false) else (l0 x1 x2 x3 x4 x5 e13 x7 x8 (IntKind.i64.wrap (x9 + 1))))))))) else none) else (k1 x2 x3 x4 x5)
def Ubw (n:Nat):Nat→Int→LP→ByteArray→Bool→Int→Int→LP→Int→Int→(LP→ByteArray→Bool→Int→Bool→O R)→(LP→ByteArray→Bool→Int→O R)→O R
 | 0,_,_,_,_,_,_,_,_,_,_,_=>none
 | m + 1,x1,x2,x3,x4,x5,x6,x7,x8,x9,k0,k1=>Udt n (fun x1 x2 x3 x4 x5 x6 x7 x8 x9=>Ubw n m x1 x2 x3 x4 x5 x6 x7 x8 x9 k0 k1) x1 x2 x3 x4 x5 x6 x7 x8 x9 k0 k1
def Umv (n:Nat) (x1:Int) (x2:LP) (x3:ByteArray) (x4:Bool) (x5 x6:Int) (x7:LP) (x8 x9:Int) (k0:LP→ByteArray→Bool→Int→Bool→O R) (k1:LP→ByteArray→Bool→Int→O R):O R:=Ubw n n x1 x2 x3 x4 x5 x6 x7 x8 x9 k0 k1
def UvS (n:Nat) (x1:LP) (x2:ByteArray) (x3:Bool) (x4 x5:Int) (k0:Bool→O R):O R :=
 Umv n x5 x1 x2 x3 x4 (-1) x1 ((x1).length:Int) 0 (fun y6 y7 y8 y9 y10=>k0 y10) (fun y11 y12 y13 y14=>p53 n y12 (fun y15=>k0 y15))
abbrev UzF (n:Nat):Code→Fr→Kc R→O R:=evC Tryz.prog (UkD n) Ub3 n (42,[])
noncomputable def Uj2:Code:=Jj4 (Jll Tryz.f107) [1,1,0,1,0,0]
abbrev Uc5:Sl (List SV):=(cI (.c (sBx 70 (cH (cS (cB (cI .n))))) (cI (cH (cI (cI .n))))))
abbrev Ug3 (n m:Nat) (K:Kc R):Uc5.T (O R):=fun x1 x2 x3 x4 x5 x6 x7 x8 x9=>Ubw n m x1 x2 x3 x4 x5 x6 x7 x8 x9 (fun y1 y2 y3 y4 y5=>xL Ub3 3 K .ret [.bx 70 [vH y1,vS y2,vB y3,vI y4],vB y5]) (fun y1 y2 y3 y4=>xL Ub3 3 K (.exit 0) [.bx 70 [vH y1,vS y2,vB y3,vI y4],dD])
abbrev Uqs (n:Nat) (K:Kc R) (l0:Uc5.T (O R)):Uc5.T (O R):=fun x1 x2 x3 x4 x5 x6 x7 x8 x9=>Udt n l0 x1 x2 x3 x4 x5 x6 x7 x8 x9 (fun y1 y2 y3 y4 y5=>xL Ub3 3 K .ret [.bx 70 [vH y1,vS y2,vB y3,vI y4],vB y5]) (fun y1 y2 y3 y4=>xL Ub3 3 K (.exit 0) [.bx 70 [vH y1,vS y2,vB y3,vI y4],dD])
abbrev Uum (n:Nat):Orc R:=oL Ub3 (UzF n) n 3 Uj2 Uc5 (Ug3 n n) oN
abbrev Uta (n:Nat):Orc R:=oN
abbrev Uy (R:Type) (n:Nat):=JcH (R:=R) Tryz.prog (UkD n) Ub3 n (42,[]) (Uum n) (Uta n)
theorem UrK (n:Nat):Uy R n (false,3,Uj2):=JkF (lo:=Uum n) (cu:=Uta n) (pO pN (by kernel_rfl)) Uc5 (Ug3 n n) (JiE (F:=Ug3 n) Uc5 (Uqs n) (fun K _ _ _ _ _ _ _ _ _=>rfl) (fun _ _=>rfl) (fun L K _ _ _ _ _ _ _ _ _=>by show _=_; kernel_rfl) n) fun _ _=>rfl
theorem Uxp (n:Nat):Je6 (Uy R n) (JaJ Ub3 (Jll Tryz.f107)):=pO (pC (UrK n) pN) (by kernel_rfl)
abbrev UxM:Sl (List SV):=(.c (sP (JlI (.c sSh (.c Jly (.c Jlf (.c (Jlv .i64) .n)))))) (cI .n))
abbrev f107 (n:Nat) (K:List SV→O R):UxM.T (O R):=fun x1 x2 x3 x4 x5=>UvS n x1 x2 x3 x4 x5 (fun y1=>K [vB y1])
abbrev UtY (n:Nat):FS:=fT [false,false] UxM (f107 n)
theorem UwO (n:Nat):FSound Tryz.prog GI 107 (UtY n):=gd Ub3 n (Uir n) Tryz.func107 (.cons (Uir n) UxM (f107 n) (fun K _ _ _ _ _=>(Jkq (c:=Jll Tryz.f107) (by kernel_rfl) (Uxp n) K).trans (by kernel_rfl)) .nil) (by kernel_rfl)
def UjK:Ann:={ loops:=[],cuts:=[],frz:=[],rm:=[.id] }
abbrev Uo4 (n:Nat):Env:=eC 107 (UtY n) eN
theorem Uiq (n:Nat):EnvOK Tryz.prog GI (Uo4 n):=.cons (.nil) (UwO n)
def Uxd (n:Nat) (x1:LP) (x2:ByteArray) (x3:Bool) (x4 x5:Int) (x6:LP) (k0:Bool→O R):O R :=
 UvS n x1 x2 x3 x4 x5 (fun y7=>k0 (!y7))
abbrev Uwz (n:Nat):Orc R:=oN
abbrev Uv6 (n:Nat):Orc R:=oN
abbrev UzL (R:Type) (n:Nat):=JcH (R:=R) Tryz.prog (Uo4 n) UjK n (9,[]) (Uwz n) (Uv6 n)
theorem Uxo (n:Nat):Je6 (UzL R n) (JaJ UjK (Jll Tryz.f106)):=pO pN (by kernel_rfl)
abbrev UxL:Sl (List SV):=(.c (sP (JlI (.c sSh (.c Jly (.c Jlf (.c (Jlv .i64) .n)))))) (.c (sP (sFb (.c (Jlv .i64) (.c sSh .n)))) .n))
abbrev f106 (n:Nat) (K:List SV→O R):UxL.T (O R):=fun x1 x2 x3 x4 x5 x6=>Uxd n x1 x2 x3 x4 x5 x6 (fun y1=>K [vB y1])
abbrev UtX (n:Nat):FS:=fT [false,false] UxL (f106 n)
theorem UwN (n:Nat):FSound Tryz.prog GI 106 (UtX n):=gd UjK n (Uiq n) Tryz.func106 (.cons (Uiq n) UxL (f106 n) (fun K _ _ _ _ _ _=>(Jkq (c:=Jll Tryz.f106) (by kernel_rfl) (Uxo n) K).trans (by kernel_rfl)) .nil) (by kernel_rfl)
def Ub5:Ann:={ loops:=[(2,ids [0,1,7,8],ids [4])],cuts:=[],frz:=[],rm:=[.id] }
abbrev UkI (n:Nat):Env:=eC 106 (UtX n) eN
theorem UiA (n:Nat):EnvOK Tryz.prog GI (UkI n):=.cons (.nil) (UwN n)
def Udx (n:Nat) (l0:LP→Int→LP→Int→Int→O R) (x1:LP) (x2:Int) (x3:LP) (x4 x5:Int) (k0:Int→O R) (k1:O R):O R :=
 bif (decide (x5<x4)) then (bif (inR x5 ((x1).length)) then (Jh2 ((x1).getD ((x5:Int).toNat) (.v (.bool false))) fun a6=>JdT a6 fun h7 t8=>Jkr h7 fun e9=>JdT t8 fun h10 t11=>Jj3 h10 fun e12=>JdT t11 fun h13 t14=>Jj2 h13 fun e15=>JdT t14 fun h16 t17=>Jj .i64 h16 fun e18=>Ji2 t17 (Uxd n e9 e12 e15 e18 x2 x3 (fun y19=>bif y19 then (k0 x5) else (l0 x1 x2 x3 x4 (IntKind.i64.wrap (x5 + 1)))))) else none) else (k1)
def Ua2 (n:Nat):Nat→LP→Int→LP→Int→Int→(Int→O R)→(O R)→O R
 | 0,_,_,_,_,_,_,_=>none
 | m + 1,x1,x2,x3,x4,x5,k0,k1=>Udx n (fun x1 x2 x3 x4 x5=>Ua2 n m x1 x2 x3 x4 x5 k0 k1) x1 x2 x3 x4 x5 k0 k1
def UmA (n:Nat) (x1:LP) (x2:Int) (x3:LP) (x4 x5:Int) (k0:Int→O R) (k1:O R):O R:=Ua2 n n x1 x2 x3 x4 x5 k0 k1
def Uxg (n:Nat) (x1:LP) (x2:Int) (x3:LP) (k0:Int→O R):O R :=
 UmA n x1 x2 x3 ((x1).length:Int) 0 (fun y4=>k0 y4) (k0 (-1))
abbrev UzI (n:Nat):Code→Fr→Kc R→O R:=evC Tryz.prog (UkI n) Ub5 n (19,[])
noncomputable def Ukb:Code:=Jj4 (Jll Tryz.f135) [1,0,1,0,0]
abbrev Uc9:Sl (List SV):=(cH (.c (sP (JlJ 106 (.c (sFb (.c (Jlv .i64) (.c sSh .n))) .n))) (cI (cI .n))))
abbrev Ug7 (n m:Nat) (K:Kc R):Uc9.T (O R):=fun x1 x2 x3 x4 x5=>Ua2 n m x1 x2 x3 x4 x5 (fun y1=>xL Ub5 2 K .ret [vI y1]) (xL Ub5 2 K (.exit 0) [dD])
abbrev Uqw (n:Nat) (K:Kc R) (l0:Uc9.T (O R)):Uc9.T (O R):=fun x1 x2 x3 x4 x5=>Udx n l0 x1 x2 x3 x4 x5 (fun y1=>xL Ub5 2 K .ret [vI y1]) (xL Ub5 2 K (.exit 0) [dD])
abbrev Uup (n:Nat):Orc R:=oL Ub5 (UzI n) n 2 Ukb Uc9 (Ug7 n n) oN
abbrev Utd (n:Nat):Orc R:=oN
abbrev Uyc (R:Type) (n:Nat):=JcH (R:=R) Tryz.prog (UkI n) Ub5 n (19,[]) (Uup n) (Utd n)
theorem UrV (n:Nat):Uyc R n (false,2,Ukb):=JkF (lo:=Uup n) (cu:=Utd n) (pO pN (by kernel_rfl)) Uc9 (Ug7 n n) (JiE (F:=Ug7 n) Uc9 (Uqw n) (fun K _ _ _ _ _=>rfl) (fun _ _=>rfl) (fun L K _ _ _ _ _=>by show _=_; kernel_rfl) n) fun _ _=>rfl
theorem Uxy (n:Nat):Je6 (Uyc R n) (JaJ Ub5 (Jll Tryz.f135)):=pO (pC (UrV n) pN) (by kernel_rfl)
abbrev UxS:Sl (List SV):=(cH (.c (sP (JlJ 106 (.c (sFb (.c (Jlv .i64) (.c sSh .n))) .n))) .n))
abbrev f135 (n:Nat) (K:List SV→O R):UxS.T (O R):=fun x1 x2 x3=>Uxg n x1 x2 x3 (fun y1=>K [vI y1])
abbrev Ut8 (n:Nat):FS:=fT [false,false] UxS (f135 n)
theorem UwY (n:Nat):FSound Tryz.prog GI 135 (Ut8 n):=gd Ub5 n (UiA n) Tryz.func135 (.cons (UiA n) UxS (f135 n) (fun K _ _ _=>(Jkq (c:=Jll Tryz.f135) (by kernel_rfl) (Uxy n) K).trans (by kernel_rfl)) .nil) (by kernel_rfl)
def UjJ:Ann:={ loops:=[],cuts:=[],frz:=[],rm:=[.id] }
abbrev Uo3 (n:Nat):Env:=eC 135 (Ut8 n) eN
theorem Uip (n:Nat):EnvOK Tryz.prog GI (Uo3 n):=.cons (.nil) (UwY n)
def Uxc (n:Nat) (x1:LP) (x2:Int) (x3:LP) (k0:Bool→O R):O R :=
 Uxg n x1 x2 x3 (fun y4=>k0 (decide (y4≥0)))
abbrev Uwy (n:Nat):Orc R:=oN
abbrev Uv5 (n:Nat):Orc R:=oN
abbrev UzK (R:Type) (n:Nat):=JcH (R:=R) Tryz.prog (Uo3 n) UjJ n (9,[]) (Uwy n) (Uv5 n)
theorem Uxn (n:Nat):Je6 (UzK R n) (JaJ UjJ (Jll Tryz.f105)):=pO pN (by kernel_rfl)
abbrev t105:Sl (List SV):=(cH (.c (sP (JlJ 106 (.c (sFb (.c (Jlv .i64) (.c sSh .n))) .n))) .n))
abbrev f105 (n:Nat) (K:List SV→O R):t105.T (O R):=fun x1 x2 x3=>Uxc n x1 x2 x3 (fun y1=>K [vB y1])
abbrev UtW (n:Nat):FS:=fT [false,false] t105 (f105 n)
theorem UwM (n:Nat):FSound Tryz.prog GI 105 (UtW n):=gd UjJ n (Uip n) Tryz.func105 (.cons (Uip n) t105 (f105 n) (fun K _ _ _=>(Jkq (c:=Jll Tryz.f105) (by kernel_rfl) (Uxn n) K).trans (by kernel_rfl)) .nil) (by kernel_rfl)
def Uqd:Ann:={ loops:=[],cuts:=[],frz:=[],rm:=[.id] }
abbrev UtA (n:Nat):Env:=eC 105 (UtW n) eN
theorem Ulj (n:Nat):EnvOK Tryz.prog GI (UtA n):=.cons (.nil) (UwM n)
def p65 (n:Nat) (x1:Int) (x2:LP) (k0:Int→O R):O R :=
 bif (decide (x1<0)) then (k0 2) else (bif (bif false then true else (decide (x1>2048))) then (k0 2) else (bif (decide (((x2).length:Int)>2048)) then (k0 6) else (Uxc n x2 x1 x2 (fun y3=>bif y3 then (k0 3) else (k0 0)))))
abbrev UAF (n:Nat):Orc R:=oN
abbrev UAa (n:Nat):Orc R:=oN
abbrev K65 (R:Type) (n:Nat):=JcH (R:=R) Tryz.prog (UtA n) Uqd n (19,[]) (UAF n) (UAa n)
theorem UBR (n:Nat):Je6 (K65 R n) (JaJ Uqd (Jll Tryz.f65)):=pO pN (by kernel_rfl)
abbrev t65:Sl (List SV):=(.c (sP (JlI (.c (Jlv .i64) (.c sSh .n)))) .n)
abbrev f65 (n:Nat) (K:List SV→O R):t65.T (O R):=fun x1 x2=>p65 n x1 x2 (fun y1=>K [vI y1])
abbrev UvL (n:Nat):FS:=fT [false] t65 (f65 n)
theorem Uxb (n:Nat):FSound Tryz.prog GI 65 (UvL n):=gd Uqd n (Ulj n) Tryz.func65 (.cons (Ulj n) t65 (f65 n) (fun K _ _=>(Jkq (c:=Jll Tryz.f65) (by kernel_rfl) (UBR n) K).trans (by kernel_rfl)) .nil) (by kernel_rfl)
abbrev t39:Sl (List SV):=(.c (sP (JlI (.c (Jlv .i64) (.c sSh .n)))) .n)
def Up9:Ann:={ loops:=[],cuts:=[],frz:=[],rm:=[.id] }
abbrev Utw (n:Nat):Env:=eN
theorem Ulb (n:Nat):EnvOK Tryz.prog GI (Utw n):=.nil
def p55 (n:Nat) (x1 x2:Int) (k0:Int→O R):O R :=
 bif (decide (x1<x2)) then (k0 (-1)) else (bif (decide (x1>x2)) then (k0 1) else (k0 0))
abbrev UAB (n:Nat):Orc R:=oN
abbrev Uz7 (n:Nat):Orc R:=oN
abbrev K55 (R:Type) (n:Nat):=JcH (R:=R) Tryz.prog (Utw n) Up9 n (13,[]) (UAB n) (Uz7 n)
theorem UBJ (n:Nat):Je6 (K55 R n) (JaJ Up9 (Jll Tryz.f55)):=pO pN (by kernel_rfl)
abbrev t55:Sl (List SV):=(cI (cI .n))
abbrev f55 (n:Nat) (K:List SV→O R):t55.T (O R):=fun x1 x2=>p55 n x1 x2 (fun y1=>K [vI y1])
abbrev UyQ (n:Nat):FS:=fT [false,false] t55 (f55 n)
theorem UA4 (n:Nat):FSound Tryz.prog GI 55 (UyQ n):=gd Up9 n (Ulb n) Tryz.func55 (.cons (Ulb n) t55 (f55 n) (fun K _ _=>(Jkq (c:=Jll Tryz.f55) (by kernel_rfl) (UBJ n) K).trans (by kernel_rfl)) .nil) (by kernel_rfl)
def Uga:Ann:={ loops:=[],cuts:=[(8,ids [8,10],ids [4]),(12,ids [8,10],ids [4])],frz:=[],rm:=[.id] }
abbrev UqU (n:Nat):Env:=eC 58 (Uuh n) (eC 57 (UvK n) (eC 56 (Uug n) (eC 55 (UyQ n) (eC 54 (UvJ n) eN))))
theorem UkS (n:Nat):EnvOK Tryz.prog GI (UqU n):=.cons (.cons (.cons (.cons (.cons (.nil) (Ux n)) (UA4 n)) (UvP n)) (Uxa n)) (UvQ n)
def UcJ (n:Nat) (x1:Bool) (x2 x3:LP) (x4:Bool) (x5 x6:LP) (k0:Int→O R):O R :=
 p58 n x2 x6 (fun y7=>p58 n x5 x3 (fun y8=>p57 n y7 y8 (fun y9=>bif x1 then (k0 (IntKind.i64.wrap (0 - y9))) else (k0 y9))))
def UmD (n:Nat) (x1:Bool) (x2 x3:LP) (x4:Bool) (x5 x6:LP) (k0:Int→O R):O R :=
 bif x1 then (bif (bif true then (!x4) else false) then (k0 (-1)) else (bif x4 then (bif (bif true then (!x1) else false) then (k0 1) else (UcJ n x1 x2 x3 x4 x5 x6 (fun y7=>k0 y7))) else (UcJ n x1 x2 x3 x4 x5 x6 (fun y8=>k0 y8)))) else (bif x4 then (bif (bif true then (!x1) else false) then (k0 1) else (UcJ n x1 x2 x3 x4 x5 x6 (fun y9=>k0 y9))) else (UcJ n x1 x2 x3 x4 x5 x6 (fun y10=>k0 y10)))
def p19 (n:Nat) (x1 x2:ByteArray) (k0:Int→O R):O R :=
 p54 n x1 x2 (fun y3 y4 y5=>bif y5 then (p55 n y3 y4 (fun y6=>k0 y6)) else (p56 n x1 (fun y7 y8 y9 y10=>p56 n x2 (fun y11 y12 y13 y14=>bif (!y10) then (k0 0) else (bif (bif false then true else (!y14)) then (k0 0) else (UmD n y7 y8 y9 y11 y12 y13 (fun y15=>k0 y15)))))))
abbrev E19 (n:Nat):Code→Fr→Kc R→O R:=evC Tryz.prog (UqU n) Uga n (72,[])
noncomputable def UoA:Code:=Jj4 (Jll Tryz.f19) [1,1,1,1,1]
abbrev UmW:Sl (List SV):=(.c (sBx 99 (cB (cH (cH .n)))) (.c (sBx 99 (cB (cH (cH .n)))) .n))
abbrev Upb (n:Nat) (K:Kc R):UmW.T (O R):=fun x1 x2 x3 x4 x5 x6=>UmD n x1 x2 x3 x4 x5 x6 (fun y1=>xC Uga 8 K .ret [vI y1])
noncomputable def Ukf:Code:=Jj4 (Jll Tryz.f19) [1,1,1,1,1,1]
abbrev UhE:Sl (List SV):=(.c (sBx 99 (cB (cH (cH .n)))) (.c (sBx 99 (cB (cH (cH .n)))) .n))
abbrev UlL (n:Nat) (K:Kc R):UhE.T (O R):=fun x1 x2 x3 x4 x5 x6=>UcJ n x1 x2 x3 x4 x5 x6 (fun y1=>xC Uga 12 K .ret [vI y1])
abbrev UwF (n:Nat):Orc R:=oN
abbrev Uwb (n:Nat):Orc R:=oC Uga (E19 n) 12 Ukf UhE (UlL n) (oC Uga (E19 n) 8 UoA UmW (Upb n) oN)
abbrev K19 (R:Type) (n:Nat):=JcH (R:=R) Tryz.prog (UqU n) Uga n (72,[]) (UwF n) (Uwb n)
theorem UrZ (n:Nat):K19 R n (true,12,Ukf):=JkW (lo:=UwF n) (cu:=Uwb n) (pO pN (by kernel_rfl)) UhE (UlL n) (fun K _ _ _ _ _ _=>by show _=_; kernel_rfl) fun _ _=>rfl
theorem UuP (n:Nat):K19 R n (true,8,UoA):=JkW (lo:=UwF n) (cu:=Uwb n) (pO (pC (UrZ n) pN) (by kernel_rfl)) UmW (Upb n) (fun K _ _ _ _ _ _=>by show _=_; kernel_rfl) fun _ _=>rfl
theorem UBp (n:Nat):Je6 (K19 R n) (JaJ Uga (Jll Tryz.f19)):=pO (pC (UuP n) pN) (by kernel_rfl)
abbrev t19:Sl (List SV):=(cS (cS .n))
abbrev f19 (n:Nat) (K:List SV→O R):t19.T (O R):=fun x1 x2=>p19 n x1 x2 (fun y1=>K [vI y1])
abbrev Upl (n:Nat):FS:=fT [false,false] t19 (f19 n)
theorem Urw (n:Nat):FSound Tryz.prog GI 19 (Upl n):=gd Uga n (UkS n) Tryz.func19 (.cons (UkS n) t19 (f19 n) (fun K _ _=>(Jkq (c:=Jll Tryz.f19) (by kernel_rfl) (UBp n) K).trans (by kernel_rfl)) .nil) (by kernel_rfl)
def Up6:Ann:={ loops:=[],cuts:=[],frz:=[],rm:=[.id] }
abbrev Utt (n:Nat):Env:=eC 19 (Upl n) eN
theorem Uk7 (n:Nat):EnvOK Tryz.prog GI (Utt n):=.cons (.nil) (Urw n)
def p50 (n:Nat) (x1:ByteArray) (k0:Bool→O R):O R :=
 p19 n x1 ⟨#[48]⟩ (fun y2=>k0 (decide (y2<0)))
abbrev UAy (n:Nat):Orc R:=oN
abbrev Uz4 (n:Nat):Orc R:=oN
abbrev K50 (R:Type) (n:Nat):=JcH (R:=R) Tryz.prog (Utt n) Up6 n (6,[]) (UAy n) (Uz4 n)
theorem UBE (n:Nat):Je6 (K50 R n) (JaJ Up6 (Jll Tryz.f50)):=pO pN (by kernel_rfl)
abbrev t50:Sl (List SV):=(cS .n)
abbrev f50 (n:Nat) (K:List SV→O R):t50.T (O R):=fun x1=>p50 n x1 (fun y1=>K [vB y1])
abbrev UyO (n:Nat):FS:=fT [false] t50 (f50 n)
theorem UA2 (n:Nat):FSound Tryz.prog GI 50 (UyO n):=gd Up6 n (Uk7 n) Tryz.func50 (.cons (Uk7 n) t50 (f50 n) (fun K _=>(Jkq (c:=Jll Tryz.f50) (by kernel_rfl) (UBE n) K).trans (by kernel_rfl)) .nil) (by kernel_rfl)
def Uqj:Ann:={ loops:=[],cuts:=[],frz:=[],rm:=[.id] }
abbrev UtG (n:Nat):Env:=eC 53 (Urm n) eN
theorem Uls (n:Nat):EnvOK Tryz.prog GI (UtG n):=.cons (.nil) (Usx n)
def p93 (n:Nat) (x1:ByteArray) (k0:Bool→O R):O R :=
 p53 n x1 (fun y2=>k0 (!y2))
abbrev UAL (n:Nat):Orc R:=oN
abbrev UAg (n:Nat):Orc R:=oN
abbrev K93 (R:Type) (n:Nat):=JcH (R:=R) Tryz.prog (UtG n) Uqj n (6,[]) (UAL n) (UAg n)
theorem UB0 (n:Nat):Je6 (K93 R n) (JaJ Uqj (Jll Tryz.f93)):=pO pN (by kernel_rfl)
abbrev t93:Sl (List SV):=(cS .n)
abbrev f93 (n:Nat) (K:List SV→O R):t93.T (O R):=fun x1=>p93 n x1 (fun y1=>K [vB y1])
abbrev Uy0 (n:Nat):FS:=fT [false] t93 (f93 n)
theorem UBd (n:Nat):FSound Tryz.prog GI 93 (Uy0 n):=gd Uqj n (Uls n) Tryz.func93 (.cons (Uls n) t93 (f93 n) (fun K _=>(Jkq (c:=Jll Tryz.f93) (by kernel_rfl) (UB0 n) K).trans (by kernel_rfl)) .nil) (by kernel_rfl)
def Ubb:Ann:={ loops:=[(2,ids [0,1,7,8],ids [4])],cuts:=[],frz:=[],rm:=[.id] }
abbrev UkK (n:Nat):Env:=eC 93 (Uy0 n) (eC 50 (UyO n) eN)
theorem UgX (n:Nat):EnvOK Tryz.prog GI (UkK n):=.cons (.cons (.nil) (UA2 n)) (UBd n)
def UfK (n:Nat) (l0:LP→Int→Int→O R) (x1:LP) (x2 x3:Int) (k0:Int→O R) (k1:O R):O R :=
 bif (decide (x3<x2)) then (bif (inR x3 ((x1).length)) then (Jj3 ((x1).getD ((x3:Int).toNat) (.v (.bool false))) fun e4=>p93 n e4 (fun y5=>bif y5 then (k0 x3) else (l0 x1 x2 (IntKind.i64.wrap (x3 + 1))))) else none) else (k1)
def UbV (n:Nat):Nat→LP→Int→Int→(Int→O R)→(O R)→O R
 | 0,_,_,_,_,_=>none
 | m + 1,x1,x2,x3,k0,k1=>UfK n (fun x1 x2 x3=>UbV n m x1 x2 x3 k0 k1) x1 x2 x3 k0 k1
def UpK (n:Nat) (x1:LP) (x2 x3:Int) (k0:Int→O R) (k1:O R):O R:=UbV n n x1 x2 x3 k0 k1
def p94 (n:Nat) (x1:LP) (k0:Int→O R):O R :=
 UpK n x1 ((x1).length:Int) 0 (fun y2=>k0 y2) (k0 (-1))
def Ucu (n:Nat) (l0:LP→Int→Int→O R) (x1:LP) (x2 x3:Int) (k0:Int→O R) (k1:O R):O R :=
 bif (decide (x3<x2)) then (bif (inR x3 ((x1).length)) then (Jj3 ((x1).getD ((x3:Int).toNat) (.v (.bool false))) fun e4=>p50 n e4 (fun y5=>bif y5 then (k0 x3) else (l0 x1 x2 (IntKind.i64.wrap (x3 + 1))))) else none) else (k1)
def UaV (n:Nat):Nat→LP→Int→Int→(Int→O R)→(O R)→O R
 | 0,_,_,_,_,_=>none
 | m + 1,x1,x2,x3,k0,k1=>Ucu n (fun x1 x2 x3=>UaV n m x1 x2 x3 k0 k1) x1 x2 x3 k0 k1
def Ujg (n:Nat) (x1:LP) (x2 x3:Int) (k0:Int→O R) (k1:O R):O R:=UaV n n x1 x2 x3 k0 k1
def UrB (n:Nat) (x1:LP) (k0:Int→O R):O R :=
 Ujg n x1 ((x1).length:Int) 0 (fun y2=>k0 y2) (k0 (-1))
abbrev E94 (n:Nat):Code→Fr→Kc R→O R:=evC Tryz.prog (UkK n) Ubb n (19,[])
noncomputable def Ugc:Code:=Jj4 (Jll Tryz.f94) [1,0,1,0,0]
abbrev Ub1:Sl (List SV):=(cH (.c (sP (sFn 93)) (cI (cI .n))))
abbrev Ub2:Sl (List SV):=(cH (.c (sP (sFn 50)) (cI (cI .n))))
abbrev Ufb (n m:Nat) (K:Kc R):Ub1.T (O R):=fun x1 x2 x3=>UbV n m x1 x2 x3 (fun y1=>xL Ubb 2 K .ret [vI y1]) (xL Ubb 2 K (.exit 0) [dD])
abbrev UqE (n:Nat) (K:Kc R) (l0:Ub1.T (O R)):Ub1.T (O R):=fun x1 x2 x3=>UfK n l0 x1 x2 x3 (fun y1=>xL Ubb 2 K .ret [vI y1]) (xL Ubb 2 K (.exit 0) [dD])
abbrev Ufc (n m:Nat) (K:Kc R):Ub2.T (O R):=fun x1 x2 x3=>UaV n m x1 x2 x3 (fun y1=>xL Ubb 2 K .ret [vI y1]) (xL Ubb 2 K (.exit 0) [dD])
abbrev UqF (n:Nat) (K:Kc R) (l0:Ub2.T (O R)):Ub2.T (O R):=fun x1 x2 x3=>Ucu n l0 x1 x2 x3 (fun y1=>xL Ubb 2 K .ret [vI y1]) (xL Ubb 2 K (.exit 0) [dD])
abbrev Uur (n:Nat):Orc R:=fun i vs K=>JfK (Nat.beq i 2) (Jjg (Ub1.ap vs (Ufb n n K)) (Jjg (Ub2.ap vs (Ufc n n K)) (JcB Ubb 2 (E94 n Ugc) n vs K))) (oN i vs K)
abbrev Utf (n:Nat):Orc R:=oN
abbrev K94 (R:Type) (n:Nat):=JcH (R:=R) Tryz.prog (UkK n) Ubb n (19,[]) (Uur n) (Utf n)
theorem UmN (n:Nat):Je6 (K94 R n) (JaJ Ubb Ugc):=pO pN (by kernel_rfl)
theorem UqP (n:Nat):∀ m (K:Kc R),Ub1.all (fun vs r=>JcB Ubb 2 (JcU Tryz.prog (UkK n) Ubb (19,[]) (Uur n) (Utf n) Ugc) m vs K=r) (Ufb n m K):=JiE (F:=Ufb n) Ub1 (UqE n) (fun K _ _ _=>rfl) (fun _ _=>rfl) (fun L K _ _ _=>by show _=_; kernel_rfl)
theorem UqQ (n:Nat):∀ m (K:Kc R),Ub2.all (fun vs r=>JcB Ubb 2 (JcU Tryz.prog (UkK n) Ubb (19,[]) (Uur n) (Utf n) Ugc) m vs K=r) (Ufc n m K):=JiE (F:=Ufc n) Ub2 (UqF n) (fun K _ _ _=>rfl) (fun _ _=>rfl) (fun L K _ _ _=>by show _=_; kernel_rfl)
theorem Uvd (n:Nat):K94 R n (false,2,Ugc):=JkF (lo:=Uur n) (cu:=Utf n) (UmN n) Ub1 (Ufb n n) (UqP n n) (JkF (lo:=Uur n) (cu:=Utf n) (UmN n) Ub2 (Ufc n n) (UqQ n n) fun _ _=>rfl)
theorem Uzz (n:Nat):Je6 (K94 R n) (JaJ Ubb (Jll Tryz.f94)):=pO (pC (Uvd n) pN) (by kernel_rfl)
abbrev Ux3:Sl (List SV):=(cH (.c (sP (sFn 93)) .n))
abbrev UyA (n:Nat) (K:List SV→O R):Ux3.T (O R):=fun x1=>p94 n x1 (fun y1=>K [vI y1])
abbrev Ux4:Sl (List SV):=(cH (.c (sP (sFn 50)) .n))
abbrev UyB (n:Nat) (K:List SV→O R):Ux4.T (O R):=fun x1=>UrB n x1 (fun y1=>K [vI y1])
abbrev Uy1 (n:Nat):FS:={ om:=[false,false],run:=fun args K=>Jjg (Ux3.ap args (UyA n K)) (Jjg (Ux4.ap args (UyB n K)) none) }
theorem UBe (n:Nat):FSound Tryz.prog GI 94 (Uy1 n):=gd Ubb n (UgX n) Tryz.func94 (.cons (UgX n) Ux3 (UyA n) (fun K _=>(Jkq (c:=Jll Tryz.f94) (by kernel_rfl) (Uzz n) K).trans (by kernel_rfl)) (.cons (UgX n) Ux4 (UyB n) (fun K _=>(Jkq (c:=Jll Tryz.f94) (by kernel_rfl) (Uzz n) K).trans (by kernel_rfl)) .nil)) (by kernel_rfl)
def Up5:Ann:={ loops:=[],cuts:=[],frz:=[],rm:=[.id] }
abbrev Uts (n:Nat):Env:=eC 94 (Uy1 n) eN
theorem UgV (n:Nat):EnvOK Tryz.prog GI (Uts n):=.cons (.nil) (UBe n)
def p49 (n:Nat) (x1:LP) (k0:Bool→O R):O R :=
 p94 n x1 (fun y2=>k0 (decide (y2≥0)))
def Un1 (n:Nat) (x1:LP) (k0:Bool→O R):O R :=
 UrB n x1 (fun y2=>k0 (decide (y2≥0)))
abbrev UAx (n:Nat):Orc R:=oN
abbrev Uz3 (n:Nat):Orc R:=oN
abbrev K49 (R:Type) (n:Nat):=JcH (R:=R) Tryz.prog (Uts n) Up5 n (9,[]) (UAx n) (Uz3 n)
theorem Uzx (n:Nat):Je6 (K49 R n) (JaJ Up5 (Jll Tryz.f49)):=pO pN (by kernel_rfl)
abbrev UxZ:Sl (List SV):=(cH (.c (sP (sFn 93)) .n))
abbrev Uyw (n:Nat) (K:List SV→O R):UxZ.T (O R):=fun x1=>p49 n x1 (fun y1=>K [vB y1])
abbrev Ux0:Sl (List SV):=(cH (.c (sP (sFn 50)) .n))
abbrev Uyx (n:Nat) (K:List SV→O R):Ux0.T (O R):=fun x1=>Un1 n x1 (fun y1=>K [vB y1])
abbrev Uwp (n:Nat):FS:={ om:=[false,false],run:=fun args K=>Jjg (UxZ.ap args (Uyw n K)) (Jjg (Ux0.ap args (Uyx n K)) none) }
theorem Uzp (n:Nat):FSound Tryz.prog GI 49 (Uwp n):=gd Up5 n (UgV n) Tryz.func49 (.cons (UgV n) UxZ (Uyw n) (fun K _=>(Jkq (c:=Jll Tryz.f49) (by kernel_rfl) (Uzx n) K).trans (by kernel_rfl)) (.cons (UgV n) Ux0 (Uyx n) (fun K _=>(Jkq (c:=Jll Tryz.f49) (by kernel_rfl) (Uzx n) K).trans (by kernel_rfl)) .nil)) (by kernel_rfl)
def Up4:Ann:={ loops:=[],cuts:=[],frz:=[],rm:=[.id] }
abbrev Utr (n:Nat):Env:=eC 65 (UvL n) (eC 49 (Uwp n) eN)
theorem Uk6 (n:Nat):EnvOK Tryz.prog GI (Utr n):=.cons (.cons (.nil) (Uzp n)) (Uxb n)
def p48 (n:Nat) (x1:Int) (x2 x3:LP) (k0:Int→O R):O R :=
 p65 n x1 x2 (fun y4=>bif (y4 != 0) then (k0 3) else (bif (((x3).length:Int) != x1) then (k0 2) else (p49 n x3 (fun y5=>bif y5 then (k0 3) else (k0 0)))))
abbrev UAw (n:Nat):Orc R:=oN
abbrev Uz2 (n:Nat):Orc R:=oN
abbrev K48 (R:Type) (n:Nat):=JcH (R:=R) Tryz.prog (Utr n) Up4 n (15,[]) (UAw n) (Uz2 n)
theorem UBD (n:Nat):Je6 (K48 R n) (JaJ Up4 (Jll Tryz.f48)):=pO pN (by kernel_rfl)
abbrev t48:Sl (List SV):=(.c (sP (JlI (.c (Jlv .i64) (.c sSh .n)))) (cH .n))
abbrev f48 (n:Nat) (K:List SV→O R):t48.T (O R):=fun x1 x2 x3=>p48 n x1 x2 x3 (fun y1=>K [vI y1])
abbrev UyN (n:Nat):FS:=fT [false,false] t48 (f48 n)
theorem UA1 (n:Nat):FSound Tryz.prog GI 48 (UyN n):=gd Up4 n (Uk6 n) Tryz.func48 (.cons (Uk6 n) t48 (f48 n) (fun K _ _ _=>(Jkq (c:=Jll Tryz.f48) (by kernel_rfl) (UBD n) K).trans (by kernel_rfl)) .nil) (by kernel_rfl)
end
end Go.Proofs.YtmgfmlhdnadglaaGreatDoor
set_option linter.unusedVariables false
set_option linter.unusedSimpArgs false
namespace Go.Proofs.YtmgfmlhdnadglaaGreatDoor
open Go Th Go.Proofs
variable {R:Type}
noncomputable def okT (cols:Int):Int→List TermT→Bool
 | _,[]=>true
 | last,t::r=>if t.1≤last then false else if t.1≥cols then false else if t.2=[48] then false else qb t.2&&okT cols t.1 r
noncomputable def okR (cols:Int) (r:RowT):Bool:=okT cols (-1) r.tm&&qb r.c
def smT (l:List TermT):Prop:=l.length<2 ^ 17∧∀ t∈l,t.2.length<2 ^ 17
def smR (r:RowT):Prop:=smT r.tm∧r.c.length<2 ^ 17
noncomputable def Uom (cols:Int) (kbad:Option R) (last:Int) (t:TermT) (K:Int→Option R):Option R :=
 if t.1≤last then kbad else if t.1≥cols then kbad else if t.2=[48] then kbad else if qb t.2=true then K t.1 else kbad
theorem UzC (cols:Int) (kbad kend:Option R):∀ (l:List TermT) (last:Int),Usz (Uom cols kbad) (fun _=>kend) last l=if okT cols last l then kend else kbad
 | [],last=>rfl
 | t::l,last=>by
  have ih:=UzC cols kbad kend l t.1
  simp only [Usz,Uom,okT]
  by_cases h1:t.1≤last
  · simp [h1]
  · by_cases h2:t.1≥cols
    · simp [h1,h2]
    · by_cases h3:t.2=[48]
      · simp [h1,h2,h3]
      · rcases Bool.eq_false_or_eq_true (qb t.2) with h4 | h4 <;> simp [h1,h2,h3,h4,ih]
theorem e48 (s:List UInt8):eqS (bs s) (⟨#[48]⟩:ByteArray)=decide (s=[48]):=by
 rw [show eqS (bs s) (⟨#[48]⟩:ByteArray)=(s == [48]) from rfl,Bool.eq_iff_iff]; simp
theorem Uhs (n:Nat) (hn:10 ^ 400≤n) (cols:Int) (r:RowT) (hr:smR r) (k0:Bool→Option R):UvS n (tms r.tm) (bs r.c) r.eq r.mark cols k0=k0 (okR cols r):=by
 have hN:=UaU hn
 have hL:=hr.1.1
 have hv1:=fun k=>Ubq (R:=R) n hn r.c hr.2 k
 unfold UvS Umv
 have h:=Uht (R:=R) (l:=r.tm) (step:=Uom cols (k0 false)) (kend:=fun _=>k0 (qb r.c))
  (fun m s i=>Ubw n m cols (tms r.tm) (bs r.c) r.eq r.mark s (tms r.tm) ((tms r.tm).length:Int) (i:Int) (fun _ _ _ _ y=>k0 y) (fun _ y _ _=>p53 n y fun y15=>k0 y15))
  (fun m s=>by simp only [Ubw,Udt]; simp (disch:=(first | omega | (simp only [JlE]; omega))) only [↓JlH,JlF,Ua,hv1])
  (fun m s i hi=>by
    have hv:=fun k=>Ubq (R:=R) n hn (r.tm[i]).2 (hr.1.2 _ (List.getElem_mem hi)) k
    simp only [Ubw,Udt,Uom]
    by_cases h1:(r.tm[i]).1≤s
    · simp (disch:=(first | omega | (simp only [JlE]; omega))) only [↓JlH,JlF,Ua,Jji,UaB hi,i1]
    · by_cases h2:(r.tm[i]).1≥cols
      · simp (disch:=(first | omega | (simp only [JlE]; omega))) only [↓JlH,JlF,Ua,Jji,UaB hi,i1]
      · by_cases h3:(r.tm[i]).2=[48]
        · simp (disch:=(first | omega | (simp only [JlE]; omega))) only [↓JlH,JlF,Ua,Jji,UaB hi,i1,Unx h3]
        · simp (disch:=(first | omega | (simp only [JlE]; omega))) only [↓JlH,JlF,Ua,Jji,UaB hi,i1,UjV h3,hv]
          cases qb (r.tm[i]).2 <;> rfl) r.tm.length n 0 (-1) (by omega) (by omega)
 rw [List.drop_zero,UzC] at h
 refine Eq.trans h ?_
 unfold okR
 cases okT cols (-1) r.tm <;> rfl
noncomputable def UgB (cols:Int) (rows:List RowT):Int:=if cols<0 then 2 else if cols>2048 then 2 else if rows.length>2048 then 6 else if rows.all (okR cols) then 0 else 3
def smA (rows:List RowT):Prop:=rows.length<2 ^ 17∧∀ r∈rows,smR r
theorem UpO (n:Nat) (hn:10 ^ 400≤n) (cols:Int) (rows:List RowT) (hr:smA rows) (k0:Int→Option R):p65 n cols (rws rows) k0=k0 (UgB cols rows):=by
 have hN:=UaU hn
 have hL:=hr.1
 unfold p65 Uxc Uxg UmA UgB
 by_cases h1:cols<0
 · simp (disch:=(first | omega | (simp only [JlE]; omega))) only [↓JlH,JlF]
 · by_cases h2:cols>2048
   · simp (disch:=(first | omega | (simp only [JlE]; omega))) only [↓JlH,JlF]
   · by_cases h3:rows.length>2048
     · have h3':((rows.length:Nat):Int)>2048:=by omega
       simp (disch:=(first | omega | (simp only [JlE]; omega))) only [↓JlH,JlF,Uae]
     · have h3':¬ ((rows.length:Nat):Int)>2048:=by omega
       have h:=Uam (R:=R) (l:=rows) (ok:=okR cols) (kbad:=k0 3) (kend:=k0 0)
        (fun m i=>Ua2 n m (rws rows) cols (rws rows) ((rws rows).length:Int) (i:Int) (fun y=>bif decide (y≥0) then k0 3 else k0 0) (bif decide ((-1:Int)≥0) then k0 3 else k0 0))
        (fun m=>by simp only [Ua2,Udx]; simp (disch:=(first | omega | (simp only [JlE]; omega))) only [↓JlH,JlF,Uae])
        (fun m i hi=>by
          have hv:=fun k=>Uhs (R:=R) n hn cols rows[i] (hr.2 _ (List.getElem_mem hi)) k
          simp only [Ua2,Udx,Uxd]
          simp (disch:=(first | omega | (simp only [JlE]; omega))) only [↓JlH,JlF,Uae,Jji,UaF hi,hv,i1]
          cases okR cols rows[i] <;> simp (disch:=(first | omega | (simp only [JlE]; omega))) only [↓JlH,JlF] <;> rfl) rows.length n 0 (by omega) (by omega)
       rw [List.drop_zero] at h
       have h':Ua2 n n (rws rows) cols (rws rows) ((rws rows).length:Int) 0 (fun y=>bif decide (y≥0) then k0 3 else k0 0) (bif decide ((-1:Int)≥0) then k0 3 else k0 0)=_:=h
       have e:∀ a b:Option R,(bif decide (((rws rows).length:Int)>2048) then a else b)=b:=fun a b=>by rw [Uae,decide_eq_false h3']; rfl
       simp only [c_neg h1,c_neg h2,Uag,e,h']
       rw [if_neg h1,if_neg h2,if_neg h3]
       cases rows.all (okR cols) <;> rfl
noncomputable def Ujt (cols:Int) (rows:List RowT) (v:List (List UInt8)):Int:=if UgB cols rows≠0 then 3 else if (v.length:Int)≠cols then 2 else if Ud4 v then 0 else 3
theorem UsI (n:Nat) (hn:10 ^ 400≤n) (cols:Int) (rows:List RowT) (hr:smA rows) (v:List (List UInt8)) (hv:smS v) (k0:Int→Option R):p48 n cols (rws rows) (sl v) k0=k0 (Ujt cols rows v):=by
 have hN:=UaU hn
 have hL:=hv.1
 have h0:=fun k=>UpO (R:=R) n hn cols rows hr k
 unfold p48 p49 p94 UpK Ujt
 rw [h0]
 have h:=Uam (R:=R) (l:=v) (ok:=qb) (kbad:=k0 3) (kend:=k0 0)
  (fun m i=>UbV n m (sl v) ((sl v).length:Int) (i:Int) (fun y=>bif decide (y≥0) then k0 3 else k0 0) (bif decide ((-1:Int)≥0) then k0 3 else k0 0))
  (fun m=>by simp only [UbV,UfK]; simp (disch:=(first | omega | (simp only [JlE]; omega))) only [↓JlH,JlF,Uaj])
  (fun m i hi=>by
    have hw:=fun k=>Ubq (R:=R) n hn v[i] (hv.2 _ (List.getElem_mem hi)) k
    simp only [UbV,UfK,p93]
    simp (disch:=(first | omega | (simp only [JlE]; omega))) only [↓JlH,JlF,Uaj,Jji,UbW hi,hw,i1]
    cases qb v[i] <;> simp (disch:=(first | omega | (simp only [JlE]; omega))) only [↓JlH,JlF] <;> rfl) v.length n 0 (by omega) (by omega)
 rw [List.drop_zero] at h
 have h':UbV n n (sl v) ((sl v).length:Int) 0 (fun y=>bif decide (y≥0) then k0 3 else k0 0) (bif decide ((-1:Int)≥0) then k0 3 else k0 0)=_:=h
 by_cases h1:UgB cols rows=0
 · have e1:(UgB cols rows != 0)=false:=by rw [h1]; rfl
   rw [e1,Uag,if_neg (by simp [h1]),Uaj]
   by_cases h2:(v.length:Int)=cols
   · have e2:((v.length:Int) != cols)=false:=by simp [h2]
     rw [e2,Uag,if_neg (by simp [h2])]
     rw [Uaj] at h'
     refine Eq.trans h' ?_
     unfold Ud4
     cases v.all qb <;> rfl
   · have e2:((v.length:Int) != cols)=true:=by simp [h2]
     rw [e2,Uaq,if_pos h2]
 · have e1:(UgB cols rows != 0)=true:=by simp [h1]
   rw [e1,Uaq,if_pos h1]
abbrev SpT:=Nat × Rat
noncomputable def vt (l:List SpT):List TermT:=l.map fun t=>((t.1:Int),Uaa t.2)
theorem Ual (l:List SpT):(vt l).length=l.length:=by unfold vt; rw [List.length_map]
theorem UpP {l:List SpT} {i:Nat} (h:i<(vt l).length):(vt l)[i]=(((l[i]'(by rw [←Ual]; exact h)).1:Int),Uaa (l[i]'(by rw [←Ual]; exact h)).2):=by
 simp only [vt,List.getElem_map]
def asc:Int→List SpT→Prop
 | _,[]=>True
 | last,t::r=>last<(t.1:Int)∧asc t.1 r
def okN (cols:Int) (l:List SpT):Prop:=∀ t∈l,t.2≠0∧fits t.2∧(t.1:Int)<cols
def okS (cols:Int) (l:List SpT):Prop:=asc (-1) l∧okN cols l
theorem Ucd {q:Rat} (h:fits q):qb (Uaa q)=true:=UxF.2 ⟨q,h,rfl⟩
theorem Ud9:fits 0:=Ufd (v:=0) (by decide +kernel)
theorem Uea:Uaa 0=[48]:=by rw [←show ((0:Int):Rat)=0 from rfl,←Uat]; decide +kernel
theorem Uen {q:Rat}:Uaa q=[48]↔q=0:=⟨fun h=>UdD (h.trans Uea.symm),fun h=>by rw [h,Uea]⟩
theorem Uj {cols:Int}:∀ {l:List SpT} {last:Int},asc last l→okN cols l→okT cols last (vt l)=true
 | [],last,_,_=>rfl
 | t::l,last,h1,h2=>by
  obtain ⟨e1,e2,e3⟩:=h2 t (List.mem_cons_self ..)
  show okT cols last (((t.1:Int),Uaa t.2)::vt l)=true
  simp only [okT]
  have h1':=h1.1
  rw [if_neg (by omega),if_neg (by omega),if_neg (fun q=>e1 (Uen.1 q)),Ucd e2,Uj h1.2 (fun x hx=>h2 x (List.mem_cons_of_mem _ hx))]
  rfl
theorem Umo {cols:Int}:∀ {l:List TermT} {last:Int},-1≤last→okT cols last l=true→∃ l':List SpT,l=vt l'∧asc last l'∧okN cols l'
 | [],last,_,_=>⟨[],rfl,trivial,by intro t h; cases h⟩
 | t::l,last,h0,h=>by
  simp only [okT] at h
  by_cases h1:t.1≤last
  · rw [if_pos h1] at h; cases h
  rw [if_neg h1] at h
  by_cases h2:t.1≥cols
  · rw [if_pos h2] at h; cases h
  rw [if_neg h2] at h
  by_cases h3:t.2=[48]
  · rw [if_pos h3] at h; cases h
  rw [if_neg h3,Bool.and_eq_true] at h
  obtain ⟨q,hq,e⟩:=UxF.1 h.1
  obtain ⟨l',e1,e2,e3⟩:=Umo (by omega:-1≤t.1) h.2
  have hc:((t.1.toNat:Nat):Int)=t.1:=by omega
  refine ⟨(t.1.toNat,q)::l',?_,⟨by show last<((t.1.toNat:Nat):Int); omega,by show asc ((t.1.toNat:Nat):Int) l'; rw [hc]; exact e2⟩,?_⟩
  · rw [e1]
    show t::vt l'=(((t.1.toNat:Nat):Int),Uaa q)::vt l'
    rw [hc,←e]
  · intro x hx
    rcases List.mem_cons.1 hx with rfl | hx
    · refine ⟨fun q0=>h3 (by rw [e]; exact Uen.2 q0),hq,?_⟩
      show ((t.1.toNat:Nat):Int)<cols
      omega
    · exact e3 x hx
theorem Unm {l:List SpT} {a b:Int} (h:asc b l) (hab:a≤b):asc a l:=by
 cases l with
 | nil=>trivial
 | cons t r=>exact ⟨by have:=h.1; omega,h.2⟩
theorem UdM:∀ {l:List SpT} {a:Int},asc a l→∀ t∈l,a<(t.1:Int)
 | t::l,a,h,x,hx=>by
  rcases List.mem_cons.1 hx with rfl | hx
  · exact h.1
  · have:=UdM h.2 x hx; have:=h.1; omega
def cf:List SpT→Nat→Rat
 | [],_=>0
 | t::r,i=>if t.1=i then t.2 else cf r i
theorem Ubh (t:SpT) (r:List SpT) (i:Nat):cf (t::r) i=if t.1=i then t.2 else cf r i:=rfl
theorem UeW:∀ {l:List SpT} {i:Nat},(∀ t∈l,t.1≠i)→cf l i=0
 | [],_,_=>rfl
 | t::l,i,h=>by rw [cf,if_neg (h t (List.mem_cons_self ..)),UeW fun x hx=>h x (List.mem_cons_of_mem _ hx)]
theorem Ugd {l:List SpT} {a:Int} (h:asc a l) {i:Nat} (hi:(i:Int)≤a):cf l i=0:=UeW fun t ht=>by have:=UdM h t ht; omega
theorem Uo1:∀ {l:List SpT} {a:Int},asc a l→∀ t∈l,cf l t.1=t.2
 | t::l,a,h,x,hx=>by
  rcases List.mem_cons.1 hx with rfl | hx
  · rw [cf,if_pos rfl]
  · have:=UdM h.2 x hx
    rw [cf,if_neg (by omega),Uo1 h.2 x hx]
theorem Uv2 {l:List SpT} {i:Nat} (h:cf l i≠0):∃ t∈l,t.1=i∧t.2=cf l i:=by
 induction l with
 | nil=>exact absurd rfl h
 | cons t l ih =>
  rw [cf] at h ⊢
  by_cases e:t.1=i
  · rw [if_pos e]; exact ⟨t,List.mem_cons_self ..,e,rfl⟩
  · rw [if_neg e] at h ⊢
    obtain ⟨x,hx,h1,h2⟩:=ih h
    exact ⟨x,List.mem_cons_of_mem _ hx,h1,h2⟩
theorem Ukp {cols:Int} {l:List SpT} (h:okN cols l) (i:Nat):fits (cf l i):=by
 by_cases h0:cf l i=0
 · rw [h0]; exact Ud9
 · obtain ⟨t,ht,_,e⟩:=Uv2 h0
   rw [←e]; exact (h t ht).2.1
open Classical in
noncomputable def scO (q:Rat) (l:List SpT):Option (List SpT):=if ∀ t∈l,fits (t.2 * q) then some (l.map fun t=>(t.1,t.2 * q)) else none
theorem UjT (f:SpT→Rat):∀ {l:List SpT} {a:Int},asc a l→asc a (l.map fun t=>(t.1,f t))
 | [],_,_=>trivial
 | t::l,a,h=>⟨h.1,UjT f h.2⟩
theorem Us7 (q:Rat):∀ (l:List SpT) (i:Nat),cf (l.map fun t=>(t.1,t.2 * q)) i=cf l i * q
 | [],i=>by simp [cf,Rat.zero_mul]
 | t::l,i=>by
  rw [List.map_cons,cf,cf,Us7 q l i]
  split <;> rfl
theorem UxG {cols:Int} {q:Rat} (h0:q≠0) {l r:List SpT} (h:okS cols l) (he:scO q l=some r):okS cols r∧∀ i,cf r i=cf l i * q:=by
 unfold scO at he
 split at he
 · rename_i hf
   simp only [Option.some.injEq] at he
   subst he
   refine ⟨⟨UjT _ h.1,fun t ht=>?_⟩,Us7 q l⟩
   obtain ⟨x,hx,rfl⟩:=List.mem_map.1 ht
   obtain ⟨e1,e2,e3⟩:=h.2 x hx
   refine ⟨fun e=>?_,hf x hx,e3⟩
   rcases Rat.mul_eq_zero.1 e with q1 | q1
   · exact e1 q1
   · exact h0 q1
 · cases he
open Classical in
noncomputable def Ue:List SpT→List SpT→Option (List SpT)
 | [],b=>some b
 | a::xs,[]=>some (a::xs)
 | a::xs,b::ys=>if a.1<b.1 then (Ue xs (b::ys)).map (a::·) else if b.1<a.1 then (Ue (a::xs) ys).map (b::·)
  else if fits (a.2 + b.2) then (Ue xs ys).map (fun r=>if a.2 + b.2=0 then r else (a.1,a.2 + b.2)::r) else none
termination_by a b=>a.length + b.length
theorem Uml (a:List SpT):Ue a []=some a:=by cases a <;> simp [Ue]
theorem Ui7 {cols:Int}:∀ (k:Nat) {a b:List SpT} {last:Int},a.length + b.length≤k→asc last a→asc last b→okN cols a→okN cols b→∀ {r:List SpT},Ue a b=some r→asc last r∧okN cols r∧∀ i,cf r i=cf a i + cf b i
 | k,[],b,last,hk,ha,hb,na,nb,r,h=>by
  simp only [Ue,Option.some.injEq] at h
  subst h
  exact ⟨hb,nb,fun i=>by simp [cf,Rat.zero_add]⟩
 | k,a::xs,[],last,hk,ha,hb,na,nb,r,h=>by
  simp only [Ue,Option.some.injEq] at h
  subst h
  exact ⟨ha,na,fun i=>by simp [cf,Rat.add_zero]⟩
 | k + 1,a::xs,b::ys,last,hk,ha,hb,na,nb,r,h=>by
  have na':okN cols xs:=fun x hx=>na x (List.mem_cons_of_mem _ hx)
  have nb':okN cols ys:=fun x hx=>nb x (List.mem_cons_of_mem _ hx)
  rw [Ue] at h
  simp only [List.length_cons] at hk
  by_cases h1:a.1<b.1
  · rw [if_pos h1] at h
    obtain ⟨r',e,rfl⟩:=Option.map_eq_some_iff.1 h
    have hb2:asc (a.1:Int) (b::ys):=⟨by omega,hb.2⟩
    obtain ⟨p1,p2,p3⟩:=Ui7 k (by simp only [List.length_cons]; omega) ha.2 hb2 na' nb e
    refine ⟨⟨ha.1,p1⟩,fun x hx=>?_,fun i=>?_⟩
    · rcases List.mem_cons.1 hx with rfl | hx
      · exact na _ (List.mem_cons_self ..)
      · exact p2 x hx
    · rw [Ubh a r' i,Ubh a xs i,p3 i]
      by_cases hi:a.1=i
      · rw [if_pos hi,if_pos hi,Ugd hb2 (by omega),Rat.add_zero]
      · rw [if_neg hi,if_neg hi]
  · rw [if_neg h1] at h
    by_cases h2:b.1<a.1
    · rw [if_pos h2] at h
      obtain ⟨r',e,rfl⟩:=Option.map_eq_some_iff.1 h
      have ha2:asc (b.1:Int) (a::xs):=⟨by omega,ha.2⟩
      obtain ⟨p1,p2,p3⟩:=Ui7 k (by simp only [List.length_cons]; omega) ha2 hb.2 na nb' e
      refine ⟨⟨hb.1,p1⟩,fun x hx=>?_,fun i=>?_⟩
      · rcases List.mem_cons.1 hx with rfl | hx
        · exact nb _ (List.mem_cons_self ..)
        · exact p2 x hx
      · rw [Ubh b r' i,Ubh b ys i,p3 i]
        by_cases hi:b.1=i
        · rw [if_pos hi,if_pos hi,Ugd ha2 (by omega),Rat.zero_add]
        · rw [if_neg hi,if_neg hi]
    · rw [if_neg h2] at h
      have e0:a.1=b.1:=by omega
      by_cases hf:fits (a.2 + b.2)
      · rw [if_pos hf] at h
        obtain ⟨r',e,rfl⟩:=Option.map_eq_some_iff.1 h
        obtain ⟨p1,p2,p3⟩:=Ui7 k (by omega) ha.2 (by rw [e0]; exact hb.2) na' nb' e
        by_cases hz:a.2 + b.2=0
        · rw [if_pos hz]
          refine ⟨Unm p1 (by have:=ha.1; omega),p2,fun i=>?_⟩
          rw [p3 i,cf,cf]
          by_cases hi:a.1=i
          · rw [if_pos hi,if_pos (by omega),hz,Ugd ha.2 (by omega),Ugd hb.2 (by omega),Rat.add_zero]
          · rw [if_neg hi,if_neg (by omega)]
        · rw [if_neg hz]
          refine ⟨⟨ha.1,p1⟩,fun x hx=>?_,fun i=>?_⟩
          · rcases List.mem_cons.1 hx with rfl | hx
            · exact ⟨hz,hf,(na a (List.mem_cons_self ..)).2.2⟩
            · exact p2 x hx
          · rw [Ubh (a.1,a.2 + b.2) r' i,Ubh a xs i,Ubh b ys i,p3 i]
            by_cases hi:a.1=i
            · rw [if_pos hi,if_pos hi,if_pos (by omega)]
            · rw [if_neg hi,if_neg hi,if_neg (by omega)]
      · rw [if_neg hf] at h; cases h
abbrev SpR:=List SpT × Rat
open Classical in
noncomputable def tmO (q:Rat) (r:SpR):Option SpR:=if fits (r.2 * q) then (scO q r.1).map fun x=>(x,r.2 * q) else none
open Classical in
noncomputable def plO (a b:SpR):Option SpR:=if fits (a.2 + b.2) then (Ue a.1 b.1).map fun x=>(x,a.2 + b.2) else none
open Classical in
noncomputable def Ueb (q:Rat) (r s:SpR):Option SpR:=if q=0 then some s else (tmO q r).bind fun x=>plO s x
noncomputable def Ubc:List (SpR × Rat)→SpR→Option SpR
 | [],s=>some s
 | x::t,s=>(Ueb x.2 x.1 s).bind (Ubc t)
def okF (cols:Int) (r:SpR):Prop:=okS cols r.1∧fits r.2
theorem Uop {cols:Int} {q:Rat} (h0:q≠0) {r x:SpR} (h:okF cols r) (he:tmO q r=some x):okF cols x∧x.2=r.2 * q∧∀ i,cf x.1 i=cf r.1 i * q:=by
 unfold tmO at he
 split at he
 · rename_i hf
   obtain ⟨y,e,rfl⟩:=Option.map_eq_some_iff.1 he
   obtain ⟨e1,e2⟩:=UxG h0 h.1 e
   exact ⟨⟨e1,hf⟩,rfl,e2⟩
 · cases he
theorem UrC {cols:Int} {a b x:SpR} (ha:okF cols a) (hb:okF cols b) (he:plO a b=some x):okF cols x∧x.2=a.2 + b.2∧∀ i,cf x.1 i=cf a.1 i + cf b.1 i:=by
 unfold plO at he
 split at he
 · rename_i hf
   obtain ⟨y,e,rfl⟩:=Option.map_eq_some_iff.1 he
   obtain ⟨e1,e2,e3⟩:=Ui7 _ (Nat.le_refl _) ha.1.1 hb.1.1 ha.1.2 hb.1.2 e
   exact ⟨⟨⟨e1,e2⟩,hf⟩,rfl,e3⟩
 · cases he
theorem UqL {cols:Int} {l:List (SpR × Rat)} {s x:SpR} (h:∀ y∈l,okF cols y.1) (hs:okF cols s) (he:Ubc l s=some x):okF cols x:=by
 induction l generalizing s with
 | nil=>simp only [Ubc,Option.some.injEq] at he; rwa [←he]
 | cons y l ih =>
  rw [Ubc] at he
  obtain ⟨z,e1,e2⟩:=Option.bind_eq_some_iff.1 he
  refine ih (fun w hw=>h w (List.mem_cons_of_mem _ hw)) ?_ e2
  unfold Ueb at e1
  by_cases h0:y.2=0
  · rw [if_pos h0,Option.some.injEq] at e1; rwa [←e1]
  · rw [if_neg h0] at e1
    obtain ⟨w,f1,f2⟩:=Option.bind_eq_some_iff.1 e1
    exact (UrC hs (Uop h0 (h y (List.mem_cons_self ..)) f1).1 f2).1
def Unh:List (SpR × Rat)→Nat→Rat
 | [],_=>0
 | x::t,i=>cf x.1.1 i * x.2 + Unh t i
def Uot:List (SpR × Rat)→Rat
 | []=>0
 | x::t=>x.1.2 * x.2 + Uot t
theorem UnB {cols:Int} {l:List (SpR × Rat)} {s x:SpR} (h:∀ y∈l,okF cols y.1) (hs:okF cols s) (he:Ubc l s=some x):x.2=s.2 + Uot l∧∀ i,cf x.1 i=cf s.1 i + Unh l i:=by
 induction l generalizing s with
 | nil=>simp only [Ubc,Option.some.injEq] at he; subst he; exact ⟨by rw [Uot,Rat.add_zero],fun i=>by rw [Unh,Rat.add_zero]⟩
 | cons y l ih =>
  rw [Ubc] at he
  obtain ⟨z,e1,e2⟩:=Option.bind_eq_some_iff.1 he
  unfold Ueb at e1
  by_cases h0:y.2=0
  · rw [if_pos h0,Option.some.injEq] at e1
    subst e1
    obtain ⟨g1,g2⟩:=ih (fun w hw=>h w (List.mem_cons_of_mem _ hw)) hs e2
    refine ⟨by rw [g1,Uot,h0,Rat.mul_zero,Rat.zero_add],fun i=>by rw [g2,Unh,h0,Rat.mul_zero,Rat.zero_add]⟩
  · rw [if_neg h0] at e1
    obtain ⟨w,f1,f2⟩:=Option.bind_eq_some_iff.1 e1
    obtain ⟨p1,p2,p3⟩:=Uop h0 (h y (List.mem_cons_self ..)) f1
    obtain ⟨q1,q2,q3⟩:=UrC hs p1 f2
    obtain ⟨g1,g2⟩:=ih (fun w hw=>h w (List.mem_cons_of_mem _ hw)) q1 e2
    refine ⟨by rw [g1,q2,p2,Uot,Rat.add_assoc],fun i=>by rw [g2,q3,p3,Unh,Rat.add_assoc]⟩
def Uao {α σ:Type} (step:σ→α→Option σ):σ→List α→Option σ
 | s,[]=>some s
 | s,a::l=>(step s a).bind fun s'=>Uao step s' l
def UvF {σ:Type} (kerr:Option R) (kend:σ→Option R):Option σ→Option R
 | none=>kerr
 | some s=>kend s
theorem UdG {α σ:Type} {l:List α} {step:σ→α→Option σ} {kerr:Option R} {kend:σ→Option R} {Inv:Nat→σ→Prop} (L:Nat→σ→Nat→Option R)
 (hend:∀ m s,Inv l.length s→L (m + 1) s l.length=kend s)
 (hinv:∀ s s' i (h:i<l.length),Inv i s→step s l[i]=some s'→Inv (i + 1) s')
 (hstep:∀ m s i (h:i<l.length),Inv i s→L (m + 1) s i=UvF kerr (fun s'=>L m s' (i + 1)) (step s l[i])) :
 ∀ (d m i:Nat) (s:σ),d + i=l.length→d<m→Inv i s→L m s i=UvF kerr kend (Uao step s (l.drop i))
 | 0,m + 1,i,s,hd,hm,hs=>by
  have:i=l.length:=by omega
  subst this
  rw [hend m s hs,List.drop_length]; rfl
 | d + 1,m + 1,i,s,hd,hm,hs=>by
  have hi:i<l.length:=by omega
  rw [hstep m s i hi hs,UaL hi]
  show _=UvF kerr kend ((step s l[i]).bind fun s'=>Uao step s' (l.drop (i + 1)))
  cases h:step s l[i] with
  | none=>rfl
  | some s'=>exact UdG L hend hinv hstep d m (i + 1) s' (by omega) (by omega) (hinv s s' i hi hs h)
theorem Ugi {α σ:Type} {step:σ→α→Option σ} {P:α→Prop} {Inv:σ→Prop} (hstep:∀ s s' a,P a→Inv s→step s a=some s'→Inv s'):∀ {l:List α} {s s':σ},(∀ a∈l,P a)→Inv s→Uao step s l=some s'→Inv s'
 | [],s,s',_,hs,h=>by simp only [Uao,Option.some.injEq] at h; rwa [←h]
 | a::l,s,s',hl,hs,h=>by
  obtain ⟨x,e1,e2⟩:=Option.bind_eq_some_iff.1 h
  exact Ugi hstep (fun y hy=>hl y (List.mem_cons_of_mem _ hy)) (hstep s x a (hl a (List.mem_cons_self ..)) hs e1) e2
open Classical in
noncomputable def rq (s:List UInt8):Rat:=if h:isQ s then Classical.choose h else 0
theorem Use {s:List UInt8} (h:qb s=true):fits (rq s)∧s=Uaa (rq s):=by
 have h':=UxF.1 h
 unfold rq
 rw [dif_pos h']
 exact Classical.choose_spec h'
theorem UmS {q:Rat} (h:fits q):rq (Uaa q)=q:=(UdD (Use (Ucd h)).2).symm
noncomputable def spL (l:List TermT):List SpT:=l.map fun t=>(t.1.toNat,rq t.2)
noncomputable def spR (r:RowT):SpR:=(spL r.tm,rq r.c)
theorem Uvo {cols:Int} {l:List SpT} (h:okN cols l):spL (vt l)=l:=by
 unfold spL vt
 rw [List.map_map]
 conv=>rhs; rw [←List.map_id l]
 refine List.map_congr_left fun t ht=>?_
 simp only [Function.comp,id_eq]
 rw [UmS (h t ht).2.1]
 rfl
theorem Ump {cols:Int} {l:List TermT} (h:okT cols (-1) l=true):okS cols (spL l)∧l=vt (spL l):=by
 obtain ⟨l',e1,e2,e3⟩:=Umo (by omega) h
 subst e1
 rw [Uvo e3]
 exact ⟨⟨e2,e3⟩,rfl⟩
theorem Ueh {cols:Int} {r:RowT} (h:okR cols r=true):okF cols (spR r)∧r.tm=vt (spR r).1∧r.c=Uaa (spR r).2:=by
 unfold okR at h
 rw [Bool.and_eq_true] at h
 obtain ⟨e1,e2⟩:=Ump h.1
 obtain ⟨f1,f2⟩:=Use h.2
 exact ⟨⟨e1,f1⟩,e2,f2⟩
theorem Ui8 {a b:Int} (h:a≤b) {l:List SpT} (hl:okN a l):okN b l:=fun t ht=>⟨(hl t ht).1,(hl t ht).2.1,by have:=(hl t ht).2.2; omega⟩
open Classical in
noncomputable def UvA (s a b:Rat):Option Rat:=if fits (a * b) then (if fits (s + a * b) then some (s + a * b) else none) else none
noncomputable def evS (v:List Rat) (s:Rat) (t:SpT):Option Rat:=UvA s t.2 (v.getD t.1 0)
def Usr (v:List Rat):List SpT→Rat
 | []=>0
 | t::l=>t.2 * v.getD t.1 0 + Usr v l
theorem UdH {s a b x:Rat} (h:UvA s a b=some x):x=s + a * b∧fits x:=by
 unfold UvA at h
 split at h
 · split at h
   · rename_i h2
     simp only [Option.some.injEq] at h
     subst h
     exact ⟨rfl,h2⟩
   · cases h
 · cases h
theorem Uly (v:List Rat):∀ {l:List SpT} {s x:Rat},Uao (evS v) s l=some x→x=s + Usr v l
 | [],s,x,h=>by simp only [Uao,Option.some.injEq] at h; rw [Usr,Rat.add_zero,h]
 | t::l,s,x,h=>by
  obtain ⟨y,e1,e2⟩:=Option.bind_eq_some_iff.1 h
  rw [Uly v e2,(UdH e1).1,Usr,Rat.add_assoc]
theorem Ue4 (v:List Rat) {l:List SpT} {s x:Rat} (hs:fits s) (h:Uao (evS v) s l=some x):fits x :=
 Ugi (step:=evS v) (P:=fun _=>True) (Inv:=fits) (fun s s' a _ _ he=>(UdH he).2) (fun _ _=>trivial) hs h
def UaT (f:Nat→Rat):Nat→List Rat→Rat
 | _,[]=>0
 | k,x::v=>f k * x + UaT f (k + 1) v
theorem UcD {f g:Nat→Rat}:∀ {v:List Rat} {k:Nat},(∀ i,k≤i→i<k + v.length→f i=g i)→UaT f k v=UaT g k v
 | [],k,h=>rfl
 | x::v,k,h=>by
  rw [UaT,UaT,h k (by omega) (by rw [List.length_cons]; omega),UcD fun i h1 h2=>h i (by omega) (by rw [List.length_cons]; omega)]
theorem Uc {f:Nat→Rat}:∀ {v:List Rat} {k:Nat},(∀ i,k≤i→i<k + v.length→f i=0)→UaT f k v=0
 | [],k,h=>rfl
 | x::v,k,h=>by
  rw [UaT,h k (by omega) (by rw [List.length_cons]; omega),Uc fun i h1 h2=>h i (by omega) (by rw [List.length_cons]; omega),Rat.zero_mul,Rat.zero_add]
theorem Uij (i:Nat) (c:Rat):∀ (v:List Rat) (k:Nat),k≤i→i<k + v.length→UaT (fun j=>if i=j then c else 0) k v=c * v.getD (i - k) 0
 | [],k,h1,h2=>by simp at h2; omega
 | x::v,k,h1,h2=>by
  rw [UaT]
  by_cases h:i=k
  · subst h
    rw [if_pos rfl,Uc fun j h3 h4=>if_neg (by omega),Nat.sub_self,Rat.add_zero]; rfl
  · rw [if_neg h,Uij i c v (k + 1) (by omega) (by simp at h2; omega),Rat.zero_mul,Rat.zero_add,show i - k=(i - (k + 1)) + 1 from by omega]; rfl
theorem Ue0 (f g:Nat→Rat):∀ (v:List Rat) (k:Nat),UaT (fun i=>f i + g i) k v=UaT f k v + UaT g k v
 | [],k=>by simp only [UaT]; grind
 | x::v,k=>by rw [UaT,UaT,UaT,Ue0 f g v]; grind
theorem Uii (f:Nat→Rat) (c:Rat):∀ (v:List Rat) (k:Nat),UaT (fun i=>f i * c) k v=UaT f k v * c
 | [],k=>by simp only [UaT]; grind
 | x::v,k=>by rw [UaT,UaT,Uii f c v]; grind
theorem Ukx {f g:Nat→Rat}:∀ {v:List Rat} {k:Nat},(∀ x∈v,0≤x)→(∀ i,k≤i→i<k + v.length→f i≤g i)→UaT f k v≤UaT g k v
 | [],k,_,_=>by simp [UaT]
 | x::v,k,h,hf=>by
  have h1:=Ukx (f:=f) (g:=g) (v:=v) (k:=k + 1) (fun y hy=>h y (List.mem_cons_of_mem _ hy)) (fun i h1 h2=>hf i (by omega) (by rw [List.length_cons]; omega))
  have h2:=hf k (by omega) (by rw [List.length_cons]; omega)
  have h3:=h x (List.mem_cons_self ..)
  have h4:=Rat.mul_le_mul_of_nonneg_right h2 h3
  rw [UaT,UaT]
  grind
theorem Uky (v:List Rat):∀ {l:List SpT} {a:Int},asc a l→(∀ t∈l,t.1<v.length)→Usr v l=UaT (cf l) 0 v
 | [],a,_,_=>(Uc fun i _ _=>rfl).symm
 | t::l,a,h,hv=>by
  have ht:=hv t (List.mem_cons_self ..)
  rw [Usr,Uky v h.2 (fun x hx=>hv x (List.mem_cons_of_mem _ hx))]
  have e:UaT (cf (t::l)) 0 v=UaT (fun i=>(if t.1=i then t.2 else 0) + cf l i) 0 v:=UcD fun i _ _=>by
   rw [Ubh]
   by_cases hi:t.1=i
   · subst hi; rw [if_pos rfl,if_pos rfl,Ugd h.2 (by omega),Rat.add_zero]
   · rw [if_neg hi,if_neg hi,Rat.zero_add]
  rw [e,Ue0,Uij t.1 t.2 v 0 (by omega) (by omega),Nat.sub_zero]
def Usm (v:List Rat):List (SpR × Rat)→Rat
 | []=>0
 | x::t=>(x.1.2 + UaT (cf x.1.1) 0 v) * x.2 + Usm v t
theorem Uni (v:List Rat):∀ (l:List (SpR × Rat)),Usm v l=Uot l + UaT (Unh l) 0 v
 | []=>by rw [Usm,Uot,show UaT (Unh []) 0 v=0 from Uc fun i _ _=>rfl,Rat.add_zero]
 | x::t=>by
  rw [Usm,Uot,Uni v t]
  have e:UaT (Unh (x::t)) 0 v=UaT (fun i=>cf x.1.1 i * x.2 + Unh t i) 0 v:=rfl
  rw [e,Ue0 (fun i=>cf x.1.1 i * x.2) (Unh t),Uii]
  grind
end Go.Proofs.YtmgfmlhdnadglaaGreatDoor
set_option linter.unusedVariables false
set_option maxRecDepth 100000
namespace Go.Proofs.YtmgfmlhdnadglaaGreatDoor
open Go Th Go.Proofs
noncomputable section
variable {R:Type}
def Uqa:Ann:={ loops:=[],cuts:=[],frz:=[],rm:=[.id,.id] }
abbrev Utx (n:Nat):Env:=eC 58 (Uuh n) eN
theorem Ulg (n:Nat):EnvOK Tryz.prog GI (Utx n):=.cons (.nil) (UvQ n)
def p62 (n:Nat) (x1:Bool) (x2 x3:LP) (x4:Bool) (x5 x6:LP) (k0:Bool→LP→LP→Int→O R):O R :=
 p58 n x2 x5 (fun y7=>p58 n x3 x6 (fun y8=>k0 (!(x1 == x4)) y7 y8 0))
abbrev UAC (n:Nat):Orc R:=oN
abbrev Uz8 (n:Nat):Orc R:=oN
abbrev K62 (R:Type) (n:Nat):=JcH (R:=R) Tryz.prog (Utx n) Uqa n (22,[]) (UAC n) (Uz8 n)
theorem UBO (n:Nat):Je6 (K62 R n) (JaJ Uqa (Jll Tryz.f62)):=pO pN (by kernel_rfl)
abbrev t62:Sl (List SV):=(.c (sP (JlI (.c Jlf (.c sSh (.c sSh .n))))) (.c (sP (JlI (.c Jlf (.c sSh (.c sSh .n))))) .n))
abbrev f62 (n:Nat) (K:List SV→O R):t62.T (O R):=fun x1 x2 x3 x4 x5 x6=>p62 n x1 x2 x3 x4 x5 x6 (fun y1 y2 y3 y4=>K [.p (.agg [.v (.bool y1),.sh y2,.sh y3]),vI y4])
abbrev UyS (n:Nat):FS:=fT [false,false] t62 (f62 n)
theorem UA6 (n:Nat):FSound Tryz.prog GI 62 (UyS n):=gd Uqa n (Ulg n) Tryz.func62 (.cons (Ulg n) t62 (f62 n) (fun K _ _ _ _ _ _=>(Jkq (c:=Jll Tryz.f62) (by kernel_rfl) (UBO n) K).trans (by kernel_rfl)) .nil) (by kernel_rfl)
def Uqc:Ann:={ loops:=[],cuts:=[],frz:=[],rm:=[.id] }
abbrev Utz (n:Nat):Env:=eC 104 (UtV n) (eC 103 (UtU n) (eC 58 (Uuh n) (eC 57 (UvK n) eN)))
theorem Uli (n:Nat):EnvOK Tryz.prog GI (Utz n):=.cons (.cons (.cons (.cons (.nil) (Uxa n)) (UvQ n)) (UwK n)) (UwL n)
def p64 (n:Nat) (x1:Bool) (x2 x3:LP) (x4:Bool) (x5 x6:LP) (k0:Bool→LP→LP→O R):O R :=
 p58 n x2 x6 (fun y7=>p58 n x5 x3 (fun y8=>p58 n x3 x6 (fun y9=>bif (x1 == x4) then (UvR n y7 y8 (fun y10=>k0 x1 y10 y9)) else (p57 n y7 y8 (fun y11=>bif (decide (y11<0)) then (UuD n y8 y7 (fun y12=>k0 x4 y12 y9)) else (UuD n y7 y8 (fun y13=>k0 x1 y13 y9)))))))
abbrev UAE (n:Nat):Orc R:=oN
abbrev UA (n:Nat):Orc R:=oN
abbrev K64 (R:Type) (n:Nat):=JcH (R:=R) Tryz.prog (Utz n) Uqc n (53,[]) (UAE n) (UA n)
theorem UBQ (n:Nat):Je6 (K64 R n) (JaJ Uqc (Jll Tryz.f64)):=pO pN (by kernel_rfl)
abbrev t64:Sl (List SV):=(.c (sP (JlI (.c Jlf (.c sSh (.c sSh .n))))) (.c (sP (JlI (.c Jlf (.c sSh (.c sSh .n))))) .n))
abbrev f64 (n:Nat) (K:List SV→O R):t64.T (O R):=fun x1 x2 x3 x4 x5 x6=>p64 n x1 x2 x3 x4 x5 x6 (fun y1 y2 y3=>K [.p (.agg [.v (.bool y1),.sh y2,.sh y3])])
abbrev UyU (n:Nat):FS:=fT [false,false] t64 (f64 n)
theorem UA8 (n:Nat):FSound Tryz.prog GI 64 (UyU n):=gd Uqc n (Uli n) Tryz.func64 (.cons (Uli n) t64 (f64 n) (fun K _ _ _ _ _ _=>(Jkq (c:=Jll Tryz.f64) (by kernel_rfl) (UBQ n) K).trans (by kernel_rfl)) .nil) (by kernel_rfl)
def Uqb:Ann:={ loops:=[],cuts:=[],frz:=[],rm:=[.id,.id] }
abbrev Uty (n:Nat):Env:=eC 64 (UyU n) eN
theorem Ulh (n:Nat):EnvOK Tryz.prog GI (Uty n):=.cons (.nil) (UA8 n)
def p63 (n:Nat) (x1:Bool) (x2 x3:LP) (x4:Bool) (x5 x6:LP) (k0:Bool→LP→LP→Int→O R):O R :=
 p64 n x1 x2 x3 x4 x5 x6 (fun y7 y8 y9=>k0 y7 y8 y9 0)
abbrev UAD (n:Nat):Orc R:=oN
abbrev Uz9 (n:Nat):Orc R:=oN
abbrev K63 (R:Type) (n:Nat):=JcH (R:=R) Tryz.prog (Uty n) Uqb n (9,[]) (UAD n) (Uz9 n)
theorem UBP (n:Nat):Je6 (K63 R n) (JaJ Uqb (Jll Tryz.f63)):=pO pN (by kernel_rfl)
abbrev t63:Sl (List SV):=(.c (sP (JlI (.c Jlf (.c sSh (.c sSh .n))))) (.c (sP (JlI (.c Jlf (.c sSh (.c sSh .n))))) .n))
abbrev f63 (n:Nat) (K:List SV→O R):t63.T (O R):=fun x1 x2 x3 x4 x5 x6=>p63 n x1 x2 x3 x4 x5 x6 (fun y1 y2 y3 y4=>K [.p (.agg [.v (.bool y1),.sh y2,.sh y3]),vI y4])
abbrev UyT (n:Nat):FS:=fT [false,false] t63 (f63 n)
theorem UA7 (n:Nat):FSound Tryz.prog GI 63 (UyT n):=gd Uqb n (Ulh n) Tryz.func63 (.cons (Ulh n) t63 (f63 n) (fun K _ _ _ _ _ _=>(Jkq (c:=Jll Tryz.f63) (by kernel_rfl) (UBP n) K).trans (by kernel_rfl)) .nil) (by kernel_rfl)
def Ugb:Ann:={ loops:=[],cuts:=[(5,ids [2,8,10],ids [6,7])],frz:=[],rm:=[.id,.id] }
abbrev Uq8 (n:Nat):Env:=eC 79 (Uwt n) (eC 63 (UyT n) (eC 62 (UyS n) (eC 56 (Uug n) eN)))
theorem UgW (n:Nat):EnvOK Tryz.prog GI (Uq8 n):=.cons (.cons (.cons (.cons (.nil) (UvP n)) (UA6 n)) (UA7 n)) (Uzt n)
def UmL (n:Nat) (x1:Bool) (x2 x3:LP) (x4:Bool) (x5 x6:LP) (k0:ByteArray→Int→O R):O R :=
 p62 n x1 x2 x3 x4 x5 x6 (fun y7 y8 y9 y10=>bif (y10 != 0) then (k0 ⟨#[]⟩ y10) else (p79 n y7 y8 y9 (fun y11 y12=>k0 y11 y12)))
def p61 (n:Nat) (x1 x2:ByteArray) (k0:ByteArray→Int→O R):O R :=
 p56 n x1 (fun y3 y4 y5 y6=>p56 n x2 (fun y7 y8 y9 y10=>bif (!y6) then (k0 ⟨#[]⟩ 3) else (bif (bif false then true else (!y10)) then (k0 ⟨#[]⟩ 3) else (UmL n y3 y4 y5 y7 y8 y9 (fun y11 y12=>k0 y11 y12)))))
def UfF (n:Nat) (x1:Bool) (x2 x3:LP) (x4:Bool) (x5 x6:LP) (k0:ByteArray→Int→O R):O R :=
 p63 n x1 x2 x3 x4 x5 x6 (fun y7 y8 y9 y10=>bif (y10 != 0) then (k0 ⟨#[]⟩ y10) else (p79 n y7 y8 y9 (fun y11 y12=>k0 y11 y12)))
def Un2 (n:Nat) (x1 x2:ByteArray) (k0:ByteArray→Int→O R):O R :=
 p56 n x1 (fun y3 y4 y5 y6=>p56 n x2 (fun y7 y8 y9 y10=>bif (!y6) then (k0 ⟨#[]⟩ 3) else (bif (bif false then true else (!y10)) then (k0 ⟨#[]⟩ 3) else (UfF n y3 y4 y5 y7 y8 y9 (fun y11 y12=>k0 y11 y12)))))
abbrev E61 (n:Nat):Code→Fr→Kc R→O R:=evC Tryz.prog (Uq8 n) Ugb n (44,[])
noncomputable def Ukk:Code:=Jj4 (Jll Tryz.f61) [1,1,1,1]
abbrev UhJ:Sl (List SV):=(.c (sP (sFn 62)) (.c (sBx 99 (cB (cH (cH .n)))) (.c (sBx 99 (cB (cH (cH .n)))) .n)))
abbrev UhK:Sl (List SV):=(.c (sP (sFn 63)) (.c (sBx 99 (cB (cH (cH .n)))) (.c (sBx 99 (cB (cH (cH .n)))) .n)))
abbrev Ul3 (n:Nat) (K:Kc R):UhJ.T (O R):=fun x1 x2 x3 x4 x5 x6=>UmL n x1 x2 x3 x4 x5 x6 (fun y1 y2=>xC Ugb 5 K .ret [vS y1,vI y2])
abbrev Ul4 (n:Nat) (K:Kc R):UhK.T (O R):=fun x1 x2 x3 x4 x5 x6=>UfF n x1 x2 x3 x4 x5 x6 (fun y1 y2=>xC Ugb 5 K .ret [vS y1,vI y2])
abbrev UwJ (n:Nat):Orc R:=oN
abbrev Uwf (n:Nat):Orc R:=fun i vs K=>JfK (Nat.beq i 5) (Jjg (UhJ.ap vs (Ul3 n K)) (Jjg (UhK.ap vs (Ul4 n K)) (Jki Ugb 5 (E61 n Ukk) vs K))) (oN i vs K)
abbrev K61 (R:Type) (n:Nat):=JcH (R:=R) Tryz.prog (Uq8 n) Ugb n (44,[]) (UwJ n) (Uwf n)
theorem UmM (n:Nat):Je6 (K61 R n) (JaJ Ugb Ukk):=pO pN (by kernel_rfl)
theorem Uu9 (n:Nat):K61 R n (true,5,Ukk):=JkW (lo:=UwJ n) (cu:=Uwf n) (UmM n) UhJ (Ul3 n) (fun K _ _ _ _ _ _=>by show _=_; kernel_rfl) (JkW (lo:=UwJ n) (cu:=Uwf n) (UmM n) UhK (Ul4 n) (fun K _ _ _ _ _ _=>by show _=_; kernel_rfl) fun _ _=>rfl)
theorem Uzy (n:Nat):Je6 (K61 R n) (JaJ Ugb (Jll Tryz.f61)):=pO (pC (Uu9 n) pN) (by kernel_rfl)
abbrev Ux1:Sl (List SV):=(cS (cS (.c (sP (sFn 62)) .n)))
abbrev Uyy (n:Nat) (K:List SV→O R):Ux1.T (O R):=fun x1 x2=>p61 n x1 x2 (fun y1 y2=>K [vS y1,vI y2])
abbrev Ux2:Sl (List SV):=(cS (cS (.c (sP (sFn 63)) .n)))
abbrev Uyz (n:Nat) (K:List SV→O R):Ux2.T (O R):=fun x1 x2=>Un2 n x1 x2 (fun y1 y2=>K [vS y1,vI y2])
abbrev Uwr (n:Nat):FS:={ om:=[false,false,false],run:=fun args K=>Jjg (Ux1.ap args (Uyy n K)) (Jjg (Ux2.ap args (Uyz n K)) none) }
theorem Uzr (n:Nat):FSound Tryz.prog GI 61 (Uwr n):=gd Ugb n (UgW n) Tryz.func61 (.cons (UgW n) Ux1 (Uyy n) (fun K _ _=>(Jkq (c:=Jll Tryz.f61) (by kernel_rfl) (Uzy n) K).trans (by kernel_rfl)) (.cons (UgW n) Ux2 (Uyz n) (fun K _ _=>(Jkq (c:=Jll Tryz.f61) (by kernel_rfl) (Uzy n) K).trans (by kernel_rfl)) .nil)) (by kernel_rfl)
def Uqg:Ann:={ loops:=[],cuts:=[],frz:=[],rm:=[.id] }
abbrev UtD (n:Nat):Env:=eN
theorem Ulo (n:Nat):EnvOK Tryz.prog GI (UtD n):=.nil
def p78 (n:Nat) (x1:Bool) (x2 x3:LP) (k0:Bool→LP→LP→O R):O R :=
 bif (!x1) then (k0 (bif true then (decide (((x2).length:Int)>0)) else false) x2 x3) else (k0 false x2 x3)
abbrev UAI (n:Nat):Orc R:=oN
abbrev UAd (n:Nat):Orc R:=oN
abbrev K78 (R:Type) (n:Nat):=JcH (R:=R) Tryz.prog (UtD n) Uqg n (14,[]) (UAI n) (UAd n)
theorem UBW (n:Nat):Je6 (K78 R n) (JaJ Uqg (Jll Tryz.f78)):=pO pN (by kernel_rfl)
abbrev t78:Sl (List SV):=(.c (sP (JlI (.c Jlf (.c sSh (.c sSh .n))))) .n)
abbrev f78 (n:Nat) (K:List SV→O R):t78.T (O R):=fun x1 x2 x3=>p78 n x1 x2 x3 (fun y1 y2 y3=>K [.p (.agg [.v (.bool y1),.sh y2,.sh y3])])
abbrev UyY (n:Nat):FS:=fT [false] t78 (f78 n)
theorem UBb (n:Nat):FSound Tryz.prog GI 78 (UyY n):=gd Uqg n (Ulo n) Tryz.func78 (.cons (Ulo n) t78 (f78 n) (fun K _ _ _=>(Jkq (c:=Jll Tryz.f78) (by kernel_rfl) (UBW n) K).trans (by kernel_rfl)) .nil) (by kernel_rfl)
def Up0:Ann:={ loops:=[],cuts:=[],frz:=[],rm:=[.id,.id] }
abbrev Utn (n:Nat):Env:=eC 61 (Uwr n) (eC 60 (Uwq n) (eC 54 (UvJ n) eN))
theorem UkV (n:Nat):EnvOK Tryz.prog GI (Utn n):=.cons (.cons (.cons (.nil) (Ux n)) (Uzq n)) (Uzr n)
def p22 (n:Nat) (x1 x2:ByteArray) (k0:ByteArray→Int→O R):O R :=
 p54 n x1 x2 (fun y3 y4 y5=>bif y5 then (bif (JkT (IntKind.i64.wrap (y3 + y4))) then (k0 (JiB (IntKind.i64.wrap (y3 + y4))) 0) else none) else (Un2 n x1 x2 (fun y6 y7=>k0 y6 y7)))
abbrev UAs (n:Nat):Orc R:=oN
abbrev UzY (n:Nat):Orc R:=oN
abbrev K22 (R:Type) (n:Nat):=JcH (R:=R) Tryz.prog (Utn n) Up0 n (26,[]) (UAs n) (UzY n)
theorem UBs (n:Nat):Je6 (K22 R n) (JaJ Up0 (Jll Tryz.f22)):=pO pN (by kernel_rfl)
abbrev t22:Sl (List SV):=(cS (cS .n))
abbrev f22 (n:Nat) (K:List SV→O R):t22.T (O R):=fun x1 x2=>p22 n x1 x2 (fun y1 y2=>K [vS y1,vI y2])
abbrev Uwm (n:Nat):FS:=fT [false,false] t22 (f22 n)
theorem Uzm (n:Nat):FSound Tryz.prog GI 22 (Uwm n):=gd Up0 n (UkV n) Tryz.func22 (.cons (UkV n) t22 (f22 n) (fun K _ _=>(Jkq (c:=Jll Tryz.f22) (by kernel_rfl) (UBs n) K).trans (by kernel_rfl)) .nil) (by kernel_rfl)
def UpZ:Ann:={ loops:=[],cuts:=[],frz:=[],rm:=[.id,.id] }
abbrev Utm (n:Nat):Env:=eC 61 (Uwr n) (eC 60 (Uwq n) (eC 54 (UvJ n) eN))
theorem UkU (n:Nat):EnvOK Tryz.prog GI (Utm n):=.cons (.cons (.cons (.nil) (Ux n)) (Uzq n)) (Uzr n)
def p21 (n:Nat) (x1 x2:ByteArray) (k0:ByteArray→Int→O R):O R :=
 p54 n x1 x2 (fun y3 y4 y5=>bif y5 then (bif (JkT (IntKind.i64.wrap (y3 * y4))) then (k0 (JiB (IntKind.i64.wrap (y3 * y4))) 0) else none) else (p61 n x1 x2 (fun y6 y7=>k0 y6 y7)))
abbrev UAr (n:Nat):Orc R:=oN
abbrev UzX (n:Nat):Orc R:=oN
abbrev K21 (R:Type) (n:Nat):=JcH (R:=R) Tryz.prog (Utm n) UpZ n (26,[]) (UAr n) (UzX n)
theorem UBr (n:Nat):Je6 (K21 R n) (JaJ UpZ (Jll Tryz.f21)):=pO pN (by kernel_rfl)
abbrev t21:Sl (List SV):=(cS (cS .n))
abbrev f21 (n:Nat) (K:List SV→O R):t21.T (O R):=fun x1 x2=>p21 n x1 x2 (fun y1 y2=>K [vS y1,vI y2])
abbrev Uwl (n:Nat):FS:=fT [false,false] t21 (f21 n)
theorem Uzl (n:Nat):FSound Tryz.prog GI 21 (Uwl n):=gd UpZ n (UkU n) Tryz.func21 (.cons (UkU n) t21 (f21 n) (fun K _ _=>(Jkq (c:=Jll Tryz.f21) (by kernel_rfl) (UBr n) K).trans (by kernel_rfl)) .nil) (by kernel_rfl)
def Up3:Ann:={ loops:=[],cuts:=[],frz:=[],rm:=[.id] }
abbrev Utq (n:Nat):Env:=eC 79 (Uwt n) (eC 78 (UyY n) (eC 56 (Uug n) eN))
theorem Uk4 (n:Nat):EnvOK Tryz.prog GI (Utq n):=.cons (.cons (.cons (.nil) (UvP n)) (UBb n)) (Uzt n)
def p37 (n:Nat) (x1:ByteArray) (k0:ByteArray→O R):O R :=
 p56 n x1 (fun y2 y3 y4 y5=>bif (!y5) then (k0 ⟨#[]⟩) else (p78 n y2 y3 y4 (fun y6 y7 y8=>p79 n y6 y7 y8 (fun y9 y10=>k0 y9))))
abbrev UAv (n:Nat):Orc R:=oN
abbrev Uz1 (n:Nat):Orc R:=oN
abbrev K37 (R:Type) (n:Nat):=JcH (R:=R) Tryz.prog (Utq n) Up3 n (21,[]) (UAv n) (Uz1 n)
theorem UBB (n:Nat):Je6 (K37 R n) (JaJ Up3 (Jll Tryz.f37)):=pO pN (by kernel_rfl)
abbrev t37:Sl (List SV):=(cS .n)
abbrev f37 (n:Nat) (K:List SV→O R):t37.T (O R):=fun x1=>p37 n x1 (fun y1=>K [vS y1])
abbrev UyL (n:Nat):FS:=fT [false] t37 (f37 n)
theorem UAZ (n:Nat):FSound Tryz.prog GI 37 (UyL n):=gd Up3 n (Uk4 n) Tryz.func37 (.cons (Uk4 n) t37 (f37 n) (fun K _=>(Jkq (c:=Jll Tryz.f37) (by kernel_rfl) (UBB n) K).trans (by kernel_rfl)) .nil) (by kernel_rfl)
end
end Go.Proofs.YtmgfmlhdnadglaaGreatDoor
set_option linter.unusedVariables false
set_option linter.unusedSimpArgs false
namespace Go.Proofs.YtmgfmlhdnadglaaGreatDoor
open Go Th Go.Proofs
variable {R:Type}
def UgA (q:Rat) (k0:ByteArray→Int→Option R):Option R:=if fits q then k0 (bs (Uaa q)) 0 else k0 (bs []) 5
theorem Ud1 {a b i j:Nat} (ha:(toL 1000000000 a).length≤i) (hb:(toL 1000000000 b).length≤j):(toL 1000000000 (a * b)).length≤i + j:=by
 rw [Uai hB2] at *
 rw [Nat.pow_add]
 exact Nat.mul_lt_mul_of_lt_of_lt ha hb
theorem Uvq {a b i:Nat} (ha:(toL 1000000000 a).length≤i) (hb:(toL 1000000000 b).length≤i):(toL 1000000000 (a + b)).length≤i + 1:=by
 rw [Uai hB2] at *
 rw [Nat.pow_succ]; omega
theorem Un {a b i:Nat} (h:a≤b) (hb:(toL 1000000000 b).length≤i):(toL 1000000000 a).length≤i:=Ubk hb h
theorem Urv {a b i j:Nat} (ha:a<10 ^ i) (hb:b<10 ^ j):a * b<10 ^ (i + j):=by
 rw [Nat.pow_add]; exact Nat.mul_lt_mul_of_lt_of_lt ha hb
theorem Umk {a b:Nat} (ha:a<10 ^ 400) (hb:b<10 ^ 400):a * b<10 ^ 800:=by
 have h:=Urv ha hb
 have e:400 + 400=800:=rfl
 rw [e] at h; exact h
theorem Uvp (n:Nat) (hn:2 ^ 20≤n) (neg neg2:Bool) (a b c d:Nat) (ha:(toL 1000000000 a).length≤100) (hb:(toL 1000000000 b).length≤100) (hc:(toL 1000000000 c).length≤100) (hd:(toL 1000000000 d).length≤100) :
 ∃ (ng:Bool) (e:Nat),(∀ k0:Bool→List PV→List PV→Option R,p64 n neg (NN a) (NN b) neg2 (NN c) (NN d) k0=k0 ng (NN e) (NN (b * d)))∧zs ng e=zs neg a * d + zs neg2 c * b∧(toL 1000000000 e).length≤201:=by
 have l1:=Ud1 ha hd
 have l2:=Ud1 hc hb
 have m1:=fun k0=>UaH (R:=R) n a d (by omega) (by omega) (by omega) k0
 have m2:=fun k0=>UaH (R:=R) n c b (by omega) (by omega) (by omega) k0
 have m3:=fun k0=>UaH (R:=R) n b d (by omega) (by omega) (by omega) k0
 have z1:zs neg a * (d:Int)=zs neg (a * d):=by cases neg <;> simp [zs,Int.neg_mul]
 have z2:zs neg2 c * (b:Int)=zs neg2 (c * b):=by cases neg2 <;> simp [zs,Int.neg_mul]
 rw [z1,z2]
 by_cases hs:neg=neg2
 · subst hs
   have p1:=fun k0=>UrD (R:=R) n (a * d) (c * b) (by omega) (by omega) (by omega) (by omega) k0
   refine ⟨neg,a * d + c * b,fun k0=>?_,?_,Uvq l1 l2⟩
   · unfold p64
     have e:(neg == neg)=true:=by simp
     simp only [m1,m2,m3,e,Uaq,p1]
   · generalize a * d=x
     generalize c * b=y
     cases neg
     · simp only [zs,Bool.false_eq_true,if_false]; omega
     · simp only [zs,if_true]; omega
 · have e:(neg == neg2)=false:=by simpa using hs
   have hneg:neg2=!neg:=by cases neg <;> cases neg2 <;> simp_all
   have c1:=fun k0=>Ukq (R:=R) n (a * d) (c * b) (by omega) (by omega) (by omega) k0
   by_cases hlt:a * d<c * b
   · have p1:=fun k0=>Ui6 (R:=R) n (c * b) (a * d) (by omega) (by omega) (by omega) k0
     have e2:decide (Ued (a * d) (c * b)<0)=true:=by rw [show Ued (a * d) (c * b)=-1 from by unfold Ued; rw [if_pos hlt]]; rfl
     refine ⟨neg2,c * b - a * d,fun k0=>?_,?_,Un (Nat.sub_le _ _) (Nat.le_trans l2 (by omega))⟩
     · unfold p64
       simp only [m1,m2,m3,e,Uag,c1,e2,Uaq,p1]
     · rw [hneg]
       generalize a * d=x at *
       generalize c * b=y at *
       cases neg
       · simp only [zs,Bool.not_false,if_true,Bool.false_eq_true,if_false]; omega
       · simp only [zs,Bool.not_true,if_true,Bool.false_eq_true,if_false]; omega
   · have p1:=fun k0=>Ui6 (R:=R) n (a * d) (c * b) (by omega) (by omega) (by omega) k0
     have e2:decide (Ued (a * d) (c * b)<0)=false:=by
      apply decide_eq_false
      unfold Ued; rw [if_neg hlt]; split <;> omega
     refine ⟨neg,a * d - c * b,fun k0=>?_,?_,Un (Nat.sub_le _ _) (Nat.le_trans l1 (by omega))⟩
     · unfold p64
       simp only [m1,m2,m3,e,Uag,c1,e2,p1]
     · rw [hneg]
       generalize a * d=x at *
       generalize c * b=y at *
       cases neg
       · simp only [zs,Bool.not_false,if_true,Bool.false_eq_true,if_false]; omega
       · simp only [zs,Bool.not_true,if_true,Bool.false_eq_true,if_false]; omega
theorem UuB (n:Nat) (neg:Bool) (a:Nat) (x3:List PV) (k0:Bool→List PV→List PV→Option R):p78 n neg (NN a) x3 k0=k0 (!neg&&!(a == 0)) (NN a) x3:=by
 unfold p78
 have e:decide (((NN a).length:Int)>0)=!(a == 0):=by
  rw [UjH,Bool.eq_iff_iff]
  simp only [decide_eq_true_eq,Bool.not_eq_true',beq_eq_false_iff_ne,ne_eq]
  constructor
  · intro h h0; rw [h0,Uah] at h; simp at h
  · intro h
    have:=(Ud2 hB2 h).1
    omega
 cases neg
 · simp only [e,Bool.not_false,Uaq,Bool.true_and]
 · rfl
theorem Uvw (neg:Bool) (a:Nat):zs (!neg&&!(a == 0)) a=- zs neg a:=by
 by_cases h:a=0
 · subst h; rw [UhR,UhR]; rfl
 · have e:(a == 0)=false:=by simpa using h
   rw [e]; cases neg <;> simp [zs]
theorem Uut (p q:Rat):mkRat (p.num * q.den + q.num * p.den) (p.den * q.den)=p + q:=by
 rw [←Rat.mkRat_add_mkRat _ _ p.den_nz q.den_nz,Rat.mkRat_self,Rat.mkRat_self]
theorem Uuu (p q:Rat):mkRat (p.num * q.num) (p.den * q.den)=p * q:=by
 rw [←Rat.mkRat_mul_mkRat,Rat.mkRat_self,Rat.mkRat_self]
theorem n20 {n:Nat} (hn:10 ^ 1000≤n):2 ^ 20<n:=Nat.lt_of_lt_of_le (by decide +kernel) hn
theorem Ubu {n:Nat} (hn:10 ^ 1000≤n):10 ^ 400≤n:=Nat.le_trans (by decide +kernel) hn
theorem Uzh {n a b:Nat} (hn:10 ^ 1000≤n) (ha:a<10 ^ 400) (hb:b<10 ^ 400):a * b<n:=Nat.lt_of_lt_of_le (Umk ha hb) (Nat.le_trans (by decide +kernel) hn)
theorem Um8 (n:Nat) (hn:10 ^ 1000≤n) (ng:Bool) (e f:Nat) (hf:f≠0) (he:(toL 1000000000 e).length≤300) (hfl:(toL 1000000000 f).length≤300) (hfn:f<n) (q:Rat) (hq:mkRat (zs ng e) f=q) (k0:ByteArray→Int→Option R):p79 n ng (NN e) (NN f) k0=UgA q k0:=by
 have h20:=n20 hn
 rw [UjD n ng e f hf (by omega) (by omega) h20 hfn,hq]; rfl
theorem Unb (n:Nat) (hn:10 ^ 1000≤n) (p q:Rat) (hp:fits p) (hq:fits q) (k0:ByteArray→Int→Option R):Un2 n (bs (Uaa p)) (bs (Uaa q)) k0=UgA (p + q) k0:=by
 have h20:=n20 hn
 have r1:=fun k0=>Ubn (R:=R) n (Ubu hn) p hp k0
 have r2:=fun k0=>Ubn (R:=R) n (Ubu hn) q hq k0
 have m1:=Uar hp.1
 have m2:=Uar hp.2
 have m3:=Uar hq.1
 have m4:=Uar hq.2
 obtain ⟨ng,e,s1,s2,s3⟩:=Uvp (R:=R) n (by omega) (sg p.num) (sg q.num) p.num.natAbs p.den q.num.natAbs q.den (by omega) (by omega) (by omega) (by omega)
 rw [show zs (sg p.num) p.num.natAbs=p.num from Ubs _,show zs (sg q.num) q.num.natAbs=q.num from Ubs _] at s2
 have t:=fun k0=>Um8 (R:=R) n hn ng e (p.den * q.den) (Nat.mul_ne_zero p.den_nz q.den_nz) (by omega) (Nat.le_trans (Ud1 m2 m4) (by omega)) (Uzh hn hp.2 hq.2) (p + q) (by rw [s2,Uut]) k0
 have e0:((0:Int) != 0)=false:=rfl
 simp only [Un2,UfF,p63,r1,r2,s1,t,e0,Bool.not_true,Uag]
theorem Uvu (x y:Int):zs (!(sg x == sg y)) (x.natAbs * y.natAbs)=x * y:=by
 have hx:=Ubs x
 have hy:=Ubs y
 generalize hsx:decide (x<0)=sx at *
 generalize hsy:decide (y<0)=sy at *
 have e1:sg x=sx:=hsx
 have e2:sg y=sy:=hsy
 rw [e1,e2]
 conv=>rhs; rw [←hx,←hy]
 generalize x.natAbs=a
 generalize y.natAbs=b
 cases sx <;> cases sy <;> simp [zs,Int.neg_mul,Int.mul_neg]
theorem Unc (n:Nat) (hn:10 ^ 1000≤n) (p q:Rat) (hp:fits p) (hq:fits q) (k0:ByteArray→Int→Option R):p61 n (bs (Uaa p)) (bs (Uaa q)) k0=UgA (p * q) k0:=by
 have h20:=n20 hn
 have r1:=fun k0=>Ubn (R:=R) n (Ubu hn) p hp k0
 have r2:=fun k0=>Ubn (R:=R) n (Ubu hn) q hq k0
 have m1:=Uar hp.1
 have m2:=Uar hp.2
 have m3:=Uar hq.1
 have m4:=Uar hq.2
 have s1:=fun k0=>UaH (R:=R) n p.num.natAbs q.num.natAbs (by omega) (by omega) (by omega) k0
 have s2:=fun k0=>UaH (R:=R) n p.den q.den (by omega) (by omega) (by omega) k0
 have t:=fun k0=>Um8 (R:=R) n hn (!(sg p.num == sg q.num)) (p.num.natAbs * q.num.natAbs) (p.den * q.den) (Nat.mul_ne_zero p.den_nz q.den_nz) (Nat.le_trans (Ud1 m1 m3) (by omega)) (Nat.le_trans (Ud1 m2 m4) (by omega)) (Uzh hn hp.2 hq.2) (p * q) (by rw [Uvu,Uuu]) k0
 have e0:((0:Int) != 0)=false:=rfl
 simp only [p61,UmL,p62,r1,r2,s1,s2,t,e0,Bool.not_true,Uag]
theorem Unj (neg:Bool) (a:Nat) (d:Nat):zs neg a * (d:Int)=zs neg (a * d):=by cases neg <;> simp [zs,Int.neg_mul]
def UaW (s:List UInt8):Prop:=∃ v:Int,v.natAbs<10 ^ 9∧s=Lib.itoa v
theorem Ugx (n:Nat) (hn:20≤n) (s:List UInt8) (hs:s.length<2 ^ 40):∃ a d,(∀ k0:Int→Bool→Option R,p95 n (bs s) k0=k0 a d)∧(¬ UaW s→d=false):=by
 by_cases h:UaW s
 · obtain ⟨v,h1,rfl⟩:=h
   exact ⟨v,true,fun k0=>UdC n hn v h1 k0,fun h=>absurd ⟨v,h1,rfl⟩ h⟩
 · exact ⟨0,false,fun k0=>Ugy n hn s hs h k0,fun _=>rfl⟩
theorem UgO (n:Nat) (hn:20≤n) (v w:Int) (hv:v.natAbs<10 ^ 9) (hw:w.natAbs<10 ^ 9) (k0:Int→Int→Bool→Option R):p54 n (bs (Lib.itoa v)) (bs (Lib.itoa w)) k0=k0 v w true:=by
 have q1:=fun k0=>UdC (R:=R) n hn v hv k0
 have q2:=fun k0=>UdC (R:=R) n hn w hw k0
 simp only [p54,q1,q2,Uaq]
theorem UeV (n:Nat) (hn:20≤n) (s t:List UInt8) (hs:s.length<2 ^ 40) (ht:t.length<2 ^ 40) (h:¬ (UaW s∧UaW t)):∃ a b,∀ k0:Int→Int→Bool→Option R,p54 n (bs s) (bs t) k0=k0 a b false:=by
 obtain ⟨a,d,q1,f1⟩:=Ugx (R:=R) n hn s hs
 obtain ⟨b,e,q2,f2⟩:=Ugx (R:=R) n hn t ht
 cases d with
 | false=>exact ⟨a,b,fun k0=>by simp only [p54,q1,q2,Uag]⟩
 | true =>
  have hS:UaW s:=Classical.byContradiction fun h=>by have:=f1 h; cases this
  have hT:¬ UaW t:=fun hT=>h ⟨hS,hT⟩
  have e0:=f2 hT
  subst e0
  exact ⟨a,b,fun k0=>by simp only [p54,q1,q2,Uaq]⟩
theorem Ui1 (x:Int):JiB x=bs (Lib.itoa x):=rfl
theorem Ujk (v:Int) (h:v.natAbs<10 ^ 400) (k0:ByteArray→Int→Option R):UgA (v:Rat) k0=k0 (bs (Lib.itoa v)) 0:=by
 unfold UgA
 rw [if_pos (Ufd h),Uat]
theorem UaX {p:Rat} (h:UaW (Uaa p)):∃ v:Int,v.natAbs<10 ^ 9∧p=(v:Rat):=by
 obtain ⟨v,h1,h2⟩:=h
 exact ⟨v,h1,UdD (h2.trans (Uat v))⟩
theorem Upn {x:Int} (h1:-9223372036854775808≤x) (h2:x<9223372036854775808):JkT x=true:=by
 unfold JkT; simp; omega
theorem UjG (n:Nat) (hn:10 ^ 1000≤n) (p q:Rat) (hp:fits p) (hq:fits q) (k0:ByteArray→Int→Option R):p22 n (bs (Uaa p)) (bs (Uaa q)) k0=UgA (p + q) k0:=by
 have h20:=n20 hn
 have lp:=UaR hp
 have lq:=UaR hq
 by_cases hb:UaW (Uaa p)∧UaW (Uaa q)
 · obtain ⟨v,hv,rfl⟩:=UaX hb.1
   obtain ⟨w,hw,rfl⟩:=UaX hb.2
   have b1:=fun k0=>UgO (R:=R) n (by omega) v w hv hw k0
   rw [←Rat.intCast_add,Ujk _ (Nat.lt_of_le_of_lt (by omega:(v + w).natAbs≤2000000000) (by decide +kernel)),←Uat,←Uat]
   have e1:IntKind.i64.wrap (v + w)=v + w:=w64 (by omega) (by omega)
   have e2:JkT (v + w)=true:=Upn (by omega) (by omega)
   simp only [p22,b1,Uaq,e1,e2,Ui1]
 · obtain ⟨a,b,b1⟩:=UeV (R:=R) n (by omega) (Uaa p) (Uaa q) (by omega) (by omega) hb
   have t:=fun k0=>Unb (R:=R) n hn p q hp hq k0
   simp only [p22,b1,Uag,t]
theorem Uou (n:Nat) (hn:10 ^ 1000≤n) (p q:Rat) (hp:fits p) (hq:fits q) (k0:ByteArray→Int→Option R):p21 n (bs (Uaa p)) (bs (Uaa q)) k0=UgA (p * q) k0:=by
 have h20:=n20 hn
 have lp:=UaR hp
 have lq:=UaR hq
 by_cases hb:UaW (Uaa p)∧UaW (Uaa q)
 · obtain ⟨v,hv,rfl⟩:=UaX hb.1
   obtain ⟨w,hw,rfl⟩:=UaX hb.2
   have b1:=fun k0=>UgO (R:=R) n (by omega) v w hv hw k0
   have hvw:(v * w).natAbs≤10 ^ 9 * 10 ^ 9:=by
    rw [Int.natAbs_mul]; exact Nat.mul_le_mul (Nat.le_of_lt hv) (Nat.le_of_lt hw)
   rw [←Rat.intCast_mul,Ujk _ (Nat.lt_of_le_of_lt hvw (by decide +kernel)),←Uat,←Uat]
   generalize hx:v * w=x at *
   have e1:IntKind.i64.wrap x=x:=w64 (by omega) (by omega)
   have e2:JkT x=true:=Upn (by omega) (by omega)
   simp only [p21,b1,Uaq,hx,e1,e2,Ui1]
 · obtain ⟨a,b,b1⟩:=UeV (R:=R) n (by omega) (Uaa p) (Uaa q) (by omega) (by omega) hb
   have t:=fun k0=>Unc (R:=R) n hn p q hp hq k0
   simp only [p21,b1,Uag,t]
theorem Unz (a b:Nat):UjF (a:Int) (b:Int)=Ued a b:=by
 unfold UjF Ued
 by_cases h1:a<b
 · rw [if_pos (by omega),if_pos h1]
 · rw [if_neg (by omega),if_neg h1]
   by_cases h2:b<a
   · rw [if_neg (by omega),if_pos h2]
   · rw [if_pos (by omega),if_neg h2]
theorem Uny (a b:Nat):UjF (-(a:Int)) (-(b:Int))=0 - Ued a b:=by
 unfold UjF Ued
 by_cases h1:a<b
 · rw [if_neg (by omega),if_neg (by omega),if_pos h1]; rfl
 · rw [if_neg h1]
   by_cases h2:b<a
   · rw [if_pos (by omega),if_pos h2]; rfl
   · rw [if_neg (by omega),if_pos (by omega),if_neg h2]; rfl
theorem UqK (a b:Nat):-1≤Ued a b∧Ued a b≤1:=by unfold Ued; split <;> (try split) <;> omega
theorem UsB (n:Nat) (hn:10 ^ 1000≤n) (p q:Rat) (hp:fits p) (hq:fits q) (k0:Int→Option R):p19 n (bs (Uaa p)) (bs (Uaa q)) k0=k0 (UjF (p.num * q.den) (q.num * p.den)):=by
 have h20:=n20 hn
 have lp:=UaR hp
 have lq:=UaR hq
 by_cases hb:UaW (Uaa p)∧UaW (Uaa q)
 · obtain ⟨v,hv,rfl⟩:=UaX hb.1
   obtain ⟨w,hw,rfl⟩:=UaX hb.2
   have b1:=fun k0=>UgO (R:=R) n (by omega) v w hv hw k0
   rw [←Uat,←Uat,Rat.num_intCast,Rat.num_intCast,Rat.den_intCast,Rat.den_intCast,show ((1:Nat):Int)=1 from rfl,Int.mul_one,Int.mul_one]
   simp only [p19,b1,Uaq,p55]
   unfold UjF
   by_cases h1:v<w
   · rw [Jkf h1,if_pos h1]
   · rw [c_neg h1,if_neg h1]
     by_cases h2:v>w
     · rw [Jkf h2,if_neg (by omega)]
     · rw [c_neg h2,if_pos (by omega)]
 · obtain ⟨a,b,b1⟩:=UeV (R:=R) n (by omega) (Uaa p) (Uaa q) (by omega) (by omega) hb
   have r1:=fun k0=>Ubn (R:=R) n (Ubu hn) p hp k0
   have r2:=fun k0=>Ubn (R:=R) n (Ubu hn) q hq k0
   have m1:=Uar hp.1
   have m2:=Uar hp.2
   have m3:=Uar hq.1
   have m4:=Uar hq.2
   have s1:=fun k0=>UaH (R:=R) n p.num.natAbs q.den (by omega) (by omega) (by omega) k0
   have s2:=fun k0=>UaH (R:=R) n q.num.natAbs p.den (by omega) (by omega) (by omega) k0
   have l1:=Ud1 m1 m4
   have l2:=Ud1 m3 m2
   have c1:=fun k0=>Ukq (R:=R) n (p.num.natAbs * q.den) (q.num.natAbs * p.den) (by omega) (by omega) (by omega) k0
   have hpd:=p.den_nz
   have hqd:=q.den_nz
   have z1:p.num * (q.den:Int)=zs (sg p.num) (p.num.natAbs * q.den):=by rw [←Unj,show zs (sg p.num) p.num.natAbs=p.num from Ubs _]
   have z2:q.num * (p.den:Int)=zs (sg q.num) (q.num.natAbs * p.den):=by rw [←Unj,show zs (sg q.num) q.num.natAbs=q.num from Ubs _]
   have h1:sg p.num=true→1≤p.num.natAbs * q.den:=by
    intro h
    have:p.num<0:=by simpa [sg] using h
    exact Nat.mul_le_mul (by omega:1≤p.num.natAbs) (by omega:1≤q.den)
   have h2:sg q.num=true→1≤q.num.natAbs * p.den:=by
    intro h
    have:q.num<0:=by simpa [sg] using h
    exact Nat.mul_le_mul (by omega:1≤q.num.natAbs) (by omega:1≤p.den)
   rw [z1,z2]
   simp only [p19,b1,r1,r2,Usw,Uag,UmD,UcJ,s1,s2,c1]
   generalize sg p.num=u at *
   generalize sg q.num=v at *
   generalize p.num.natAbs * q.den=x at *
   generalize q.num.natAbs * p.den=y at *
   have hc:=UqK x y
   cases u <;> cases v
   · simp only [Uag,zs,Bool.false_eq_true,if_false,Unz]
   · have:=h2 rfl
     simp only [Uaq,Uag,Uux,zs,Bool.false_eq_true,if_false,if_true]
     unfold UjF
     rw [if_neg (by omega),if_neg (by omega)]
   · have:=h1 rfl
     simp only [Uaq,Uag,Uux,zs,Bool.false_eq_true,if_false,if_true]
     unfold UjF
     rw [if_pos (by omega)]
   · have e:IntKind.i64.wrap (0 - Ued x y)=0 - Ued x y:=w64 (by omega) (by omega)
     simp only [Uaq,Uag,Usw,zs,if_true,Uny,e]
theorem UnP {q:Rat} (h:fits q):fits (-q):=by
 unfold fits
 rw [Rat.neg_num,Rat.neg_den,Int.natAbs_neg]; exact h
theorem UnX (q:Rat):mkRat (zs (!(sg q.num)&&!(q.num.natAbs == 0)) q.num.natAbs) q.den=-q:=by
 rw [Uvw,show zs (sg q.num) q.num.natAbs=q.num from Ubs _,←Rat.neg_mkRat,Rat.mkRat_self]
theorem UsG (n:Nat) (hn:10 ^ 1000≤n) (p:Rat) (hp:fits p) (k0:ByteArray→Option R):p37 n (bs (Uaa p)) k0=k0 (bs (Uaa (-p))):=by
 have h20:=n20 hn
 have r1:=fun k0=>Ubn (R:=R) n (Ubu hn) p hp k0
 have m1:=Uar hp.1
 have m2:=Uar hp.2
 have o1:=fun k0=>UuB (R:=R) n (sg p.num) p.num.natAbs (NN p.den) k0
 have t:=fun k0=>Um8 (R:=R) n hn (!(sg p.num)&&!(p.num.natAbs == 0)) p.num.natAbs p.den p.den_nz (by omega) (by omega) (Nat.lt_of_lt_of_le hp.2 (Ubu hn)) (-p) (UnX p) k0
 simp only [p37,r1,Usw,Uag,o1,t]
 unfold UgA
 rw [if_pos (UnP hp)]
theorem UbF {q:Rat} (h:fits q) (k0:ByteArray→Int→Option R):UgA q k0=k0 (bs (Uaa q)) 0:=by unfold UgA; rw [if_pos h]
theorem Uol (p q:Rat):(Uaa p == Uaa q)=decide (p=q):=by
 rw [Bool.eq_iff_iff,beq_iff_eq,decide_eq_true_iff]
 exact ⟨UdD,fun h=>by rw [h]⟩
def Ud5 (p q:Rat):Int:=UjF (p.num * q.den) (q.num * p.den)
theorem UtK (p q:Rat):p=q↔p.num * (q.den:Int)=q.num * (p.den:Int):=by
 rw [←Rat.mkRat_eq_iff p.den_nz q.den_nz,Rat.mkRat_self,Rat.mkRat_self]
theorem UgR {p q:Rat} (h:p<q):Ud5 p q=-1:=by
 unfold Ud5 UjF; rw [if_pos ((Rat.lt_iff p q).1 h)]
theorem Ub8 (p:Rat):Ud5 p p=0:=by
 unfold Ud5 UjF; rw [if_neg (by omega),if_pos rfl]
theorem UeZ {p q:Rat} (h:q<p):Ud5 p q=1:=by
 have h1:=(Rat.lt_iff q p).1 h
 unfold Ud5 UjF; rw [if_neg (by omega),if_neg (by omega)]
theorem tri (p q:Rat):p<q∨p=q∨q<p:=by
 rw [Rat.lt_iff,Rat.lt_iff,UtK]; omega
theorem UgK (n:Nat) (hn:10 ^ 1000≤n) (p q:Rat) (hp:fits p) (hq:fits q) (k0:Int→Option R):p19 n (bs (Uaa p)) (bs (Uaa q)) k0=k0 (Ud5 p q):=UsB n hn p q hp hq k0
end Go.Proofs.YtmgfmlhdnadglaaGreatDoor
set_option linter.unusedVariables false
set_option maxRecDepth 100000
namespace Go.Proofs.YtmgfmlhdnadglaaGreatDoor
open Go Th Go.Proofs
noncomputable section
variable {R:Type}
def Uqh:Ann:={ loops:=[],cuts:=[],frz:=[],rm:=[.id] }
abbrev UtE (n:Nat):Env:=eN
theorem Ulq (n:Nat):EnvOK Tryz.prog GI (UtE n):=.nil
def p80 (n:Nat) (x1:Int) (k0:Bool→O R):O R :=
 bif (decide (x1≥0)) then (k0 (bif true then (decide (x1<2048)) else false)) else (k0 false)
abbrev UAJ (n:Nat):Orc R:=oN
abbrev UAe (n:Nat):Orc R:=oN
abbrev K80 (R:Type) (n:Nat):=JcH (R:=R) Tryz.prog (UtE n) Uqh n (9,[]) (UAJ n) (UAe n)
theorem UBY (n:Nat):Je6 (K80 R n) (JaJ Uqh (Jll Tryz.f80)):=pO pN (by kernel_rfl)
abbrev t80:Sl (List SV):=(cI .n)
abbrev f80 (n:Nat) (K:List SV→O R):t80.T (O R):=fun x1=>p80 n x1 (fun y1=>K [vB y1])
abbrev Uwu (n:Nat):FS:=fT [false] t80 (f80 n)
theorem Uzu (n:Nat):FSound Tryz.prog GI 80 (Uwu n):=gd Uqh n (Ulq n) Tryz.func80 (.cons (Ulq n) t80 (f80 n) (fun K _=>(Jkq (c:=Jll Tryz.f80) (by kernel_rfl) (UBY n) K).trans (by kernel_rfl)) .nil) (by kernel_rfl)
def UaY:Ann:={ loops:=[(4,ids [1,15,16,17],ids [1,2]),(10,ids [1,27,28,29],ids [1,2]),(17,ids [7,39,40,41],ids [2])],cuts:=[],frz:=[],rm:=[.id] }
abbrev Uq3 (n:Nat):Env:=eC 80 (Uwu n) (eC 53 (Urm n) eN)
theorem Uk9 (n:Nat):EnvOK Tryz.prog GI (Uq3 n):=.cons (.cons (.nil) (Usx n)) (Uzu n)
def UfA (n:Nat) (l0:LP→ByteArray→LP→Int→Int→O R) (x1:LP) (x2:ByteArray) (x3:LP) (x4 x5:Int) (k0:LP→ByteArray→Int→O R) (k1:LP→ByteArray→O R):O R :=
 bif (decide (x5<x4)) then (bif (inR x5 ((x3).length)) then (Jh2 ((x3).getD ((x5:Int).toNat) (.v (.bool false))) fun a6=>JdT a6 fun h7 t8=>Jj .i64 h7 fun e9=>JdT t8 fun h10 t11=>Jj3 h10 fun e12=>Ji2 t11 (p53 n e12 (fun y13=>bif (!y13) then (k0 x1 x2 3) else (l0 x1 x2 x3 x4 (IntKind.i64.wrap (x5 + 1)))))) else none) else (k1 x1 x2)
def UcR (n:Nat):Nat→LP→ByteArray→LP→Int→Int→(LP→ByteArray→Int→O R)→(LP→ByteArray→O R)→O R
 | 0,_,_,_,_,_,_,_=>none
 | m + 1,x1,x2,x3,x4,x5,k0,k1=>UfA n (fun x1 x2 x3 x4 x5=>UcR n m x1 x2 x3 x4 x5 k0 k1) x1 x2 x3 x4 x5 k0 k1
def UpD (n:Nat) (x1:LP) (x2:ByteArray) (x3:LP) (x4 x5:Int) (k0:LP→ByteArray→Int→O R) (k1:LP→ByteArray→O R):O R:=UcR n n x1 x2 x3 x4 x5 k0 k1
def UdA (n:Nat) (l0:LP→ByteArray→LP→Int→Int→O R) (x1:LP) (x2:ByteArray) (x3:LP) (x4 x5:Int) (k0:LP→ByteArray→Int→O R) (k1:LP→ByteArray→O R):O R :=
 bif (decide (x5<x4)) then (bif (inR x5 ((x3).length)) then (Jh2 ((x3).getD ((x5:Int).toNat) (.v (.bool false))) fun a6=>JdT a6 fun h7 t8=>Jj .i64 h7 fun e9=>JdT t8 fun h10 t11=>Jj3 h10 fun e12=>Ji2 t11 (p80 n e9 (fun y13=>bif (!y13) then (k0 x1 x2 2) else (l0 x1 x2 x3 x4 (IntKind.i64.wrap (x5 + 1)))))) else none) else (k1 x1 x2)
def UbD (n:Nat):Nat→LP→ByteArray→LP→Int→Int→(LP→ByteArray→Int→O R)→(LP→ByteArray→O R)→O R
 | 0,_,_,_,_,_,_,_=>none
 | m + 1,x1,x2,x3,x4,x5,k0,k1=>UdA n (fun x1 x2 x3 x4 x5=>UbD n m x1 x2 x3 x4 x5 k0 k1) x1 x2 x3 x4 x5 k0 k1
def Uhm (n:Nat) (x1:LP) (x2:ByteArray) (x3:LP) (x4 x5:Int) (k0:LP→ByteArray→Int→O R) (k1:LP→ByteArray→O R):O R:=UbD n n x1 x2 x3 x4 x5 k0 k1
def UdB (n:Nat) (l0:Int→LP→Int→Int→O R) (x1:Int) (x2:LP) (x3 x4:Int) (k0:Int→O R) (k1:O R):O R :=
 bif (decide (x4<x3)) then (bif (inR x4 ((x2).length)) then (Jh2 ((x2).getD ((x4:Int).toNat) (.v (.bool false))) fun a5=>JdT a5 fun h6 t7=>Jj .i64 h6 fun e8=>JdT t7 fun h9 t10=>Jj3 h9 fun e11=>Ji2 t10 (bif (eqS e11 (⟨#[48]⟩:ByteArray)) then (k0 3) else (bif (bif false then true else (decide (e8≤x1))) then (k0 3) else (l0 e8 x2 x3 (IntKind.i64.wrap (x4 + 1)))))) else none) else (k1)
def UbE (n:Nat):Nat→Int→LP→Int→Int→(Int→O R)→(O R)→O R
 | 0,_,_,_,_,_,_=>none
 | m + 1,x1,x2,x3,x4,k0,k1=>UdB n (fun x1 x2 x3 x4=>UbE n m x1 x2 x3 x4 k0 k1) x1 x2 x3 x4 k0 k1
def UdY (n:Nat) (x1:Int) (x2:LP) (x3 x4:Int) (k0:Int→O R) (k1:O R):O R:=UbE n n x1 x2 x3 x4 k0 k1
def p52 (n:Nat) (x1:LP) (x2:ByteArray) (k0:Int→O R):O R :=
 p53 n x2 (fun y3=>bif (!y3) then (k0 3) else (UpD n x1 x2 x1 ((x1).length:Int) 0 (fun y4 y5 y6=>k0 y6) (fun y7 y8=>Uhm n y7 y8 y7 ((y7).length:Int) 0 (fun y9 y10 y11=>k0 y11) (fun y12 y13=>UdY n (-1) y12 ((y12).length:Int) 0 (fun y14=>k0 y14) (k0 0)))))
abbrev E52 (n:Nat):Code→Fr→Kc R→O R:=evC Tryz.prog (Uq3 n) UaY n (57,[])
noncomputable def UoM:Code:=Jj4 (Jll Tryz.f52) [1,1,0,1,0,0]
abbrev Uez:Sl (List SV):=(.c (sBx 43 (cH (cS .n))) (cH (cI (cI .n))))
abbrev UlW (n m:Nat) (K:Kc R):Uez.T (O R):=fun x1 x2 x3 x4 x5=>UcR n m x1 x2 x3 x4 x5 (fun y1 y2 y3=>xL UaY 4 K .ret [.bx 43 [vH y1,vS y2],vI y3]) (fun y1 y2=>xL UaY 4 K (.exit 0) [.bx 43 [vH y1,vS y2],dD])
abbrev UsU (n:Nat) (K:Kc R) (l0:Uez.T (O R)):Uez.T (O R):=fun x1 x2 x3 x4 x5=>UfA n l0 x1 x2 x3 x4 x5 (fun y1 y2 y3=>xL UaY 4 K .ret [.bx 43 [vH y1,vS y2],vI y3]) (fun y1 y2=>xL UaY 4 K (.exit 0) [.bx 43 [vH y1,vS y2],dD])
noncomputable def Ukh:Code:=Jj4 (Jll Tryz.f52) [1,1,1,0,1,0,0]
abbrev Udb:Sl (List SV):=(.c (sBx 43 (cH (cS .n))) (cH (cI (cI .n))))
abbrev Uh (n m:Nat) (K:Kc R):Udb.T (O R):=fun x1 x2 x3 x4 x5=>UbD n m x1 x2 x3 x4 x5 (fun y1 y2 y3=>xL UaY 10 K .ret [.bx 43 [vH y1,vS y2],vI y3]) (fun y1 y2=>xL UaY 10 K (.exit 2) [.bx 43 [vH y1,vS y2],dD])
abbrev UqC (n:Nat) (K:Kc R) (l0:Udb.T (O R)):Udb.T (O R):=fun x1 x2 x3 x4 x5=>UdA n l0 x1 x2 x3 x4 x5 (fun y1 y2 y3=>xL UaY 10 K .ret [.bx 43 [vH y1,vS y2],vI y3]) (fun y1 y2=>xL UaY 10 K (.exit 2) [.bx 43 [vH y1,vS y2],dD])
noncomputable def Uki:Code:=Jj4 (Jll Tryz.f52) [1,1,1,1,1,0,1,0,0]
abbrev Udc:Sl (List SV):=(cI (cH (cI (cI .n))))
abbrev Uha (n m:Nat) (K:Kc R):Udc.T (O R):=fun x1 x2 x3 x4=>UbE n m x1 x2 x3 x4 (fun y1=>xL UaY 17 K .ret [vI y1]) (xL UaY 17 K (.exit 4) [dD])
abbrev UqD (n:Nat) (K:Kc R) (l0:Udc.T (O R)):Udc.T (O R):=fun x1 x2 x3 x4=>UdB n l0 x1 x2 x3 x4 (fun y1=>xL UaY 17 K .ret [vI y1]) (xL UaY 17 K (.exit 4) [dD])
abbrev UvO (n:Nat):Orc R:=oL UaY (E52 n) n 17 Uki Udc (Uha n n) (oL UaY (E52 n) n 10 Ukh Udb (Uh n n) (oL UaY (E52 n) n 4 UoM Uez (UlW n n) oN))
abbrev UvE (n:Nat):Orc R:=oN
abbrev K52 (R:Type) (n:Nat):=JcH (R:=R) Tryz.prog (Uq3 n) UaY n (57,[]) (UvO n) (UvE n)
theorem Uu3 (n:Nat):K52 R n (false,4,UoM):=JkF (lo:=UvO n) (cu:=UvE n) (pO pN (by kernel_rfl)) Uez (UlW n n) (JiE (F:=UlW n) Uez (UsU n) (fun K _ _ _ _ _=>rfl) (fun _ _=>rfl) (fun L K _ _ _ _ _=>by show _=_; kernel_rfl) n) fun _ _=>rfl
theorem Ur3 (n:Nat):K52 R n (false,10,Ukh):=JkF (lo:=UvO n) (cu:=UvE n) (pO pN (by kernel_rfl)) Udb (Uh n n) (JiE (F:=Uh n) Udb (UqC n) (fun K _ _ _ _ _=>rfl) (fun _ _=>rfl) (fun L K _ _ _ _ _=>by show _=_; kernel_rfl) n) fun _ _=>rfl
theorem Ur4 (n:Nat):K52 R n (false,17,Uki):=JkF (lo:=UvO n) (cu:=UvE n) (pO pN (by kernel_rfl)) Udc (Uha n n) (JiE (F:=Uha n) Udc (UqD n) (fun K _ _ _ _=>rfl) (fun _ _=>rfl) (fun L K _ _ _ _=>by show _=_; kernel_rfl) n) fun _ _=>rfl
theorem UBG (n:Nat):Je6 (K52 R n) (JaJ UaY (Jll Tryz.f52)):=pO (pC (Uu3 n) (pC (Ur3 n) (pC (Ur4 n) pN))) (by kernel_rfl)
abbrev t52:Sl (List SV):=(.c (sP (JlI (.c sSh (.c Jly .n)))) .n)
abbrev f52 (n:Nat) (K:List SV→O R):t52.T (O R):=fun x1 x2=>p52 n x1 x2 (fun y1=>K [vI y1])
abbrev Ust (n:Nat):FS:=fT [false] t52 (f52 n)
theorem UuA (n:Nat):FSound Tryz.prog GI 52 (Ust n):=gd UaY n (Uk9 n) Tryz.func52 (.cons (Uk9 n) t52 (f52 n) (fun K _ _=>(Jkq (c:=Jll Tryz.f52) (by kernel_rfl) (UBG n) K).trans (by kernel_rfl)) .nil) (by kernel_rfl)
def UeU:Ann:={ loops:=[(2,ids [0,1,7,8,9],ids [1,4])],cuts:=[],frz:=[],rm:=[.id] }
abbrev Ur (n:Nat):Env:=eC 52 (Ust n) eN
theorem Uln (n:Nat):EnvOK Tryz.prog GI (Ur n):=.cons (.nil) (UuA n)
def UfH (n:Nat) (l0:Int→LP→LP→Int→Int→O R) (x1:Int) (x2 x3:LP) (x4 x5:Int) (k0:LP→Bool→O R) (k1:LP→O R):O R :=
 bif (decide (x5<x4)) then (bif (inR x5 ((x3).length)) then (Jh2 ((x3).getD ((x5:Int).toNat) (.v (.bool false))) fun a6=>JdT a6 fun h7 t8=>Jj .i64 h7 fun e9=>JdT t8 fun h10 t11=>Jj3 h10 fun e12=>Ji2 t11 (bif (decide (e9≥x1)) then (k0 x2 false) else (l0 x1 x2 x3 x4 (IntKind.i64.wrap (x5 + 1))))) else none) else (k1 x2)
def UcW (n:Nat):Nat→Int→LP→LP→Int→Int→(LP→Bool→O R)→(LP→O R)→O R
 | 0,_,_,_,_,_,_,_=>none
 | m + 1,x1,x2,x3,x4,x5,k0,k1=>UfH n (fun x1 x2 x3 x4 x5=>UcW n m x1 x2 x3 x4 x5 k0 k1) x1 x2 x3 x4 x5 k0 k1
def UpI (n:Nat) (x1:Int) (x2 x3:LP) (x4 x5:Int) (k0:LP→Bool→O R) (k1:LP→O R):O R:=UcW n n x1 x2 x3 x4 x5 k0 k1
def p76 (n:Nat) (x1:Int) (x2:LP) (k0:Bool→O R):O R :=
 UpI n x1 x2 x2 ((x2).length:Int) 0 (fun y3 y4=>k0 y4) (fun y5=>p52 n y5 ⟨#[48]⟩ (fun y6=>k0 (y6 == 0)))
abbrev E76 (n:Nat):Code→Fr→Kc R→O R:=evC Tryz.prog (Ur n) UeU n (22,[])
noncomputable def UoT:Code:=Jj4 (Jll Tryz.f76) [1,0,1,0,0]
abbrev UeG:Sl (List SV):=(cI (cH (cH (cI (cI .n)))))
abbrev Ul6 (n m:Nat) (K:Kc R):UeG.T (O R):=fun x1 x2 x3 x4 x5=>UcW n m x1 x2 x3 x4 x5 (fun y1 y2=>xL UeU 2 K .ret [vH y1,vB y2]) (fun y1=>xL UeU 2 K (.exit 0) [vH y1,dD])
abbrev Us1 (n:Nat) (K:Kc R) (l0:UeG.T (O R)):UeG.T (O R):=fun x1 x2 x3 x4 x5=>UfH n l0 x1 x2 x3 x4 x5 (fun y1 y2=>xL UeU 2 K .ret [vH y1,vB y2]) (fun y1=>xL UeU 2 K (.exit 0) [vH y1,dD])
abbrev Uzf (n:Nat):Orc R:=oL UeU (E76 n) n 2 UoT UeG (Ul6 n n) oN
abbrev Uyp (n:Nat):Orc R:=oN
abbrev K76 (R:Type) (n:Nat):=JcH (R:=R) Tryz.prog (Ur n) UeU n (22,[]) (Uzf n) (Uyp n)
theorem Uva (n:Nat):K76 R n (false,2,UoT):=JkF (lo:=Uzf n) (cu:=Uyp n) (pO pN (by kernel_rfl)) UeG (Ul6 n n) (JiE (F:=Ul6 n) UeG (Us1 n) (fun K _ _ _ _ _=>rfl) (fun _ _=>rfl) (fun L K _ _ _ _ _=>by show _=_; kernel_rfl) n) fun _ _=>rfl
theorem UBV (n:Nat):Je6 (K76 R n) (JaJ UeU (Jll Tryz.f76)):=pO (pC (Uva n) pN) (by kernel_rfl)
abbrev t76:Sl (List SV):=(cI (cH .n))
abbrev f76 (n:Nat) (K:List SV→O R):t76.T (O R):=fun x1 x2=>p76 n x1 x2 (fun y1=>K [vB y1])
abbrev UyX (n:Nat):FS:=fT [false,false] t76 (f76 n)
theorem UBa (n:Nat):FSound Tryz.prog GI 76 (UyX n):=gd UeU n (Uln n) Tryz.func76 (.cons (Uln n) t76 (f76 n) (fun K _ _=>(Jkq (c:=Jll Tryz.f76) (by kernel_rfl) (UBV n) K).trans (by kernel_rfl)) .nil) (by kernel_rfl)
def Ub4:Ann:={ loops:=[(8,[(1,.id),(4,.id),(8,.cs [some 66,none]),(30,.id),(31,.id),(32,.id)],ids [4,5,8])],cuts:=[],frz:=[1000015,1000025,1000028,1000045],rm:=[.id,.id] }
abbrev UkE (n:Nat):Env:=eC 21 (Uwl n) eN
theorem Uis (n:Nat):EnvOK Tryz.prog GI (UkE n):=.cons (.nil) (Uzl n)
def Udu (n:Nat) (l0:ByteArray→ByteArray→LP→ByteArray→LP→Int→Int→O R) (x1 x2:ByteArray) (x3:LP) (x4:ByteArray) (x5:LP) (x6 x7:Int) (k0:ByteArray→Int→LP→ByteArray→O R) (k1:ByteArray→LP→ByteArray→O R):O R :=
 bif (decide (x7<x6)) then (bif (inR x7 ((x5).length)) then (Jh2 ((x5).getD ((x7:Int).toNat) (.v (.bool false))) fun a8=>JdT a8 fun h9 t10=>Jj .i64 h9 fun e11=>JdT t10 fun h12 t13=>Jj3 h12 fun e14=>Ji2 t13 (p21 n e14 x1 (fun y15 y16=>bif (y16 != 0) then (k0 ByteArray.empty y16 x3 x4) else (bif (Jbu ((x3).length + 1) 24) then (l0 x1 x2 (x3++([.agg [.v (.int .i64 e11),.v (.string y15)]]:LP)) x4 x5 x6 (IntKind.i64.wrap (x7 + 1))) else none)))) else none) else (k1 x2 x3 x4)
def Ubx (n:Nat):Nat→ByteArray→ByteArray→LP→ByteArray→LP→Int→Int→(ByteArray→Int→LP→ByteArray→O R)→(ByteArray→LP→ByteArray→O R)→O R
 | 0,_,_,_,_,_,_,_,_,_=>none
 | m + 1,x1,x2,x3,x4,x5,x6,x7,k0,k1=>Udu n (fun x1 x2 x3 x4 x5 x6 x7=>Ubx n m x1 x2 x3 x4 x5 x6 x7 k0 k1) x1 x2 x3 x4 x5 x6 x7 k0 k1
def Umw (n:Nat) (x1 x2:ByteArray) (x3:LP) (x4:ByteArray) (x5:LP) (x6 x7:Int) (k0:ByteArray→Int→LP→ByteArray→O R) (k1:ByteArray→LP→ByteArray→O R):O R:=Ubx n n x1 x2 x3 x4 x5 x6 x7 k0 k1
def UvT (n:Nat) (x1:LP) (x2 x3:ByteArray) (k0:LP→ByteArray→Int→O R):O R :=
 bif (eqS x3 (⟨#[48]⟩:ByteArray)) then (k0 [] ⟨#[48]⟩ 0) else (p21 n x2 x3 (fun y4 y5=>bif (y5 != 0) then (k0 [] ByteArray.empty y5) else (Umw n x3 ByteArray.empty [] y4 x1 ((x1).length:Int) 0 (fun y6 y7 y8 y9=>k0 [] y6 y7) (fun y10 y11 y12=>k0 y11 y12 0))))
abbrev UzG (n:Nat):Code→Fr→Kc R→O R:=evC Tryz.prog (UkE n) Ub4 n (58,[])
noncomputable def Uj3:Code:=Jj4 (Jll Tryz.f113) [1,1,1,1,1,0,1,0,0]
abbrev Uc6:Sl (List SV):=(cS (.c (sBx 43 (.c sNl (cS .n))) (.c (sBx 43 (cO 66 (cS .n))) (cH (cI (cI .n))))))
abbrev Ug4 (n m:Nat) (K:Kc R):Uc6.T (O R):=fun x1 x2 x3 x4 x5 x6 x7=>Ubx n m x1 x2 x3 x4 x5 x6 x7 (fun y1 y2 y3 y4=>xL Ub4 8 K .ret [.bx 43 [.nl,vS y1],vI y2,.bx 43 [.own 66 y3,vS y4]]) (fun y1 y2 y3=>xL Ub4 8 K (.exit 0) [.bx 43 [.nl,vS y1],dD,.bx 43 [.own 66 y2,vS y3]])
abbrev Uqt (n:Nat) (K:Kc R) (l0:Uc6.T (O R)):Uc6.T (O R):=fun x1 x2 x3 x4 x5 x6 x7=>Udu n l0 x1 x2 x3 x4 x5 x6 x7 (fun y1 y2 y3 y4=>xL Ub4 8 K .ret [.bx 43 [.nl,vS y1],vI y2,.bx 43 [.own 66 y3,vS y4]]) (fun y1 y2 y3=>xL Ub4 8 K (.exit 0) [.bx 43 [.nl,vS y1],dD,.bx 43 [.own 66 y2,vS y3]])
abbrev Uun (n:Nat):Orc R:=oL Ub4 (UzG n) n 8 Uj3 Uc6 (Ug4 n n) oN
abbrev Utb (n:Nat):Orc R:=oN
abbrev Uya (R:Type) (n:Nat):=JcH (R:=R) Tryz.prog (UkE n) Ub4 n (58,[]) (Uun n) (Utb n)
theorem UrL (n:Nat):Uya R n (false,8,Uj3):=JkF (lo:=Uun n) (cu:=Utb n) (pO pN (by kernel_rfl)) Uc6 (Ug4 n n) (JiE (F:=Ug4 n) Uc6 (Uqt n) (fun K _ _ _ _ _ _ _=>rfl) (fun _ _=>rfl) (fun L K _ _ _ _ _ _ _=>by show _=_; kernel_rfl) n) fun _ _=>rfl
theorem Uxq (n:Nat):Je6 (Uya R n) (JaJ Ub4 (Jll Tryz.f113)):=pO (pC (UrL n) pN) (by kernel_rfl)
abbrev UxN:Sl (List SV):=(.c (sP (JlI (.c sSh (.c Jly .n)))) (cS .n))
abbrev f113 (n:Nat) (K:List SV→O R):UxN.T (O R):=fun x1 x2 x3=>UvT n x1 x2 x3 (fun y1 y2 y3=>K [.p (.agg [.sh y1,.v (.string y2)]),vI y3])
abbrev UtZ (n:Nat):FS:=fT [false,false] UxN (f113 n)
theorem UwP (n:Nat):FSound Tryz.prog GI 113 (UtZ n):=gd Ub4 n (Uis n) Tryz.func113 (.cons (Uis n) UxN (f113 n) (fun K _ _ _=>(Jkq (c:=Jll Tryz.f113) (by kernel_rfl) (Uxq n) K).trans (by kernel_rfl)) .nil) (by kernel_rfl)
def Uqe:Ann:={ loops:=[],cuts:=[],frz:=[],rm:=[.id,.id] }
abbrev UtB (n:Nat):Env:=eC 113 (UtZ n) (eC 53 (Urm n) (eC 52 (Ust n) eN))
theorem Ull (n:Nat):EnvOK Tryz.prog GI (UtB n):=.cons (.cons (.cons (.nil) (UuA n)) (Usx n)) (UwP n)
def p74 (n:Nat) (x1:LP) (x2 x3:ByteArray) (k0:LP→ByteArray→Int→O R):O R :=
 p52 n x1 x2 (fun y4=>bif (y4 != 0) then (k0 [] ByteArray.empty 3) else (p53 n x3 (fun y5=>bif (bif false then true else (!y5)) then (k0 [] ByteArray.empty 3) else (UvT n x1 x2 x3 (fun y6 y7 y8=>k0 y6 y7 y8)))))
abbrev UAG (n:Nat):Orc R:=oN
abbrev UAb (n:Nat):Orc R:=oN
abbrev K74 (R:Type) (n:Nat):=JcH (R:=R) Tryz.prog (UtB n) Uqe n (20,[]) (UAG n) (UAb n)
theorem UBT (n:Nat):Je6 (K74 R n) (JaJ Uqe (Jll Tryz.f74)):=pO pN (by kernel_rfl)
abbrev t74:Sl (List SV):=(.c (sP (JlI (.c sSh (.c Jly .n)))) (cS .n))
abbrev f74 (n:Nat) (K:List SV→O R):t74.T (O R):=fun x1 x2 x3=>p74 n x1 x2 x3 (fun y1 y2 y3=>K [.p (.agg [.sh y1,.v (.string y2)]),vI y3])
abbrev UyV (n:Nat):FS:=fT [false,false] t74 (f74 n)
theorem UA9 (n:Nat):FSound Tryz.prog GI 74 (UyV n):=gd Uqe n (Ull n) Tryz.func74 (.cons (Ull n) t74 (f74 n) (fun K _ _ _=>(Jkq (c:=Jll Tryz.f74) (by kernel_rfl) (UBT n) K).trans (by kernel_rfl)) .nil) (by kernel_rfl)
def Uaw:Ann:={ loops:=[(6,[(2,.id),(3,.id),(4,.id),(8,.cs [some 66,none]),(9,.id),(10,.id)],ids [4,5,8])],cuts:=[(12,ids [2,3,4,8,9,10],ids [2,3,4,5,8,9,10]),(14,ids [2,3,4,8,9,10],ids [2,3,4,5,8,9,10]),(15,ids [2,3,4,8,9,10,78],ids [2,3,4,5,8,9,10]),(18,ids [2,3,4,8,9,10,118],ids [2,3,4,5,8,9,10])],frz:=[1000023,1000026,1000057],rm:=[.id,.id] }
abbrev UkF (n:Nat):Env:=eC 22 (Uwm n) eN
theorem Uit (n:Nat):EnvOK Tryz.prog GI (UkF n):=.cons (.nil) (Uzm n)
def Uby (n:Nat) (x1:LP) (x2:ByteArray) (x3:LP) (x4 x5:ByteArray) (x6:LP) (x7:ByteArray) (x8 x9:Int) (k0:LP→ByteArray→LP→ByteArray→ByteArray→LP→ByteArray→Int→Int→O R):O R :=
 k0 x1 x2 x3 x4 x5 x6 x7 (IntKind.i64.wrap (x8 + 1)) (IntKind.i64.wrap (x9 + 1))
def UaQ (n:Nat) (x1:LP) (x2:ByteArray) (x3:LP) (x4 x5:ByteArray) (x6:LP) (x7:ByteArray) (x8 x9:Int) (x10:Bool) (k0:LP→ByteArray→LP→ByteArray→ByteArray→LP→ByteArray→Int→Int→O R) (k1:LP→ByteArray→LP→ByteArray→ByteArray→Int→LP→ByteArray→Int→Int→O R):O R :=
 bif x10 then (bif (inR x9 ((x3).length)) then (Jh2 ((x3).getD ((x9:Int).toNat) (.v (.bool false))) fun a11=>JdT a11 fun h12 t13=>Jj .i64 h12 fun e14=>JdT t13 fun h15 t16=>Jj3 h15 fun e17=>Ji2 t16 (bif (Jbu ((x6).length + 1) 24) then (k0 x1 x2 x3 x4 x5 (x6++([.agg [.v (.int .i64 e14),.v (.string e17)]]:LP)) x7 x8 (IntKind.i64.wrap (x9 + 1))) else none)) else none) else (bif (inR x8 ((x1).length)) then (Jh2 ((x1).getD ((x8:Int).toNat) (.v (.bool false))) fun a18=>JdT a18 fun h19 t20=>Jj .i64 h19 fun e21=>JdT t20 fun h22 t23=>Jj3 h22 fun e24=>Ji2 t23 (bif (inR x9 ((x3).length)) then (Jh2 ((x3).getD ((x9:Int).toNat) (.v (.bool false))) fun a25=>JdT a25 fun h26 t27=>Jj .i64 h26 fun e28=>JdT t27 fun h29 t30=>Jj3 h29 fun e31=>Ji2 t30 (p22 n e24 e31 (fun y32 y33=>bif (y33 != 0) then (k1 x1 x2 x3 x4 ByteArray.empty y33 x6 x7 x8 x9) else (bif (!eqS y32 (⟨#[48]⟩:ByteArray)) then (bif (inR x8 ((x1).length)) then (Jh2 ((x1).getD ((x8:Int).toNat) (.v (.bool false))) fun a34=>JdT a34 fun h35 t36=>Jj .i64 h35 fun e37=>JdT t36 fun h38 t39=>Jj3 h38 fun e40=>Ji2 t39 (bif (Jbu ((x6).length + 1) 24) then (Uby n x1 x2 x3 x4 x5 (x6++([.agg [.v (.int .i64 e37),.v (.string y32)]]:LP)) x7 x8 x9 (fun y41 y42 y43 y44 y45 y46 y47 y48 y49=>k0 y41 y42 y43 y44 y45 y46 y47 y48 y49)) else none)) else none) else (Uby n x1 x2 x3 x4 x5 x6 x7 x8 x9 (fun y50 y51 y52 y53 y54 y55 y56 y57 y58=>k0 y50 y51 y52 y53 y54 y55 y56 y57 y58)))))) else none)) else none)
def Uay (n:Nat) (x1:LP) (x2:ByteArray) (x3:LP) (x4 x5:ByteArray) (x6:LP) (x7:ByteArray) (x8 x9:Int) (x10:Bool) (k0:LP→ByteArray→LP→ByteArray→ByteArray→LP→ByteArray→Int→Int→O R) (k1:LP→ByteArray→LP→ByteArray→ByteArray→Int→LP→ByteArray→Int→Int→O R):O R :=
 bif x10 then (bif (inR x8 ((x1).length)) then (Jh2 ((x1).getD ((x8:Int).toNat) (.v (.bool false))) fun a11=>JdT a11 fun h12 t13=>Jj .i64 h12 fun e14=>JdT t13 fun h15 t16=>Jj3 h15 fun e17=>Ji2 t16 (bif (Jbu ((x6).length + 1) 24) then (k0 x1 x2 x3 x4 x5 (x6++([.agg [.v (.int .i64 e14),.v (.string e17)]]:LP)) x7 (IntKind.i64.wrap (x8 + 1)) x9) else none)) else none) else (bif (x8 == ((x1).length:Int)) then (UaQ n x1 x2 x3 x4 x5 x6 x7 x8 x9 true (fun y18 y19 y20 y21 y22 y23 y24 y25 y26=>k0 y18 y19 y20 y21 y22 y23 y24 y25 y26) (fun y27 y28 y29 y30 y31 y32 y33 y34 y35 y36=>k1 y27 y28 y29 y30 y31 y32 y33 y34 y35 y36)) else (bif (inR x9 ((x3).length)) then (Jh2 ((x3).getD ((x9:Int).toNat) (.v (.bool false))) fun a37=>JdT a37 fun h38 t39=>Jj .i64 h38 fun e40=>JdT t39 fun h41 t42=>Jj3 h41 fun e43=>Ji2 t42 (bif (inR x8 ((x1).length)) then (Jh2 ((x1).getD ((x8:Int).toNat) (.v (.bool false))) fun a44=>JdT a44 fun h45 t46=>Jj .i64 h45 fun e47=>JdT t46 fun h48 t49=>Jj3 h48 fun e50=>Ji2 t49 (UaQ n x1 x2 x3 x4 x5 x6 x7 x8 x9 (bif false then true else (decide (e40<e47))) (fun y51 y52 y53 y54 y55 y56 y57 y58 y59=>k0 y51 y52 y53 y54 y55 y56 y57 y58 y59) (fun y60 y61 y62 y63 y64 y65 y66 y67 y68 y69=>k1 y60 y61 y62 y63 y64 y65 y66 y67 y68 y69))) else none)) else none))
def UaD (n:Nat) (x1:LP) (x2:ByteArray) (x3:LP) (x4 x5:ByteArray) (x6:LP) (x7:ByteArray) (x8 x9:Int) (k0:LP→ByteArray→LP→ByteArray→ByteArray→LP→ByteArray→Int→Int→O R) (k1:LP→ByteArray→LP→ByteArray→ByteArray→Int→LP→ByteArray→Int→Int→O R):O R :=
 bif (x9 == ((x3).length:Int)) then (Uay n x1 x2 x3 x4 x5 x6 x7 x8 x9 true (fun y10 y11 y12 y13 y14 y15 y16 y17 y18=>k0 y10 y11 y12 y13 y14 y15 y16 y17 y18) (fun y19 y20 y21 y22 y23 y24 y25 y26 y27 y28=>k1 y19 y20 y21 y22 y23 y24 y25 y26 y27 y28)) else (bif (decide (x8<((x1).length:Int))) then (bif (inR x8 ((x1).length)) then (Jh2 ((x1).getD ((x8:Int).toNat) (.v (.bool false))) fun a29=>JdT a29 fun h30 t31=>Jj .i64 h30 fun e32=>JdT t31 fun h33 t34=>Jj3 h33 fun e35=>Ji2 t34 (bif (inR x9 ((x3).length)) then (Jh2 ((x3).getD ((x9:Int).toNat) (.v (.bool false))) fun a36=>JdT a36 fun h37 t38=>Jj .i64 h37 fun e39=>JdT t38 fun h40 t41=>Jj3 h40 fun e42=>Ji2 t41 (Uay n x1 x2 x3 x4 x5 x6 x7 x8 x9 (bif false then true else (bif true then (decide (e32<e39)) else false)) (fun y43 y44 y45 y46 y47 y48 y49 y50 y51=>k0 y43 y44 y45 y46 y47 y48 y49 y50 y51) (fun y52 y53 y54 y55 y56 y57 y58 y59 y60 y61=>k1 y52 y53 y54 y55 y56 y57 y58 y59 y60 y61))) else none)) else none) else (Uay n x1 x2 x3 x4 x5 x6 x7 x8 x9 false (fun y62 y63 y64 y65 y66 y67 y68 y69 y70=>k0 y62 y63 y64 y65 y66 y67 y68 y69 y70) (fun y71 y72 y73 y74 y75 y76 y77 y78 y79 y80=>k1 y71 y72 y73 y74 y75 y76 y77 y78 y79 y80)))
def Ufj (n:Nat) (l0:LP→ByteArray→LP→ByteArray→ByteArray→LP→ByteArray→Int→Int→O R) (x1:LP) (x2:ByteArray) (x3:LP) (x4 x5:ByteArray) (x6:LP) (x7:ByteArray) (x8 x9:Int) (k0:ByteArray→Int→LP→ByteArray→O R) (k1:ByteArray→LP→ByteArray→O R):O R :=
 bif (decide (x8<((x1).length:Int))) then (UaD n x1 x2 x3 x4 x5 x6 x7 x8 x9 (fun y10 y11 y12 y13 y14 y15 y16 y17 y18=>l0 y10 y11 y12 y13 y14 y15 y16 y17 y18) (fun y19 y20 y21 y22 y23 y24 y25 y26 y27 y28=>k0 y23 y24 y25 y26)) else (bif (bif false then true else (decide (x9<((x3).length:Int)))) then (UaD n x1 x2 x3 x4 x5 x6 x7 x8 x9 (fun y29 y30 y31 y32 y33 y34 y35 y36 y37=>l0 y29 y30 y31 y32 y33 y34 y35 y36 y37) (fun y38 y39 y40 y41 y42 y43 y44 y45 y46 y47=>k0 y42 y43 y44 y45)) else (k1 x5 x6 x7))
def Uck (n:Nat):Nat→LP→ByteArray→LP→ByteArray→ByteArray→LP→ByteArray→Int→Int→(ByteArray→Int→LP→ByteArray→O R)→(ByteArray→LP→ByteArray→O R)→O R
 | 0,_,_,_,_,_,_,_,_,_,_,_=>none
 | m + 1,x1,x2,x3,x4,x5,x6,x7,x8,x9,k0,k1=>Ufj n (fun x1 x2 x3 x4 x5 x6 x7 x8 x9=>Uck n m x1 x2 x3 x4 x5 x6 x7 x8 x9 k0 k1) x1 x2 x3 x4 x5 x6 x7 x8 x9 k0 k1
def Umx (n:Nat) (x1:LP) (x2:ByteArray) (x3:LP) (x4 x5:ByteArray) (x6:LP) (x7:ByteArray) (x8 x9:Int) (k0:ByteArray→Int→LP→ByteArray→O R) (k1:ByteArray→LP→ByteArray→O R):O R:=Uck n n x1 x2 x3 x4 x5 x6 x7 x8 x9 k0 k1
def UvU (n:Nat) (x1:LP) (x2:ByteArray) (x3:LP) (x4:ByteArray) (k0:LP→ByteArray→Int→O R):O R :=
 p22 n x2 x4 (fun y5 y6=>bif (y6 != 0) then (k0 [] ByteArray.empty y6) else (Umx n x1 x2 x3 x4 ByteArray.empty [] y5 0 0 (fun y7 y8 y9 y10=>k0 [] y7 y8) (fun y11 y12 y13=>k0 y12 y13 0)))
abbrev UsE (n:Nat):Code→Fr→Kc R→O R:=evC Tryz.prog (UkF n) Uaw n (152,[])
noncomputable def UhW:Code:=Jj4 (Jll Tryz.f114) [1,1,1,1,1,0,0,0,1,0,0,1,1,1,1,1,1,1]
abbrev UfU:Sl (List SV):=(.c (sBx 43 (cH (cS .n))) (.c (sBx 43 (cH (cS .n))) (.c (sBx 43 (.c sNl (cS .n))) (.c (sBx 43 (cO 66 (cS .n))) (cI (cI .n))))))
abbrev UiG (n:Nat) (K:Kc R):UfU.T (O R):=fun x1 x2 x3 x4 x5 x6 x7 x8 x9=>Uby n x1 x2 x3 x4 x5 x6 x7 x8 x9 (fun y1 y2 y3 y4 y5 y6 y7 y8 y9=>xC Uaw 12 K .normal [.bx 43 [vH y1,vS y2],.bx 43 [vH y3,vS y4],.bx 43 [.nl,vS y5],dD,.bx 43 [.own 66 y6,vS y7],vI y8,vI y9])
noncomputable def UhX:Code:=Jj4 (Jll Tryz.f114) [1,1,1,1,1,0,0,0,1]
abbrev UfV:Sl (List SV):=(.c (sBx 43 (cH (cS .n))) (.c (sBx 43 (cH (cS .n))) (.c (sBx 43 (.c sNl (cS .n))) (.c (sBx 43 (cO 66 (cS .n))) (cI (cI .n))))))
abbrev UiH (n:Nat) (K:Kc R):UfV.T (O R):=fun x1 x2 x3 x4 x5 x6 x7 x8 x9=>UaD n x1 x2 x3 x4 x5 x6 x7 x8 x9 (fun y1 y2 y3 y4 y5 y6 y7 y8 y9=>xC Uaw 14 K .normal [.bx 43 [vH y1,vS y2],.bx 43 [vH y3,vS y4],.bx 43 [.nl,vS y5],dD,.bx 43 [.own 66 y6,vS y7],vI y8,vI y9]) (fun y1 y2 y3 y4 y5 y6 y7 y8 y9 y10=>xC Uaw 14 K .ret [.bx 43 [vH y1,vS y2],.bx 43 [vH y3,vS y4],.bx 43 [.nl,vS y5],vI y6,.bx 43 [.own 66 y7,vS y8],vI y9,vI y10])
noncomputable def UhY:Code:=Jj4 (Jll Tryz.f114) [1,1,1,1,1,0,0,0,1,0,0,1]
abbrev UfW:Sl (List SV):=(.c (sBx 43 (cH (cS .n))) (.c (sBx 43 (cH (cS .n))) (.c (sBx 43 (.c sNl (cS .n))) (.c (sBx 43 (cO 66 (cS .n))) (cI (cI (cB .n)))))))
abbrev UiI (n:Nat) (K:Kc R):UfW.T (O R):=fun x1 x2 x3 x4 x5 x6 x7 x8 x9 x10=>Uay n x1 x2 x3 x4 x5 x6 x7 x8 x9 x10 (fun y1 y2 y3 y4 y5 y6 y7 y8 y9=>xC Uaw 15 K .normal [.bx 43 [vH y1,vS y2],.bx 43 [vH y3,vS y4],.bx 43 [.nl,vS y5],dD,.bx 43 [.own 66 y6,vS y7],vI y8,vI y9]) (fun y1 y2 y3 y4 y5 y6 y7 y8 y9 y10=>xC Uaw 15 K .ret [.bx 43 [vH y1,vS y2],.bx 43 [vH y3,vS y4],.bx 43 [.nl,vS y5],vI y6,.bx 43 [.own 66 y7,vS y8],vI y9,vI y10])
noncomputable def UhZ:Code:=Jj4 (Jll Tryz.f114) [1,1,1,1,1,0,0,0,1,0,0,1,1,1]
abbrev UfX:Sl (List SV):=(.c (sBx 43 (cH (cS .n))) (.c (sBx 43 (cH (cS .n))) (.c (sBx 43 (.c sNl (cS .n))) (.c (sBx 43 (cO 66 (cS .n))) (cI (cI (cB .n)))))))
abbrev UiJ (n:Nat) (K:Kc R):UfX.T (O R):=fun x1 x2 x3 x4 x5 x6 x7 x8 x9 x10=>UaQ n x1 x2 x3 x4 x5 x6 x7 x8 x9 x10 (fun y1 y2 y3 y4 y5 y6 y7 y8 y9=>xC Uaw 18 K .normal [.bx 43 [vH y1,vS y2],.bx 43 [vH y3,vS y4],.bx 43 [.nl,vS y5],dD,.bx 43 [.own 66 y6,vS y7],vI y8,vI y9]) (fun y1 y2 y3 y4 y5 y6 y7 y8 y9 y10=>xC Uaw 18 K .ret [.bx 43 [vH y1,vS y2],.bx 43 [vH y3,vS y4],.bx 43 [.nl,vS y5],vI y6,.bx 43 [.own 66 y7,vS y8],vI y9,vI y10])
noncomputable def Uj4:Code:=Jj4 (Jll Tryz.f114) [1,1,1,1,1,0,0,0]
abbrev Uc7:Sl (List SV):=(.c (sBx 43 (cH (cS .n))) (.c (sBx 43 (cH (cS .n))) (.c (sBx 43 (.c sNl (cS .n))) (.c (sBx 43 (cO 66 (cS .n))) (cI (cI .n))))))
abbrev Ug5 (n m:Nat) (K:Kc R):Uc7.T (O R):=fun x1 x2 x3 x4 x5 x6 x7 x8 x9=>Uck n m x1 x2 x3 x4 x5 x6 x7 x8 x9 (fun y1 y2 y3 y4=>xL Uaw 6 K .ret [.bx 43 [.nl,vS y1],vI y2,.bx 43 [.own 66 y3,vS y4]]) (fun y1 y2 y3=>xL Uaw 6 K (.exit 0) [.bx 43 [.nl,vS y1],dD,.bx 43 [.own 66 y2,vS y3]])
abbrev Uqu (n:Nat) (K:Kc R) (l0:Uc7.T (O R)):Uc7.T (O R):=fun x1 x2 x3 x4 x5 x6 x7 x8 x9=>Ufj n l0 x1 x2 x3 x4 x5 x6 x7 x8 x9 (fun y1 y2 y3 y4=>xL Uaw 6 K .ret [.bx 43 [.nl,vS y1],vI y2,.bx 43 [.own 66 y3,vS y4]]) (fun y1 y2 y3=>xL Uaw 6 K (.exit 0) [.bx 43 [.nl,vS y1],dD,.bx 43 [.own 66 y2,vS y3]])
abbrev Ujy (n:Nat):Orc R:=oL Uaw (UsE n) n 6 Uj4 Uc7 (Ug5 n n) oN
abbrev Ujv (n:Nat):Orc R:=oC Uaw (UsE n) 18 UhZ UfX (UiJ n) (oC Uaw (UsE n) 15 UhY UfW (UiI n) (oC Uaw (UsE n) 14 UhX UfV (UiH n) (oC Uaw (UsE n) 12 UhW UfU (UiG n) oN)))
abbrev Usn (R:Type) (n:Nat):=JcH (R:=R) Tryz.prog (UkF n) Uaw n (152,[]) (Ujy n) (Ujv n)
theorem Un6 (n:Nat):Usn R n (true,12,UhW):=JkW (lo:=Ujy n) (cu:=Ujv n) (pO pN (by kernel_rfl)) UfU (UiG n) (fun K _ _ _ _ _ _ _ _ _=>by show _=_; kernel_rfl) fun _ _=>rfl
theorem Un9 (n:Nat):Usn R n (true,18,UhZ):=JkW (lo:=Ujy n) (cu:=Ujv n) (pO (pC (Un6 n) pN) (by kernel_rfl)) UfX (UiJ n) (fun K _ _ _ _ _ _ _ _ _ _=>by show _=_; kernel_rfl) fun _ _=>rfl
theorem Un8 (n:Nat):Usn R n (true,15,UhY):=JkW (lo:=Ujy n) (cu:=Ujv n) (pO (pC (Un9 n) pN) (by kernel_rfl)) UfW (UiI n) (fun K _ _ _ _ _ _ _ _ _ _=>by show _=_; kernel_rfl) fun _ _=>rfl
theorem Un7 (n:Nat):Usn R n (true,14,UhX):=JkW (lo:=Ujy n) (cu:=Ujv n) (pO (pC (Un8 n) pN) (by kernel_rfl)) UfV (UiH n) (fun K _ _ _ _ _ _ _ _ _=>by show _=_; kernel_rfl) fun _ _=>rfl
theorem UrM (n:Nat):Usn R n (false,6,Uj4):=JkF (lo:=Ujy n) (cu:=Ujv n) (pO (pC (Un7 n) pN) (by kernel_rfl)) Uc7 (Ug5 n n) (JiE (F:=Ug5 n) Uc7 (Uqu n) (fun K _ _ _ _ _ _ _ _ _=>rfl) (fun _ _=>rfl) (fun L K _ _ _ _ _ _ _ _ _=>by show _=_; kernel_rfl) n) fun _ _=>rfl
theorem Uxr (n:Nat):Je6 (Usn R n) (JaJ Uaw (Jll Tryz.f114)):=pO (pC (UrM n) pN) (by kernel_rfl)
abbrev UxO:Sl (List SV):=(.c (sP (JlI (.c sSh (.c Jly .n)))) (.c (sP (JlI (.c sSh (.c Jly .n)))) .n))
abbrev f114 (n:Nat) (K:List SV→O R):UxO.T (O R):=fun x1 x2 x3 x4=>UvU n x1 x2 x3 x4 (fun y1 y2 y3=>K [.p (.agg [.sh y1,.v (.string y2)]),vI y3])
abbrev Ut0 (n:Nat):FS:=fT [false,false] UxO (f114 n)
theorem UwQ (n:Nat):FSound Tryz.prog GI 114 (Ut0 n):=gd Uaw n (Uit n) Tryz.func114 (.cons (Uit n) UxO (f114 n) (fun K _ _ _ _=>(Jkq (c:=Jll Tryz.f114) (by kernel_rfl) (Uxr n) K).trans (by kernel_rfl)) .nil) (by kernel_rfl)
def Uqf:Ann:={ loops:=[],cuts:=[],frz:=[],rm:=[.id,.id] }
abbrev UtC (n:Nat):Env:=eC 114 (Ut0 n) (eC 52 (Ust n) eN)
theorem Ulm (n:Nat):EnvOK Tryz.prog GI (UtC n):=.cons (.cons (.nil) (UuA n)) (UwQ n)
def p75 (n:Nat) (x1:LP) (x2:ByteArray) (x3:LP) (x4:ByteArray) (k0:LP→ByteArray→Int→O R):O R :=
 p52 n x1 x2 (fun y5=>bif (y5 != 0) then (k0 [] ByteArray.empty 3) else (p52 n x3 x4 (fun y6=>bif (bif false then true else (y6 != 0)) then (k0 [] ByteArray.empty 3) else (UvU n x1 x2 x3 x4 (fun y7 y8 y9=>k0 y7 y8 y9)))))
abbrev UAH (n:Nat):Orc R:=oN
abbrev UAc (n:Nat):Orc R:=oN
abbrev K75 (R:Type) (n:Nat):=JcH (R:=R) Tryz.prog (UtC n) Uqf n (20,[]) (UAH n) (UAc n)
theorem UBU (n:Nat):Je6 (K75 R n) (JaJ Uqf (Jll Tryz.f75)):=pO pN (by kernel_rfl)
abbrev t75:Sl (List SV):=(.c (sP (JlI (.c sSh (.c Jly .n)))) (.c (sP (JlI (.c sSh (.c Jly .n)))) .n))
abbrev f75 (n:Nat) (K:List SV→O R):t75.T (O R):=fun x1 x2 x3 x4=>p75 n x1 x2 x3 x4 (fun y1 y2 y3=>K [.p (.agg [.sh y1,.v (.string y2)]),vI y3])
abbrev UyW (n:Nat):FS:=fT [false,false] t75 (f75 n)
theorem UB (n:Nat):FSound Tryz.prog GI 75 (UyW n):=gd Uqf n (Ulm n) Tryz.func75 (.cons (Ulm n) t75 (f75 n) (fun K _ _ _ _=>(Jkq (c:=Jll Tryz.f75) (by kernel_rfl) (UBU n) K).trans (by kernel_rfl)) .nil) (by kernel_rfl)
end
end Go.Proofs.YtmgfmlhdnadglaaGreatDoor
set_option linter.unusedVariables false
set_option linter.unusedSimpArgs false
namespace Go.Proofs.YtmgfmlhdnadglaaGreatDoor
open Go Th Go.Proofs
variable {R:Type}
noncomputable def aQ (l:List TermT):Bool:=l.all fun t=>qb t.2
def inC (c:Int):Bool:=decide (0≤c)&&decide (c<2048)
def aC (l:List TermT):Bool:=l.all fun t=>inC t.1
def aO:Int→List TermT→Bool
 | _,[]=>true
 | last,t::r=>if t.2=[48] then false else if t.1≤last then false else aO t.1 r
noncomputable def UgJ (l:List TermT) (c:List UInt8):Int:=if qb c=true then (if aQ l=true then (if aC l=true then (if aO (-1) l=true then 0 else 3) else 2) else 3) else 3
theorem Ugp:∀ {l:List TermT} {last:Int},-1≤last→(okT 2048 last l=true↔(aQ l=true∧aC l=true∧aO last l=true))
 | [],last,_=>by simp [okT,aQ,aC,aO]
 | t::l,last,h=>by
  have ih:=fun (h':-1≤t.1)=>Ugp (l:=l) (last:=t.1) h'
  simp only [okT,aQ,aC,aO,List.all_cons,Bool.and_eq_true] at ih ⊢
  by_cases h1:t.1≤last
  · simp [h1]
  · have h1':=ih (by omega)
    have e0:inC t.1=decide (t.1<2048):=by
     unfold inC
     rw [decide_eq_true (by omega:0≤t.1),Bool.true_and]
    by_cases h2:t.1≥2048
    · have e1:inC t.1=false:=by rw [e0]; simp; omega
      simp [h1,h2,e1]
    · have e1:inC t.1=true:=by rw [e0]; simp; omega
      by_cases h3:t.2=[48]
      · simp [h1,h2,h3]
      · rw [if_neg h1,if_neg h2,if_neg h3,if_neg h3,if_neg h1,Bool.and_eq_true,h1',e1]
        grind
theorem Ugn {l:List TermT} {c:List UInt8}:UgJ l c=0↔(okT 2048 (-1) l=true∧qb c=true):=by
 rw [Ugp (by omega)]
 unfold UgJ
 cases qb c <;> cases aQ l <;> cases aC l <;> cases aO (-1) l <;> simp
theorem UpJ (n:Nat) (x:Int) (k0:Bool→Option R):p80 n x k0=k0 (inC x):=by
 unfold p80 inC
 by_cases h:x≥0
 · have e:decide (x≥0)=true:=decide_eq_true h
   rw [e]; rfl
 · have e:decide (x≥0)=false:=decide_eq_false h
   rw [e]; rfl
theorem UqI (n:Nat) (l:List TermT) (hn:l.length<n) (hl:l.length<2 ^ 17) (k0:Int→Option R) (k1:Option R):UdY n (-1) (tms l) ((tms l).length:Int) 0 k0 k1=if aO (-1) l=true then k1 else k0 3:=by
 unfold UdY
 have key:∀ (r:List TermT) (last:Int),Usz (fun (s:Int) (t:TermT) K=>if t.2=[48] then k0 3 else if t.1≤s then k0 3 else K t.1) (fun _=>k1) last r=if aO last r=true then k1 else k0 3:=by
  intro r
  induction r with
  | nil=>intro last; rfl
  | cons t r ih =>
   intro last
   simp only [Usz,aO]
   by_cases h1:t.2=[48]
   · simp [h1]
   · by_cases h2:t.1≤last
     · simp [h1,h2]
     · simp [h1,h2,ih]
 have h:=Uht (R:=R) (l:=l) (step:=fun (s:Int) (t:TermT) K=>if t.2=[48] then k0 3 else if t.1≤s then k0 3 else K t.1) (kend:=fun _=>k1)
  (fun m s i=>UbE n m s (tms l) ((tms l).length:Int) (i:Int) k0 k1)
  (fun m s=>by simp only [UbE,UdB]; simp (disch:=(first | omega | (simp only [JlE]; omega))) only [↓JlH,JlF,Ua])
  (fun m s i hi=>by
    simp only [UbE,UdB]
    by_cases h1:(l[i]).2=[48]
    · simp (disch:=(first | omega | (simp only [JlE]; omega))) only [↓JlH,JlF,Ua,Jji,UaB hi,i1,Unx h1]
    · by_cases h2:(l[i]).1≤s
      · simp (disch:=(first | omega | (simp only [JlE]; omega))) only [↓JlH,JlF,Ua,Jji,UaB hi,i1,UjV h1]
      · simp (disch:=(first | omega | (simp only [JlE]; omega))) only [↓JlH,JlF,Ua,Jji,UaB hi,i1,UjV h1]) l.length n 0 (-1) (by omega) (by omega)
 rw [List.drop_zero,key] at h
 exact h
theorem UeX (n:Nat) (hn:10 ^ 400≤n) (l:List TermT) (c:List UInt8) (hl:smT l) (hc:c.length<2 ^ 17) (k0:Int→Option R):p52 n (tms l) (bs c) k0=k0 (UgJ l c):=by
 have hN:=UaU hn
 have hL:=hl.1
 have e3:=UqI (R:=R) n l (by omega) hL k0 (k0 0)
 have h4:=Uam (R:=R) (l:=l) (ok:=fun t=>qb t.2) (kbad:=k0 3) (kend:=if aC l=true then (if aO (-1) l=true then k0 0 else k0 3) else k0 2)
  (fun m i=>UcR n m (tms l) (bs c) (tms l) ((tms l).length:Int) (i:Int) (fun y4 y5 y6=>k0 y6) (fun y7 y8=>Uhm n y7 y8 y7 ((y7).length:Int) 0 (fun y9 y10 y11=>k0 y11) (fun y12 y13=>UdY n (-1) y12 ((y12).length:Int) 0 (fun y14=>k0 y14) (k0 0))))
  (fun m=>by
    have h10:=Uam (R:=R) (l:=l) (ok:=fun t=>inC t.1) (kbad:=k0 2) (kend:=if aO (-1) l=true then k0 0 else k0 3)
     (fun m i=>UbD n m (tms l) (bs c) (tms l) ((tms l).length:Int) (i:Int) (fun y9 y10 y11=>k0 y11) (fun y12 y13=>UdY n (-1) y12 ((y12).length:Int) 0 (fun y14=>k0 y14) (k0 0)))
     (fun m=>by
       simp only [UbD,UdA]
       simp (disch:=(first | omega | (simp only [JlE]; omega))) only [↓JlH,JlF,Ua]
       rw [Ua] at e3
       exact e3)
     (fun m i hi=>by
       have hv:=fun k=>UpJ (R:=R) n (l[i]).1 k
       simp only [UbD,UdA]
       simp (disch:=(first | omega | (simp only [JlE]; omega))) only [↓JlH,JlF,Ua,Jji,UaB hi,i1,hv]
       cases inC (l[i]).1 <;> rfl) l.length n 0 (by omega) (by omega)
    rw [List.drop_zero] at h10
    simp only [UcR,UfA]
    unfold Uhm
    simp (disch:=(first | omega | (simp only [JlE]; omega))) only [↓JlH,JlF,Ua]
    rw [Ua] at h10
    exact h10)
  (fun m i hi=>by
    have hv:=fun k=>Ubq (R:=R) n hn (l[i]).2 (hl.2 _ (List.getElem_mem hi)) k
    simp only [UcR,UfA]
    simp (disch:=(first | omega | (simp only [JlE]; omega))) only [↓JlH,JlF,Ua,Jji,UaB hi,i1,hv]
    cases qb (l[i]).2 <;> rfl) l.length n 0 (by omega) (by omega)
 rw [List.drop_zero] at h4
 unfold p52
 rw [Ubq n hn c hc]
 unfold UgJ UpD
 cases qb c with
 | false=>rfl
 | true =>
  refine Eq.trans h4 ?_
  unfold aQ
  cases (l.all fun t=>qb t.2) <;> cases aC l <;> cases aO (-1) l <;> rfl
theorem UfQ {q:Rat} (h:fits q):(Uaa q).length<2 ^ 17:=Nat.lt_of_le_of_lt (UaR h) (by decide)
theorem Uvt {cols:Int} {l:List SpT} (h:okN cols l) (hl:l.length<2 ^ 17):smT (vt l):=by
 refine ⟨by rw [Ual]; exact hl,fun t ht=>?_⟩
 unfold vt at ht
 obtain ⟨x,hx,rfl⟩:=List.mem_map.1 ht
 exact UfQ (h x hx).2.1
theorem UjS {cols:Int}:∀ {l:List SpT} {a:Int},asc a l→okN cols l→a<cols→(l.length:Int)≤cols - a - 1
 | [],a,_,_,h=>by simp only [List.length_nil]; omega
 | t::l,a,h1,h2,h=>by
  have h3:=(h2 t (List.mem_cons_self ..)).2.2
  have:=UjS h1.2 (fun x hx=>h2 x (List.mem_cons_of_mem _ hx)) h3
  have:=h1.1
  rw [List.length_cons]
  omega
theorem UaS {l:List SpT} (h:okS 2048 l):l.length≤2048:=by
 have:=UjS h.1 h.2 (by decide)
 omega
theorem Ub7 (n:Nat) (hn:10 ^ 400≤n) {r:SpR} (hr:okF 2048 r) (k0:Int→Option R):p52 n (tms (vt r.1)) (bs (Uaa r.2)) k0=k0 0:=by
 have:=UaS hr.1
 rw [UeX n hn (vt r.1) (Uaa r.2) (Uvt hr.1.2 (by omega)) (UfQ hr.2),Ugn.2 ⟨Uj hr.1.1 hr.1.2,Ucd hr.2⟩]
noncomputable def Udi (cols:Int) (l:List TermT):Bool:=okT cols (-1) l
theorem Ui9 {cols:Int} (hc:cols≤2048):∀ {l:List TermT} {last:Int},okT cols last l=true↔((l.all fun t=>decide (t.1<cols))=true∧okT 2048 last l=true)
 | [],last=>by simp [okT]
 | t::l,last=>by
  have ih:=Ui9 hc (l:=l) (last:=t.1)
  simp only [okT,List.all_cons,Bool.and_eq_true]
  by_cases h1:t.1≤last
  · simp [h1]
  · by_cases h2:t.1≥cols
    · have:¬ t.1<cols:=by omega
      simp [h1,h2,this]
    · have h3:¬ t.1≥2048:=by omega
      have h4:t.1<cols:=by omega
      by_cases h5:t.2=[48]
      · simp [h1,h5]
      · rw [if_neg h1,if_neg h1,if_neg h2,if_neg h3,if_neg h5,if_neg h5,Bool.and_eq_true,Bool.and_eq_true,ih,decide_eq_true h4]
        grind
theorem UzA:qb [48]=true:=by rw [←Uea]; exact Ucd Ud9
theorem UnD (n:Nat) (hn:10 ^ 400≤n) (cols:Int) (hcol:cols≤2048) (l:List TermT) (hl:smT l) (k0:Bool→Option R):p76 n cols (tms l) k0=k0 (Udi cols l):=by
 have hN:=UaU hn
 have hL:=hl.1
 have hc:=fun k=>UeX (R:=R) n hn l [48] hl (by decide) k
 have hc':∀ k:Int→Option R,p52 n (tms l) (⟨#[48]⟩:ByteArray) k=k (UgJ l [48]):=hc
 unfold p76 UpI
 have h:=Uam (R:=R) (l:=l) (ok:=fun t=>decide (t.1<cols)) (kbad:=k0 false) (kend:=k0 (UgJ l [48] == 0))
  (fun m i=>UcW n m cols (tms l) (tms l) ((tms l).length:Int) (i:Int) (fun y3 y4=>k0 y4) (fun y5=>p52 n y5 ⟨#[48]⟩ (fun y6=>k0 (y6 == 0))))
  (fun m=>by simp only [UcW,UfH]; simp (disch:=(first | omega | (simp only [JlE]; omega))) only [↓JlH,JlF,Ua,hc])
  (fun m i hi=>by
    simp only [UcW,UfH]
    by_cases h1:(l[i]).1<cols
    · simp (disch:=(first | omega | (simp only [JlE]; omega))) only [↓JlH,JlF,Ua,Jji,UaB hi,i1]
    · simp (disch:=(first | omega | (simp only [JlE]; omega))) only [↓JlH,JlF,Ua,Jji,UaB hi,i1]
      simp [h1]) l.length n 0 (by omega) (by omega)
 rw [List.drop_zero] at h
 refine Eq.trans h ?_
 unfold Udi
 have e1:(UgJ l [48] == 0)=okT 2048 (-1) l:=by
  rw [Bool.eq_iff_iff,beq_iff_eq,Ugn,UzA]
  simp
 have e2:=Ui9 hcol (l:=l) (last:=-1)
 rw [e1]
 cases h3:(l.all fun t=>decide (t.1<cols)) with
 | true =>
  rw [h3] at e2
  rw [if_pos rfl]
  congr 1
  rw [Bool.eq_iff_iff,e2]; simp
 | false =>
  rw [h3] at e2
  rw [if_neg (by decide)]
  congr 1
  symm
  rw [Bool.eq_false_iff]
  intro h4
  cases (e2.1 h4).1
end Go.Proofs.YtmgfmlhdnadglaaGreatDoor
set_option linter.unusedVariables false
set_option maxRecDepth 100000
namespace Go.Proofs.YtmgfmlhdnadglaaGreatDoor
open Go Th Go.Proofs
noncomputable section
variable {R:Type}
def UeO:Ann:={ loops:=[(3,ids [1,2,4,6,13,14],ids [4,5,6])],cuts:=[],frz:=[],rm:=[.id,.id] }
abbrev UqY (n:Nat):Env:=eC 75 (UyW n) (eC 74 (UyV n) eN)
theorem Uk0 (n:Nat):EnvOK Tryz.prog GI (UqY n):=.cons (.cons (.nil) (UA9 n)) (UB n)
def Ufu (n:Nat) (l0:LP→Int→LP→ByteArray→LP→ByteArray→Int→Int→O R) (x1:LP) (x2:Int) (x3:LP) (x4:ByteArray) (x5:LP) (x6:ByteArray) (x7 x8:Int) (k0:LP→ByteArray→Int→LP→ByteArray→O R) (k1:ByteArray→LP→ByteArray→O R):O R :=
 bif (decide (x8<x7)) then (bif (inR x8 ((x1).length)) then (Jj3 ((x1).getD ((x8:Int).toNat) (.v (.bool false))) fun e9=>bif (eqS e9 (⟨#[48]⟩:ByteArray)) then (l0 x1 x2 x3 x4 x5 x6 x7 (IntKind.i64.wrap (x8 + 1))) else (bif (inR x8 ((x3).length)) then (Jh2 ((x3).getD ((x8:Int).toNat) (.v (.bool false))) fun a10=>JdT a10 fun h11 t12=>Jkr h11 fun e13=>JdT t12 fun h14 t15=>Jj3 h14 fun e16=>JdT t15 fun h17 t18=>Jj2 h17 fun e19=>JdT t18 fun h20 t21=>Jj .i64 h20 fun e22=>Ji2 t21 (bif (inR x8 ((x3).length)) then (Jh2 ((x3).getD ((x8:Int).toNat) (.v (.bool false))) fun a23=>JdT a23 fun h24 t25=>Jkr h24 fun e26=>JdT t25 fun h27 t28=>Jj3 h27 fun e29=>JdT t28 fun h30 t31=>Jj2 h30 fun e32=>JdT t31 fun h33 t34=>Jj .i64 h33 fun e35=>Ji2 t34 (bif (inR x8 ((x1).length)) then (Jj3 ((x1).getD ((x8:Int).toNat) (.v (.bool false))) fun e36=>p74 n e13 e29 e36 (fun y37 y38 y39=>bif (y39 != 0) then (k0 [] ByteArray.empty y39 x5 x6) else (p75 n x5 x6 y37 y38 (fun y40 y41 y42=>bif (y42 != 0) then (k0 [] ByteArray.empty y42 y40 y41) else (l0 x1 x2 x3 x4 y40 y41 x7 (IntKind.i64.wrap (x8 + 1))))))) else none)) else none)) else none)) else none) else (k1 x4 x5 x6)
def UcL (n:Nat):Nat→LP→Int→LP→ByteArray→LP→ByteArray→Int→Int→(LP→ByteArray→Int→LP→ByteArray→O R)→(ByteArray→LP→ByteArray→O R)→O R
 | 0,_,_,_,_,_,_,_,_,_,_=>none
 | m + 1,x1,x2,x3,x4,x5,x6,x7,x8,k0,k1=>Ufu n (fun x1 x2 x3 x4 x5 x6 x7 x8=>UcL n m x1 x2 x3 x4 x5 x6 x7 x8 k0 k1) x1 x2 x3 x4 x5 x6 x7 x8 k0 k1
def Upz (n:Nat) (x1:LP) (x2:Int) (x3:LP) (x4:ByteArray) (x5:LP) (x6:ByteArray) (x7 x8:Int) (k0:LP→ByteArray→Int→LP→ByteArray→O R) (k1:ByteArray→LP→ByteArray→O R):O R:=UcL n n x1 x2 x3 x4 x5 x6 x7 x8 k0 k1
def p30 (n:Nat) (x1:Int) (x2 x3:LP) (k0:LP→ByteArray→Int→O R):O R :=
 Upz n x3 x1 x2 ByteArray.empty [] ⟨#[48]⟩ ((x2).length:Int) 0 (fun y4 y5 y6 y7 y8=>k0 y4 y5 y6) (fun y9 y10 y11=>k0 y10 y11 0)
abbrev E30 (n:Nat):Code→Fr→Kc R→O R:=evC Tryz.prog (UqY n) UeO n (59,[])
noncomputable def UoG:Code:=Jj4 (Jll Tryz.f30) [1,1,0,1,0,0]
abbrev Uev:Sl (List SV):=(cH (.c (sBx 24 (cI (cH .n))) (.c (sBx 43 (.c sNl (cS .n))) (.c (sBx 43 (cH (cS .n))) (cI (cI .n))))))
abbrev UlP (n m:Nat) (K:Kc R):Uev.T (O R):=fun x1 x2 x3 x4 x5 x6 x7 x8=>UcL n m x1 x2 x3 x4 x5 x6 x7 x8 (fun y1 y2 y3 y4 y5=>xL UeO 3 K .ret [.bx 43 [vH y1,vS y2],vI y3,.bx 43 [vH y4,vS y5]]) (fun y1 y2 y3=>xL UeO 3 K (.exit 0) [.bx 43 [.nl,vS y1],dD,.bx 43 [vH y2,vS y3]])
abbrev UsQ (n:Nat) (K:Kc R) (l0:Uev.T (O R)):Uev.T (O R):=fun x1 x2 x3 x4 x5 x6 x7 x8=>Ufu n l0 x1 x2 x3 x4 x5 x6 x7 x8 (fun y1 y2 y3 y4 y5=>xL UeO 3 K .ret [.bx 43 [vH y1,vS y2],vI y3,.bx 43 [vH y4,vS y5]]) (fun y1 y2 y3=>xL UeO 3 K (.exit 0) [.bx 43 [.nl,vS y1],dD,.bx 43 [vH y2,vS y3]])
abbrev Uy9 (n:Nat):Orc R:=oL UeO (E30 n) n 3 UoG Uev (UlP n n) oN
abbrev Uyi (n:Nat):Orc R:=oN
abbrev K30 (R:Type) (n:Nat):=JcH (R:=R) Tryz.prog (UqY n) UeO n (59,[]) (Uy9 n) (Uyi n)
theorem UuV (n:Nat):K30 R n (false,3,UoG):=JkF (lo:=Uy9 n) (cu:=Uyi n) (pO pN (by kernel_rfl)) Uev (UlP n n) (JiE (F:=UlP n) Uev (UsQ n) (fun K _ _ _ _ _ _ _ _=>rfl) (fun _ _=>rfl) (fun L K _ _ _ _ _ _ _ _=>by show _=_; kernel_rfl) n) fun _ _=>rfl
theorem UBx (n:Nat):Je6 (K30 R n) (JaJ UeO (Jll Tryz.f30)):=pO (pC (UuV n) pN) (by kernel_rfl)
abbrev t30:Sl (List SV):=(.c (sP (JlI (.c (Jlv .i64) (.c sSh .n)))) (cH .n))
abbrev f30 (n:Nat) (K:List SV→O R):t30.T (O R):=fun x1 x2 x3=>p30 n x1 x2 x3 (fun y1 y2 y3=>K [.p (.agg [.sh y1,.v (.string y2)]),vI y3])
abbrev UvH (n:Nat):FS:=fT [false,false] t30 (f30 n)
theorem Uw8 (n:Nat):FSound Tryz.prog GI 30 (UvH n):=gd UeO n (Uk0 n) Tryz.func30 (.cons (Uk0 n) t30 (f30 n) (fun K _ _ _=>(Jkq (c:=Jll Tryz.f30) (by kernel_rfl) (UBx n) K).trans (by kernel_rfl)) .nil) (by kernel_rfl)
def Ujq:Ann:={ loops:=[],cuts:=[(3,ids [1,2,4],ids [4,5])],frz:=[],rm:=[.id,.id] }
abbrev UqV (n:Nat):Env:=eC 66 (Uws n) (eC 65 (UvL n) (eC 30 (UvH n) eN))
theorem UkW (n:Nat):EnvOK Tryz.prog GI (UqV n):=.cons (.cons (.cons (.nil) (Uw8 n)) (Uxb n)) (Uzs n)
def Upw (n:Nat) (x1:LP) (x2:Int) (x3:LP) (x4:ByteArray) (k0:LP→ByteArray→Int→O R):O R :=
 bif (((x1).length:Int) != ((x3).length:Int)) then (k0 [] ByteArray.empty 6) else (p30 n x2 x3 x1 (fun y5 y6 y7=>k0 y5 y6 y7))
def p23 (n:Nat) (x1:Int) (x2 x3:LP) (k0:LP→ByteArray→Int→O R):O R :=
 p65 n x1 x2 (fun y4=>bif (y4 != 0) then (k0 [] ByteArray.empty 3) else (p66 n x3 (fun y5=>bif (bif false then true else (!y5)) then (k0 [] ByteArray.empty 3) else (Upw n x3 x1 x2 ByteArray.empty (fun y6 y7 y8=>k0 y6 y7 y8)))))
abbrev E23 (n:Nat):Code→Fr→Kc R→O R:=evC Tryz.prog (UqV n) Ujq n (27,[])
noncomputable def UoB:Code:=Jj4 (Jll Tryz.f23) [1,1]
abbrev UmX:Sl (List SV):=(cH (.c (sBx 24 (cI (cH .n))) (.c (sBx 43 (.c sNl (cS .n))) .n)))
abbrev Upc (n:Nat) (K:Kc R):UmX.T (O R):=fun x1 x2 x3 x4=>Upw n x1 x2 x3 x4 (fun y1 y2 y3=>xC Ujq 3 K .ret [.bx 43 [vH y1,vS y2],vI y3])
abbrev Uy7 (n:Nat):Orc R:=oN
abbrev Uyg (n:Nat):Orc R:=oC Ujq (E23 n) 3 UoB UmX (Upc n) oN
abbrev K23 (R:Type) (n:Nat):=JcH (R:=R) Tryz.prog (UqV n) Ujq n (27,[]) (Uy7 n) (Uyg n)
theorem UuQ (n:Nat):K23 R n (true,3,UoB):=JkW (lo:=Uy7 n) (cu:=Uyg n) (pO pN (by kernel_rfl)) UmX (Upc n) (fun K _ _ _ _=>by show _=_; kernel_rfl) fun _ _=>rfl
theorem UBt (n:Nat):Je6 (K23 R n) (JaJ Ujq (Jll Tryz.f23)):=pO (pC (UuQ n) pN) (by kernel_rfl)
abbrev t23:Sl (List SV):=(.c (sP (JlI (.c (Jlv .i64) (.c sSh .n)))) (cH .n))
abbrev f23 (n:Nat) (K:List SV→O R):t23.T (O R):=fun x1 x2 x3=>p23 n x1 x2 x3 (fun y1 y2 y3=>K [.p (.agg [.sh y1,.v (.string y2)]),vI y3])
abbrev UyG (n:Nat):FS:=fT [false,false] t23 (f23 n)
theorem UAU (n:Nat):FSound Tryz.prog GI 23 (UyG n):=gd Ujq n (UkW n) Tryz.func23 (.cons (UkW n) t23 (f23 n) (fun K _ _ _=>(Jkq (c:=Jll Tryz.f23) (by kernel_rfl) (UBt n) K).trans (by kernel_rfl)) .nil) (by kernel_rfl)
def UeP:Ann:={ loops:=[(2,ids [1,2,8,9],ids [4])],cuts:=[],frz:=[],rm:=[.id] }
abbrev UqZ (n:Nat):Env:=eC 19 (Upl n) eN
theorem Uk1 (n:Nat):EnvOK Tryz.prog GI (UqZ n):=.cons (.nil) (Urw n)
def Ufv (n:Nat) (l0:LP→Int→LP→Int→Int→O R) (x1:LP) (x2:Int) (x3:LP) (x4 x5:Int) (k0:Bool→O R) (k1:O R):O R :=
 bif (decide (x5<x4)) then (bif (inR x5 ((x3).length)) then (Jh2 ((x3).getD ((x5:Int).toNat) (.v (.bool false))) fun a6=>JdT a6 fun h7 t8=>Jkr h7 fun e9=>JdT t8 fun h10 t11=>Jj3 h10 fun e12=>JdT t11 fun h13 t14=>Jj2 h13 fun e15=>JdT t14 fun h16 t17=>Jj .i64 h16 fun e18=>Ji2 t17 (bif (!e15) then (bif (inR x5 ((x1).length)) then (Jj3 ((x1).getD ((x5:Int).toNat) (.v (.bool false))) fun e19=>p19 n e19 ⟨#[48]⟩ (fun y20=>bif (bif true then (decide (y20<0)) else false) then (k0 false) else (l0 x1 x2 x3 x4 (IntKind.i64.wrap (x5 + 1))))) else none) else (l0 x1 x2 x3 x4 (IntKind.i64.wrap (x5 + 1))))) else none) else (k1)
def UcM (n:Nat):Nat→LP→Int→LP→Int→Int→(Bool→O R)→(O R)→O R
 | 0,_,_,_,_,_,_,_=>none
 | m + 1,x1,x2,x3,x4,x5,k0,k1=>Ufv n (fun x1 x2 x3 x4 x5=>UcM n m x1 x2 x3 x4 x5 k0 k1) x1 x2 x3 x4 x5 k0 k1
def UpA (n:Nat) (x1:LP) (x2:Int) (x3:LP) (x4 x5:Int) (k0:Bool→O R) (k1:O R):O R:=UcM n n x1 x2 x3 x4 x5 k0 k1
def p31 (n:Nat) (x1:Int) (x2 x3:LP) (k0:Bool→O R):O R :=
 UpA n x3 x1 x2 ((x2).length:Int) 0 (fun y4=>k0 y4) (k0 true)
abbrev E31 (n:Nat):Code→Fr→Kc R→O R:=evC Tryz.prog (UqZ n) UeP n (28,[])
noncomputable def UoH:Code:=Jj4 (Jll Tryz.f31) [1,0,1,0,0]
abbrev Uew:Sl (List SV):=(cH (.c (sBx 24 (cI (cH .n))) (cI (cI .n))))
abbrev UlQ (n m:Nat) (K:Kc R):Uew.T (O R):=fun x1 x2 x3 x4 x5=>UcM n m x1 x2 x3 x4 x5 (fun y1=>xL UeP 2 K .ret [vB y1]) (xL UeP 2 K (.exit 0) [dD])
abbrev UsR (n:Nat) (K:Kc R) (l0:Uew.T (O R)):Uew.T (O R):=fun x1 x2 x3 x4 x5=>Ufv n l0 x1 x2 x3 x4 x5 (fun y1=>xL UeP 2 K .ret [vB y1]) (xL UeP 2 K (.exit 0) [dD])
abbrev Uz (n:Nat):Orc R:=oL UeP (E31 n) n 2 UoH Uew (UlQ n n) oN
abbrev Uyj (n:Nat):Orc R:=oN
abbrev K31 (R:Type) (n:Nat):=JcH (R:=R) Tryz.prog (UqZ n) UeP n (28,[]) (Uz n) (Uyj n)
theorem UuW (n:Nat):K31 R n (false,2,UoH):=JkF (lo:=Uz n) (cu:=Uyj n) (pO pN (by kernel_rfl)) Uew (UlQ n n) (JiE (F:=UlQ n) Uew (UsR n) (fun K _ _ _ _ _=>rfl) (fun _ _=>rfl) (fun L K _ _ _ _ _=>by show _=_; kernel_rfl) n) fun _ _=>rfl
theorem UBy (n:Nat):Je6 (K31 R n) (JaJ UeP (Jll Tryz.f31)):=pO (pC (UuW n) pN) (by kernel_rfl)
abbrev t31:Sl (List SV):=(.c (sP (JlI (.c (Jlv .i64) (.c sSh .n)))) (cH .n))
abbrev f31 (n:Nat) (K:List SV→O R):t31.T (O R):=fun x1 x2 x3=>p31 n x1 x2 x3 (fun y1=>K [vB y1])
abbrev Uwn (n:Nat):FS:=fT [false,false] t31 (f31 n)
theorem Uzn (n:Nat):FSound Tryz.prog GI 31 (Uwn n):=gd UeP n (Uk1 n) Tryz.func31 (.cons (Uk1 n) t31 (f31 n) (fun K _ _ _=>(Jkq (c:=Jll Tryz.f31) (by kernel_rfl) (UBy n) K).trans (by kernel_rfl)) .nil) (by kernel_rfl)
end
end Go.Proofs.YtmgfmlhdnadglaaGreatDoor
set_option linter.unusedVariables false
set_option linter.unusedSimpArgs false
namespace Go.Proofs.YtmgfmlhdnadglaaGreatDoor
open Go Th Go.Proofs
variable {R:Type}
theorem Uuv:((5:Int) != 0)=true:=rfl
theorem Ug:((0:Int) != 0)=false:=rfl
theorem Uav {l:List SpT} {i:Nat} {d:PV} (h:i<l.length) (K:Int→ByteArray→Option R) :
 (Jh2 ((tms (vt l)).getD i d) fun a=>JdT a fun h1 t1=>Jj .i64 h1 fun e1=>JdT t1 fun h2 t2=>Jj3 h2 fun e2=>Ji2 t2 (K e1 e2))=K ((l[i]).1:Int) (bs (Uaa (l[i]).2)):=by
 rw [UaB (by rw [Ual]; exact h),UpP]
theorem Udg (acc:List SpT) (k:Nat) (y:Rat):tms (vt acc)++[.agg [.v (.int .i64 (k:Int)),.v (.string (bs (Uaa y)))]]=tms (vt (acc++[(k,y)])):=by
 unfold tms vt
 rw [List.map_append,List.map_append]; rfl
theorem UAk (q:Rat):eqS (bs (Uaa q)) (⟨#[48]⟩:ByteArray)=decide (q=0):=by
 rw [e48,Bool.eq_iff_iff,decide_eq_true_iff,decide_eq_true_iff,Uen]
noncomputable def Unk (k0:List PV→ByteArray→Int→Option R):Option SpR→Option R
 | none=>k0 [] (bs []) 5
 | some x=>k0 (tms (vt x.1)) (bs (Uaa x.2)) 0
open Classical in
noncomputable def scS (q:Rat) (acc:List SpT) (t:SpT):Option (List SpT):=if fits (t.2 * q) then some (acc++[(t.1,t.2 * q)]) else none
theorem UmU (q:Rat):∀ (l acc:List SpT),Uao (scS q) acc l=(scO q l).map (acc++·)
 | [],acc=>by simp [Uao,scO]
 | t::l,acc=>by
  rw [Uao,scS]
  by_cases h:fits (t.2 * q)
  · rw [if_pos h,Option.bind_some,UmU q l]
    unfold scO
    by_cases h2:∀ x∈l,fits (x.2 * q)
    · rw [if_pos h2,if_pos (by intro x hx; rcases List.mem_cons.1 hx with rfl | hx; exact h; exact h2 x hx)]
      simp
    · rw [if_neg h2,if_neg (fun h3=>h2 fun x hx=>h3 x (List.mem_cons_of_mem _ hx))]; rfl
  · rw [if_neg h]
    unfold scO
    rw [if_neg (fun h3=>h (h3 t (List.mem_cons_self ..)))]; rfl
theorem Umd (n:Nat) (hn:10 ^ 1000≤n) {r:SpR} (hr:okF 2048 r) {q:Rat} (hq:fits q) (h0:q≠0) (k0:List PV→ByteArray→Int→Option R) :
 UvT n (tms (vt r.1)) (bs (Uaa r.2)) (bs (Uaa q)) k0=Unk k0 (tmO q r):=by
 have hN:=UaU (Ubu hn)
 have hL:=UaS hr.1
 have hm:=fun (t:Rat) (ht:fits t) k=>Uou (R:=R) n hn t q ht hq k
 unfold UvT
 rw [UAk,decide_eq_false h0,Uag,hm r.2 hr.2]
 unfold tmO
 by_cases hf:fits (r.2 * q)
 · rw [UbF hf,if_pos hf,Ug,Uag]
   have h:=UdG (R:=R) (l:=r.1) (step:=scS q) (kerr:=k0 [] (bs []) 5) (kend:=fun acc=>k0 (tms (vt acc)) (bs (Uaa (r.2 * q))) 0) (Inv:=fun i acc=>acc.length=i)
    (fun m acc i=>Ubx n m (bs (Uaa q)) ByteArray.empty (tms (vt acc)) (bs (Uaa (r.2 * q))) (tms (vt r.1)) ((tms (vt r.1)).length:Int) (i:Int) (fun y6 y7 y8 y9=>k0 [] y6 y7) (fun y10 y11 y12=>k0 y11 y12 0))
    (fun m acc ha=>by simp only [Ubx,Udu]; simp (disch:=(first | omega | (simp only [JlE]; omega))) only [↓JlH,JlF,Ua,Ual])
    (fun acc acc' i hi ha he=>by
      unfold scS at he
      split at he
      · simp only [Option.some.injEq] at he
        rw [←he,List.length_append,ha]; rfl
      · cases he)
    (fun m acc i hi ha=>by
      have hv:=hm (r.1[i]).2 (hr.1.2 _ (List.getElem_mem hi)).2.1
      simp only [Ubx,Udu]
      unfold scS
      by_cases h1:fits ((r.1[i]).2 * q)
      · have hv':∀ k,p21 n (bs (Uaa (r.1[i]).2)) (bs (Uaa q)) k=k (bs (Uaa ((r.1[i]).2 * q))) 0:=fun k=>by rw [hv,UbF h1]
        rw [if_pos h1]
        simp (disch:=(first | omega | (simp only [JlE]; omega))) only [↓JlH,JlF,Ua,Ual,Jji,Uav hi,i1,hv',Ug,Udg]
        rfl
      · have hv':∀ k,p21 n (bs (Uaa (r.1[i]).2)) (bs (Uaa q)) k=k (bs []) 5:=fun k=>by rw [hv]; unfold UgA; rw [if_neg h1]
        rw [if_neg h1]
        simp (disch:=(first | omega | (simp only [JlE]; omega))) only [↓JlH,JlF,Ua,Ual,Jji,Uav hi,i1,hv',Uuv]
        rfl) r.1.length n 0 [] (by omega) (by omega) rfl
   rw [List.drop_zero,UmU] at h
   unfold Umw
   refine Eq.trans h ?_
   cases scO q r.1 <;> rfl
 · unfold UgA
   rw [if_neg hf,if_neg hf]; rfl
theorem Umc (n:Nat) (hn:10 ^ 1000≤n) {r:SpR} (hr:okF 2048 r) {q:Rat} (hq:fits q) (h0:q≠0) (k0:List PV→ByteArray→Int→Option R) :
 p74 n (tms (vt r.1)) (bs (Uaa r.2)) (bs (Uaa q)) k0=Unk k0 (tmO q r):=by
 have hN:=UaU (Ubu hn)
 unfold p74
 rw [Ub7 n (Ubu hn) hr,Ug,Uag,Ubq n (Ubu hn) _ (UfQ hq),Ucd hq]
 exact Umd n hn hr hq h0 k0
theorem UaC (n:Nat) (hn:10 ^ 1000≤n) {a b:List SpT} (ha:okS 2048 a) (hb:okS 2048 b) (x2 x4 x7:ByteArray) (k0:List PV→ByteArray→Int→Option R) (k1:ByteArray→List PV→ByteArray→Option R) :
 ∀ (d m i k:Nat) (acc:List SpT),a.length - i + (b.length - k)=d→i≤a.length→k≤b.length→d<m→acc.length≤i + k →
  Uck n m (tms (vt a)) x2 (tms (vt b)) x4 (bs []) (tms (vt acc)) x7 (i:Int) (k:Int) (fun y7 y8 y9 y10=>k0 [] y7 y8) k1 =
   match Ue (a.drop i) (b.drop k) with
   | none=>k0 [] (bs []) 5
   | some r=>k1 (bs []) (tms (vt (acc++r))) x7
 | d,0,i,k,acc,hd,hi,hk,hm,hl=>by omega
 | d,m + 1,i,k,acc,hd,hi,hk,hm,hl=>by
  have la:=UaS ha
  have lb:=UaS hb
  have hN:=UaU (Ubu hn)
  simp only [Uck,Ufj]
  by_cases hi':i<a.length
  · have hda:=UaL hi'
    by_cases hk':k<b.length
    · have hdb:=UaL hk'
      have e1:((k:Int) == (b.length:Int))=false:=by simp; omega
      have e2:((i:Int) == (a.length:Int))=false:=by simp; omega
      by_cases hlt:(a[i]).1<(b[k]).1
      · have ih:=UaC n hn ha hb x2 x4 x7 k0 k1 (d - 1) m (i + 1) k (acc++[((a[i]).1,(a[i]).2)]) (by omega) (by omega) hk (by omega) (by simp; omega)
        simp (disch:=(first | omega | (simp only [JlE]; omega))) only [↓JlH,JlF,UaD,Uay,Ua,Ual,e1,Jji,Uav hi',Uav hk',Udg,i1]
        rw [ih,hda,hdb,Ue,if_pos hlt]
        cases Ue (a.drop (i + 1)) (b[k]::b.drop (k + 1)) <;> simp
      · by_cases hgt:(b[k]).1<(a[i]).1
        · have ih:=UaC n hn ha hb x2 x4 x7 k0 k1 (d - 1) m i (k + 1) (acc++[((b[k]).1,(b[k]).2)]) (by omega) hi (by omega) (by omega) (by simp; omega)
          simp (disch:=(first | omega | (simp only [JlE]; omega))) only [↓JlH,JlF,UaD,Uay,UaQ,Ua,Ual,e1,e2,Jji,Uav hi',Uav hk',Udg,i1]
          rw [ih,hda,hdb,Ue,if_neg hlt,if_pos hgt]
          cases Ue (a[i]::a.drop (i + 1)) (b.drop (k + 1)) <;> simp
        · have hv:=UjG (R:=R) n hn (a[i]).2 (b[k]).2 (ha.2 _ (List.getElem_mem hi')).2.1 (hb.2 _ (List.getElem_mem hk')).2.1
          rw [hda,hdb,Ue,if_neg hlt,if_neg hgt]
          by_cases hf:fits ((a[i]).2 + (b[k]).2)
          · have hv':∀ kk,p22 n (bs (Uaa (a[i]).2)) (bs (Uaa (b[k]).2)) kk=kk (bs (Uaa ((a[i]).2 + (b[k]).2))) 0:=fun kk=>by rw [hv,UbF hf]
            rw [if_pos hf]
            by_cases hz:(a[i]).2 + (b[k]).2=0
            · have ih:=UaC n hn ha hb x2 x4 x7 k0 k1 (d - 2) m (i + 1) (k + 1) acc (by omega) (by omega) (by omega) (by omega) (by omega)
              have e3:=Unx (Uen.2 hz)
              simp (disch:=(first | omega | (simp only [JlE]; omega))) only [↓JlH,JlF,UaD,Uay,UaQ,Uby,Ua,Ual,e1,e2,Jji,Uav hi',Uav hk',Udg,i1,hv',Ug,e3]
              rw [ih]
              cases Ue (a.drop (i + 1)) (b.drop (k + 1)) <;> simp
            · have ih:=UaC n hn ha hb x2 x4 x7 k0 k1 (d - 2) m (i + 1) (k + 1) (acc++[((a[i]).1,(a[i]).2 + (b[k]).2)]) (by omega) (by omega) (by omega) (by omega) (by simp; omega)
              have e3:=UjV (fun q=>hz (Uen.1 q))
              simp (disch:=(first | omega | (simp only [JlE]; omega))) only [↓JlH,JlF,UaD,Uay,UaQ,Uby,Ua,Ual,e1,e2,Jji,Uav hi',Uav hk',Udg,i1,hv',Ug,e3]
              rw [ih]
              cases Ue (a.drop (i + 1)) (b.drop (k + 1)) <;> simp
          · have hv':∀ kk,p22 n (bs (Uaa (a[i]).2)) (bs (Uaa (b[k]).2)) kk=kk (bs []) 5:=fun kk=>by rw [hv]; unfold UgA; rw [if_neg hf]
            rw [if_neg hf]
            simp (disch:=(first | omega | (simp only [JlE]; omega))) only [↓JlH,JlF,UaD,Uay,UaQ,Uby,Ua,Ual,e1,e2,Jji,Uav hi',Uav hk',Udg,i1,hv',Uuv]
    · have hk'':k=b.length:=by omega
      have e1:((k:Int) == (b.length:Int))=true:=by simp; omega
      have ih:=UaC n hn ha hb x2 x4 x7 k0 k1 (d - 1) m (i + 1) k (acc++[((a[i]).1,(a[i]).2)]) (by omega) (by omega) hk (by omega) (by simp; omega)
      simp (disch:=(first | omega | (simp only [JlE]; omega))) only [↓JlH,JlF,UaD,Uay,Ua,Ual,e1,Jji,Uav hi',Udg,i1]
      rw [ih,hda,List.drop_eq_nil_of_le (by omega:b.length≤k),Uml,Uml]
      simp only [List.append_assoc,List.singleton_append]
  · have hi'':i=a.length:=by omega
    have e2:((i:Int) == (a.length:Int))=true:=by simp; omega
    rw [List.drop_eq_nil_of_le (by omega:a.length≤i)]
    by_cases hk':k<b.length
    · have hdb:=UaL hk'
      have e1:((k:Int) == (b.length:Int))=false:=by simp; omega
      have ih:=UaC n hn ha hb x2 x4 x7 k0 k1 (d - 1) m i (k + 1) (acc++[((b[k]).1,(b[k]).2)]) (by omega) hi (by omega) (by omega) (by simp; omega)
      rw [List.drop_eq_nil_of_le (by omega:a.length≤i)] at ih
      simp (disch:=(first | omega | (simp only [JlE]; omega))) only [↓JlH,JlF,UaD,Uay,UaQ,Ua,Ual,e1,e2,Jji,Uav hk',Udg,i1]
      rw [ih,hdb]
      simp only [Ue,List.append_assoc,List.singleton_append]
    · simp (disch:=(first | omega | (simp only [JlE]; omega))) only [↓JlH,JlF,Ua,Ual]
      rw [List.drop_eq_nil_of_le (by omega:b.length≤k)]
      simp [Ue,JfF]
theorem UnQ (n:Nat) (hn:10 ^ 1000≤n) {a b:SpR} (ha:okF 2048 a) (hb:okF 2048 b) (k0:List PV→ByteArray→Int→Option R) :
 UvU n (tms (vt a.1)) (bs (Uaa a.2)) (tms (vt b.1)) (bs (Uaa b.2)) k0=Unk k0 (plO a b):=by
 have hN:=UaU (Ubu hn)
 have la:=UaS ha.1
 have lb:=UaS hb.1
 unfold UvU
 rw [UjG n hn a.2 b.2 ha.2 hb.2]
 unfold plO
 by_cases hf:fits (a.2 + b.2)
 · rw [UbF hf,if_pos hf,Ug,Uag]
   unfold Umx
   refine Eq.trans (UaC n hn ha.1 hb.1 _ _ _ k0 _ (a.1.length + b.1.length) n 0 0 [] (by omega) (by omega) (by omega) (by omega) (by simp)) ?_
   rw [List.drop_zero,List.drop_zero]
   cases Ue a.1 b.1 <;> rfl
 · unfold UgA
   rw [if_neg hf,if_neg hf]; rfl
theorem Urf (n:Nat) (hn:10 ^ 1000≤n) {a b:SpR} (ha:okF 2048 a) (hb:okF 2048 b) (k0:List PV→ByteArray→Int→Option R) :
 p75 n (tms (vt a.1)) (bs (Uaa a.2)) (tms (vt b.1)) (bs (Uaa b.2)) k0=Unk k0 (plO a b):=by
 unfold p75
 rw [Ub7 n (Ubu hn) ha,Ug,Uag,Ub7 n (Ubu hn) hb]
 exact UnQ n hn ha hb k0
end Go.Proofs.YtmgfmlhdnadglaaGreatDoor
set_option linter.unusedVariables false
set_option maxRecDepth 100000
namespace Go.Proofs.YtmgfmlhdnadglaaGreatDoor
open Go Th Go.Proofs
noncomputable section
variable {R:Type}
def UbM:Ann:={ loops:=[(4,ids [1,2,17,18,19],ids [1,2,4,5]),(14,ids [1,9,47,48,49],ids [4,5,9])],cuts:=[(12,ids [1,2],ids [4,5])],frz:=[],rm:=[.id,.id] }
abbrev UqT (n:Nat):Env:=eC 53 (Urm n) (eC 52 (Ust n) (eC 22 (Uwm n) (eC 21 (Uwl n) eN)))
theorem UkR (n:Nat):EnvOK Tryz.prog GI (UqT n):=.cons (.cons (.cons (.cons (.nil) (Uzl n)) (Uzm n)) (UuA n)) (Usx n)
def Ufr (n:Nat) (l0:LP→LP→ByteArray→LP→Int→Int→O R) (x1 x2:LP) (x3:ByteArray) (x4:LP) (x5 x6:Int) (k0:LP→LP→ByteArray→ByteArray→Int→O R) (k1:LP→LP→ByteArray→O R):O R :=
 bif (decide (x6<x5)) then (bif (inR x6 ((x4).length)) then (Jj3 ((x4).getD ((x6:Int).toNat) (.v (.bool false))) fun e7=>p53 n e7 (fun y8=>bif (!y8) then (k0 x1 x2 x3 ⟨#[]⟩ 3) else (l0 x1 x2 x3 x4 x5 (IntKind.i64.wrap (x6 + 1))))) else none) else (k1 x1 x2 x3)
def UcI (n:Nat):Nat→LP→LP→ByteArray→LP→Int→Int→(LP→LP→ByteArray→ByteArray→Int→O R)→(LP→LP→ByteArray→O R)→O R
 | 0,_,_,_,_,_,_,_,_=>none
 | m + 1,x1,x2,x3,x4,x5,x6,k0,k1=>Ufr n (fun x1 x2 x3 x4 x5 x6=>UcI n m x1 x2 x3 x4 x5 x6 k0 k1) x1 x2 x3 x4 x5 x6 k0 k1
def Upv (n:Nat) (x1 x2:LP) (x3:ByteArray) (x4:LP) (x5 x6:Int) (k0:LP→LP→ByteArray→ByteArray→Int→O R) (k1:LP→LP→ByteArray→O R):O R:=UcI n n x1 x2 x3 x4 x5 x6 k0 k1
def Udz (n:Nat) (l0:LP→ByteArray→LP→Int→Int→O R) (x1:LP) (x2:ByteArray) (x3:LP) (x4 x5:Int) (k0:ByteArray→Int→ByteArray→O R) (k1:ByteArray→O R):O R :=
 bif (decide (x5<x4)) then (bif (inR x5 ((x3).length)) then (Jh2 ((x3).getD ((x5:Int).toNat) (.v (.bool false))) fun a6=>JdT a6 fun h7 t8=>Jj .i64 h7 fun e9=>JdT t8 fun h10 t11=>Jj3 h10 fun e12=>Ji2 t11 (bif (inR e9 ((x1).length)) then (Jj3 ((x1).getD ((e9:Int).toNat) (.v (.bool false))) fun e13=>p21 n e12 e13 (fun y14 y15=>bif (y15 != 0) then (k0 ⟨#[]⟩ y15 x2) else (p22 n x2 y14 (fun y16 y17=>bif (y17 != 0) then (k0 ⟨#[]⟩ y17 y16) else (l0 x1 y16 x3 x4 (IntKind.i64.wrap (x5 + 1))))))) else none)) else none) else (k1 x2)
def UbB (n:Nat):Nat→LP→ByteArray→LP→Int→Int→(ByteArray→Int→ByteArray→O R)→(ByteArray→O R)→O R
 | 0,_,_,_,_,_,_,_=>none
 | m + 1,x1,x2,x3,x4,x5,k0,k1=>Udz n (fun x1 x2 x3 x4 x5=>UbB n m x1 x2 x3 x4 x5 k0 k1) x1 x2 x3 x4 x5 k0 k1
def UmC (n:Nat) (x1:LP) (x2:ByteArray) (x3:LP) (x4 x5:Int) (k0:ByteArray→Int→ByteArray→O R) (k1:ByteArray→O R):O R:=UbB n n x1 x2 x3 x4 x5 k0 k1
def Ua3 (n:Nat) (x1 x2:LP) (x3:ByteArray) (k0:ByteArray→Int→O R):O R :=
 UmC n x1 x3 x2 ((x2).length:Int) 0 (fun y4 y5 y6=>k0 y4 y5) (fun y7=>k0 y7 0)
def p18 (n:Nat) (x1:LP) (x2:ByteArray) (x3:LP) (k0:ByteArray→Int→O R):O R :=
 p52 n x1 x2 (fun y4=>bif (y4 != 0) then (k0 ⟨#[]⟩ 3) else (Upv n x3 x1 x2 x3 ((x3).length:Int) 0 (fun y5 y6 y7 y8 y9=>k0 y8 y9) (fun y10 y11 y12=>bif (decide (((y11).length:Int)>0)) then (let v13:=IntKind.i64.wrap (((y11).length:Int) - 1); bif (inR v13 ((y11).length)) then (Jh2 ((y11).getD ((v13:Int).toNat) (.v (.bool false))) fun a14=>JdT a14 fun h15 t16=>Jj .i64 h15 fun e17=>JdT t16 fun h18 t19=>Jj3 h18 fun e20=>Ji2 t19 (bif (bif true then (decide (e17≥((y10).length:Int))) else false) then (k0 ⟨#[]⟩ 2) else (Ua3 n y10 y11 y12 (fun y21 y22=>k0 y21 y22)))) else none) else (Ua3 n y10 y11 y12 (fun y23 y24=>k0 y23 y24)))))
abbrev E18 (n:Nat):Code→Fr→Kc R→O R:=evC Tryz.prog (UqT n) UbM n (78,[])
noncomputable def Ukd:Code:=Jj4 (Jll Tryz.f18) [1,1,1,1]
abbrev UhD:Sl (List SV):=(cH (.c (sBx 43 (cH (cS .n))) .n))
abbrev UlJ (n:Nat) (K:Kc R):UhD.T (O R):=fun x1 x2 x3=>Ua3 n x1 x2 x3 (fun y1 y2=>xC UbM 12 K .ret [vS y1,vI y2])
noncomputable def Uoz:Code:=Jj4 (Jll Tryz.f18) [1,1,0,1,0,0]
abbrev Uer:Sl (List SV):=(cH (.c (sBx 43 (cH (cS .n))) (cH (cI (cI .n)))))
abbrev UlK (n m:Nat) (K:Kc R):Uer.T (O R):=fun x1 x2 x3 x4 x5 x6=>UcI n m x1 x2 x3 x4 x5 x6 (fun y1 y2 y3 y4 y5=>xL UbM 4 K .ret [vH y1,.bx 43 [vH y2,vS y3],vS y4,vI y5]) (fun y1 y2 y3=>xL UbM 4 K (.exit 0) [vH y1,.bx 43 [vH y2,vS y3],dD,dD])
abbrev UsM (n:Nat) (K:Kc R) (l0:Uer.T (O R)):Uer.T (O R):=fun x1 x2 x3 x4 x5 x6=>Ufr n l0 x1 x2 x3 x4 x5 x6 (fun y1 y2 y3 y4 y5=>xL UbM 4 K .ret [vH y1,.bx 43 [vH y2,vS y3],vS y4,vI y5]) (fun y1 y2 y3=>xL UbM 4 K (.exit 0) [vH y1,.bx 43 [vH y2,vS y3],dD,dD])
noncomputable def Uke:Code:=Jj4 (Jll Tryz.f18) [1,1,1,1,1,0,1,0,0]
abbrev Uda:Sl (List SV):=(cH (cS (cH (cI (cI .n)))))
abbrev Ug9 (n m:Nat) (K:Kc R):Uda.T (O R):=fun x1 x2 x3 x4 x5=>UbB n m x1 x2 x3 x4 x5 (fun y1 y2 y3=>xL UbM 14 K .ret [vS y1,vI y2,vS y3]) (fun y1=>xL UbM 14 K (.exit 2) [dD,dD,vS y1])
abbrev Uqy (n:Nat) (K:Kc R) (l0:Uda.T (O R)):Uda.T (O R):=fun x1 x2 x3 x4 x5=>Udz n l0 x1 x2 x3 x4 x5 (fun y1 y2 y3=>xL UbM 14 K .ret [vS y1,vI y2,vS y3]) (fun y1=>xL UbM 14 K (.exit 2) [dD,dD,vS y1])
abbrev UvM (n:Nat):Orc R:=oL UbM (E18 n) n 14 Uke Uda (Ug9 n n) (oL UbM (E18 n) n 4 Uoz Uer (UlK n n) oN)
abbrev UvC (n:Nat):Orc R:=oC UbM (E18 n) 12 Ukd UhD (UlJ n) oN
abbrev K18 (R:Type) (n:Nat):=JcH (R:=R) Tryz.prog (UqT n) UbM n (78,[]) (UvM n) (UvC n)
theorem UuO (n:Nat):K18 R n (false,4,Uoz):=JkF (lo:=UvM n) (cu:=UvC n) (pO pN (by kernel_rfl)) Uer (UlK n n) (JiE (F:=UlK n) Uer (UsM n) (fun K _ _ _ _ _ _=>rfl) (fun _ _=>rfl) (fun L K _ _ _ _ _ _=>by show _=_; kernel_rfl) n) fun _ _=>rfl
theorem UrY (n:Nat):K18 R n (false,14,Uke):=JkF (lo:=UvM n) (cu:=UvC n) (pO pN (by kernel_rfl)) Uda (Ug9 n n) (JiE (F:=Ug9 n) Uda (Uqy n) (fun K _ _ _ _ _=>rfl) (fun _ _=>rfl) (fun L K _ _ _ _ _=>by show _=_; kernel_rfl) n) fun _ _=>rfl
theorem UrX (n:Nat):K18 R n (true,12,Ukd):=JkW (lo:=UvM n) (cu:=UvC n) (pO (pC (UrY n) pN) (by kernel_rfl)) UhD (UlJ n) (fun K _ _ _=>by show _=_; kernel_rfl) fun _ _=>rfl
theorem UBo (n:Nat):Je6 (K18 R n) (JaJ UbM (Jll Tryz.f18)):=pO (pC (UuO n) (pC (UrX n) pN)) (by kernel_rfl)
abbrev t18:Sl (List SV):=(.c (sP (JlI (.c sSh (.c Jly .n)))) (cH .n))
abbrev f18 (n:Nat) (K:List SV→O R):t18.T (O R):=fun x1 x2 x3=>p18 n x1 x2 x3 (fun y1 y2=>K [vS y1,vI y2])
abbrev UvG (n:Nat):FS:=fT [false,false] t18 (f18 n)
theorem Uw7 (n:Nat):FSound Tryz.prog GI 18 (UvG n):=gd UbM n (UkR n) Tryz.func18 (.cons (UkR n) t18 (f18 n) (fun K _ _ _=>(Jkq (c:=Jll Tryz.f18) (by kernel_rfl) (UBo n) K).trans (by kernel_rfl)) .nil) (by kernel_rfl)
def UeR:Ann:={ loops:=[(2,ids [1,12,13,14],ids [4,5])],cuts:=[],frz:=[],rm:=[.id,.id] }
abbrev Uq2 (n:Nat):Env:=eC 19 (Upl n) (eC 18 (UvG n) eN)
theorem Uk8 (n:Nat):EnvOK Tryz.prog GI (Uq2 n):=.cons (.cons (.nil) (Uw7 n)) (Urw n)
def Ufz (n:Nat) (l0:LP→LP→Int→Int→O R) (x1 x2:LP) (x3 x4:Int) (k0:Int→Int→O R) (k1:O R):O R :=
 bif (decide (x4<x3)) then (bif (inR x4 ((x2).length)) then (Jh2 ((x2).getD ((x4:Int).toNat) (.v (.bool false))) fun a5=>JdT a5 fun h6 t7=>Jkr h6 fun e8=>JdT t7 fun h9 t10=>Jj3 h9 fun e11=>JdT t10 fun h12 t13=>Jj2 h12 fun e14=>JdT t13 fun h15 t16=>Jj .i64 h15 fun e17=>Ji2 t16 (p18 n e8 e11 x1 (fun y18 y19=>bif (y19 != 0) then (k0 0 y19) else (p19 n y18 ⟨#[48]⟩ (fun y20=>bif (decide (y20<0)) then (k0 x4 0) else (bif (decide (y20>0)) then (bif (bif false then true else (bif true then e14 else false)) then (k0 x4 0) else (l0 x1 x2 x3 (IntKind.i64.wrap (x4 + 1)))) else (l0 x1 x2 x3 (IntKind.i64.wrap (x4 + 1))))))))) else none) else (k1)
def UcQ (n:Nat):Nat→LP→LP→Int→Int→(Int→Int→O R)→(O R)→O R
 | 0,_,_,_,_,_,_=>none
 | m + 1,x1,x2,x3,x4,k0,k1=>Ufz n (fun x1 x2 x3 x4=>UcQ n m x1 x2 x3 x4 k0 k1) x1 x2 x3 x4 k0 k1
def UpC (n:Nat) (x1 x2:LP) (x3 x4:Int) (k0:Int→Int→O R) (k1:O R):O R:=UcQ n n x1 x2 x3 x4 k0 k1
def p51 (n:Nat) (x1:Int) (x2 x3:LP) (k0:Int→Int→O R):O R :=
 UpC n x3 x2 ((x2).length:Int) 0 (fun y4 y5=>k0 y4 y5) (k0 (-1) 0)
abbrev E51 (n:Nat):Code→Fr→Kc R→O R:=evC Tryz.prog (Uq2 n) UeR n (46,[])
noncomputable def UoL:Code:=Jj4 (Jll Tryz.f51) [1,0,1,0,0]
abbrev Uey:Sl (List SV):=(cH (cH (cI (cI .n))))
abbrev UlV (n m:Nat) (K:Kc R):Uey.T (O R):=fun x1 x2 x3 x4=>UcQ n m x1 x2 x3 x4 (fun y1 y2=>xL UeR 2 K .ret [vI y1,vI y2]) (xL UeR 2 K (.exit 0) [dD,dD])
abbrev UsT (n:Nat) (K:Kc R) (l0:Uey.T (O R)):Uey.T (O R):=fun x1 x2 x3 x4=>Ufz n l0 x1 x2 x3 x4 (fun y1 y2=>xL UeR 2 K .ret [vI y1,vI y2]) (xL UeR 2 K (.exit 0) [dD,dD])
abbrev Uzb (n:Nat):Orc R:=oL UeR (E51 n) n 2 UoL Uey (UlV n n) oN
abbrev Uyl (n:Nat):Orc R:=oN
abbrev K51 (R:Type) (n:Nat):=JcH (R:=R) Tryz.prog (Uq2 n) UeR n (46,[]) (Uzb n) (Uyl n)
theorem Uu2 (n:Nat):K51 R n (false,2,UoL):=JkF (lo:=Uzb n) (cu:=Uyl n) (pO pN (by kernel_rfl)) Uey (UlV n n) (JiE (F:=UlV n) Uey (UsT n) (fun K _ _ _ _=>rfl) (fun _ _=>rfl) (fun L K _ _ _ _=>by show _=_; kernel_rfl) n) fun _ _=>rfl
theorem UBF (n:Nat):Je6 (K51 R n) (JaJ UeR (Jll Tryz.f51)):=pO (pC (Uu2 n) pN) (by kernel_rfl)
abbrev t51:Sl (List SV):=(.c (sP (JlI (.c (Jlv .i64) (.c sSh .n)))) (cH .n))
abbrev f51 (n:Nat) (K:List SV→O R):t51.T (O R):=fun x1 x2 x3=>p51 n x1 x2 x3 (fun y1 y2=>K [vI y1,vI y2])
abbrev UyP (n:Nat):FS:=fT [false,false] t51 (f51 n)
theorem UA3 (n:Nat):FSound Tryz.prog GI 51 (UyP n):=gd UeR n (Uk8 n) Tryz.func51 (.cons (Uk8 n) t51 (f51 n) (fun K _ _ _=>(Jkq (c:=Jll Tryz.f51) (by kernel_rfl) (UBF n) K).trans (by kernel_rfl)) .nil) (by kernel_rfl)
def UpX:Ann:={ loops:=[],cuts:=[],frz:=[],rm:=[.id,.id] }
abbrev Utk (n:Nat):Env:=eC 51 (UyP n) (eC 49 (Uwp n) (eC 48 (UyN n) eN))
theorem UkQ (n:Nat):EnvOK Tryz.prog GI (Utk n):=.cons (.cons (.cons (.nil) (UA1 n)) (Uzp n)) (UA3 n)
def p17 (n:Nat) (x1:Int) (x2 x3:LP) (k0:Bool→Int→O R):O R :=
 p48 n x1 x2 x3 (fun y4=>bif (y4 != 0) then (k0 false y4) else (Un1 n x3 (fun y5=>bif y5 then (k0 false 0) else (p51 n x1 x2 x3 (fun y6 y7=>bif (y7 == 0) then (k0 (bif true then (decide (y6<0)) else false) y7) else (k0 false y7))))))
abbrev UAp (n:Nat):Orc R:=oN
abbrev UzV (n:Nat):Orc R:=oN
abbrev K17 (R:Type) (n:Nat):=JcH (R:=R) Tryz.prog (Utk n) UpX n (30,[]) (UAp n) (UzV n)
theorem UBn (n:Nat):Je6 (K17 R n) (JaJ UpX (Jll Tryz.f17)):=pO pN (by kernel_rfl)
abbrev t17:Sl (List SV):=(.c (sP (JlI (.c (Jlv .i64) (.c sSh .n)))) (cH .n))
abbrev f17 (n:Nat) (K:List SV→O R):t17.T (O R):=fun x1 x2 x3=>p17 n x1 x2 x3 (fun y1 y2=>K [vB y1,vI y2])
abbrev Uwk (n:Nat):FS:=fT [false,false] t17 (f17 n)
theorem Uzk (n:Nat):FSound Tryz.prog GI 17 (Uwk n):=gd UpX n (UkQ n) Tryz.func17 (.cons (UkQ n) t17 (f17 n) (fun K _ _ _=>(Jkq (c:=Jll Tryz.f17) (by kernel_rfl) (UBn n) K).trans (by kernel_rfl)) .nil) (by kernel_rfl)
def UeN:Ann:={ loops:=[(5,ids [0,1,4,18,19,20],ids [0,1,2,3,4])],cuts:=[],frz:=[],rm:=[.id,.id] }
abbrev UqX (n:Nat):Env:=eC 31 (Uwn n) (eC 30 (UvH n) (eC 19 (Upl n) eN))
theorem UkZ (n:Nat):EnvOK Tryz.prog GI (UqX n):=.cons (.cons (.cons (.nil) (Urw n)) (Uw8 n)) (Uzn n)
def UmE (n:Nat) (l0:Int→LP→LP→LP→ByteArray→LP→Int→Int→O R) (x1:Int) (x2 x3 x4:LP) (x5:ByteArray) (x6:LP) (x7 x8:Int) (k0:Int→LP→LP→Bool→Int→LP→ByteArray→O R) (k1:Int→LP→LP→LP→ByteArray→O R):O R :=
 bif (decide (x8<x7)) then (bif (inR x8 ((x6).length)) then (Jh2 ((x6).getD ((x8:Int).toNat) (.v (.bool false))) fun a9=>JdT a9 fun h10 t11=>Jj .i64 h10 fun e12=>JdT t11 fun h13 t14=>Jj3 h13 fun e15=>Ji2 t14 (p19 n e15 ⟨#[48]⟩ (fun y16=>bif (decide (y16>0)) then (k0 x1 x2 x3 false 0 x4 x5) else (l0 x1 x2 x3 x4 x5 x6 x7 (IntKind.i64.wrap (x8 + 1)))))) else none) else (k1 x1 x2 x3 x4 x5)
def Uhi (n:Nat):Nat→Int→LP→LP→LP→ByteArray→LP→Int→Int→(Int→LP→LP→Bool→Int→LP→ByteArray→O R)→(Int→LP→LP→LP→ByteArray→O R)→O R
 | 0,_,_,_,_,_,_,_,_,_,_=>none
 | m + 1,x1,x2,x3,x4,x5,x6,x7,x8,k0,k1=>UmE n (fun x1 x2 x3 x4 x5 x6 x7 x8=>Uhi n m x1 x2 x3 x4 x5 x6 x7 x8 k0 k1) x1 x2 x3 x4 x5 x6 x7 x8 k0 k1
def UuH (n:Nat) (x1:Int) (x2 x3 x4:LP) (x5:ByteArray) (x6:LP) (x7 x8:Int) (k0:Int→LP→LP→Bool→Int→LP→ByteArray→O R) (k1:Int→LP→LP→LP→ByteArray→O R):O R:=Uhi n n x1 x2 x3 x4 x5 x6 x7 x8 k0 k1
def p29 (n:Nat) (x1:Int) (x2 x3:LP) (k0:Bool→Int→O R):O R :=
 p30 n x1 x2 x3 (fun y4 y5 y6=>bif (y6 != 0) then (k0 false y6) else (UuH n x1 x2 x3 y4 y5 y4 ((y4).length:Int) 0 (fun y7 y8 y9 y10 y11 y12 y13=>k0 y10 y11) (fun y14 y15 y16 y17 y18=>p31 n y14 y15 y16 (fun y19=>bif y19 then (p19 n y18 ⟨#[48]⟩ (fun y20=>k0 (bif true then (decide (y20<0)) else false) 0)) else (k0 false 0)))))
abbrev E29 (n:Nat):Code→Fr→Kc R→O R:=evC Tryz.prog (UqX n) UeN n (38,[])
noncomputable def UoF:Code:=Jj4 (Jll Tryz.f29) [1,1,1,0,1,0,0]
abbrev Ueu:Sl (List SV):=(.c (sP (sFb (.c (Jlv .i64) (.c sSh .n)))) (.c (sP (sFb (.c sSh .n))) (.c (sBx 43 (cH (cS .n))) (cH (cI (cI .n))))))
abbrev UlO (n m:Nat) (K:Kc R):Ueu.T (O R):=fun x1 x2 x3 x4 x5 x6 x7 x8=>Uhi n m x1 x2 x3 x4 x5 x6 x7 x8 (fun y1 y2 y3 y4 y5 y6 y7=>xL UeN 5 K .ret [.p (.fb [.v (.int .i64 y1),.sh y2]),.p (.fb [.sh y3]),vB y4,vI y5,.bx 43 [vH y6,vS y7]]) (fun y1 y2 y3 y4 y5=>xL UeN 5 K (.exit 0) [.p (.fb [.v (.int .i64 y1),.sh y2]),.p (.fb [.sh y3]),dD,dD,.bx 43 [vH y4,vS y5]])
abbrev UsP (n:Nat) (K:Kc R) (l0:Ueu.T (O R)):Ueu.T (O R):=fun x1 x2 x3 x4 x5 x6 x7 x8=>UmE n l0 x1 x2 x3 x4 x5 x6 x7 x8 (fun y1 y2 y3 y4 y5 y6 y7=>xL UeN 5 K .ret [.p (.fb [.v (.int .i64 y1),.sh y2]),.p (.fb [.sh y3]),vB y4,vI y5,.bx 43 [vH y6,vS y7]]) (fun y1 y2 y3 y4 y5=>xL UeN 5 K (.exit 0) [.p (.fb [.v (.int .i64 y1),.sh y2]),.p (.fb [.sh y3]),dD,dD,.bx 43 [vH y4,vS y5]])
abbrev Uy8 (n:Nat):Orc R:=oL UeN (E29 n) n 5 UoF Ueu (UlO n n) oN
abbrev Uyh (n:Nat):Orc R:=oN
abbrev K29 (R:Type) (n:Nat):=JcH (R:=R) Tryz.prog (UqX n) UeN n (38,[]) (Uy8 n) (Uyh n)
theorem UuU (n:Nat):K29 R n (false,5,UoF):=JkF (lo:=Uy8 n) (cu:=Uyh n) (pO pN (by kernel_rfl)) Ueu (UlO n n) (JiE (F:=UlO n) Ueu (UsP n) (fun K _ _ _ _ _ _ _ _=>rfl) (fun _ _=>rfl) (fun L K _ _ _ _ _ _ _ _=>by show _=_; kernel_rfl) n) fun _ _=>rfl
theorem UBw (n:Nat):Je6 (K29 R n) (JaJ UeN (Jll Tryz.f29)):=pO (pC (UuU n) pN) (by kernel_rfl)
abbrev t29:Sl (List SV):=(.c (sP (sFb (.c (Jlv .i64) (.c sSh .n)))) (.c (sP (sFb (.c sSh .n))) .n))
abbrev f29 (n:Nat) (K:List SV→O R):t29.T (O R):=fun x1 x2 x3=>p29 n x1 x2 x3 (fun y1 y2=>K [vB y1,vI y2])
abbrev UyJ (n:Nat):FS:=fT [false,false] t29 (f29 n)
theorem UAX (n:Nat):FSound Tryz.prog GI 29 (UyJ n):=gd UeN n (UkZ n) Tryz.func29 (.cons (UkZ n) t29 (f29 n) (fun K _ _ _=>(Jkq (c:=Jll Tryz.f29) (by kernel_rfl) (UBw n) K).trans (by kernel_rfl)) .nil) (by kernel_rfl)
def Up2:Ann:={ loops:=[],cuts:=[],frz:=[],rm:=[.id,.id] }
abbrev Utp (n:Nat):Env:=eC 18 (UvG n) eN
theorem Uk3 (n:Nat):EnvOK Tryz.prog GI (Utp n):=.cons (.nil) (Uw7 n)
def p36 (n:Nat) (x1 x2:LP) (k0:ByteArray→Int→O R):O R :=
 p18 n x1 ⟨#[48]⟩ x2 (fun y3 y4=>k0 y3 y4)
abbrev UAu (n:Nat):Orc R:=oN
abbrev Uz0 (n:Nat):Orc R:=oN
abbrev K36 (R:Type) (n:Nat):=JcH (R:=R) Tryz.prog (Utp n) Up2 n (12,[]) (UAu n) (Uz0 n)
theorem UBA (n:Nat):Je6 (K36 R n) (JaJ Up2 (Jll Tryz.f36)):=pO pN (by kernel_rfl)
abbrev t36:Sl (List SV):=(cH (cH .n))
abbrev f36 (n:Nat) (K:List SV→O R):t36.T (O R):=fun x1 x2=>p36 n x1 x2 (fun y1 y2=>K [vS y1,vI y2])
abbrev Uwo (n:Nat):FS:=fT [false,false] t36 (f36 n)
theorem Uzo (n:Nat):FSound Tryz.prog GI 36 (Uwo n):=gd Up2 n (Uk3 n) Tryz.func36 (.cons (Uk3 n) t36 (f36 n) (fun K _ _=>(Jkq (c:=Jll Tryz.f36) (by kernel_rfl) (UBA n) K).trans (by kernel_rfl)) .nil) (by kernel_rfl)
def UjL:Ann:={ loops:=[],cuts:=[],frz:=[],rm:=[.id] }
abbrev Uo5 (n:Nat):Env:=eN
theorem Uix (n:Nat):EnvOK Tryz.prog GI (Uo5 n):=.nil
def Upt (n:Nat) (x1:Int) (x2:ByteArray) (x3:Int) (k0:Int→O R):O R :=
 k0 (IntKind.i64.wrap (x1 - x3))
abbrev UwA (n:Nat):Orc R:=oN
abbrev Uv7 (n:Nat):Orc R:=oN
abbrev UzM (R:Type) (n:Nat):=JcH (R:=R) Tryz.prog (Uo5 n) UjL n (9,[]) (UwA n) (Uv7 n)
theorem Uxv (n:Nat):Je6 (UzM R n) (JaJ UjL (Jll Tryz.f118)):=pO pN (by kernel_rfl)
abbrev UxQ:Sl (List SV):=(.c (sP (JlI (.c (Jlv .i64) (.c Jly .n)))) (cI .n))
abbrev f118 (n:Nat) (K:List SV→O R):UxQ.T (O R):=fun x1 x2 x3=>Upt n x1 x2 x3 (fun y1=>K [vI y1])
abbrev Ut3 (n:Nat):FS:=fT [false,false] UxQ (f118 n)
theorem UwT (n:Nat):FSound Tryz.prog GI 118 (Ut3 n):=gd UjL n (Uix n) Tryz.func118 (.cons (Uix n) UxQ (f118 n) (fun K _ _ _=>(Jkq (c:=Jll Tryz.f118) (by kernel_rfl) (Uxv n) K).trans (by kernel_rfl)) .nil) (by kernel_rfl)
def UdK:Ann:={ loops:=[(3,ids [0,1,2,8,9,10],ids [0,1,2,6,7,8,9])],cuts:=[],frz:=[],rm:=[.id,.id] }
abbrev UkH (n:Nat):Env:=eC 118 (Ut3 n) eN
theorem Uiw (n:Nat):EnvOK Tryz.prog GI (UkH n):=.cons (.nil) (UwT n)
def Ucq (n:Nat) (l0:LP→Int→Int→Int→Int→O R) (x1:LP) (x2 x3 x4 x5:Int) (k0:LP→Int→Int→Int→O R):O R :=
 bif (decide (x4<x5)) then (let v6:=IntKind.u64.wrap (IntKind.i64.wrap (x4 + x5)); bif decide ((1:Int)<0) then none else (let v7:=Int.fdiv v6 (2 ^ (min ((1:Int)).toNat IntKind.u64.bits)); bif (inR (IntKind.i64.wrap (v7)) ((x1).length)) then (Jh2 ((x1).getD ((IntKind.i64.wrap (v7):Int).toNat) (.v (.bool false))) fun a8=>JdT a8 fun h9 t10=>Jj .i64 h9 fun e11=>JdT t10 fun h12 t13=>Jj3 h12 fun e14=>Ji2 t13 (Upt n e11 e14 x2 (fun y15=>bif (decide (y15<0)) then (let v16:=IntKind.i64.wrap ((IntKind.i64.wrap (v7)) + 1); l0 x1 x2 x3 v16 x5) else (l0 x1 x2 x3 x4 (IntKind.i64.wrap (v7)))))) else none)) else (k0 x1 x2 x3 x4)
def Ua1 (n:Nat):Nat→LP→Int→Int→Int→Int→(LP→Int→Int→Int→O R)→O R
 | 0,_,_,_,_,_,_=>none
 | m + 1,x1,x2,x3,x4,x5,k0=>Ucq n (fun x1 x2 x3 x4 x5=>Ua1 n m x1 x2 x3 x4 x5 k0) x1 x2 x3 x4 x5 k0
def Umz (n:Nat) (x1:LP) (x2 x3 x4 x5:Int) (k0:LP→Int→Int→Int→O R):O R:=Ua1 n n x1 x2 x3 x4 x5 k0
def Uxe (n:Nat) (x1:LP) (x2:Int) (k0:Int→Bool→O R):O R :=
 Umz n x1 x2 ((x1).length:Int) 0 ((x1).length:Int) (fun y3 y4 y5 y6=>bif (decide (y6<y5)) then (bif (inR y6 ((y3).length)) then (Jh2 ((y3).getD ((y6:Int).toNat) (.v (.bool false))) fun a7=>JdT a7 fun h8 t9=>Jj .i64 h8 fun e10=>JdT t9 fun h11 t12=>Jj3 h11 fun e13=>Ji2 t12 (Upt n e10 e13 y4 (fun y14=>k0 y6 (bif true then (y14 == 0) else false)))) else none) else (k0 y6 false))
abbrev UzH (n:Nat):Code→Fr→Kc R→O R:=evC Tryz.prog (UkH n) UdK n (49,[])
noncomputable def Uka:Code:=Jj4 (Jll Tryz.f117) [1,1,1,0,0,0]
abbrev Uc8:Sl (List SV):=(cH (cI (.c (sP (sFn 118)) (cI (cI (cI .n))))))
abbrev Ug6 (n m:Nat) (K:Kc R):Uc8.T (O R):=fun x1 x2 x3 x4 x5=>Ua1 n m x1 x2 x3 x4 x5 (fun y1 y2 y3 y4=>xL UdK 3 K (.exit 0) [vH y1,vI y2,.p (.v (.func (.func 118) #[] #[])),dD,dD,vI y3,vI y4])
abbrev Uqv (n:Nat) (K:Kc R) (l0:Uc8.T (O R)):Uc8.T (O R):=fun x1 x2 x3 x4 x5=>Ucq n l0 x1 x2 x3 x4 x5 (fun y1 y2 y3 y4=>xL UdK 3 K (.exit 0) [vH y1,vI y2,.p (.v (.func (.func 118) #[] #[])),dD,dD,vI y3,vI y4])
abbrev Uuo (n:Nat):Orc R:=oL UdK (UzH n) n 3 Uka Uc8 (Ug6 n n) oN
abbrev Utc (n:Nat):Orc R:=oN
abbrev Uyb (R:Type) (n:Nat):=JcH (R:=R) Tryz.prog (UkH n) UdK n (49,[]) (Uuo n) (Utc n)
theorem UrU (n:Nat):Uyb R n (false,3,Uka):=JkF (lo:=Uuo n) (cu:=Utc n) (pO pN (by kernel_rfl)) Uc8 (Ug6 n n) (JiE (F:=Ug6 n) Uc8 (Uqv n) (fun K _ _ _ _ _=>rfl) (fun _ _=>rfl) (fun L K _ _ _ _ _=>by show _=_; kernel_rfl) n) fun _ _=>rfl
theorem Uxu (n:Nat):Je6 (Uyb R n) (JaJ UdK (Jll Tryz.f117)):=pO (pC (UrU n) pN) (by kernel_rfl)
abbrev t117:Sl (List SV):=(cH (cI (.c (sP (sFn 118)) .n)))
abbrev f117 (n:Nat) (K:List SV→O R):t117.T (O R):=fun x1 x2=>Uxe n x1 x2 (fun y1 y2=>K [vI y1,vB y2])
abbrev Ut2 (n:Nat):FS:=fT [false,false,false] t117 (f117 n)
theorem UwS (n:Nat):FSound Tryz.prog GI 117 (Ut2 n):=gd UdK n (Uiw n) Tryz.func117 (.cons (Uiw n) t117 (f117 n) (fun K _ _=>(Jkq (c:=Jll Tryz.f117) (by kernel_rfl) (Uxu n) K).trans (by kernel_rfl)) .nil) (by kernel_rfl)
def Uqi:Ann:={ loops:=[],cuts:=[],frz:=[],rm:=[.id,.id] }
abbrev UtF (n:Nat):Env:=eC 117 (Ut2 n) eN
theorem Ulr (n:Nat):EnvOK Tryz.prog GI (UtF n):=.cons (.nil) (UwS n)
def p81 (n:Nat) (x1:LP) (x2:ByteArray) (x3:Int) (k0:Int→Bool→O R):O R :=
 Uxe n x1 x3 (fun y4 y5=>k0 y4 y5)
abbrev UAK (n:Nat):Orc R:=oN
abbrev UAf (n:Nat):Orc R:=oN
abbrev K81 (R:Type) (n:Nat):=JcH (R:=R) Tryz.prog (UtF n) Uqi n (12,[]) (UAK n) (UAf n)
theorem UBZ (n:Nat):Je6 (K81 R n) (JaJ Uqi (Jll Tryz.f81)):=pO pN (by kernel_rfl)
abbrev t81:Sl (List SV):=(.c (sP (JlI (.c sSh (.c Jly .n)))) (cI .n))
abbrev f81 (n:Nat) (K:List SV→O R):t81.T (O R):=fun x1 x2 x3=>p81 n x1 x2 x3 (fun y1 y2=>K [vI y1,vB y2])
abbrev UyZ (n:Nat):FS:=fT [false,false] t81 (f81 n)
theorem UBc (n:Nat):FSound Tryz.prog GI 81 (UyZ n):=gd Uqi n (Ulr n) Tryz.func81 (.cons (Ulr n) t81 (f81 n) (fun K _ _ _=>(Jkq (c:=Jll Tryz.f81) (by kernel_rfl) (UBZ n) K).trans (by kernel_rfl)) .nil) (by kernel_rfl)
def Ujr:Ann:={ loops:=[],cuts:=[(3,ids [1,2],ids [4])],frz:=[],rm:=[.id] }
abbrev Uq1 (n:Nat):Env:=eC 81 (UyZ n) (eC 80 (Uwu n) (eC 52 (Ust n) eN))
theorem Uk5 (n:Nat):EnvOK Tryz.prog GI (Uq1 n):=.cons (.cons (.cons (.nil) (UuA n)) (Uzu n)) (UBc n)
def UmI (n:Nat) (x1:Int) (x2:LP) (x3:ByteArray) (k0:ByteArray→O R):O R :=
 p81 n x2 x3 x1 (fun y4 y5=>bif y5 then (bif (inR y4 ((x2).length)) then (Jh2 ((x2).getD ((y4:Int).toNat) (.v (.bool false))) fun a6=>JdT a6 fun h7 t8=>Jj .i64 h7 fun e9=>JdT t8 fun h10 t11=>Jj3 h10 fun e12=>Ji2 t11 (k0 e12)) else none) else (k0 ⟨#[48]⟩))
def p38 (n:Nat) (x1:LP) (x2:ByteArray) (x3:Int) (k0:ByteArray→O R):O R :=
 p52 n x1 x2 (fun y4=>bif (y4 != 0) then (k0 ⟨#[48]⟩) else (p80 n x3 (fun y5=>bif (bif false then true else (!y5)) then (k0 ⟨#[48]⟩) else (UmI n x3 x1 x2 (fun y6=>k0 y6)))))
abbrev E38 (n:Nat):Code→Fr→Kc R→O R:=evC Tryz.prog (Uq1 n) Ujr n (28,[])
noncomputable def UoK:Code:=Jj4 (Jll Tryz.f38) [1,1]
abbrev Um0:Sl (List SV):=(cI (.c (sBx 43 (cH (cS .n))) .n))
abbrev Upf (n:Nat) (K:Kc R):Um0.T (O R):=fun x1 x2 x3=>UmI n x1 x2 x3 (fun y1=>xC Ujr 3 K .ret [vS y1])
abbrev Uza (n:Nat):Orc R:=oN
abbrev Uyk (n:Nat):Orc R:=oC Ujr (E38 n) 3 UoK Um0 (Upf n) oN
abbrev K38 (R:Type) (n:Nat):=JcH (R:=R) Tryz.prog (Uq1 n) Ujr n (28,[]) (Uza n) (Uyk n)
theorem Uu1 (n:Nat):K38 R n (true,3,UoK):=JkW (lo:=Uza n) (cu:=Uyk n) (pO pN (by kernel_rfl)) Um0 (Upf n) (fun K _ _ _=>by show _=_; kernel_rfl) fun _ _=>rfl
theorem UBC (n:Nat):Je6 (K38 R n) (JaJ Ujr (Jll Tryz.f38)):=pO (pC (Uu1 n) pN) (by kernel_rfl)
abbrev t38:Sl (List SV):=(.c (sP (JlI (.c sSh (.c Jly .n)))) (cI .n))
abbrev f38 (n:Nat) (K:List SV→O R):t38.T (O R):=fun x1 x2 x3=>p38 n x1 x2 x3 (fun y1=>K [vS y1])
abbrev UyM (n:Nat):FS:=fT [false,false] t38 (f38 n)
theorem UA0 (n:Nat):FSound Tryz.prog GI 38 (UyM n):=gd Ujr n (Uk5 n) Tryz.func38 (.cons (Uk5 n) t38 (f38 n) (fun K _ _ _=>(Jkq (c:=Jll Tryz.f38) (by kernel_rfl) (UBC n) K).trans (by kernel_rfl)) .nil) (by kernel_rfl)
def UeQ:Ann:={ loops:=[(9,ids [2,6,9,40,41],ids [4,5,9])],cuts:=[(8,ids [0,2,6,9],ids [4,5])],frz:=[],rm:=[.id,.id] }
abbrev Uq0 (n:Nat):Env:=eC 38 (UyM n) (eC 37 (UyL n) (eC 36 (Uwo n) (eC 31 (Uwn n) (eC 30 (UvH n) (eC 19 (Upl n) eN)))))
theorem Uk2 (n:Nat):EnvOK Tryz.prog GI (Uq0 n):=.cons (.cons (.cons (.cons (.cons (.cons (.nil) (Urw n)) (Uw8 n)) (Uzn n)) (Uzo n)) (UAZ n)) (UA0 n)
def Ufy (n:Nat) (l0:LP→LP→ByteArray→Bool→Int→Int→O R) (x1 x2:LP) (x3:ByteArray) (x4:Bool) (x5 x6:Int) (k0:Bool→O R):O R :=
 bif (decide (x6<x5)) then (bif x4 then (bif true then (bif true then (p38 n x2 x3 x6 (fun y7=>bif true then (bif true then (bif true then (bif true then (p38 n x1 ⟨#[48]⟩ x6 (fun y8=>bif true then (p19 n y7 y8 (fun y9=>bif true then (l0 x1 x2 x3 (bif true then (decide (y9≤0)) else false) x5 (IntKind.i64.wrap (x6 + 1))) else none)) else none)) else none) else none) else none) else none)) else none) else none) else (bif false then none else (bif false then none else (bif false then none else (bif false then none else (bif false then none else (bif false then none else (bif false then none else (bif false then none else (bif false then none else (l0 x1 x2 x3 false x5 (IntKind.i64.wrap (x6 + 1))))))))))))) else (k0 x4)
def UcP (n:Nat):Nat→LP→LP→ByteArray→Bool→Int→Int→(Bool→O R)→O R
 | 0,_,_,_,_,_,_,_=>none
 | m + 1,x1,x2,x3,x4,x5,x6,k0=>Ufy n (fun x1 x2 x3 x4 x5 x6=>UcP n m x1 x2 x3 x4 x5 x6 k0) x1 x2 x3 x4 x5 x6 k0
def UmH (n:Nat) (x1 x2:LP) (x3:ByteArray) (x4:Bool) (x5 x6:Int) (k0:Bool→O R):O R:=UcP n n x1 x2 x3 x4 x5 x6 k0
def Ugs (n:Nat) (x1:Int) (x2 x3 x4:LP) (x5:ByteArray) (x6:Bool) (k0:Bool→Int→O R):O R :=
 UmH n x3 x4 x5 x6 x1 0 (fun y7=>k0 y7 0)
def p35 (n:Nat) (x1:Int) (x2 x3 x4 x5:LP) (k0:Bool→Int→O R):O R :=
 p30 n x1 x2 x3 (fun y6 y7 y8=>bif (y8 != 0) then (k0 false y8) else (p36 n x4 x5 (fun y9 y10=>bif (y10 != 0) then (k0 false y10) else (p31 n x1 x2 x3 (fun y11=>bif y11 then (bif true then (bif true then (bif true then (p37 n y7 (fun y12=>bif true then (Ugs n x1 x2 x4 y6 y7 (bif true then eqS y9 y12 else false) (fun y13 y14=>k0 y13 y14)) else none)) else none) else none) else none) else (bif false then none else (bif false then none else (bif false then none else (bif false then none else (bif false then none else (Ugs n x1 x2 x4 y6 y7 false (fun y15 y16=>k0 y15 y16))))))))))))
abbrev E35 (n:Nat):Code→Fr→Kc R→O R:=evC Tryz.prog (Uq0 n) UeQ n (58,[])
noncomputable def UoI:Code:=Jj4 (Jll Tryz.f35) [1,1,1,1,1,1]
abbrev UmZ:Sl (List SV):=(.c (sP (sFb (.c (Jlv .i64) (.c sSh .n)))) (.c (sP (sFb (.c sSh .n))) (.c (sBx 43 (cH (cS .n))) (cB .n))))
abbrev Upe (n:Nat) (K:Kc R):UmZ.T (O R):=fun x1 x2 x3 x4 x5 x6=>Ugs n x1 x2 x3 x4 x5 x6 (fun y1 y2=>xC UeQ 8 K .ret [vB y1,vI y2])
noncomputable def UoJ:Code:=Jj4 (Jll Tryz.f35) [1,1,1,1,1,1,0,1,0,0]
abbrev Uex:Sl (List SV):=(.c (sP (sFb (.c sSh .n))) (.c (sBx 43 (cH (cS .n))) (cB (cI (cI .n)))))
abbrev UlU (n m:Nat) (K:Kc R):Uex.T (O R):=fun x1 x2 x3 x4 x5 x6=>UcP n m x1 x2 x3 x4 x5 x6 (fun y1=>xL UeQ 9 K (.exit 0) [dD,dD,vB y1])
abbrev UsS (n:Nat) (K:Kc R) (l0:Uex.T (O R)):Uex.T (O R):=fun x1 x2 x3 x4 x5 x6=>Ufy n l0 x1 x2 x3 x4 x5 x6 (fun y1=>xL UeQ 9 K (.exit 0) [dD,dD,vB y1])
abbrev UwG (n:Nat):Orc R:=oL UeQ (E35 n) n 9 UoJ Uex (UlU n n) oN
abbrev Uwc (n:Nat):Orc R:=oC UeQ (E35 n) 8 UoI UmZ (Upe n) oN
abbrev K35 (R:Type) (n:Nat):=JcH (R:=R) Tryz.prog (Uq0 n) UeQ n (58,[]) (UwG n) (Uwc n)
theorem Uu0 (n:Nat):K35 R n (false,9,UoJ):=JkF (lo:=UwG n) (cu:=Uwc n) (pO pN (by kernel_rfl)) Uex (UlU n n) (JiE (F:=UlU n) Uex (UsS n) (fun K _ _ _ _ _ _=>rfl) (fun _ _=>rfl) (fun L K _ _ _ _ _ _=>by show _=_; kernel_rfl) n) fun _ _=>rfl
theorem UuZ (n:Nat):K35 R n (true,8,UoI):=JkW (lo:=UwG n) (cu:=Uwc n) (pO (pC (Uu0 n) pN) (by kernel_rfl)) UmZ (Upe n) (fun K _ _ _ _ _ _=>by show _=_; kernel_rfl) fun _ _=>rfl
theorem UBz (n:Nat):Je6 (K35 R n) (JaJ UeQ (Jll Tryz.f35)):=pO (pC (UuZ n) pN) (by kernel_rfl)
abbrev t35:Sl (List SV):=(.c (sP (sFb (.c (Jlv .i64) (.c sSh .n)))) (.c (sP (sFb (.c sSh .n))) (.c (sP (sFb (.c sSh .n))) (.c (sP (sFb (.c sSh .n))) .n))))
abbrev f35 (n:Nat) (K:List SV→O R):t35.T (O R):=fun x1 x2 x3 x4 x5=>p35 n x1 x2 x3 x4 x5 (fun y1 y2=>K [vB y1,vI y2])
abbrev UyK (n:Nat):FS:=fT [false,false,false,false] t35 (f35 n)
theorem UAY (n:Nat):FSound Tryz.prog GI 35 (UyK n):=gd UeQ n (Uk2 n) Tryz.func35 (.cons (Uk2 n) t35 (f35 n) (fun K _ _ _ _ _=>(Jkq (c:=Jll Tryz.f35) (by kernel_rfl) (UBz n) K).trans (by kernel_rfl)) .nil) (by kernel_rfl)
def Udh:Ann:={ loops:=[(3,ids [0,1,2,5,15,16,17],ids [0,1,2,3,4,5]),(8,ids [0,2,5,29,30,31],ids [0,2,3,4,5])],cuts:=[],frz:=[],rm:=[.id,.id] }
abbrev Uq7 (n:Nat):Env:=eC 36 (Uwo n) (eC 19 (Upl n) eN)
theorem Ulf (n:Nat):EnvOK Tryz.prog GI (Uq7 n):=.cons (.cons (.nil) (Urw n)) (Uzo n)
def UmJ (n:Nat) (l0:LP→Int→LP→LP→Bool→LP→Int→Int→O R) (x1:LP) (x2:Int) (x3 x4:LP) (x5:Bool) (x6:LP) (x7 x8:Int) (k0:LP→Int→LP→LP→Bool→O R):O R :=
 bif (decide (x8<x7)) then (bif (inR x8 ((x6).length)) then (Jj3 ((x6).getD ((x8:Int).toNat) (.v (.bool false))) fun e9=>bif x5 then (bif true then (p19 n e9 ⟨#[48]⟩ (fun y10=>bif true then (l0 x1 x2 x3 x4 (bif true then (decide (y10≥0)) else false) x6 x7 (IntKind.i64.wrap (x8 + 1))) else none)) else none) else (bif false then none else (bif false then none else (bif false then none else (l0 x1 x2 x3 x4 false x6 x7 (IntKind.i64.wrap (x8 + 1))))))) else none) else (k0 x1 x2 x3 x4 x5)
def Uhn (n:Nat):Nat→LP→Int→LP→LP→Bool→LP→Int→Int→(LP→Int→LP→LP→Bool→O R)→O R
 | 0,_,_,_,_,_,_,_,_,_=>none
 | m + 1,x1,x2,x3,x4,x5,x6,x7,x8,k0=>UmJ n (fun x1 x2 x3 x4 x5 x6 x7 x8=>Uhn n m x1 x2 x3 x4 x5 x6 x7 x8 k0) x1 x2 x3 x4 x5 x6 x7 x8 k0
def UuK (n:Nat) (x1:LP) (x2:Int) (x3 x4:LP) (x5:Bool) (x6:LP) (x7 x8:Int) (k0:LP→Int→LP→LP→Bool→O R):O R:=Uhn n n x1 x2 x3 x4 x5 x6 x7 x8 k0
def UmK (n:Nat) (l0:LP→LP→Bool→LP→Int→Int→O R) (x1 x2:LP) (x3:Bool) (x4:LP) (x5 x6:Int) (k0:LP→LP→Bool→Int→Bool→O R) (k1:LP→LP→Bool→O R):O R :=
 bif (decide (x6<x5)) then (bif (inR x6 ((x4).length)) then (Jh2 ((x4).getD ((x6:Int).toNat) (.v (.bool false))) fun a7=>JdT a7 fun h8 t9=>Jkr h8 fun e10=>JdT t9 fun h11 t12=>Jj3 h11 fun e13=>JdT t12 fun h14 t15=>Jj2 h14 fun e16=>JdT t15 fun h17 t18=>Jj .i64 h17 fun e19=>Ji2 t18 (p36 n e10 x1 (fun y20 y21=>bif (y21 != 0) then (k0 x1 x2 false y21 x3) else (p19 n y20 ⟨#[48]⟩ (fun y22=>bif x3 then (bif true then (bif true then (bif (y22 == 0) then (bif true then (bif true then (bif true then (bif true then (bif true then (l0 x1 x2 true x4 x5 (IntKind.i64.wrap (x6 + 1))) else none) else none) else none) else none) else none) else (bif false then none else (bif false then none else (bif (decide (y22>0)) then (bif true then (bif true then (bif false then none else (bif true then (l0 x1 x2 (bif true then (bif false then true else (bif true then (!e16) else false)) else false) x4 x5 (IntKind.i64.wrap (x6 + 1))) else none)) else none) else none) else (bif false then none else (bif false then none else (bif false then none else (bif false then none else (bif true then (l0 x1 x2 false x4 x5 (IntKind.i64.wrap (x6 + 1))) else none))))))))) else none) else none) else (bif false then none else (bif false then none else (bif false then none else (bif false then none else (l0 x1 x2 false x4 x5 (IntKind.i64.wrap (x6 + 1)))))))))))) else none) else (k1 x1 x2 x3)
def Uho (n:Nat):Nat→LP→LP→Bool→LP→Int→Int→(LP→LP→Bool→Int→Bool→O R)→(LP→LP→Bool→O R)→O R
 | 0,_,_,_,_,_,_,_,_=>none
 | m + 1,x1,x2,x3,x4,x5,x6,k0,k1=>UmK n (fun x1 x2 x3 x4 x5 x6=>Uho n m x1 x2 x3 x4 x5 x6 k0 k1) x1 x2 x3 x4 x5 x6 k0 k1
def UuL (n:Nat) (x1 x2:LP) (x3:Bool) (x4:LP) (x5 x6:Int) (k0:LP→LP→Bool→Int→Bool→O R) (k1:LP→LP→Bool→O R):O R:=Uho n n x1 x2 x3 x4 x5 x6 k0 k1
def p59 (n:Nat) (x1:LP) (x2:Int) (x3 x4:LP) (k0:Bool→Int→O R):O R :=
 UuK n x1 x2 x3 x4 true x1 ((x1).length:Int) 0 (fun y5 y6 y7 y8 y9=>UuL n y5 y8 y9 y7 ((y7).length:Int) 0 (fun y10 y11 y12 y13 y14=>k0 y12 y13) (fun y15 y16 y17=>p36 n y16 y15 (fun y18 y19=>bif y17 then (bif true then (p19 n y18 ⟨#[48]⟩ (fun y20=>bif true then (k0 (bif true then (decide (y20<0)) else false) y19) else none)) else none) else (bif false then none else (bif false then none else (bif false then none else (k0 false y19)))))))
abbrev E59 (n:Nat):Code→Fr→Kc R→O R:=evC Tryz.prog (Uq7 n) Udh n (75,[])
noncomputable def UoQ:Code:=Jj4 (Jll Tryz.f59) [1,1,0,1,0,0]
abbrev UeD:Sl (List SV):=(.c (sP (sFb (.c sSh .n))) (.c (sP (sFb (.c (Jlv .i64) (.c sSh .n)))) (.c (sP (sFb (.c sSh .n))) (cB (cH (cI (cI .n)))))))
abbrev Ul1 (n m:Nat) (K:Kc R):UeD.T (O R):=fun x1 x2 x3 x4 x5 x6 x7 x8=>Uhn n m x1 x2 x3 x4 x5 x6 x7 x8 (fun y1 y2 y3 y4 y5=>xL Udh 3 K (.exit 0) [.p (.fb [.sh y1]),.p (.fb [.v (.int .i64 y2),.sh y3]),.p (.fb [.sh y4]),dD,dD,vB y5])
abbrev UsY (n:Nat) (K:Kc R) (l0:UeD.T (O R)):UeD.T (O R):=fun x1 x2 x3 x4 x5 x6 x7 x8=>UmJ n l0 x1 x2 x3 x4 x5 x6 x7 x8 (fun y1 y2 y3 y4 y5=>xL Udh 3 K (.exit 0) [.p (.fb [.sh y1]),.p (.fb [.v (.int .i64 y2),.sh y3]),.p (.fb [.sh y4]),dD,dD,vB y5])
noncomputable def UoR:Code:=Jj4 (Jll Tryz.f59) [1,1,1,0,1,0,0]
abbrev UeE:Sl (List SV):=(.c (sP (sFb (.c sSh .n))) (.c (sP (sFb (.c sSh .n))) (cB (cH (cI (cI .n))))))
abbrev Ul2 (n m:Nat) (K:Kc R):UeE.T (O R):=fun x1 x2 x3 x4 x5 x6=>Uho n m x1 x2 x3 x4 x5 x6 (fun y1 y2 y3 y4 y5=>xL Udh 8 K .ret [.p (.fb [.sh y1]),.p (.fb [.sh y2]),vB y3,vI y4,vB y5]) (fun y1 y2 y3=>xL Udh 8 K (.exit 2) [.p (.fb [.sh y1]),.p (.fb [.sh y2]),dD,dD,vB y3])
abbrev UsZ (n:Nat) (K:Kc R) (l0:UeE.T (O R)):UeE.T (O R):=fun x1 x2 x3 x4 x5 x6=>UmK n l0 x1 x2 x3 x4 x5 x6 (fun y1 y2 y3 y4 y5=>xL Udh 8 K .ret [.p (.fb [.sh y1]),.p (.fb [.sh y2]),vB y3,vI y4,vB y5]) (fun y1 y2 y3=>xL Udh 8 K (.exit 2) [.p (.fb [.sh y1]),.p (.fb [.sh y2]),dD,dD,vB y3])
abbrev UwI (n:Nat):Orc R:=oL Udh (E59 n) n 8 UoR UeE (Ul2 n n) (oL Udh (E59 n) n 3 UoQ UeD (Ul1 n n) oN)
abbrev Uwe (n:Nat):Orc R:=oN
abbrev K59 (R:Type) (n:Nat):=JcH (R:=R) Tryz.prog (Uq7 n) Udh n (75,[]) (UwI n) (Uwe n)
theorem Uu7 (n:Nat):K59 R n (false,3,UoQ):=JkF (lo:=UwI n) (cu:=Uwe n) (pO pN (by kernel_rfl)) UeD (Ul1 n n) (JiE (F:=Ul1 n) UeD (UsY n) (fun K _ _ _ _ _ _ _ _=>rfl) (fun _ _=>rfl) (fun L K _ _ _ _ _ _ _ _=>by show _=_; kernel_rfl) n) fun _ _=>rfl
theorem Uu8 (n:Nat):K59 R n (false,8,UoR):=JkF (lo:=UwI n) (cu:=Uwe n) (pO pN (by kernel_rfl)) UeE (Ul2 n n) (JiE (F:=Ul2 n) UeE (UsZ n) (fun K _ _ _ _ _ _=>rfl) (fun _ _=>rfl) (fun L K _ _ _ _ _ _=>by show _=_; kernel_rfl) n) fun _ _=>rfl
theorem UBN (n:Nat):Je6 (K59 R n) (JaJ Udh (Jll Tryz.f59)):=pO (pC (Uu7 n) (pC (Uu8 n) pN)) (by kernel_rfl)
abbrev t59:Sl (List SV):=(.c (sP (sFb (.c sSh .n))) (.c (sP (sFb (.c (Jlv .i64) (.c sSh .n)))) (.c (sP (sFb (.c sSh .n))) .n)))
abbrev f59 (n:Nat) (K:List SV→O R):t59.T (O R):=fun x1 x2 x3 x4=>p59 n x1 x2 x3 x4 (fun y1 y2=>K [vB y1,vI y2])
abbrev UyR (n:Nat):FS:=fT [false,false,false] t59 (f59 n)
theorem UA5 (n:Nat):FSound Tryz.prog GI 59 (UyR n):=gd Udh n (Ulf n) Tryz.func59 (.cons (Ulf n) t59 (f59 n) (fun K _ _ _ _=>(Jkq (c:=Jll Tryz.f59) (by kernel_rfl) (UBN n) K).trans (by kernel_rfl)) .nil) (by kernel_rfl)
end
end Go.Proofs.YtmgfmlhdnadglaaGreatDoor
