/- Proved: part 5 of the proof that the law CertifyGoes returns true at all its arguments (no further conditions). -/
import Derived.Test.YtmgfmlhdnadglaaGreatDoorMCertifyGoes0
set_option linter.unusedVariables false
set_option linter.unusedSimpArgs false
namespace Go.Proofs.YtmgfmlhdnadglaaGreatDoor
open Go Th Go.Proofs
variable {R:Type}
theorem Ua6 {n:Nat} (hn:10 ^ 400≤n):200000≤n:=Nat.le_trans (by decide +kernel) hn
def idx (s:List UInt8):Nat:=(s.takeWhile (· != 47)).length
theorem Uq3:idx []=0:=rfl
theorem UbX (c:UInt8) (r:List UInt8):idx (c::r)=if c=47 then 0 else idx r + 1:=by
 unfold idx
 rw [List.takeWhile_cons]
 by_cases h:c=47 <;> simp [h]
theorem UiB:∀ {s:List UInt8},(∀ c∈s,c≠47)→idx s=s.length
 | [],_=>rfl
 | c::r,h=>by rw [UbX,if_neg (h c (List.mem_cons_self ..)),UiB fun x hx=>h x (List.mem_cons_of_mem _ hx),List.length_cons]
theorem UoY:∀ {a:List UInt8} (b:List UInt8),(∀ c∈a,c≠47)→idx (a++47::b)=a.length
 | [],b,_=>by rw [List.nil_append,UbX,if_pos rfl]; rfl
 | c::r,b,h=>by rw [List.cons_append,UbX,if_neg (h c (List.mem_cons_self ..)),UoY b fun x hx=>h x (List.mem_cons_of_mem _ hx),List.length_cons]
theorem UfZ:∀ {s:List UInt8},idx s<s.length→s=s.take (idx s)++47::s.drop (idx s + 1)
 | [],h=>by simp [Uq3] at h
 | c::r,h=>by
  rw [UbX,List.length_cons] at *
  by_cases hc:c=47
  · rw [if_pos hc] at *; rw [hc]; rfl
  · rw [if_neg hc] at *
    have ih:=UfZ (s:=r) (by omega)
    rw [List.take_succ_cons,List.drop_succ_cons,List.cons_append,←ih]
theorem UbY:∀ (s:List UInt8),Lib.indexByte s 47=if idx s<s.length then (idx s:Int) else -1
 | []=>rfl
 | c::r=>by
  have ih:=UbY r
  simp only [Lib.indexByte,UbX,List.length_cons]
  by_cases hc:c=47
  · subst hc; simp
  · rw [if_neg (by simpa using hc),ih,if_neg hc]
    by_cases h:idx r<r.length
    · simp only [if_pos h]
      rw [if_neg (by simp),if_pos (by omega)]; omega
    · simp only [if_neg h]
      rw [if_pos (by decide),if_neg (by omega)]
theorem UoA (n:Nat) (s:List UInt8) (hs:s.length<2 ^ 40) (k0:ByteArray→ByteArray→Bool→Option R) :
 p96 n (bs s) k0=if idx s<s.length then k0 (bs (s.take (idx s))) (bs (s.drop (idx s + 1))) true else k0 (bs s) (bs []) false:=by
 unfold p96 Uw3
 have e:((⟨#[47]⟩:ByteArray).data.toList.headD 0)=47:=rfl
 have hz:(⟨#[47]⟩:ByteArray).size=1:=rfl
 rw [Jg6,e,UbY]
 by_cases h:idx s<s.length
 · rw [if_pos h,if_pos h]
   have e1:(idx s:Int) + ((1:Nat):Int)=((idx s + 1:Nat):Int):=by omega
   have e2:List.drop (0:Int).toNat (List.take (idx s) s)=s.take (idx s):=rfl
   have e3:List.drop 0 (List.take (idx s) s)=s.take (idx s):=rfl
   have e4:List.drop (idx s + 1) (List.take s.length s)=s.drop (idx s + 1):=by rw [List.take_length]
   have hz2:(bs [47]).size=1:=rfl
   simp (disch:=(first | omega | (simp only [JlD]; omega))) only [↓JlG,JlE,hz,hz2,e1,Jjh,e2,e3,e4,List.length_nil]
 · rw [if_neg h,if_neg h]
   simp (disch:=(first | omega | (simp only [JlD]; omega))) only [↓JlG,JlE]
theorem Uny (a:Nat):∀ c∈dec a,c≠47:=by
 intro c hc h
 have:=UaG.1 (Ua7 a c hc)
 rw [h] at this
 exact absurd this.1 (by decide)
theorem Uf0 (z:Int):∀ c∈Lib.itoa z,c≠47:=by
 have h:=Udx (Lib.itoa z)
 rw [Uau] at h
 rw [h]
 intro c hc
 rcases List.mem_append.1 hc with h1 | h1
 · split at h1
   · rw [List.mem_singleton.1 h1]; decide
   · cases h1
 · exact Uny _ c h1
theorem UiE {z:Int} (h:z.natAbs<10 ^ 400):(Lib.itoa z).length≤401:=by
 have h1:=Uck h
 have h2:=Udx (Lib.itoa z)
 rw [Uau] at h2
 rw [h2,List.length_append]
 split <;> simp <;> omega
theorem UaK {q:Rat} (h:fits q):(Uaf q).length≤802:=by
 unfold Uaf
 have h1:=UiE h.1
 have h2:=Uck h.2
 rw [List.length_append]
 split <;> simp <;> omega
theorem Ukb:dec 1=[49]:=Uaz (by omega)
theorem UcJ (q:Rat):(Uaf q).take (idx (Uaf q))=Lib.itoa q.num∧(idx (Uaf q)<(Uaf q).length↔q.den≠1)∧(q.den≠1→(Uaf q).drop (idx (Uaf q) + 1)=dec q.den):=by
 unfold Uaf
 by_cases h:q.den=1
 · rw [if_pos h,List.append_nil,UiB (Uf0 _),List.take_length]
   exact ⟨rfl,by simp [h],fun q=>absurd h q⟩
 · rw [if_neg h,UoY _ (Uf0 _),List.take_left]
   refine ⟨rfl,by simp [h],fun _=>?_⟩
   rw [List.drop_append,List.drop_of_length_le (by omega),show (Lib.itoa q.num).length + 1 - (Lib.itoa q.num).length=1 from by omega]
   rfl
theorem Ufv {p q:Rat} (h:Uaf p=Uaf q):p=q:=by
 obtain ⟨a1,a2,a3⟩:=UcJ p
 obtain ⟨b1,b2,b3⟩:=UcJ q
 rw [h] at a1 a2 a3
 have hn:Lib.itoa p.num=Lib.itoa q.num:=a1.symm.trans b1
 have hc:=congrArg Ubg hn
 rw [Uau,Uau] at hc
 have h1:=UbC (Prod.mk.inj hc).2
 have h2:(p.num<0)=(q.num<0):=by simpa using (Prod.mk.inj hc).1
 have hnum:p.num=q.num:=by
  have:p.num<0↔q.num<0:=by rw [h2]
  omega
 by_cases hd:q.den=1
 · have:p.den=1:=by
    apply Classical.byContradiction
    intro hp
    exact (b2.1 (a2.2 hp)) hd
   exact Rat.ext hnum (this.trans hd.symm)
 · have hp:p.den≠1:=a2.1 (b2.2 hd)
   exact Rat.ext hnum (UbC ((a3 hp).symm.trans (b3 hd)))
def isQ (s:List UInt8):Prop:=∃ q:Rat,fits q∧s=Uaf q
theorem UlV (n:Nat) (z w:Nat) (hz:z<10 ^ 400) (hw:w<10 ^ 400) (hw0:w≠0) (hn:10 ^ 400≤n) (x1 x3:Bool) (x5:List PV) (k0:Bool→List PV→List PV→Bool→Option R) :
 Ufd n x1 (bs (dec w)) x3 (NN z) x5 k0=k0 x3 (NN z) (NN w) (Nat.gcd w z == 1):=by
 have hN:=Nat.le_trans (by decide +kernel:2 ^ 20≤10 ^ 400) hn
 have m1:=Uav hz
 have m2:=Uav hw
 have lw:=Uck hw
 have q2:=fun k0=>Ufu (R:=R) n (dec w) (Ua7 _) (by omega) (by omega) k0
 rw [Uco] at q2
 have hg:=fun k0=>UoW (R:=R) n z w (by omega) (by omega) (by omega) (by omega) (by omega) k0
 obtain ⟨g,hge⟩:∃ g,Nat.gcd w z=g:=⟨_,rfl⟩
 have hg0:g≠0:=by rw [←hge]; intro e; exact hw0 (Nat.gcd_eq_zero_iff.1 e).1
 rw [hge] at hg ⊢
 have hgl:(toL 1000000000 g).length≤45:=Ub m2 (by rw [←hge]; exact Nat.le_of_dvd (by omega) (Nat.gcd_dvd_left _ _))
 unfold Ufd
 clear hz hw hn
 simp only [q2,hg,Un3]
 by_cases c:(toL 1000000000 g).length=1
 · have hg1:g<1000000000:=by
    have:=(Uah hB2 g 1).1 (by omega)
    rwa [Nat.pow_one] at this
   have hgi:∀ (K:Int→Option R),Ji9 .u32 ((NN g).getD (0:Int).toNat (PV.v (Value.bool false))) K=K (g:Int):=fun K=>by rw [Uen hg0 hg1]; rfl
   have e1:(((toL 1000000000 g).length:Int) == 1)=true:=by rw [c]; rfl
   have e2:((g:Int) == 1)=(g == 1):=JdC g 1
   simp (disch:=(first | omega | (simp only [JlD]; omega))) only [↓JlG,JlE,JlF,e1,hgi,e2]
 · have e1:(((toL 1000000000 g).length:Int) == 1)=false:=by
    simp only [beq_eq_false_iff_ne,ne_eq]; omega
   have e2:(g == 1)=false:=by
    simp only [beq_eq_false_iff_ne,ne_eq]
    intro e
    rw [e,UcY hB2 (by omega) (by omega)] at c
    exact c rfl
   rw [e2]
   simp (disch:=(first | omega | (simp only [JlD]; omega))) only [↓JlG,JlE,JlF,e1]
theorem Ugv (q:Rat):Nat.gcd q.den q.num.natAbs=1:=by rw [Nat.gcd_comm]; exact q.reduced
theorem Unr {s:List UInt8}:eqS (bs s) (⟨#[48]⟩:ByteArray)=(s == [48]):=rfl
theorem UqR {s:List UInt8}:eqS (bs s) (⟨#[49]⟩:ByteArray)=(s == [49]):=rfl
theorem UlZ (z:Int) (w:Nat) (hz:z.natAbs<10 ^ 400) (hw:w<10 ^ 400) (h0:w≠0) (hc:Nat.gcd w z.natAbs=1):∃ q:Rat,fits q∧q.num=z∧q.den=w :=
 ⟨⟨z,w,h0,by rw [Nat.gcd_comm] at hc; exact hc⟩,⟨hz,hw⟩,rfl,rfl⟩
theorem Ubc (n:Nat) (hn:10 ^ 400≤n) (q:Rat) (hq:fits q) (k0:Bool→List PV→List PV→Bool→Option R) :
 p56 n (bs (Uaf q)) k0=k0 (sg q.num) (NN q.num.natAbs) (NN q.den) true:=by
 have hN:=Nat.le_trans (by decide +kernel:2 ^ 20≤10 ^ 400) hn
 have hl:=UaK hq
 obtain ⟨a1,a2,a3⟩:=UcJ q
 have c1:=fun k0=>UoA (R:=R) n (Uaf q) (by omega) k0
 have li:=UiE hq.1
 have i1:=fun k0=>Ucm (R:=R) n (Lib.itoa q.num) (by omega) k0
 rw [Uau,UlY hq.1] at i1
 have ln:=Uck hq.1
 have q1:=fun k0=>Ufu (R:=R) n (dec q.num.natAbs) (Ua7 _) (by omega) (by omega) k0
 rw [Uco] at q1
 unfold p56
 by_cases hd:q.den=1
 · have e1:Uaf q=Lib.itoa q.num:=by unfold Uaf; rw [if_pos hd,List.append_nil]
   simp only [if_neg (fun h=>a2.1 h hd)] at c1
   rw [e1] at c1 ⊢
   simp only [c1,i1,q1,Bool.not_true,Bool.not_false,Uam,Uak]
   rw [hd,Usl]
 · simp only [if_pos (a2.2 hd),a1,a3 hd] at c1
   have d1:=fun k0=>Udy (R:=R) n (dec q.den) (by have:=Uck hq.2; omega) k0
   rw [UhP hq.2] at d1
   have g1:=fun x1 x3 x5 k0=>UlV (R:=R) n q.num.natAbs q.den hq.1 hq.2 q.den_nz hn x1 x3 x5 k0
   rw [Ugv] at g1
   have e48:(dec q.den == [48])=false:=by
    simp only [beq_eq_false_iff_ne,ne_eq]
    intro e; exact q.den_nz (UbC (e.trans Uan.symm))
   have e49:(dec q.den == [49])=false:=by
    simp only [beq_eq_false_iff_ne,ne_eq]
    intro e; exact hd (UbC (e.trans Ukb.symm))
   simp only [c1,i1,q1,d1,Unr,UqR,e48,e49,g1,Bool.not_true,Bool.not_false,Uam,Uak,show ((1:Nat) == 1)=true from rfl]
theorem UrV (n:Nat) (hn:10 ^ 400≤n) (s:List UInt8) (hs:s.length<2 ^ 20) :
 isQ s∨∃ a b c,∀ k0:Bool→List PV→List PV→Bool→Option R,p56 n (bs s) k0=k0 a b c false:=by
 have hN:=Nat.le_trans (by decide +kernel:2 ^ 20≤10 ^ 400) hn
 have c1:=fun k0=>UoA (R:=R) n s (by omega) k0
 by_cases hsl:idx s<s.length
 · simp only [if_pos hsl] at c1
   have hspl:=UfZ hsl
   have lt:(s.take (idx s)).length<2 ^ 20:=by rw [List.length_take]; omega
   have lb:(s.drop (idx s + 1)).length<2 ^ 20:=by rw [List.length_drop]; omega
   generalize s.take (idx s)=t at *
   generalize s.drop (idx s + 1)=b at *
   have i1:=fun k0=>Ucm (R:=R) n t (by omega) k0
   have d1:=fun k0=>Udy (R:=R) n b (by omega) k0
   cases hI:UoZ t with
   | false =>
    rw [hI] at i1
    exact Or.inr ⟨false,[],[],fun k0=>by unfold p56; simp only [c1,i1,Bool.not_false,Uam]⟩
   | true =>
    rw [hI] at i1
    obtain ⟨z,hz,rfl⟩:=UiC hI
    rw [Uau] at i1
    have ln:=Uck hz
    have q1:=fun k0=>Ufu (R:=R) n (dec z.natAbs) (Ua7 _) (by omega) (by omega) k0
    rw [Uco] at q1
    cases hD:Ugk b with
    | false =>
     rw [hD] at d1
     exact Or.inr ⟨false,[],[],fun k0=>by unfold p56; simp only [c1,i1,q1,d1,Bool.not_true,Bool.not_false,Uam,Uak]⟩
    | true =>
     rw [hD] at d1
     obtain ⟨hw,hb⟩:=UhQ hD
     by_cases h48:b=[48]
     · have e48:(b == [48])=true:=by simpa using h48
       exact Or.inr ⟨false,[],[],fun k0=>by unfold p56; simp only [c1,i1,q1,d1,Unr,e48,Bool.not_true,Bool.not_false,Uam,Uak]⟩
     have e48:(b == [48])=false:=by simpa using h48
     by_cases h49:b=[49]
     · have e49:(b == [49])=true:=by simpa using h49
       exact Or.inr ⟨false,[],[],fun k0=>by unfold p56; simp only [c1,i1,q1,d1,Unr,UqR,e48,e49,Bool.not_true,Bool.not_false,Uam,Uak]⟩
     have e49:(b == [49])=false:=by simpa using h49
     have hw0:ofD b≠0:=fun e=>h48 (by rw [hb,e,Uan])
     have hw1:ofD b≠1:=fun e=>h49 (by rw [hb,e,Ukb])
     have g1:=fun x1 x3 x5 k0=>UlV (R:=R) n z.natAbs (ofD b) hz hw hw0 hn x1 x3 x5 k0
     rw [←hb] at g1
     by_cases hg:Nat.gcd (ofD b) z.natAbs=1
     · obtain ⟨q,f1,f2,f3⟩:=UlZ z (ofD b) hz hw hw0 hg
       refine Or.inl ⟨q,f1,?_⟩
       unfold Uaf
       rw [f2,f3,if_neg hw1,←hb]
       exact hspl
     · rw [show (Nat.gcd (ofD b) z.natAbs == 1)=false from by simpa using hg] at g1
       exact Or.inr ⟨decide (z<0),NN z.natAbs,NN (ofD b),fun k0=>by unfold p56; simp only [c1,i1,q1,d1,Unr,UqR,e48,e49,g1,Bool.not_true,Bool.not_false,Uam,Uak]⟩
 · simp only [if_neg hsl] at c1
   have i1:=fun k0=>Ucm (R:=R) n s (by omega) k0
   cases hI:UoZ s with
   | false =>
    rw [hI] at i1
    exact Or.inr ⟨false,[],[],fun k0=>by unfold p56; simp only [c1,i1,Bool.not_false,Uam]⟩
   | true =>
    obtain ⟨z,hz,rfl⟩:=UiC hI
    obtain ⟨q,f1,f2,f3⟩:=UlZ z 1 hz (by decide +kernel) (by omega) (Nat.gcd_one_left _)
    refine Or.inl ⟨q,f1,?_⟩
    unfold Uaf
    rw [f2,f3,if_pos rfl,List.append_nil]
theorem UiZ (n:Nat) (hn:10 ^ 400≤n) (s:List UInt8) (hs:s.length<2 ^ 20) (h:¬ isQ s):∃ a b c,∀ k0:Bool→List PV→List PV→Bool→Option R,p56 n (bs s) k0=k0 a b c false :=
 (UrV n hn s hs).resolve_left h
theorem Ual (v:Int):Lib.itoa v=Uaf (v:Rat):=by
 unfold Uaf
 rw [Rat.num_intCast,Rat.den_intCast,if_pos rfl,List.append_nil]
theorem UbW {v:Int} (h:v.natAbs<10 ^ 400):fits (v:Rat):=by
 unfold fits
 rw [Rat.num_intCast,Rat.den_intCast]
 exact ⟨h,by decide +kernel⟩
theorem Ujs (n:Nat) (hn:10 ^ 400≤n) (s:List UInt8) (hs:s.length<2 ^ 20) (k0:Bool→Option R) [Decidable (isQ s)]:p53 n (bs s) k0=k0 (decide (isQ s)):=by
 have hN:=Nat.le_trans (by decide +kernel:2 ^ 20≤10 ^ 400) hn
 unfold p53
 by_cases hv:∃ v:Int,v.natAbs<10 ^ 9∧s=Lib.itoa v
 · obtain ⟨v,h1,rfl⟩:=hv
   have hq:isQ (Lib.itoa v):=⟨(v:Rat),UbW (Nat.lt_trans h1 (by decide +kernel)),Ual v⟩
   rw [Udl n (by omega) v h1,decide_eq_true hq]; rfl
 · rw [Ug n (by omega) s (by omega) hv,Uak]
   by_cases hq:isQ s
   · obtain ⟨q,h1,rfl⟩:=hq
     rw [Ubc n hn q h1,decide_eq_true ⟨q,h1,rfl⟩]
   · obtain ⟨a,b,c,h⟩:=UiZ (R:=R) n hn s hs hq
     rw [h,decide_eq_false hq]
end Go.Proofs.YtmgfmlhdnadglaaGreatDoor
set_option linter.unusedVariables false
set_option maxRecDepth 100000
namespace Go.Proofs.YtmgfmlhdnadglaaGreatDoor
open Go Th Go.Proofs
noncomputable section
variable {R:Type}
def Uew:Ann:={ loops:=[(2,ids [5,6,7],ids [2])],cuts:=[],frz:=[],rm:=[.id] }
abbrev UqM (n:Nat):Env:=eC 53 (UqZ n) eN
theorem Uk2 (n:Nat):EnvOK Tryz.prog GI (UqM n):=.cons (.nil) (Usd n)
def Ufk (n:Nat) (l0:LP→Int→Int→O R) (x1:LP) (x2 x3:Int) (k0:Bool→O R) (k1:O R):O R :=
 bif (decide (x3<x2)) then (bif (inR x3 ((x1).length)) then (Jj2 ((x1).getD ((x3:Int).toNat) (.v (.bool false))) fun e4=>p53 n e4 (fun y5=>bif (!y5) then (k0 false) else (l0 x1 x2 (IntKind.i64.wrap (x3 + 1))))) else none) else (k1)
def UcD (n:Nat):Nat→LP→Int→Int→(Bool→O R)→(O R)→O R
 | 0,_,_,_,_,_=>none
 | m + 1,x1,x2,x3,k0,k1=>Ufk n (fun x1 x2 x3=>UcD n m x1 x2 x3 k0 k1) x1 x2 x3 k0 k1
def Upf (n:Nat) (x1:LP) (x2 x3:Int) (k0:Bool→O R) (k1:O R):O R:=UcD n n x1 x2 x3 k0 k1
def p66 (n:Nat) (x1:LP) (k0:Bool→O R):O R :=
 Upf n x1 ((x1).length:Int) 0 (fun y2=>k0 y2) (k0 true)
abbrev E66 (n:Nat):Code→Fr→Kc R→O R:=evC Tryz.prog (UqM n) Uew n (15,[])
noncomputable def Uoo:Code:=Jj3 (Jlk Tryz.f66) [1,0,1,0,0]
abbrev Uei:Sl (List SV):=(cH (cI (cI .n)))
abbrev UlM (n m:Nat) (K:Kc R):Uei.T (O R):=fun x1 x2 x3=>UcD n m x1 x2 x3 (fun y1=>xL Uew 2 K .ret [vB y1]) (xL Uew 2 K (.exit 0) [dD])
abbrev UsE (n:Nat) (K:Kc R) (l0:Uei.T (O R)):Uei.T (O R):=fun x1 x2 x3=>Ufk n l0 x1 x2 x3 (fun y1=>xL Uew 2 K .ret [vB y1]) (xL Uew 2 K (.exit 0) [dD])
abbrev Uy2 (n:Nat):Orc R:=oL Uew (E66 n) n 2 Uoo Uei (UlM n n) oN
abbrev Uya (n:Nat):Orc R:=oN
abbrev K66 (R:Type) (n:Nat):=JcH (R:=R) Tryz.prog (UqM n) Uew n (15,[]) (Uy2 n) (Uya n)
theorem UuR (n:Nat):K66 R n (false,2,Uoo):=JkE (lo:=Uy2 n) (cu:=Uya n) (pO pN (by kernel_rfl)) Uei (UlM n n) (JiD (F:=UlM n) Uei (UsE n) (fun K _ _ _=>rfl) (fun _ _=>rfl) (fun L K _ _ _=>by show _=_; kernel_rfl) n) fun _ _=>rfl
theorem UBF (n:Nat):Je6 (K66 R n) (JaJ Uew (Jlk Tryz.f66)):=pO (pC (UuR n) pN) (by kernel_rfl)
abbrev t66:Sl (List SV):=(cH .n)
abbrev f66 (n:Nat) (K:List SV→O R):t66.T (O R):=fun x1=>p66 n x1 (fun y1=>K [vB y1])
abbrev Uwb (n:Nat):FS:=fT [false] t66 (f66 n)
theorem Uzc (n:Nat):FSound Tryz.prog GI 66 (Uwb n):=gd Uew n (Uk2 n) Tryz.func66 (.cons (Uk2 n) t66 (f66 n) (fun K _=>(Jkp (c:=Jlk Tryz.f66) (by kernel_rfl) (UBF n) K).trans (by kernel_rfl)) .nil) (by kernel_rfl)
abbrev t41:Sl (List SV):=(cH .n)
end
end Go.Proofs.YtmgfmlhdnadglaaGreatDoor
set_option linter.unusedVariables false
set_option linter.unusedSimpArgs false
namespace Go.Proofs.YtmgfmlhdnadglaaGreatDoor
open Go Th Go.Proofs
variable {R:Type}
theorem Uc8 {α β:Type} (f:α→β) {l:List α} {i:Nat} {d:β} (h:i<l.length):(l.map f).getD i d=f l[i]:=by
 rw [List.getD_eq_getElem?_getD,List.getElem?_map,List.getElem?_eq_getElem h]; rfl
abbrev TermT:=Int × List UInt8
def tPV (t:TermT):PV:=.agg [.v (.int .i64 t.1),.v (.string (bs t.2))]
def tms (l:List TermT):List PV:=l.map tPV
theorem Ua (l:List TermT):(tms l).length=l.length:=by unfold tms; rw [List.length_map]
theorem Uay {l:List TermT} {i:Nat} {d:PV} (h:i<l.length) (K:Int→ByteArray→Option R) :
 (Jh1 ((tms l).getD i d) fun a=>JdT a fun h1 t1=>Ji9 .i64 h1 fun e1=>JdT t1 fun h2 t2=>Jj2 h2 fun e2=>Ji1 t2 (K e1 e2))=K (l[i]).1 (bs (l[i]).2):=by
 unfold tms; rw [Uc8 tPV h]; rfl
structure RowT where
 tm:List TermT
 c:List UInt8
 eq:Bool
 mark:Int
def rPV (r:RowT):PV:=.agg [.sh (tms r.tm),.v (.string (bs r.c)),.v (.bool r.eq),.v (.int .i64 r.mark)]
def rws (l:List RowT):List PV:=l.map rPV
theorem Uae (l:List RowT):(rws l).length=l.length:=by unfold rws; rw [List.length_map]
theorem UaB {l:List RowT} {i:Nat} {d:PV} (h:i<l.length) (K:List PV→ByteArray→Bool→Int→Option R) :
 (Jh1 ((rws l).getD i d) fun a=>JdT a fun h1 t1=>Jkq h1 fun e1=>JdT t1 fun h2 t2=>Jj2 h2 fun e2=>JdT t2 fun h3 t3=>Jj1 h3 fun e3=>JdT t3 fun h4 t4=>Ji9 .i64 h4 fun e4=>Ji1 t4 (K e1 e2 e3 e4)) =
   K (tms (l[i]).tm) (bs (l[i]).c) (l[i]).eq (l[i]).mark:=by
 unfold rws; rw [Uc8 rPV h]; rfl
def qPV (q:Rat):PV:=.agg [.v (.bool (sg q.num)),.sh (II q.num.natAbs),.v (.bool false),.sh (II q.den)]
def qs (l:List Rat):List PV:=l.map qPV
theorem Ua1 {l:List (List UInt8)} {i:Nat} {d:PV} (h:i<l.length) (K:ByteArray→Option R):Jj2 ((sl l).getD i d) K=K (bs l[i]):=by
 unfold sl; rw [Uc8 _ h]; rfl
theorem Ua9 {α:Type} {l:List α} {i:Nat} (h:i<l.length):l.drop i=l[i]::l.drop (i + 1):=List.drop_eq_getElem_cons h
theorem Uap {α:Type} {l:List α} {ok:α→Bool} {kbad kend:Option R} (L:Nat→Nat→Option R) (hend:∀ m,L (m + 1) l.length=kend)
 (hstep:∀ m i (h:i<l.length),L (m + 1) i=if ok l[i] then L m (i + 1) else kbad):∀ (d m i:Nat),d + i=l.length→d<m→L m i=if (l.drop i).all ok then kend else kbad
 | 0,m + 1,i,hd,hm=>by
  have:i=l.length:=by omega
  subst this
  rw [hend,List.drop_length]; rfl
 | d + 1,m + 1,i,hd,hm=>by
  have hi:i<l.length:=by omega
  rw [hstep m i hi,Uap L hend hstep d m (i + 1) (by omega) (by omega),Ua9 hi,List.all_cons]
  cases ok l[i] <;> simp
def Usf {α σ:Type} (step:σ→α→(σ→Option R)→Option R) (kend:σ→Option R):σ→List α→Option R
 | s,[]=>kend s
 | s,a::l=>step s a fun s'=>Usf step kend s' l
theorem Ug8 {α σ:Type} {l:List α} {step:σ→α→(σ→Option R)→Option R} {kend:σ→Option R} (L:Nat→σ→Nat→Option R) (hend:∀ m s,L (m + 1) s l.length=kend s)
 (hstep:∀ m s i (h:i<l.length),L (m + 1) s i=step s l[i] fun s'=>L m s' (i + 1)):∀ (d m i:Nat) (s:σ),d + i=l.length→d<m→L m s i=Usf step kend s (l.drop i)
 | 0,m + 1,i,s,hd,hm=>by
  have:i=l.length:=by omega
  subst this
  rw [hend,List.drop_length]; rfl
 | d + 1,m + 1,i,s,hd,hm=>by
  have hi:i<l.length:=by omega
  rw [hstep m s i hi,Ua9 hi]
  show step s l[i] _=step s l[i] _
  congr 1
  funext s'
  exact Ug8 L hend hstep d m (i + 1) s' (by omega) (by omega)
theorem UsJ {a b:List UInt8} (h:a=b):(a == b)=true:=by rw [h]; exact beq_self_eq_true b
theorem Uqk {a b:List UInt8} (h:¬ a=b):(a == b)=false:=by rw [Bool.eq_false_iff]; intro q; exact h (eq_of_beq q)
theorem i1 (i:Nat):(i:Int) + 1=((i + 1:Nat):Int):=by omega
noncomputable def qb (s:List UInt8):Bool:=@decide (isQ s) (Classical.propDecidable _)
theorem Uxs {s:List UInt8}:qb s=true↔isQ s:=by unfold qb; exact @decide_eq_true_iff _ (Classical.propDecidable _)
theorem UbL (n:Nat) (hn:10 ^ 400≤n) (s:List UInt8) (hs:s.length<2 ^ 17) (k0:Bool→Option R):p53 n (bs s) k0=k0 (qb s):=@Ujs R n hn s (Nat.lt_trans hs (by decide)) k0 (Classical.propDecidable _)
noncomputable def Udq (l:List (List UInt8)):Bool:=l.all qb
def smS (l:List (List UInt8)):Prop:=l.length<2 ^ 17∧∀ s∈l,s.length<2 ^ 17
theorem Ucn (n:Nat) (hn:10 ^ 400≤n) (l:List (List UInt8)) (hl:smS l) (k0:Bool→Option R):p66 n (sl l) k0=k0 (Udq l):=by
 have hN:=Ua6 hn
 have hL:=hl.1
 unfold p66 Upf
 have h:=Uap (R:=R) (l:=l) (ok:=qb) (kbad:=k0 false) (kend:=k0 true) (fun m i=>UcD n m (sl l) ((sl l).length:Int) (i:Int) k0 (k0 true))
  (fun m=>by simp only [UcD,Ufk]; simp (disch:=(first | omega | (simp only [JlD]; omega))) only [↓JlG,JlE,Uag])
  (fun m i hi=>by
    have hv:=fun k=>UbL (R:=R) n hn l[i] (hl.2 _ (List.getElem_mem hi)) k
    simp only [UcD,Ufk]
    simp (disch:=(first | omega | (simp only [JlD]; omega))) only [↓JlG,JlE,Uag,Jjh,Ua1 hi,hv,i1]
    cases qb l[i] <;> rfl) l.length n 0 (by omega) (by omega)
 rw [List.drop_zero] at h
 refine Eq.trans h ?_
 unfold Udq
 cases l.all qb <;> rfl
end Go.Proofs.YtmgfmlhdnadglaaGreatDoor
set_option linter.unusedVariables false
set_option maxRecDepth 100000
namespace Go.Proofs.YtmgfmlhdnadglaaGreatDoor
open Go Th Go.Proofs
noncomputable section
variable {R:Type}
def UbN:Ann:={ loops:=[(3,ids [1,2,5,9,10,11],ids [2,4])],cuts:=[],frz:=[],rm:=[.id] }
abbrev Ukk (n:Nat):Env:=eC 53 (UqZ n) eN
theorem Uh3 (n:Nat):EnvOK Tryz.prog GI (Ukk n):=.cons (.nil) (Usd n)
def Udc (n:Nat) (l0:Int→LP→ByteArray→Bool→Int→Int→LP→Int→Int→O R) (x1:Int) (x2:LP) (x3:ByteArray) (x4:Bool) (x5 x6:Int) (x7:LP) (x8 x9:Int) (k0:LP→ByteArray→Bool→Int→Bool→O R) (k1:LP→ByteArray→Bool→Int→O R):O R :=
 bif (decide (x9<x8)) then (bif (inR x9 ((x7).length)) then (Jh1 ((x7).getD ((x9:Int).toNat) (.v (.bool false))) fun a10=>JdT a10 fun h11 t12=>Ji9 .i64 h11 fun e13=>JdT t12 fun h14 t15=>Jj2 h14 fun e16=>Ji1 t15 (bif (decide (e13≤x6)) then (k0 x2 x3 x4 x5 false) else (bif (bif false then true else (decide (e13≥x1))) then (k0 x2 x3 x4 x5 false) else (bif (bif false then true else eqS e16 (⟨#[48]⟩:ByteArray)) then (k0 x2 x3 x4 x5 false) else (p53 n e16 (fun y17=>bif (bif false then true else (!y17)) then (k0 x2 x3 x4 x5 false) else (l0 x1 x2 x3 x4 x5 e13 x7 x8 (IntKind.i64.wrap (x9 + 1))))))))) else none) else (k1 x2 x3 x4 x5)
def Ubi (n:Nat):Nat→Int→LP→ByteArray→Bool→Int→Int→LP→Int→Int→(LP→ByteArray→Bool→Int→Bool→O R)→(LP→ByteArray→Bool→Int→O R)→O R
 | 0,_,_,_,_,_,_,_,_,_,_,_=>none
 | m + 1,x1,x2,x3,x4,x5,x6,x7,x8,x9,k0,k1=>Udc n (fun x1 x2 x3 x4 x5 x6 x7 x8 x9=>Ubi n m x1 x2 x3 x4 x5 x6 x7 x8 x9 k0 k1) x1 x2 x3 x4 x5 x6 x7 x8 x9 k0 k1
def Uma (n:Nat) (x1:Int) (x2:LP) (x3:ByteArray) (x4:Bool) (x5 x6:Int) (x7:LP) (x8 x9:Int) (k0:LP→ByteArray→Bool→Int→Bool→O R) (k1:LP→ByteArray→Bool→Int→O R):O R:=Ubi n n x1 x2 x3 x4 x5 x6 x7 x8 x9 k0 k1
def UvF (n:Nat) (x1:LP) (x2:ByteArray) (x3:Bool) (x4 x5:Int) (k0:Bool→O R):O R :=
 Uma n x5 x1 x2 x3 x4 (-1) x1 ((x1).length:Int) 0 (fun y6 y7 y8 y9 y10=>k0 y10) (fun y11 y12 y13 y14=>p53 n y12 (fun y15=>k0 y15))
abbrev Uzs (n:Nat):Code→Fr→Kc R→O R:=evC Tryz.prog (Ukk n) UbN n (42,[])
noncomputable def UjJ:Code:=Jj3 (Jlk Tryz.f107) [1,1,0,1,0,0]
abbrev UcO:Sl (List SV):=(cI (.c (sBx 70 (cH (cS (cB (cI .n))))) (cI (cH (cI (cI .n))))))
abbrev UgD (n m:Nat) (K:Kc R):UcO.T (O R):=fun x1 x2 x3 x4 x5 x6 x7 x8 x9=>Ubi n m x1 x2 x3 x4 x5 x6 x7 x8 x9 (fun y1 y2 y3 y4 y5=>xL UbN 3 K .ret [.bx 70 [vH y1,vS y2,vB y3,vI y4],vB y5]) (fun y1 y2 y3 y4=>xL UbN 3 K (.exit 0) [.bx 70 [vH y1,vS y2,vB y3,vI y4],dD])
abbrev Up5 (n:Nat) (K:Kc R) (l0:UcO.T (O R)):UcO.T (O R):=fun x1 x2 x3 x4 x5 x6 x7 x8 x9=>Udc n l0 x1 x2 x3 x4 x5 x6 x7 x8 x9 (fun y1 y2 y3 y4 y5=>xL UbN 3 K .ret [.bx 70 [vH y1,vS y2,vB y3,vI y4],vB y5]) (fun y1 y2 y3 y4=>xL UbN 3 K (.exit 0) [.bx 70 [vH y1,vS y2,vB y3,vI y4],dD])
abbrev Ut3 (n:Nat):Orc R:=oL UbN (Uzs n) n 3 UjJ UcO (UgD n n) oN
abbrev UsR (n:Nat):Orc R:=oN
abbrev UxW (R:Type) (n:Nat):=JcH (R:=R) Tryz.prog (Ukk n) UbN n (42,[]) (Ut3 n) (UsR n)
theorem Urp (n:Nat):UxW R n (false,3,UjJ):=JkE (lo:=Ut3 n) (cu:=UsR n) (pO pN (by kernel_rfl)) UcO (UgD n n) (JiD (F:=UgD n) UcO (Up5 n) (fun K _ _ _ _ _ _ _ _ _=>rfl) (fun _ _=>rfl) (fun L K _ _ _ _ _ _ _ _ _=>by show _=_; kernel_rfl) n) fun _ _=>rfl
theorem Uxc (n:Nat):Je6 (UxW R n) (JaJ UbN (Jlk Tryz.f107)):=pO (pC (Urp n) pN) (by kernel_rfl)
abbrev Uxy:Sl (List SV):=(.c (sP (JlH (.c sSh (.c Jlx (.c Jle (.c (Jlu .i64) .n)))))) (cI .n))
abbrev f107 (n:Nat) (K:List SV→O R):Uxy.T (O R):=fun x1 x2 x3 x4 x5=>UvF n x1 x2 x3 x4 x5 (fun y1=>K [vB y1])
abbrev UtD (n:Nat):FS:=fT [false,false] Uxy (f107 n)
theorem Uwz (n:Nat):FSound Tryz.prog GI 107 (UtD n):=gd UbN n (Uh3 n) Tryz.func107 (.cons (Uh3 n) Uxy (f107 n) (fun K _ _ _ _ _=>(Jkp (c:=Jlk Tryz.f107) (by kernel_rfl) (Uxc n) K).trans (by kernel_rfl)) .nil) (by kernel_rfl)
def Uju:Ann:={ loops:=[],cuts:=[],frz:=[],rm:=[.id] }
abbrev UoC (n:Nat):Env:=eC 107 (UtD n) eN
theorem Uh2 (n:Nat):EnvOK Tryz.prog GI (UoC n):=.cons (.nil) (Uwz n)
def Uw1 (n:Nat) (x1:LP) (x2:ByteArray) (x3:Bool) (x4 x5:Int) (x6:LP) (k0:Bool→O R):O R :=
 UvF n x1 x2 x3 x4 x5 (fun y7=>k0 (!y7))
abbrev Uwi (n:Nat):Orc R:=oN
abbrev UvQ (n:Nat):Orc R:=oN
abbrev Uzy (R:Type) (n:Nat):=JcH (R:=R) Tryz.prog (UoC n) Uju n (9,[]) (Uwi n) (UvQ n)
theorem Uxb (n:Nat):Je6 (Uzy R n) (JaJ Uju (Jlk Tryz.f106)):=pO pN (by kernel_rfl)
abbrev Uxx:Sl (List SV):=(.c (sP (JlH (.c sSh (.c Jlx (.c Jle (.c (Jlu .i64) .n)))))) (.c (sP (sFb (.c (Jlu .i64) (.c sSh .n)))) .n))
abbrev f106 (n:Nat) (K:List SV→O R):Uxx.T (O R):=fun x1 x2 x3 x4 x5 x6=>Uw1 n x1 x2 x3 x4 x5 x6 (fun y1=>K [vB y1])
abbrev UtC (n:Nat):FS:=fT [false,false] Uxx (f106 n)
theorem Uwy (n:Nat):FSound Tryz.prog GI 106 (UtC n):=gd Uju n (Uh2 n) Tryz.func106 (.cons (Uh2 n) Uxx (f106 n) (fun K _ _ _ _ _ _=>(Jkp (c:=Jlk Tryz.f106) (by kernel_rfl) (Uxb n) K).trans (by kernel_rfl)) .nil) (by kernel_rfl)
def UbP:Ann:={ loops:=[(2,ids [0,1,7,8],ids [4])],cuts:=[],frz:=[],rm:=[.id] }
abbrev Ukp (n:Nat):Env:=eC 106 (UtC n) eN
theorem Uib (n:Nat):EnvOK Tryz.prog GI (Ukp n):=.cons (.nil) (Uwy n)
def Udg (n:Nat) (l0:LP→Int→LP→Int→Int→O R) (x1:LP) (x2:Int) (x3:LP) (x4 x5:Int) (k0:Int→O R) (k1:O R):O R :=
 bif (decide (x5<x4)) then (bif (inR x5 ((x1).length)) then (Jh1 ((x1).getD ((x5:Int).toNat) (.v (.bool false))) fun a6=>JdT a6 fun h7 t8=>Jkq h7 fun e9=>JdT t8 fun h10 t11=>Jj2 h10 fun e12=>JdT t11 fun h13 t14=>Jj1 h13 fun e15=>JdT t14 fun h16 t17=>Ji9 .i64 h16 fun e18=>Ji1 t17 (Uw1 n e9 e12 e15 e18 x2 x3 (fun y19=>bif y19 then (k0 x5) else (l0 x1 x2 x3 x4 (IntKind.i64.wrap (x5 + 1)))))) else none) else (k1)
def UaR (n:Nat):Nat→LP→Int→LP→Int→Int→(Int→O R)→(O R)→O R
 | 0,_,_,_,_,_,_,_=>none
 | m + 1,x1,x2,x3,x4,x5,k0,k1=>Udg n (fun x1 x2 x3 x4 x5=>UaR n m x1 x2 x3 x4 x5 k0 k1) x1 x2 x3 x4 x5 k0 k1
def Umc (n:Nat) (x1:LP) (x2:Int) (x3:LP) (x4 x5:Int) (k0:Int→O R) (k1:O R):O R:=UaR n n x1 x2 x3 x4 x5 k0 k1
def Uw4 (n:Nat) (x1:LP) (x2:Int) (x3:LP) (k0:Int→O R):O R :=
 Umc n x1 x2 x3 ((x1).length:Int) 0 (fun y4=>k0 y4) (k0 (-1))
abbrev Uzv (n:Nat):Code→Fr→Kc R→O R:=evC Tryz.prog (Ukp n) UbP n (19,[])
noncomputable def UjT:Code:=Jj3 (Jlk Tryz.f135) [1,0,1,0,0]
abbrev UcS:Sl (List SV):=(cH (.c (sP (JlI 106 (.c (sFb (.c (Jlu .i64) (.c sSh .n))) .n))) (cI (cI .n))))
abbrev UgH (n m:Nat) (K:Kc R):UcS.T (O R):=fun x1 x2 x3 x4 x5=>UaR n m x1 x2 x3 x4 x5 (fun y1=>xL UbP 2 K .ret [vI y1]) (xL UbP 2 K (.exit 0) [dD])
abbrev Up9 (n:Nat) (K:Kc R) (l0:UcS.T (O R)):UcS.T (O R):=fun x1 x2 x3 x4 x5=>Udg n l0 x1 x2 x3 x4 x5 (fun y1=>xL UbP 2 K .ret [vI y1]) (xL UbP 2 K (.exit 0) [dD])
abbrev Ut6 (n:Nat):Orc R:=oL UbP (Uzv n) n 2 UjT UcS (UgH n n) oN
abbrev UsU (n:Nat):Orc R:=oN
abbrev UxZ (R:Type) (n:Nat):=JcH (R:=R) Tryz.prog (Ukp n) UbP n (19,[]) (Ut6 n) (UsU n)
theorem UrA (n:Nat):UxZ R n (false,2,UjT):=JkE (lo:=Ut6 n) (cu:=UsU n) (pO pN (by kernel_rfl)) UcS (UgH n n) (JiD (F:=UgH n) UcS (Up9 n) (fun K _ _ _ _ _=>rfl) (fun _ _=>rfl) (fun L K _ _ _ _ _=>by show _=_; kernel_rfl) n) fun _ _=>rfl
theorem Uxl (n:Nat):Je6 (UxZ R n) (JaJ UbP (Jlk Tryz.f135)):=pO (pC (UrA n) pN) (by kernel_rfl)
abbrev UxE:Sl (List SV):=(cH (.c (sP (JlI 106 (.c (sFb (.c (Jlu .i64) (.c sSh .n))) .n))) .n))
abbrev f135 (n:Nat) (K:List SV→O R):UxE.T (O R):=fun x1 x2 x3=>Uw4 n x1 x2 x3 (fun y1=>K [vI y1])
abbrev UtN (n:Nat):FS:=fT [false,false] UxE (f135 n)
theorem UwJ (n:Nat):FSound Tryz.prog GI 135 (UtN n):=gd UbP n (Uib n) Tryz.func135 (.cons (Uib n) UxE (f135 n) (fun K _ _ _=>(Jkp (c:=Jlk Tryz.f135) (by kernel_rfl) (Uxl n) K).trans (by kernel_rfl)) .nil) (by kernel_rfl)
def Ujt:Ann:={ loops:=[],cuts:=[],frz:=[],rm:=[.id] }
abbrev UoB (n:Nat):Env:=eC 135 (UtN n) eN
theorem Uh1 (n:Nat):EnvOK Tryz.prog GI (UoB n):=.cons (.nil) (UwJ n)
def Uw0 (n:Nat) (x1:LP) (x2:Int) (x3:LP) (k0:Bool→O R):O R :=
 Uw4 n x1 x2 x3 (fun y4=>k0 (decide (y4≥0)))
abbrev Uwh (n:Nat):Orc R:=oN
abbrev UvP (n:Nat):Orc R:=oN
abbrev Uzx (R:Type) (n:Nat):=JcH (R:=R) Tryz.prog (UoB n) Ujt n (9,[]) (Uwh n) (UvP n)
theorem Uxa (n:Nat):Je6 (Uzx R n) (JaJ Ujt (Jlk Tryz.f105)):=pO pN (by kernel_rfl)
abbrev t105:Sl (List SV):=(cH (.c (sP (JlI 106 (.c (sFb (.c (Jlu .i64) (.c sSh .n))) .n))) .n))
abbrev f105 (n:Nat) (K:List SV→O R):t105.T (O R):=fun x1 x2 x3=>Uw0 n x1 x2 x3 (fun y1=>K [vB y1])
abbrev UtB (n:Nat):FS:=fT [false,false] t105 (f105 n)
theorem Uwx (n:Nat):FSound Tryz.prog GI 105 (UtB n):=gd Ujt n (Uh1 n) Tryz.func105 (.cons (Uh1 n) t105 (f105 n) (fun K _ _ _=>(Jkp (c:=Jlk Tryz.f105) (by kernel_rfl) (Uxa n) K).trans (by kernel_rfl)) .nil) (by kernel_rfl)
def UpQ:Ann:={ loops:=[],cuts:=[],frz:=[],rm:=[.id] }
abbrev Utg (n:Nat):Env:=eC 105 (UtB n) eN
theorem Uk1 (n:Nat):EnvOK Tryz.prog GI (Utg n):=.cons (.nil) (Uwx n)
def p65 (n:Nat) (x1:Int) (x2:LP) (k0:Int→O R):O R :=
 bif (decide (x1<0)) then (k0 2) else (bif (bif false then true else (decide (x1>2048))) then (k0 2) else (bif (decide (((x2).length:Int)>2048)) then (k0 6) else (Uw0 n x2 x1 x2 (fun y3=>bif y3 then (k0 3) else (k0 0)))))
abbrev UAr (n:Nat):Orc R:=oN
abbrev UzY (n:Nat):Orc R:=oN
abbrev K65 (R:Type) (n:Nat):=JcH (R:=R) Tryz.prog (Utg n) UpQ n (19,[]) (UAr n) (UzY n)
theorem UBE (n:Nat):Je6 (K65 R n) (JaJ UpQ (Jlk Tryz.f65)):=pO pN (by kernel_rfl)
abbrev t65:Sl (List SV):=(.c (sP (JlH (.c (Jlu .i64) (.c sSh .n)))) .n)
abbrev f65 (n:Nat) (K:List SV→O R):t65.T (O R):=fun x1 x2=>p65 n x1 x2 (fun y1=>K [vI y1])
abbrev Uvy (n:Nat):FS:=fT [false] t65 (f65 n)
theorem UwZ (n:Nat):FSound Tryz.prog GI 65 (Uvy n):=gd UpQ n (Uk1 n) Tryz.func65 (.cons (Uk1 n) t65 (f65 n) (fun K _ _=>(Jkp (c:=Jlk Tryz.f65) (by kernel_rfl) (UBE n) K).trans (by kernel_rfl)) .nil) (by kernel_rfl)
abbrev t39:Sl (List SV):=(.c (sP (JlH (.c (Jlu .i64) (.c sSh .n)))) .n)
def UpM:Ann:={ loops:=[],cuts:=[],frz:=[],rm:=[.id] }
abbrev Utc (n:Nat):Env:=eN
theorem UkT (n:Nat):EnvOK Tryz.prog GI (Utc n):=.nil
def p55 (n:Nat) (x1 x2:Int) (k0:Int→O R):O R :=
 bif (decide (x1<x2)) then (k0 (-1)) else (bif (decide (x1>x2)) then (k0 1) else (k0 0))
abbrev UAn (n:Nat):Orc R:=oN
abbrev UzU (n:Nat):Orc R:=oN
abbrev K55 (R:Type) (n:Nat):=JcH (R:=R) Tryz.prog (Utc n) UpM n (13,[]) (UAn n) (UzU n)
theorem UBw (n:Nat):Je6 (K55 R n) (JaJ UpM (Jlk Tryz.f55)):=pO pN (by kernel_rfl)
abbrev t55:Sl (List SV):=(cI (cI .n))
abbrev f55 (n:Nat) (K:List SV→O R):t55.T (O R):=fun x1 x2=>p55 n x1 x2 (fun y1=>K [vI y1])
abbrev UyD (n:Nat):FS:=fT [false,false] t55 (f55 n)
theorem UAR (n:Nat):FSound Tryz.prog GI 55 (UyD n):=gd UpM n (UkT n) Tryz.func55 (.cons (UkT n) t55 (f55 n) (fun K _ _=>(Jkp (c:=Jlk Tryz.f55) (by kernel_rfl) (UBw n) K).trans (by kernel_rfl)) .nil) (by kernel_rfl)
def UfP:Ann:={ loops:=[],cuts:=[(8,ids [8,10],ids [4]),(12,ids [8,10],ids [4])],frz:=[],rm:=[.id] }
abbrev Uqx (n:Nat):Env:=eC 58 (UtX n) (eC 57 (Uvx n) (eC 56 (UtW n) (eC 55 (UyD n) (eC 54 (Uvw n) eN))))
theorem Ukz (n:Nat):EnvOK Tryz.prog GI (Uqx n):=.cons (.cons (.cons (.cons (.cons (.nil) (UwX n)) (UAR n)) (UvC n)) (UwY n)) (UvD n)
def Ucs (n:Nat) (x1:Bool) (x2 x3:LP) (x4:Bool) (x5 x6:LP) (k0:Int→O R):O R :=
 p58 n x2 x6 (fun y7=>p58 n x5 x3 (fun y8=>p57 n y7 y8 (fun y9=>bif x1 then (k0 (IntKind.i64.wrap (0 - y9))) else (k0 y9))))
def Umf (n:Nat) (x1:Bool) (x2 x3:LP) (x4:Bool) (x5 x6:LP) (k0:Int→O R):O R :=
 bif x1 then (bif (bif true then (!x4) else false) then (k0 (-1)) else (bif x4 then (bif (bif true then (!x1) else false) then (k0 1) else (Ucs n x1 x2 x3 x4 x5 x6 (fun y7=>k0 y7))) else (Ucs n x1 x2 x3 x4 x5 x6 (fun y8=>k0 y8)))) else (bif x4 then (bif (bif true then (!x1) else false) then (k0 1) else (Ucs n x1 x2 x3 x4 x5 x6 (fun y9=>k0 y9))) else (Ucs n x1 x2 x3 x4 x5 x6 (fun y10=>k0 y10)))
def p19 (n:Nat) (x1 x2:ByteArray) (k0:Int→O R):O R :=
 p54 n x1 x2 (fun y3 y4 y5=>bif y5 then (p55 n y3 y4 (fun y6=>k0 y6)) else (p56 n x1 (fun y7 y8 y9 y10=>p56 n x2 (fun y11 y12 y13 y14=>bif (!y10) then (k0 0) else (bif (bif false then true else (!y14)) then (k0 0) else (Umf n y7 y8 y9 y11 y12 y13 (fun y15=>k0 y15)))))))
abbrev E19 (n:Nat):Code→Fr→Kc R→O R:=evC Tryz.prog (Uqx n) UfP n (72,[])
noncomputable def Un7:Code:=Jj3 (Jlk Tryz.f19) [1,1,1,1,1]
abbrev UmE:Sl (List SV):=(.c (sBx 99 (cB (cH (cH .n)))) (.c (sBx 99 (cB (cH (cH .n)))) .n))
abbrev UoK (n:Nat) (K:Kc R):UmE.T (O R):=fun x1 x2 x3 x4 x5 x6=>Umf n x1 x2 x3 x4 x5 x6 (fun y1=>xC UfP 8 K .ret [vI y1])
noncomputable def UjX:Code:=Jj3 (Jlk Tryz.f19) [1,1,1,1,1,1]
abbrev Uhh:Sl (List SV):=(.c (sBx 99 (cB (cH (cH .n)))) (.c (sBx 99 (cB (cH (cH .n)))) .n))
abbrev Uls (n:Nat) (K:Kc R):Uhh.T (O R):=fun x1 x2 x3 x4 x5 x6=>Ucs n x1 x2 x3 x4 x5 x6 (fun y1=>xC UfP 12 K .ret [vI y1])
abbrev Uwo (n:Nat):Orc R:=oN
abbrev UvW (n:Nat):Orc R:=oC UfP (E19 n) 12 UjX Uhh (Uls n) (oC UfP (E19 n) 8 Un7 UmE (UoK n) oN)
abbrev K19 (R:Type) (n:Nat):=JcH (R:=R) Tryz.prog (Uqx n) UfP n (72,[]) (Uwo n) (UvW n)
theorem UrE (n:Nat):K19 R n (true,12,UjX):=JkV (lo:=Uwo n) (cu:=UvW n) (pO pN (by kernel_rfl)) Uhh (Uls n) (fun K _ _ _ _ _ _=>by show _=_; kernel_rfl) fun _ _=>rfl
theorem Uuw (n:Nat):K19 R n (true,8,Un7):=JkV (lo:=Uwo n) (cu:=UvW n) (pO (pC (UrE n) pN) (by kernel_rfl)) UmE (UoK n) (fun K _ _ _ _ _ _=>by show _=_; kernel_rfl) fun _ _=>rfl
theorem UBc (n:Nat):Je6 (K19 R n) (JaJ UfP (Jlk Tryz.f19)):=pO (pC (Uuw n) pN) (by kernel_rfl)
abbrev t19:Sl (List SV):=(cS (cS .n))
abbrev f19 (n:Nat) (K:List SV→O R):t19.T (O R):=fun x1 x2=>p19 n x1 x2 (fun y1=>K [vI y1])
abbrev UoV (n:Nat):FS:=fT [false,false] t19 (f19 n)
theorem Ur (n:Nat):FSound Tryz.prog GI 19 (UoV n):=gd UfP n (Ukz n) Tryz.func19 (.cons (Ukz n) t19 (f19 n) (fun K _ _=>(Jkp (c:=Jlk Tryz.f19) (by kernel_rfl) (UBc n) K).trans (by kernel_rfl)) .nil) (by kernel_rfl)
def UpJ:Ann:={ loops:=[],cuts:=[],frz:=[],rm:=[.id] }
abbrev Ut (n:Nat):Env:=eC 19 (UoV n) eN
theorem UkO (n:Nat):EnvOK Tryz.prog GI (Ut n):=.cons (.nil) (Ur n)
def p50 (n:Nat) (x1:ByteArray) (k0:Bool→O R):O R :=
 p19 n x1 ⟨#[48]⟩ (fun y2=>k0 (decide (y2<0)))
abbrev UAk (n:Nat):Orc R:=oN
abbrev UzR (n:Nat):Orc R:=oN
abbrev K50 (R:Type) (n:Nat):=JcH (R:=R) Tryz.prog (Ut n) UpJ n (6,[]) (UAk n) (UzR n)
theorem UBr (n:Nat):Je6 (K50 R n) (JaJ UpJ (Jlk Tryz.f50)):=pO pN (by kernel_rfl)
abbrev t50:Sl (List SV):=(cS .n)
abbrev f50 (n:Nat) (K:List SV→O R):t50.T (O R):=fun x1=>p50 n x1 (fun y1=>K [vB y1])
abbrev UyB (n:Nat):FS:=fT [false] t50 (f50 n)
theorem UAP (n:Nat):FSound Tryz.prog GI 50 (UyB n):=gd UpJ n (UkO n) Tryz.func50 (.cons (UkO n) t50 (f50 n) (fun K _=>(Jkp (c:=Jlk Tryz.f50) (by kernel_rfl) (UBr n) K).trans (by kernel_rfl)) .nil) (by kernel_rfl)
def UpW:Ann:={ loops:=[],cuts:=[],frz:=[],rm:=[.id] }
abbrev Utm (n:Nat):Env:=eC 53 (UqZ n) eN
theorem Ul (n:Nat):EnvOK Tryz.prog GI (Utm n):=.cons (.nil) (Usd n)
def p93 (n:Nat) (x1:ByteArray) (k0:Bool→O R):O R :=
 p53 n x1 (fun y2=>k0 (!y2))
abbrev UAx (n:Nat):Orc R:=oN
abbrev Uz4 (n:Nat):Orc R:=oN
abbrev K93 (R:Type) (n:Nat):=JcH (R:=R) Tryz.prog (Utm n) UpW n (6,[]) (UAx n) (Uz4 n)
theorem UBN (n:Nat):Je6 (K93 R n) (JaJ UpW (Jlk Tryz.f93)):=pO pN (by kernel_rfl)
abbrev t93:Sl (List SV):=(cS .n)
abbrev f93 (n:Nat) (K:List SV→O R):t93.T (O R):=fun x1=>p93 n x1 (fun y1=>K [vB y1])
abbrev UyN (n:Nat):FS:=fT [false] t93 (f93 n)
theorem UA1 (n:Nat):FSound Tryz.prog GI 93 (UyN n):=gd UpW n (Ul n) Tryz.func93 (.cons (Ul n) t93 (f93 n) (fun K _=>(Jkp (c:=Jlk Tryz.f93) (by kernel_rfl) (UBN n) K).trans (by kernel_rfl)) .nil) (by kernel_rfl)
def Ua0:Ann:={ loops:=[(2,ids [0,1,7,8],ids [4])],cuts:=[],frz:=[],rm:=[.id] }
abbrev Ukr (n:Nat):Env:=eC 93 (UyN n) (eC 50 (UyB n) eN)
theorem Ugy (n:Nat):EnvOK Tryz.prog GI (Ukr n):=.cons (.cons (.nil) (UAP n)) (UA1 n)
def Ufp (n:Nat) (l0:LP→Int→Int→O R) (x1:LP) (x2 x3:Int) (k0:Int→O R) (k1:O R):O R :=
 bif (decide (x3<x2)) then (bif (inR x3 ((x1).length)) then (Jj2 ((x1).getD ((x3:Int).toNat) (.v (.bool false))) fun e4=>p93 n e4 (fun y5=>bif y5 then (k0 x3) else (l0 x1 x2 (IntKind.i64.wrap (x3 + 1))))) else none) else (k1)
def UbF (n:Nat):Nat→LP→Int→Int→(Int→O R)→(O R)→O R
 | 0,_,_,_,_,_=>none
 | m + 1,x1,x2,x3,k0,k1=>Ufp n (fun x1 x2 x3=>UbF n m x1 x2 x3 k0 k1) x1 x2 x3 k0 k1
def Uph (n:Nat) (x1:LP) (x2 x3:Int) (k0:Int→O R) (k1:O R):O R:=UbF n n x1 x2 x3 k0 k1
def p94 (n:Nat) (x1:LP) (k0:Int→O R):O R :=
 Uph n x1 ((x1).length:Int) 0 (fun y2=>k0 y2) (k0 (-1))
def Ucd (n:Nat) (l0:LP→Int→Int→O R) (x1:LP) (x2 x3:Int) (k0:Int→O R) (k1:O R):O R :=
 bif (decide (x3<x2)) then (bif (inR x3 ((x1).length)) then (Jj2 ((x1).getD ((x3:Int).toNat) (.v (.bool false))) fun e4=>p50 n e4 (fun y5=>bif y5 then (k0 x3) else (l0 x1 x2 (IntKind.i64.wrap (x3 + 1))))) else none) else (k1)
def UaM (n:Nat):Nat→LP→Int→Int→(Int→O R)→(O R)→O R
 | 0,_,_,_,_,_=>none
 | m + 1,x1,x2,x3,k0,k1=>Ucd n (fun x1 x2 x3=>UaM n m x1 x2 x3 k0 k1) x1 x2 x3 k0 k1
def UiV (n:Nat) (x1:LP) (x2 x3:Int) (k0:Int→O R) (k1:O R):O R:=UaM n n x1 x2 x3 k0 k1
def Urh (n:Nat) (x1:LP) (k0:Int→O R):O R :=
 UiV n x1 ((x1).length:Int) 0 (fun y2=>k0 y2) (k0 (-1))
abbrev E94 (n:Nat):Code→Fr→Kc R→O R:=evC Tryz.prog (Ukr n) Ua0 n (19,[])
noncomputable def UfR:Code:=Jj3 (Jlk Tryz.f94) [1,0,1,0,0]
abbrev UbJ:Sl (List SV):=(cH (.c (sP (sFn 93)) (cI (cI .n))))
abbrev UbK:Sl (List SV):=(cH (.c (sP (sFn 50)) (cI (cI .n))))
abbrev UeN (n m:Nat) (K:Kc R):UbJ.T (O R):=fun x1 x2 x3=>UbF n m x1 x2 x3 (fun y1=>xL Ua0 2 K .ret [vI y1]) (xL Ua0 2 K (.exit 0) [dD])
abbrev Uqh (n:Nat) (K:Kc R) (l0:UbJ.T (O R)):UbJ.T (O R):=fun x1 x2 x3=>Ufp n l0 x1 x2 x3 (fun y1=>xL Ua0 2 K .ret [vI y1]) (xL Ua0 2 K (.exit 0) [dD])
abbrev UeO (n m:Nat) (K:Kc R):UbK.T (O R):=fun x1 x2 x3=>UaM n m x1 x2 x3 (fun y1=>xL Ua0 2 K .ret [vI y1]) (xL Ua0 2 K (.exit 0) [dD])
abbrev Uqi (n:Nat) (K:Kc R) (l0:UbK.T (O R)):UbK.T (O R):=fun x1 x2 x3=>Ucd n l0 x1 x2 x3 (fun y1=>xL Ua0 2 K .ret [vI y1]) (xL Ua0 2 K (.exit 0) [dD])
abbrev Ut8 (n:Nat):Orc R:=fun i vs K=>JfJ (Nat.beq i 2) (Jjf (UbJ.ap vs (UeN n n K)) (Jjf (UbK.ap vs (UeO n n K)) (JcB Ua0 2 (E94 n UfR) n vs K))) (oN i vs K)
abbrev UsW (n:Nat):Orc R:=oN
abbrev K94 (R:Type) (n:Nat):=JcH (R:=R) Tryz.prog (Ukr n) Ua0 n (19,[]) (Ut8 n) (UsW n)
theorem Umu (n:Nat):Je6 (K94 R n) (JaJ Ua0 UfR):=pO pN (by kernel_rfl)
theorem Uqs (n:Nat):∀ m (K:Kc R),UbJ.all (fun vs r=>JcB Ua0 2 (JcU Tryz.prog (Ukr n) Ua0 (19,[]) (Ut8 n) (UsW n) UfR) m vs K=r) (UeN n m K):=JiD (F:=UeN n) UbJ (Uqh n) (fun K _ _ _=>rfl) (fun _ _=>rfl) (fun L K _ _ _=>by show _=_; kernel_rfl)
theorem Uqt (n:Nat):∀ m (K:Kc R),UbK.all (fun vs r=>JcB Ua0 2 (JcU Tryz.prog (Ukr n) Ua0 (19,[]) (Ut8 n) (UsW n) UfR) m vs K=r) (UeO n m K):=JiD (F:=UeO n) UbK (Uqi n) (fun K _ _ _=>rfl) (fun _ _=>rfl) (fun L K _ _ _=>by show _=_; kernel_rfl)
theorem UuX (n:Nat):K94 R n (false,2,UfR):=JkE (lo:=Ut8 n) (cu:=UsW n) (Umu n) UbJ (UeN n n) (Uqs n n) (JkE (lo:=Ut8 n) (cu:=UsW n) (Umu n) UbK (UeO n n) (Uqt n n) fun _ _=>rfl)
theorem Uzm (n:Nat):Je6 (K94 R n) (JaJ Ua0 (Jlk Tryz.f94)):=pO (pC (UuX n) pN) (by kernel_rfl)
abbrev UxP:Sl (List SV):=(cH (.c (sP (sFn 93)) .n))
abbrev Uym (n:Nat) (K:List SV→O R):UxP.T (O R):=fun x1=>p94 n x1 (fun y1=>K [vI y1])
abbrev UxQ:Sl (List SV):=(cH (.c (sP (sFn 50)) .n))
abbrev Uyn (n:Nat) (K:List SV→O R):UxQ.T (O R):=fun x1=>Urh n x1 (fun y1=>K [vI y1])
abbrev UyO (n:Nat):FS:={ om:=[false,false],run:=fun args K=>Jjf (UxP.ap args (Uym n K)) (Jjf (UxQ.ap args (Uyn n K)) none) }
theorem UA2 (n:Nat):FSound Tryz.prog GI 94 (UyO n):=gd Ua0 n (Ugy n) Tryz.func94 (.cons (Ugy n) UxP (Uym n) (fun K _=>(Jkp (c:=Jlk Tryz.f94) (by kernel_rfl) (Uzm n) K).trans (by kernel_rfl)) (.cons (Ugy n) UxQ (Uyn n) (fun K _=>(Jkp (c:=Jlk Tryz.f94) (by kernel_rfl) (Uzm n) K).trans (by kernel_rfl)) .nil)) (by kernel_rfl)
def UpI:Ann:={ loops:=[],cuts:=[],frz:=[],rm:=[.id] }
abbrev Us9 (n:Nat):Env:=eC 94 (UyO n) eN
theorem Ugw (n:Nat):EnvOK Tryz.prog GI (Us9 n):=.cons (.nil) (UA2 n)
def p49 (n:Nat) (x1:LP) (k0:Bool→O R):O R :=
 p94 n x1 (fun y2=>k0 (decide (y2≥0)))
def UnB (n:Nat) (x1:LP) (k0:Bool→O R):O R :=
 Urh n x1 (fun y2=>k0 (decide (y2≥0)))
abbrev UAj (n:Nat):Orc R:=oN
abbrev UzQ (n:Nat):Orc R:=oN
abbrev K49 (R:Type) (n:Nat):=JcH (R:=R) Tryz.prog (Us9 n) UpI n (9,[]) (UAj n) (UzQ n)
theorem Uzk (n:Nat):Je6 (K49 R n) (JaJ UpI (Jlk Tryz.f49)):=pO pN (by kernel_rfl)
abbrev UxL:Sl (List SV):=(cH (.c (sP (sFn 93)) .n))
abbrev Uyi (n:Nat) (K:List SV→O R):UxL.T (O R):=fun x1=>p49 n x1 (fun y1=>K [vB y1])
abbrev UxM:Sl (List SV):=(cH (.c (sP (sFn 50)) .n))
abbrev Uyj (n:Nat) (K:List SV→O R):UxM.T (O R):=fun x1=>UnB n x1 (fun y1=>K [vB y1])
abbrev Uv9 (n:Nat):FS:={ om:=[false,false],run:=fun args K=>Jjf (UxL.ap args (Uyi n K)) (Jjf (UxM.ap args (Uyj n K)) none) }
theorem Uz (n:Nat):FSound Tryz.prog GI 49 (Uv9 n):=gd UpI n (Ugw n) Tryz.func49 (.cons (Ugw n) UxL (Uyi n) (fun K _=>(Jkp (c:=Jlk Tryz.f49) (by kernel_rfl) (Uzk n) K).trans (by kernel_rfl)) (.cons (Ugw n) UxM (Uyj n) (fun K _=>(Jkp (c:=Jlk Tryz.f49) (by kernel_rfl) (Uzk n) K).trans (by kernel_rfl)) .nil)) (by kernel_rfl)
def UpH:Ann:={ loops:=[],cuts:=[],frz:=[],rm:=[.id] }
abbrev Us8 (n:Nat):Env:=eC 65 (Uvy n) (eC 49 (Uv9 n) eN)
theorem UkN (n:Nat):EnvOK Tryz.prog GI (Us8 n):=.cons (.cons (.nil) (Uz n)) (UwZ n)
def p48 (n:Nat) (x1:Int) (x2 x3:LP) (k0:Int→O R):O R :=
 p65 n x1 x2 (fun y4=>bif (y4 != 0) then (k0 3) else (bif (((x3).length:Int) != x1) then (k0 2) else (p49 n x3 (fun y5=>bif y5 then (k0 3) else (k0 0)))))
abbrev UAi (n:Nat):Orc R:=oN
abbrev UzP (n:Nat):Orc R:=oN
abbrev K48 (R:Type) (n:Nat):=JcH (R:=R) Tryz.prog (Us8 n) UpH n (15,[]) (UAi n) (UzP n)
theorem UBq (n:Nat):Je6 (K48 R n) (JaJ UpH (Jlk Tryz.f48)):=pO pN (by kernel_rfl)
abbrev t48:Sl (List SV):=(.c (sP (JlH (.c (Jlu .i64) (.c sSh .n)))) (cH .n))
abbrev f48 (n:Nat) (K:List SV→O R):t48.T (O R):=fun x1 x2 x3=>p48 n x1 x2 x3 (fun y1=>K [vI y1])
abbrev UyA (n:Nat):FS:=fT [false,false] t48 (f48 n)
theorem UAO (n:Nat):FSound Tryz.prog GI 48 (UyA n):=gd UpH n (UkN n) Tryz.func48 (.cons (UkN n) t48 (f48 n) (fun K _ _ _=>(Jkp (c:=Jlk Tryz.f48) (by kernel_rfl) (UBq n) K).trans (by kernel_rfl)) .nil) (by kernel_rfl)
end
end Go.Proofs.YtmgfmlhdnadglaaGreatDoor
set_option linter.unusedVariables false
set_option linter.unusedSimpArgs false
namespace Go.Proofs.YtmgfmlhdnadglaaGreatDoor
open Go Th Go.Proofs
variable {R:Type}
noncomputable def okT (cols:Int):Int→List TermT→Bool
 | _,[]=>true
 | last,t::r=>if t.1≤last then false else if t.1≥cols then false else if t.2=[48] then false else qb t.2&&okT cols t.1 r
noncomputable def okR (cols:Int) (r:RowT):Bool:=okT cols (-1) r.tm&&qb r.c
def smT (l:List TermT):Prop:=l.length<2 ^ 17∧∀ t∈l,t.2.length<2 ^ 17
def smR (r:RowT):Prop:=smT r.tm∧r.c.length<2 ^ 17
noncomputable def UnV (cols:Int) (kbad:Option R) (last:Int) (t:TermT) (K:Int→Option R):Option R :=
 if t.1≤last then kbad else if t.1≥cols then kbad else if t.2=[48] then kbad else if qb t.2=true then K t.1 else kbad
theorem Uzp (cols:Int) (kbad kend:Option R):∀ (l:List TermT) (last:Int),Usf (UnV cols kbad) (fun _=>kend) last l=if okT cols last l then kend else kbad
 | [],last=>rfl
 | t::l,last=>by
  have ih:=Uzp cols kbad kend l t.1
  simp only [Usf,UnV,okT]
  by_cases h1:t.1≤last
  · simp [h1]
  · by_cases h2:t.1≥cols
    · simp [h1,h2]
    · by_cases h3:t.2=[48]
      · simp [h1,h2,h3]
      · rcases Bool.eq_false_or_eq_true (qb t.2) with h4 | h4 <;> simp [h1,h2,h3,h4,ih]
theorem e48 (s:List UInt8):eqS (bs s) (⟨#[48]⟩:ByteArray)=decide (s=[48]):=by
 rw [show eqS (bs s) (⟨#[48]⟩:ByteArray)=(s == [48]) from rfl,Bool.eq_iff_iff]; simp
theorem Ug5 (n:Nat) (hn:10 ^ 400≤n) (cols:Int) (r:RowT) (hr:smR r) (k0:Bool→Option R):UvF n (tms r.tm) (bs r.c) r.eq r.mark cols k0=k0 (okR cols r):=by
 have hN:=Ua6 hn
 have hL:=hr.1.1
 have hv1:=fun k=>UbL (R:=R) n hn r.c hr.2 k
 unfold UvF Uma
 have h:=Ug8 (R:=R) (l:=r.tm) (step:=UnV cols (k0 false)) (kend:=fun _=>k0 (qb r.c))
  (fun m s i=>Ubi n m cols (tms r.tm) (bs r.c) r.eq r.mark s (tms r.tm) ((tms r.tm).length:Int) (i:Int) (fun _ _ _ _ y=>k0 y) (fun _ y _ _=>p53 n y fun y15=>k0 y15))
  (fun m s=>by simp only [Ubi,Udc]; simp (disch:=(first | omega | (simp only [JlD]; omega))) only [↓JlG,JlE,Ua,hv1])
  (fun m s i hi=>by
    have hv:=fun k=>UbL (R:=R) n hn (r.tm[i]).2 (hr.1.2 _ (List.getElem_mem hi)) k
    simp only [Ubi,Udc,UnV]
    by_cases h1:(r.tm[i]).1≤s
    · simp (disch:=(first | omega | (simp only [JlD]; omega))) only [↓JlG,JlE,Ua,Jjh,Uay hi,i1]
    · by_cases h2:(r.tm[i]).1≥cols
      · simp (disch:=(first | omega | (simp only [JlD]; omega))) only [↓JlG,JlE,Ua,Jjh,Uay hi,i1]
      · by_cases h3:(r.tm[i]).2=[48]
        · simp (disch:=(first | omega | (simp only [JlD]; omega))) only [↓JlG,JlE,Ua,Jjh,Uay hi,i1,UsJ h3]
        · simp (disch:=(first | omega | (simp only [JlD]; omega))) only [↓JlG,JlE,Ua,Jjh,Uay hi,i1,Uqk h3,hv]
          cases qb (r.tm[i]).2 <;> rfl) r.tm.length n 0 (-1) (by omega) (by omega)
 rw [List.drop_zero,Uzp] at h
 refine Eq.trans h ?_
 unfold okR
 cases okT cols (-1) r.tm <;> rfl
noncomputable def Ugm (cols:Int) (rows:List RowT):Int:=if cols<0 then 2 else if cols>2048 then 2 else if rows.length>2048 then 6 else if rows.all (okR cols) then 0 else 3
def smA (rows:List RowT):Prop:=rows.length<2 ^ 17∧∀ r∈rows,smR r
theorem Upo (n:Nat) (hn:10 ^ 400≤n) (cols:Int) (rows:List RowT) (hr:smA rows) (k0:Int→Option R):p65 n cols (rws rows) k0=k0 (Ugm cols rows):=by
 have hN:=Ua6 hn
 have hL:=hr.1
 unfold p65 Uw0 Uw4 Umc Ugm
 by_cases h1:cols<0
 · simp (disch:=(first | omega | (simp only [JlD]; omega))) only [↓JlG,JlE]
 · by_cases h2:cols>2048
   · simp (disch:=(first | omega | (simp only [JlD]; omega))) only [↓JlG,JlE]
   · by_cases h3:rows.length>2048
     · have h3':((rows.length:Nat):Int)>2048:=by omega
       simp (disch:=(first | omega | (simp only [JlD]; omega))) only [↓JlG,JlE,Uae]
     · have h3':¬ ((rows.length:Nat):Int)>2048:=by omega
       have h:=Uap (R:=R) (l:=rows) (ok:=okR cols) (kbad:=k0 3) (kend:=k0 0)
        (fun m i=>UaR n m (rws rows) cols (rws rows) ((rws rows).length:Int) (i:Int) (fun y=>bif decide (y≥0) then k0 3 else k0 0) (bif decide ((-1:Int)≥0) then k0 3 else k0 0))
        (fun m=>by simp only [UaR,Udg]; simp (disch:=(first | omega | (simp only [JlD]; omega))) only [↓JlG,JlE,Uae])
        (fun m i hi=>by
          have hv:=fun k=>Ug5 (R:=R) n hn cols rows[i] (hr.2 _ (List.getElem_mem hi)) k
          simp only [UaR,Udg,Uw1]
          simp (disch:=(first | omega | (simp only [JlD]; omega))) only [↓JlG,JlE,Uae,Jjh,UaB hi,hv,i1]
          cases okR cols rows[i] <;> simp (disch:=(first | omega | (simp only [JlD]; omega))) only [↓JlG,JlE] <;> rfl) rows.length n 0 (by omega) (by omega)
       rw [List.drop_zero] at h
       have h':UaR n n (rws rows) cols (rws rows) ((rws rows).length:Int) 0 (fun y=>bif decide (y≥0) then k0 3 else k0 0) (bif decide ((-1:Int)≥0) then k0 3 else k0 0)=_:=h
       have e:∀ a b:Option R,(bif decide (((rws rows).length:Int)>2048) then a else b)=b:=fun a b=>by rw [Uae,decide_eq_false h3']; rfl
       simp only [c_neg h1,c_neg h2,Uak,e,h']
       rw [if_neg h1,if_neg h2,if_neg h3]
       cases rows.all (okR cols) <;> rfl
noncomputable def Uj (cols:Int) (rows:List RowT) (v:List (List UInt8)):Int:=if Ugm cols rows≠0 then 3 else if (v.length:Int)≠cols then 2 else if Udq v then 0 else 3
theorem Usm (n:Nat) (hn:10 ^ 400≤n) (cols:Int) (rows:List RowT) (hr:smA rows) (v:List (List UInt8)) (hv:smS v) (k0:Int→Option R):p48 n cols (rws rows) (sl v) k0=k0 (Uj cols rows v):=by
 have hN:=Ua6 hn
 have hL:=hv.1
 have h0:=fun k=>Upo (R:=R) n hn cols rows hr k
 unfold p48 p49 p94 Uph Uj
 rw [h0]
 have h:=Uap (R:=R) (l:=v) (ok:=qb) (kbad:=k0 3) (kend:=k0 0)
  (fun m i=>UbF n m (sl v) ((sl v).length:Int) (i:Int) (fun y=>bif decide (y≥0) then k0 3 else k0 0) (bif decide ((-1:Int)≥0) then k0 3 else k0 0))
  (fun m=>by simp only [UbF,Ufp]; simp (disch:=(first | omega | (simp only [JlD]; omega))) only [↓JlG,JlE,Uag])
  (fun m i hi=>by
    have hw:=fun k=>UbL (R:=R) n hn v[i] (hv.2 _ (List.getElem_mem hi)) k
    simp only [UbF,Ufp,p93]
    simp (disch:=(first | omega | (simp only [JlD]; omega))) only [↓JlG,JlE,Uag,Jjh,Ua1 hi,hw,i1]
    cases qb v[i] <;> simp (disch:=(first | omega | (simp only [JlD]; omega))) only [↓JlG,JlE] <;> rfl) v.length n 0 (by omega) (by omega)
 rw [List.drop_zero] at h
 have h':UbF n n (sl v) ((sl v).length:Int) 0 (fun y=>bif decide (y≥0) then k0 3 else k0 0) (bif decide ((-1:Int)≥0) then k0 3 else k0 0)=_:=h
 by_cases h1:Ugm cols rows=0
 · have e1:(Ugm cols rows != 0)=false:=by rw [h1]; rfl
   rw [e1,Uak,if_neg (by simp [h1]),Uag]
   by_cases h2:(v.length:Int)=cols
   · have e2:((v.length:Int) != cols)=false:=by simp [h2]
     rw [e2,Uak,if_neg (by simp [h2])]
     rw [Uag] at h'
     refine Eq.trans h' ?_
     unfold Udq
     cases v.all qb <;> rfl
   · have e2:((v.length:Int) != cols)=true:=by simp [h2]
     rw [e2,Uam,if_pos h2]
 · have e1:(Ugm cols rows != 0)=true:=by simp [h1]
   rw [e1,Uam,if_pos h1]
abbrev SpT:=Nat × Rat
noncomputable def vt (l:List SpT):List TermT:=l.map fun t=>((t.1:Int),Uaf t.2)
theorem UbB (l:List SpT):(vt l).length=l.length:=by unfold vt; rw [List.length_map]
theorem Upq {l:List SpT} {i:Nat} (h:i<(vt l).length):(vt l)[i]=(((l[i]'(by rw [←UbB]; exact h)).1:Int),Uaf (l[i]'(by rw [←UbB]; exact h)).2):=by
 simp only [vt,List.getElem_map]
def asc:Int→List SpT→Prop
 | _,[]=>True
 | last,t::r=>last<(t.1:Int)∧asc t.1 r
def okN (cols:Int) (l:List SpT):Prop:=∀ t∈l,t.2≠0∧fits t.2∧(t.1:Int)<cols
def okS (cols:Int) (l:List SpT):Prop:=asc (-1) l∧okN cols l
theorem Ud {q:Rat} (h:fits q):qb (Uaf q)=true:=Uxs.2 ⟨q,h,rfl⟩
theorem UeP:fits 0:=UbW (v:=0) (by decide +kernel)
theorem UmA:Uaf 0=[48]:=by rw [←show ((0:Int):Rat)=0 from rfl,←Ual]; decide +kernel
theorem Upm {q:Rat}:Uaf q=[48]↔q=0:=⟨fun h=>Ufv (h.trans UmA.symm),fun h=>by rw [h,UmA]⟩
theorem Ul5 {cols:Int}:∀ {l:List SpT} {last:Int},asc last l→okN cols l→okT cols last (vt l)=true
 | [],last,_,_=>rfl
 | t::l,last,h1,h2=>by
  obtain ⟨e1,e2,e3⟩:=h2 t (List.mem_cons_self ..)
  show okT cols last (((t.1:Int),Uaf t.2)::vt l)=true
  simp only [okT]
  have h1':=h1.1
  rw [if_neg (by omega),if_neg (by omega),if_neg (fun q=>e1 (Upm.1 q)),Ud e2,Ul5 h1.2 (fun x hx=>h2 x (List.mem_cons_of_mem _ hx))]
  rfl
theorem Ul3 {cols:Int}:∀ {l:List TermT} {last:Int},-1≤last→okT cols last l=true→∃ l':List SpT,l=vt l'∧asc last l'∧okN cols l'
 | [],last,_,_=>⟨[],rfl,trivial,by intro t h; cases h⟩
 | t::l,last,h0,h=>by
  simp only [okT] at h
  by_cases h1:t.1≤last
  · rw [if_pos h1] at h; cases h
  rw [if_neg h1] at h
  by_cases h2:t.1≥cols
  · rw [if_pos h2] at h; cases h
  rw [if_neg h2] at h
  by_cases h3:t.2=[48]
  · rw [if_pos h3] at h; cases h
  rw [if_neg h3,Bool.and_eq_true] at h
  obtain ⟨q,hq,e⟩:=Uxs.1 h.1
  obtain ⟨l',e1,e2,e3⟩:=Ul3 (by omega:-1≤t.1) h.2
  have hc:((t.1.toNat:Nat):Int)=t.1:=by omega
  refine ⟨(t.1.toNat,q)::l',?_,⟨by show last<((t.1.toNat:Nat):Int); omega,by show asc ((t.1.toNat:Nat):Int) l'; rw [hc]; exact e2⟩,?_⟩
  · rw [e1]
    show t::vt l'=(((t.1.toNat:Nat):Int),Uaf q)::vt l'
    rw [hc,←e]
  · intro x hx
    rcases List.mem_cons.1 hx with rfl | hx
    · refine ⟨fun q0=>h3 (by rw [e]; exact Upm.2 q0),hq,?_⟩
      show ((t.1.toNat:Nat):Int)<cols
      omega
    · exact e3 x hx
theorem Ugq:∀ {l:List SpT} {a:Int},asc a l→∀ t∈l,a<(t.1:Int)
 | t::l,a,h,x,hx=>by
  rcases List.mem_cons.1 hx with rfl | hx
  · exact h.1
  · have:=Ugq h.2 x hx; have:=h.1; omega
def cf:List SpT→Nat→Rat
 | [],_=>0
 | t::r,i=>if t.1=i then t.2 else cf r i
theorem Uqn (t:SpT) (r:List SpT) (i:Nat):cf (t::r) i=if t.1=i then t.2 else cf r i:=rfl
theorem Uj7:∀ {l:List SpT} {i:Nat},(∀ t∈l,t.1≠i)→cf l i=0
 | [],_,_=>rfl
 | t::l,i,h=>by rw [cf,if_neg (h t (List.mem_cons_self ..)),Uj7 fun x hx=>h x (List.mem_cons_of_mem _ hx)]
theorem UsN {l:List SpT} {a:Int} (h:asc a l) {i:Nat} (hi:(i:Int)≤a):cf l i=0:=Uj7 fun t ht=>by have:=Ugq h t ht; omega
abbrev SpR:=List SpT × Rat
def okF (cols:Int) (r:SpR):Prop:=okS cols r.1∧fits r.2
def Uao {α σ:Type} (step:σ→α→Option σ):σ→List α→Option σ
 | s,[]=>some s
 | s,a::l=>(step s a).bind fun s'=>Uao step s' l
def Uv2 {σ:Type} (kerr:Option R) (kend:σ→Option R):Option σ→Option R
 | none=>kerr
 | some s=>kend s
theorem Ui3 {α σ:Type} {l:List α} {step:σ→α→Option σ} {kerr:Option R} {kend:σ→Option R} {Inv:Nat→σ→Prop} (L:Nat→σ→Nat→Option R)
 (hend:∀ m s,Inv l.length s→L (m + 1) s l.length=kend s)
 (hinv:∀ s s' i (h:i<l.length),Inv i s→step s l[i]=some s'→Inv (i + 1) s')
 (hstep:∀ m s i (h:i<l.length),Inv i s→L (m + 1) s i=Uv2 kerr (fun s'=>L m s' (i + 1)) (step s l[i])) :
 ∀ (d m i:Nat) (s:σ),d + i=l.length→d<m→Inv i s→L m s i=Uv2 kerr kend (Uao step s (l.drop i))
 | 0,m + 1,i,s,hd,hm,hs=>by
  have:i=l.length:=by omega
  subst this
  rw [hend m s hs,List.drop_length]; rfl
 | d + 1,m + 1,i,s,hd,hm,hs=>by
  have hi:i<l.length:=by omega
  rw [hstep m s i hi hs,Ua9 hi]
  show _=Uv2 kerr kend ((step s l[i]).bind fun s'=>Uao step s' (l.drop (i + 1)))
  cases h:step s l[i] with
  | none=>rfl
  | some s'=>exact Ui3 L hend hinv hstep d m (i + 1) s' (by omega) (by omega) (hinv s s' i hi hs h)
theorem UfY {α σ:Type} {step:σ→α→Option σ} {P:α→Prop} {Inv:σ→Prop} (hstep:∀ s s' a,P a→Inv s→step s a=some s'→Inv s'):∀ {l:List α} {s s':σ},(∀ a∈l,P a)→Inv s→Uao step s l=some s'→Inv s'
 | [],s,s',_,hs,h=>by simp only [Uao,Option.some.injEq] at h; rwa [←h]
 | a::l,s,s',hl,hs,h=>by
  obtain ⟨x,e1,e2⟩:=Option.bind_eq_some_iff.1 h
  exact UfY hstep (fun y hy=>hl y (List.mem_cons_of_mem _ hy)) (hstep s x a (hl a (List.mem_cons_self ..)) hs e1) e2
open Classical in
noncomputable def rq (s:List UInt8):Rat:=if h:isQ s then Classical.choose h else 0
theorem Upl {s:List UInt8} (h:qb s=true):fits (rq s)∧s=Uaf (rq s):=by
 have h':=Uxs.1 h
 unfold rq
 rw [dif_pos h']
 exact Classical.choose_spec h'
theorem Ug6 {q:Rat} (h:fits q):rq (Uaf q)=q:=(Ufv (Upl (Ud h)).2).symm
noncomputable def spL (l:List TermT):List SpT:=l.map fun t=>(t.1.toNat,rq t.2)
noncomputable def spR (r:RowT):SpR:=(spL r.tm,rq r.c)
theorem Uvc {cols:Int} {l:List SpT} (h:okN cols l):spL (vt l)=l:=by
 unfold spL vt
 rw [List.map_map]
 conv=>rhs; rw [←List.map_id l]
 refine List.map_congr_left fun t ht=>?_
 simp only [Function.comp,id_eq]
 rw [Ug6 (h t ht).2.1]
 rfl
theorem Ul4 {cols:Int} {l:List TermT} (h:okT cols (-1) l=true):okS cols (spL l)∧l=vt (spL l):=by
 obtain ⟨l',e1,e2,e3⟩:=Ul3 (by omega) h
 subst e1
 rw [Uvc e3]
 exact ⟨⟨e2,e3⟩,rfl⟩
theorem Uf1 {cols:Int} {r:RowT} (h:okR cols r=true):okF cols (spR r)∧r.tm=vt (spR r).1∧r.c=Uaf (spR r).2:=by
 unfold okR at h
 rw [Bool.and_eq_true] at h
 obtain ⟨e1,e2⟩:=Ul4 h.1
 obtain ⟨f1,f2⟩:=Upl h.2
 exact ⟨⟨e1,f1⟩,e2,f2⟩
theorem UiK {a b:Int} (h:a≤b) {l:List SpT} (hl:okN a l):okN b l:=fun t ht=>⟨(hl t ht).1,(hl t ht).2.1,by have:=(hl t ht).2.2; omega⟩
open Classical in
noncomputable def Uvm (s a b:Rat):Option Rat:=if fits (a * b) then (if fits (s + a * b) then some (s + a * b) else none) else none
noncomputable def evS (v:List Rat) (s:Rat) (t:SpT):Option Rat:=Uvm s t.2 (v.getD t.1 0)
def Ur7 (v:List Rat):List SpT→Rat
 | []=>0
 | t::l=>t.2 * v.getD t.1 0 + Ur7 v l
theorem Udp {s a b x:Rat} (h:Uvm s a b=some x):x=s + a * b∧fits x:=by
 unfold Uvm at h
 split at h
 · split at h
   · rename_i h2
     simp only [Option.some.injEq] at h
     subst h
     exact ⟨rfl,h2⟩
   · cases h
 · cases h
theorem Uif (v:List Rat):∀ {l:List SpT} {s x:Rat},Uao (evS v) s l=some x→x=s + Ur7 v l
 | [],s,x,h=>by simp only [Uao,Option.some.injEq] at h; rw [Ur7,Rat.add_zero,h]
 | t::l,s,x,h=>by
  obtain ⟨y,e1,e2⟩:=Option.bind_eq_some_iff.1 h
  rw [Uif v e2,(Udp e1).1,Ur7,Rat.add_assoc]
theorem UdA (v:List Rat) {l:List SpT} {s x:Rat} (hs:fits s) (h:Uao (evS v) s l=some x):fits x :=
 UfY (step:=evS v) (P:=fun _=>True) (Inv:=fits) (fun s s' a _ _ he=>(Udp he).2) (fun _ _=>trivial) hs h
def UbU (f:Nat→Rat):Nat→List Rat→Rat
 | _,[]=>0
 | k,x::v=>f k * x + UbU f (k + 1) v
theorem UdV {f g:Nat→Rat}:∀ {v:List Rat} {k:Nat},(∀ i,k≤i→i<k + v.length→f i=g i)→UbU f k v=UbU g k v
 | [],k,h=>rfl
 | x::v,k,h=>by
  rw [UbU,UbU,h k (by omega) (by rw [List.length_cons]; omega),UdV fun i h1 h2=>h i (by omega) (by rw [List.length_cons]; omega)]
theorem Udz {f:Nat→Rat}:∀ {v:List Rat} {k:Nat},(∀ i,k≤i→i<k + v.length→f i=0)→UbU f k v=0
 | [],k,h=>rfl
 | x::v,k,h=>by
  rw [UbU,h k (by omega) (by rw [List.length_cons]; omega),Udz fun i h1 h2=>h i (by omega) (by rw [List.length_cons]; omega),Rat.zero_mul,Rat.zero_add]
theorem UhU (i:Nat) (c:Rat):∀ (v:List Rat) (k:Nat),k≤i→i<k + v.length→UbU (fun j=>if i=j then c else 0) k v=c * v.getD (i - k) 0
 | [],k,h1,h2=>by simp at h2; omega
 | x::v,k,h1,h2=>by
  rw [UbU]
  by_cases h:i=k
  · subst h
    rw [if_pos rfl,Udz fun j h3 h4=>if_neg (by omega),Nat.sub_self,Rat.add_zero]; rfl
  · rw [if_neg h,UhU i c v (k + 1) (by omega) (by simp at h2; omega),Rat.zero_mul,Rat.zero_add,show i - k=(i - (k + 1)) + 1 from by omega]; rfl
theorem UhT (f g:Nat→Rat):∀ (v:List Rat) (k:Nat),UbU (fun i=>f i + g i) k v=UbU f k v + UbU g k v
 | [],k=>by simp only [UbU]; grind
 | x::v,k=>by rw [UbU,UbU,UbU,UhT f g v]; grind
theorem UfW (f:Nat→Rat) (c:Rat):∀ (v r:List Rat) (k:Nat),v.length=r.length→UbU f k ((v.zip r).map fun x=>x.1 + x.2 * c)=UbU f k v + UbU f k r * c
 | [],[],k,_=>by simp only [UbU,List.zip_nil_left,List.map_nil]; grind
 | [],_::_,k,h=>by simp at h
 | _::_,[],k,h=>by simp at h
 | x::v,y::r,k,h=>by
  have:=UfW f c v r (k + 1) (by simpa using h)
  rw [List.zip_cons_cons,List.map_cons,UbU,UbU,UbU,this]
  grind
theorem UhV (v:List Rat):∀ {l:List SpT} {a:Int},asc a l→(∀ t∈l,t.1<v.length)→Ur7 v l=UbU (cf l) 0 v
 | [],a,_,_=>(Udz fun i _ _=>rfl).symm
 | t::l,a,h,hv=>by
  have ht:=hv t (List.mem_cons_self ..)
  rw [Ur7,UhV v h.2 (fun x hx=>hv x (List.mem_cons_of_mem _ hx))]
  have e:UbU (cf (t::l)) 0 v=UbU (fun i=>(if t.1=i then t.2 else 0) + cf l i) 0 v:=UdV fun i _ _=>by
   rw [Uqn]
   by_cases hi:t.1=i
   · subst hi; rw [if_pos rfl,if_pos rfl,UsN h.2 (by omega),Rat.add_zero]
   · rw [if_neg hi,if_neg hi,Rat.zero_add]
  rw [e,UhT,UhU t.1 t.2 v 0 (by omega) (by omega),Nat.sub_zero]
end Go.Proofs.YtmgfmlhdnadglaaGreatDoor
set_option linter.unusedVariables false
set_option maxRecDepth 100000
namespace Go.Proofs.YtmgfmlhdnadglaaGreatDoor
open Go Th Go.Proofs
noncomputable section
variable {R:Type}
def UpN:Ann:={ loops:=[],cuts:=[],frz:=[],rm:=[.id,.id] }
abbrev Utd (n:Nat):Env:=eC 58 (UtX n) eN
theorem UkY (n:Nat):EnvOK Tryz.prog GI (Utd n):=.cons (.nil) (UvD n)
def p62 (n:Nat) (x1:Bool) (x2 x3:LP) (x4:Bool) (x5 x6:LP) (k0:Bool→LP→LP→Int→O R):O R :=
 p58 n x2 x5 (fun y7=>p58 n x3 x6 (fun y8=>k0 (!(x1 == x4)) y7 y8 0))
abbrev UAo (n:Nat):Orc R:=oN
abbrev UzV (n:Nat):Orc R:=oN
abbrev K62 (R:Type) (n:Nat):=JcH (R:=R) Tryz.prog (Utd n) UpN n (22,[]) (UAo n) (UzV n)
theorem UBB (n:Nat):Je6 (K62 R n) (JaJ UpN (Jlk Tryz.f62)):=pO pN (by kernel_rfl)
abbrev t62:Sl (List SV):=(.c (sP (JlH (.c Jle (.c sSh (.c sSh .n))))) (.c (sP (JlH (.c Jle (.c sSh (.c sSh .n))))) .n))
abbrev f62 (n:Nat) (K:List SV→O R):t62.T (O R):=fun x1 x2 x3 x4 x5 x6=>p62 n x1 x2 x3 x4 x5 x6 (fun y1 y2 y3 y4=>K [.p (.agg [.v (.bool y1),.sh y2,.sh y3]),vI y4])
abbrev UyF (n:Nat):FS:=fT [false,false] t62 (f62 n)
theorem UAT (n:Nat):FSound Tryz.prog GI 62 (UyF n):=gd UpN n (UkY n) Tryz.func62 (.cons (UkY n) t62 (f62 n) (fun K _ _ _ _ _ _=>(Jkp (c:=Jlk Tryz.f62) (by kernel_rfl) (UBB n) K).trans (by kernel_rfl)) .nil) (by kernel_rfl)
def UpP:Ann:={ loops:=[],cuts:=[],frz:=[],rm:=[.id] }
abbrev Utf (n:Nat):Env:=eC 104 (UtA n) (eC 103 (Utz n) (eC 58 (UtX n) (eC 57 (Uvx n) eN)))
theorem Uk0 (n:Nat):EnvOK Tryz.prog GI (Utf n):=.cons (.cons (.cons (.cons (.nil) (UwY n)) (UvD n)) (Uwv n)) (Uww n)
def p64 (n:Nat) (x1:Bool) (x2 x3:LP) (x4:Bool) (x5 x6:LP) (k0:Bool→LP→LP→O R):O R :=
 p58 n x2 x6 (fun y7=>p58 n x5 x3 (fun y8=>p58 n x3 x6 (fun y9=>bif (x1 == x4) then (UvE n y7 y8 (fun y10=>k0 x1 y10 y9)) else (p57 n y7 y8 (fun y11=>bif (decide (y11<0)) then (Uuh n y8 y7 (fun y12=>k0 x4 y12 y9)) else (Uuh n y7 y8 (fun y13=>k0 x1 y13 y9)))))))
abbrev UAq (n:Nat):Orc R:=oN
abbrev UzX (n:Nat):Orc R:=oN
abbrev K64 (R:Type) (n:Nat):=JcH (R:=R) Tryz.prog (Utf n) UpP n (53,[]) (UAq n) (UzX n)
theorem UBD (n:Nat):Je6 (K64 R n) (JaJ UpP (Jlk Tryz.f64)):=pO pN (by kernel_rfl)
abbrev t64:Sl (List SV):=(.c (sP (JlH (.c Jle (.c sSh (.c sSh .n))))) (.c (sP (JlH (.c Jle (.c sSh (.c sSh .n))))) .n))
abbrev f64 (n:Nat) (K:List SV→O R):t64.T (O R):=fun x1 x2 x3 x4 x5 x6=>p64 n x1 x2 x3 x4 x5 x6 (fun y1 y2 y3=>K [.p (.agg [.v (.bool y1),.sh y2,.sh y3])])
abbrev UyH (n:Nat):FS:=fT [false,false] t64 (f64 n)
theorem UAV (n:Nat):FSound Tryz.prog GI 64 (UyH n):=gd UpP n (Uk0 n) Tryz.func64 (.cons (Uk0 n) t64 (f64 n) (fun K _ _ _ _ _ _=>(Jkp (c:=Jlk Tryz.f64) (by kernel_rfl) (UBD n) K).trans (by kernel_rfl)) .nil) (by kernel_rfl)
def UpO:Ann:={ loops:=[],cuts:=[],frz:=[],rm:=[.id,.id] }
abbrev Ute (n:Nat):Env:=eC 64 (UyH n) eN
theorem UkZ (n:Nat):EnvOK Tryz.prog GI (Ute n):=.cons (.nil) (UAV n)
def p63 (n:Nat) (x1:Bool) (x2 x3:LP) (x4:Bool) (x5 x6:LP) (k0:Bool→LP→LP→Int→O R):O R :=
 p64 n x1 x2 x3 x4 x5 x6 (fun y7 y8 y9=>k0 y7 y8 y9 0)
abbrev UAp (n:Nat):Orc R:=oN
abbrev UzW (n:Nat):Orc R:=oN
abbrev K63 (R:Type) (n:Nat):=JcH (R:=R) Tryz.prog (Ute n) UpO n (9,[]) (UAp n) (UzW n)
theorem UBC (n:Nat):Je6 (K63 R n) (JaJ UpO (Jlk Tryz.f63)):=pO pN (by kernel_rfl)
abbrev t63:Sl (List SV):=(.c (sP (JlH (.c Jle (.c sSh (.c sSh .n))))) (.c (sP (JlH (.c Jle (.c sSh (.c sSh .n))))) .n))
abbrev f63 (n:Nat) (K:List SV→O R):t63.T (O R):=fun x1 x2 x3 x4 x5 x6=>p63 n x1 x2 x3 x4 x5 x6 (fun y1 y2 y3 y4=>K [.p (.agg [.v (.bool y1),.sh y2,.sh y3]),vI y4])
abbrev UyG (n:Nat):FS:=fT [false,false] t63 (f63 n)
theorem UAU (n:Nat):FSound Tryz.prog GI 63 (UyG n):=gd UpO n (UkZ n) Tryz.func63 (.cons (UkZ n) t63 (f63 n) (fun K _ _ _ _ _ _=>(Jkp (c:=Jlk Tryz.f63) (by kernel_rfl) (UBC n) K).trans (by kernel_rfl)) .nil) (by kernel_rfl)
def UfQ:Ann:={ loops:=[],cuts:=[(5,ids [2,8,10],ids [6,7])],frz:=[],rm:=[.id,.id] }
abbrev UqL (n:Nat):Env:=eC 79 (Uwc n) (eC 63 (UyG n) (eC 62 (UyF n) (eC 56 (UtW n) eN)))
theorem Ugx (n:Nat):EnvOK Tryz.prog GI (UqL n):=.cons (.cons (.cons (.cons (.nil) (UvC n)) (UAT n)) (UAU n)) (Uzd n)
def Ump (n:Nat) (x1:Bool) (x2 x3:LP) (x4:Bool) (x5 x6:LP) (k0:ByteArray→Int→O R):O R :=
 p62 n x1 x2 x3 x4 x5 x6 (fun y7 y8 y9 y10=>bif (y10 != 0) then (k0 ⟨#[]⟩ y10) else (p79 n y7 y8 y9 (fun y11 y12=>k0 y11 y12)))
def p61 (n:Nat) (x1 x2:ByteArray) (k0:ByteArray→Int→O R):O R :=
 p56 n x1 (fun y3 y4 y5 y6=>p56 n x2 (fun y7 y8 y9 y10=>bif (!y6) then (k0 ⟨#[]⟩ 3) else (bif (bif false then true else (!y10)) then (k0 ⟨#[]⟩ 3) else (Ump n y3 y4 y5 y7 y8 y9 (fun y11 y12=>k0 y11 y12)))))
def Ufj (n:Nat) (x1:Bool) (x2 x3:LP) (x4:Bool) (x5 x6:LP) (k0:ByteArray→Int→O R):O R :=
 p63 n x1 x2 x3 x4 x5 x6 (fun y7 y8 y9 y10=>bif (y10 != 0) then (k0 ⟨#[]⟩ y10) else (p79 n y7 y8 y9 (fun y11 y12=>k0 y11 y12)))
def Ug1 (n:Nat) (x1 x2:ByteArray) (k0:ByteArray→Int→O R):O R :=
 p56 n x1 (fun y3 y4 y5 y6=>p56 n x2 (fun y7 y8 y9 y10=>bif (!y6) then (k0 ⟨#[]⟩ 3) else (bif (bif false then true else (!y10)) then (k0 ⟨#[]⟩ 3) else (Ufj n y3 y4 y5 y7 y8 y9 (fun y11 y12=>k0 y11 y12)))))
abbrev E61 (n:Nat):Code→Fr→Kc R→O R:=evC Tryz.prog (UqL n) UfQ n (44,[])
noncomputable def Uj2:Code:=Jj3 (Jlk Tryz.f61) [1,1,1,1]
abbrev Uhm:Sl (List SV):=(.c (sP (sFn 62)) (.c (sBx 99 (cB (cH (cH .n)))) (.c (sBx 99 (cB (cH (cH .n)))) .n)))
abbrev Uhn:Sl (List SV):=(.c (sP (sFn 63)) (.c (sBx 99 (cB (cH (cH .n)))) (.c (sBx 99 (cB (cH (cH .n)))) .n)))
abbrev UlK (n:Nat) (K:Kc R):Uhm.T (O R):=fun x1 x2 x3 x4 x5 x6=>Ump n x1 x2 x3 x4 x5 x6 (fun y1 y2=>xC UfQ 5 K .ret [vS y1,vI y2])
abbrev UlL (n:Nat) (K:Kc R):Uhn.T (O R):=fun x1 x2 x3 x4 x5 x6=>Ufj n x1 x2 x3 x4 x5 x6 (fun y1 y2=>xC UfQ 5 K .ret [vS y1,vI y2])
abbrev Uws (n:Nat):Orc R:=oN
abbrev Uv0 (n:Nat):Orc R:=fun i vs K=>JfJ (Nat.beq i 5) (Jjf (Uhm.ap vs (UlK n K)) (Jjf (Uhn.ap vs (UlL n K)) (Jkh UfQ 5 (E61 n Uj2) vs K))) (oN i vs K)
abbrev K61 (R:Type) (n:Nat):=JcH (R:=R) Tryz.prog (UqL n) UfQ n (44,[]) (Uws n) (Uv0 n)
theorem Umt (n:Nat):Je6 (K61 R n) (JaJ UfQ Uj2):=pO pN (by kernel_rfl)
theorem UuQ (n:Nat):K61 R n (true,5,Uj2):=JkV (lo:=Uws n) (cu:=Uv0 n) (Umt n) Uhm (UlK n) (fun K _ _ _ _ _ _=>by show _=_; kernel_rfl) (JkV (lo:=Uws n) (cu:=Uv0 n) (Umt n) Uhn (UlL n) (fun K _ _ _ _ _ _=>by show _=_; kernel_rfl) fun _ _=>rfl)
theorem Uzl (n:Nat):Je6 (K61 R n) (JaJ UfQ (Jlk Tryz.f61)):=pO (pC (UuQ n) pN) (by kernel_rfl)
abbrev UxN:Sl (List SV):=(cS (cS (.c (sP (sFn 62)) .n)))
abbrev Uyk (n:Nat) (K:List SV→O R):UxN.T (O R):=fun x1 x2=>p61 n x1 x2 (fun y1 y2=>K [vS y1,vI y2])
abbrev UxO:Sl (List SV):=(cS (cS (.c (sP (sFn 63)) .n)))
abbrev Uyl (n:Nat) (K:List SV→O R):UxO.T (O R):=fun x1 x2=>Ug1 n x1 x2 (fun y1 y2=>K [vS y1,vI y2])
abbrev Uwa (n:Nat):FS:={ om:=[false,false,false],run:=fun args K=>Jjf (UxN.ap args (Uyk n K)) (Jjf (UxO.ap args (Uyl n K)) none) }
theorem Uzb (n:Nat):FSound Tryz.prog GI 61 (Uwa n):=gd UfQ n (Ugx n) Tryz.func61 (.cons (Ugx n) UxN (Uyk n) (fun K _ _=>(Jkp (c:=Jlk Tryz.f61) (by kernel_rfl) (Uzl n) K).trans (by kernel_rfl)) (.cons (Ugx n) UxO (Uyl n) (fun K _ _=>(Jkp (c:=Jlk Tryz.f61) (by kernel_rfl) (Uzl n) K).trans (by kernel_rfl)) .nil)) (by kernel_rfl)
def UpT:Ann:={ loops:=[],cuts:=[],frz:=[],rm:=[.id] }
abbrev Utj (n:Nat):Env:=eN
theorem Uk6 (n:Nat):EnvOK Tryz.prog GI (Utj n):=.nil
def p78 (n:Nat) (x1:Bool) (x2 x3:LP) (k0:Bool→LP→LP→O R):O R :=
 bif (!x1) then (k0 (bif true then (decide (((x2).length:Int)>0)) else false) x2 x3) else (k0 false x2 x3)
abbrev UAu (n:Nat):Orc R:=oN
abbrev Uz1 (n:Nat):Orc R:=oN
abbrev K78 (R:Type) (n:Nat):=JcH (R:=R) Tryz.prog (Utj n) UpT n (14,[]) (UAu n) (Uz1 n)
theorem UBJ (n:Nat):Je6 (K78 R n) (JaJ UpT (Jlk Tryz.f78)):=pO pN (by kernel_rfl)
abbrev t78:Sl (List SV):=(.c (sP (JlH (.c Jle (.c sSh (.c sSh .n))))) .n)
abbrev f78 (n:Nat) (K:List SV→O R):t78.T (O R):=fun x1 x2 x3=>p78 n x1 x2 x3 (fun y1 y2 y3=>K [.p (.agg [.v (.bool y1),.sh y2,.sh y3])])
abbrev UyL (n:Nat):FS:=fT [false] t78 (f78 n)
theorem UAZ (n:Nat):FSound Tryz.prog GI 78 (UyL n):=gd UpT n (Uk6 n) Tryz.func78 (.cons (Uk6 n) t78 (f78 n) (fun K _ _ _=>(Jkp (c:=Jlk Tryz.f78) (by kernel_rfl) (UBJ n) K).trans (by kernel_rfl)) .nil) (by kernel_rfl)
def UpD:Ann:={ loops:=[],cuts:=[],frz:=[],rm:=[.id,.id] }
abbrev Us4 (n:Nat):Env:=eC 61 (Uwa n) (eC 60 (Uw n) (eC 54 (Uvw n) eN))
theorem UkC (n:Nat):EnvOK Tryz.prog GI (Us4 n):=.cons (.cons (.cons (.nil) (UwX n)) (Uza n)) (Uzb n)
def p22 (n:Nat) (x1 x2:ByteArray) (k0:ByteArray→Int→O R):O R :=
 p54 n x1 x2 (fun y3 y4 y5=>bif y5 then (bif (JkS (IntKind.i64.wrap (y3 + y4))) then (k0 (JiA (IntKind.i64.wrap (y3 + y4))) 0) else none) else (Ug1 n x1 x2 (fun y6 y7=>k0 y6 y7)))
abbrev UAe (n:Nat):Orc R:=oN
abbrev UzL (n:Nat):Orc R:=oN
abbrev K22 (R:Type) (n:Nat):=JcH (R:=R) Tryz.prog (Us4 n) UpD n (26,[]) (UAe n) (UzL n)
theorem UBf (n:Nat):Je6 (K22 R n) (JaJ UpD (Jlk Tryz.f22)):=pO pN (by kernel_rfl)
abbrev t22:Sl (List SV):=(cS (cS .n))
abbrev f22 (n:Nat) (K:List SV→O R):t22.T (O R):=fun x1 x2=>p22 n x1 x2 (fun y1 y2=>K [vS y1,vI y2])
abbrev Uvt (n:Nat):FS:=fT [false,false] t22 (f22 n)
theorem UwU (n:Nat):FSound Tryz.prog GI 22 (Uvt n):=gd UpD n (UkC n) Tryz.func22 (.cons (UkC n) t22 (f22 n) (fun K _ _=>(Jkp (c:=Jlk Tryz.f22) (by kernel_rfl) (UBf n) K).trans (by kernel_rfl)) .nil) (by kernel_rfl)
def UpC:Ann:={ loops:=[],cuts:=[],frz:=[],rm:=[.id,.id] }
abbrev Us3 (n:Nat):Env:=eC 61 (Uwa n) (eC 60 (Uw n) (eC 54 (Uvw n) eN))
theorem UkB (n:Nat):EnvOK Tryz.prog GI (Us3 n):=.cons (.cons (.cons (.nil) (UwX n)) (Uza n)) (Uzb n)
def p21 (n:Nat) (x1 x2:ByteArray) (k0:ByteArray→Int→O R):O R :=
 p54 n x1 x2 (fun y3 y4 y5=>bif y5 then (bif (JkS (IntKind.i64.wrap (y3 * y4))) then (k0 (JiA (IntKind.i64.wrap (y3 * y4))) 0) else none) else (p61 n x1 x2 (fun y6 y7=>k0 y6 y7)))
abbrev UAd (n:Nat):Orc R:=oN
abbrev UzK (n:Nat):Orc R:=oN
abbrev K21 (R:Type) (n:Nat):=JcH (R:=R) Tryz.prog (Us3 n) UpC n (26,[]) (UAd n) (UzK n)
theorem UBe (n:Nat):Je6 (K21 R n) (JaJ UpC (Jlk Tryz.f21)):=pO pN (by kernel_rfl)
abbrev t21:Sl (List SV):=(cS (cS .n))
abbrev f21 (n:Nat) (K:List SV→O R):t21.T (O R):=fun x1 x2=>p21 n x1 x2 (fun y1 y2=>K [vS y1,vI y2])
abbrev Uvs (n:Nat):FS:=fT [false,false] t21 (f21 n)
theorem UwT (n:Nat):FSound Tryz.prog GI 21 (Uvs n):=gd UpC n (UkB n) Tryz.func21 (.cons (UkB n) t21 (f21 n) (fun K _ _=>(Jkp (c:=Jlk Tryz.f21) (by kernel_rfl) (UBe n) K).trans (by kernel_rfl)) .nil) (by kernel_rfl)
def UpG:Ann:={ loops:=[],cuts:=[],frz:=[],rm:=[.id] }
abbrev Us7 (n:Nat):Env:=eC 79 (Uwc n) (eC 78 (UyL n) (eC 56 (UtW n) eN))
theorem UkL (n:Nat):EnvOK Tryz.prog GI (Us7 n):=.cons (.cons (.cons (.nil) (UvC n)) (UAZ n)) (Uzd n)
def p37 (n:Nat) (x1:ByteArray) (k0:ByteArray→O R):O R :=
 p56 n x1 (fun y2 y3 y4 y5=>bif (!y5) then (k0 ⟨#[]⟩) else (p78 n y2 y3 y4 (fun y6 y7 y8=>p79 n y6 y7 y8 (fun y9 y10=>k0 y9))))
abbrev UAh (n:Nat):Orc R:=oN
abbrev UzO (n:Nat):Orc R:=oN
abbrev K37 (R:Type) (n:Nat):=JcH (R:=R) Tryz.prog (Us7 n) UpG n (21,[]) (UAh n) (UzO n)
theorem UBo (n:Nat):Je6 (K37 R n) (JaJ UpG (Jlk Tryz.f37)):=pO pN (by kernel_rfl)
abbrev t37:Sl (List SV):=(cS .n)
abbrev f37 (n:Nat) (K:List SV→O R):t37.T (O R):=fun x1=>p37 n x1 (fun y1=>K [vS y1])
abbrev Uyy (n:Nat):FS:=fT [false] t37 (f37 n)
theorem UAM (n:Nat):FSound Tryz.prog GI 37 (Uyy n):=gd UpG n (UkL n) Tryz.func37 (.cons (UkL n) t37 (f37 n) (fun K _=>(Jkp (c:=Jlk Tryz.f37) (by kernel_rfl) (UBo n) K).trans (by kernel_rfl)) .nil) (by kernel_rfl)
end
end Go.Proofs.YtmgfmlhdnadglaaGreatDoor
set_option linter.unusedVariables false
set_option linter.unusedSimpArgs false
namespace Go.Proofs.YtmgfmlhdnadglaaGreatDoor
open Go Th Go.Proofs
variable {R:Type}
def Ugl (q:Rat) (k0:ByteArray→Int→Option R):Option R:=if fits q then k0 (bs (Uaf q)) 0 else k0 (bs []) 5
theorem UdN {a b i j:Nat} (ha:(toL 1000000000 a).length≤i) (hb:(toL 1000000000 b).length≤j):(toL 1000000000 (a * b)).length≤i + j:=by
 rw [Uah hB2] at *
 rw [Nat.pow_add]
 exact Nat.mul_lt_mul_of_lt_of_lt ha hb
theorem Uve {a b i:Nat} (ha:(toL 1000000000 a).length≤i) (hb:(toL 1000000000 b).length≤i):(toL 1000000000 (a + b)).length≤i + 1:=by
 rw [Uah hB2] at *
 rw [Nat.pow_succ]; omega
theorem UmS {a b i:Nat} (h:a≤b) (hb:(toL 1000000000 b).length≤i):(toL 1000000000 a).length≤i:=Ub hb h
theorem Uq8 {a b i j:Nat} (ha:a<10 ^ i) (hb:b<10 ^ j):a * b<10 ^ (i + j):=by
 rw [Nat.pow_add]; exact Nat.mul_lt_mul_of_lt_of_lt ha hb
theorem Ul1 {a b:Nat} (ha:a<10 ^ 400) (hb:b<10 ^ 400):a * b<10 ^ 800:=by
 have h:=Uq8 ha hb
 have e:400 + 400=800:=rfl
 rw [e] at h; exact h
theorem Uvd (n:Nat) (hn:2 ^ 20≤n) (neg neg2:Bool) (a b c d:Nat) (ha:(toL 1000000000 a).length≤100) (hb:(toL 1000000000 b).length≤100) (hc:(toL 1000000000 c).length≤100) (hd:(toL 1000000000 d).length≤100) :
 ∃ (ng:Bool) (e:Nat),(∀ k0:Bool→List PV→List PV→Option R,p64 n neg (NN a) (NN b) neg2 (NN c) (NN d) k0=k0 ng (NN e) (NN (b * d)))∧zs ng e=zs neg a * d + zs neg2 c * b∧(toL 1000000000 e).length≤201:=by
 have l1:=UdN ha hd
 have l2:=UdN hc hb
 have m1:=fun k0=>UaD (R:=R) n a d (by omega) (by omega) (by omega) k0
 have m2:=fun k0=>UaD (R:=R) n c b (by omega) (by omega) (by omega) k0
 have m3:=fun k0=>UaD (R:=R) n b d (by omega) (by omega) (by omega) k0
 have z1:zs neg a * (d:Int)=zs neg (a * d):=by cases neg <;> simp [zs,Int.neg_mul]
 have z2:zs neg2 c * (b:Int)=zs neg2 (c * b):=by cases neg2 <;> simp [zs,Int.neg_mul]
 rw [z1,z2]
 by_cases hs:neg=neg2
 · subst hs
   have p1:=fun k0=>Uri (R:=R) n (a * d) (c * b) (by omega) (by omega) (by omega) (by omega) k0
   refine ⟨neg,a * d + c * b,fun k0=>?_,?_,Uve l1 l2⟩
   · unfold p64
     have e:(neg == neg)=true:=by simp
     simp only [m1,m2,m3,e,Uam,p1]
   · generalize a * d=x
     generalize c * b=y
     cases neg
     · simp only [zs,Bool.false_eq_true,if_false]; omega
     · simp only [zs,if_true]; omega
 · have e:(neg == neg2)=false:=by simpa using hs
   have hneg:neg2=!neg:=by cases neg <;> cases neg2 <;> simp_all
   have c1:=fun k0=>Uk (R:=R) n (a * d) (c * b) (by omega) (by omega) (by omega) k0
   by_cases hlt:a * d<c * b
   · have p1:=fun k0=>UiH (R:=R) n (c * b) (a * d) (by omega) (by omega) (by omega) k0
     have e2:decide (UdU (a * d) (c * b)<0)=true:=by rw [show UdU (a * d) (c * b)=-1 from by unfold UdU; rw [if_pos hlt]]; rfl
     refine ⟨neg2,c * b - a * d,fun k0=>?_,?_,UmS (Nat.sub_le _ _) (Nat.le_trans l2 (by omega))⟩
     · unfold p64
       simp only [m1,m2,m3,e,Uak,c1,e2,Uam,p1]
     · rw [hneg]
       generalize a * d=x at *
       generalize c * b=y at *
       cases neg
       · simp only [zs,Bool.not_false,if_true,Bool.false_eq_true,if_false]; omega
       · simp only [zs,Bool.not_true,if_true,Bool.false_eq_true,if_false]; omega
   · have p1:=fun k0=>UiH (R:=R) n (a * d) (c * b) (by omega) (by omega) (by omega) k0
     have e2:decide (UdU (a * d) (c * b)<0)=false:=by
      apply decide_eq_false
      unfold UdU; rw [if_neg hlt]; split <;> omega
     refine ⟨neg,a * d - c * b,fun k0=>?_,?_,UmS (Nat.sub_le _ _) (Nat.le_trans l1 (by omega))⟩
     · unfold p64
       simp only [m1,m2,m3,e,Uak,c1,e2,p1]
     · rw [hneg]
       generalize a * d=x at *
       generalize c * b=y at *
       cases neg
       · simp only [zs,Bool.not_false,if_true,Bool.false_eq_true,if_false]; omega
       · simp only [zs,Bool.not_true,if_true,Bool.false_eq_true,if_false]; omega
theorem Uu (p q:Rat):mkRat (p.num * q.den + q.num * p.den) (p.den * q.den)=p + q:=by
 rw [←Rat.mkRat_add_mkRat _ _ p.den_nz q.den_nz,Rat.mkRat_self,Rat.mkRat_self]
theorem Uua (p q:Rat):mkRat (p.num * q.num) (p.den * q.den)=p * q:=by
 rw [←Rat.mkRat_mul_mkRat,Rat.mkRat_self,Rat.mkRat_self]
theorem n20 {n:Nat} (hn:10 ^ 1000≤n):2 ^ 20<n:=Nat.lt_of_lt_of_le (by decide +kernel) hn
theorem Uc2 {n:Nat} (hn:10 ^ 1000≤n):10 ^ 400≤n:=Nat.le_trans (by decide +kernel) hn
theorem Uy5 {n a b:Nat} (hn:10 ^ 1000≤n) (ha:a<10 ^ 400) (hb:b<10 ^ 400):a * b<n:=Nat.lt_of_lt_of_le (Ul1 ha hb) (Nat.le_trans (by decide +kernel) hn)
theorem Upp (n:Nat) (hn:10 ^ 1000≤n) (ng:Bool) (e f:Nat) (hf:f≠0) (he:(toL 1000000000 e).length≤300) (hfl:(toL 1000000000 f).length≤300) (hfn:f<n) (q:Rat) (hq:mkRat (zs ng e) f=q) (k0:ByteArray→Int→Option R):p79 n ng (NN e) (NN f) k0=Ugl q k0:=by
 have h20:=n20 hn
 rw [Ujl n ng e f hf (by omega) (by omega) h20 hfn,hq]; rfl
theorem UmU (n:Nat) (hn:10 ^ 1000≤n) (p q:Rat) (hp:fits p) (hq:fits q) (k0:ByteArray→Int→Option R):Ug1 n (bs (Uaf p)) (bs (Uaf q)) k0=Ugl (p + q) k0:=by
 have h20:=n20 hn
 have r1:=fun k0=>Ubc (R:=R) n (Uc2 hn) p hp k0
 have r2:=fun k0=>Ubc (R:=R) n (Uc2 hn) q hq k0
 have m1:=Uav hp.1
 have m2:=Uav hp.2
 have m3:=Uav hq.1
 have m4:=Uav hq.2
 obtain ⟨ng,e,s1,s2,s3⟩:=Uvd (R:=R) n (by omega) (sg p.num) (sg q.num) p.num.natAbs p.den q.num.natAbs q.den (by omega) (by omega) (by omega) (by omega)
 rw [show zs (sg p.num) p.num.natAbs=p.num from UbM _,show zs (sg q.num) q.num.natAbs=q.num from UbM _] at s2
 have t:=fun k0=>Upp (R:=R) n hn ng e (p.den * q.den) (Nat.mul_ne_zero p.den_nz q.den_nz) (by omega) (Nat.le_trans (UdN m2 m4) (by omega)) (Uy5 hn hp.2 hq.2) (p + q) (by rw [s2,Uu]) k0
 have e0:((0:Int) != 0)=false:=rfl
 simp only [Ug1,Ufj,p63,r1,r2,s1,t,e0,Bool.not_true,Uak]
theorem Uvi (x y:Int):zs (!(sg x == sg y)) (x.natAbs * y.natAbs)=x * y:=by
 have hx:=UbM x
 have hy:=UbM y
 generalize hsx:decide (x<0)=sx at *
 generalize hsy:decide (y<0)=sy at *
 have e1:sg x=sx:=hsx
 have e2:sg y=sy:=hsy
 rw [e1,e2]
 conv=>rhs; rw [←hx,←hy]
 generalize x.natAbs=a
 generalize y.natAbs=b
 cases sx <;> cases sy <;> simp [zs,Int.neg_mul,Int.mul_neg]
theorem UmV (n:Nat) (hn:10 ^ 1000≤n) (p q:Rat) (hp:fits p) (hq:fits q) (k0:ByteArray→Int→Option R):p61 n (bs (Uaf p)) (bs (Uaf q)) k0=Ugl (p * q) k0:=by
 have h20:=n20 hn
 have r1:=fun k0=>Ubc (R:=R) n (Uc2 hn) p hp k0
 have r2:=fun k0=>Ubc (R:=R) n (Uc2 hn) q hq k0
 have m1:=Uav hp.1
 have m2:=Uav hp.2
 have m3:=Uav hq.1
 have m4:=Uav hq.2
 have s1:=fun k0=>UaD (R:=R) n p.num.natAbs q.num.natAbs (by omega) (by omega) (by omega) k0
 have s2:=fun k0=>UaD (R:=R) n p.den q.den (by omega) (by omega) (by omega) k0
 have t:=fun k0=>Upp (R:=R) n hn (!(sg p.num == sg q.num)) (p.num.natAbs * q.num.natAbs) (p.den * q.den) (Nat.mul_ne_zero p.den_nz q.den_nz) (Nat.le_trans (UdN m1 m3) (by omega)) (Nat.le_trans (UdN m2 m4) (by omega)) (Uy5 hn hp.2 hq.2) (p * q) (by rw [Uvi,Uua]) k0
 have e0:((0:Int) != 0)=false:=rfl
 simp only [p61,Ump,p62,r1,r2,s1,s2,t,e0,Bool.not_true,Uak]
theorem Um1 (neg:Bool) (a:Nat) (d:Nat):zs neg a * (d:Int)=zs neg (a * d):=by cases neg <;> simp [zs,Int.neg_mul]
theorem Udm (n:Nat) (hn:10 ^ 400≤n) (s:List UInt8) (hs:s.length<2 ^ 17):∃ a b c d,(∀ k0:Bool→List PV→List PV→Bool→Option R,p56 n (bs s) k0=k0 a b c d)∧(¬ isQ s→d=false):=by
 classical
 by_cases h:isQ s
 · obtain ⟨q,h1,rfl⟩:=h
   exact ⟨_,_,_,_,fun k0=>Ubc n hn q h1 k0,fun h=>absurd ⟨q,h1,rfl⟩ h⟩
 · obtain ⟨a,b,c,h2⟩:=UiZ (R:=R) n hn s (by omega) h
   exact ⟨a,b,c,false,h2,fun _=>rfl⟩
def UaL (s:List UInt8):Prop:=∃ v:Int,v.natAbs<10 ^ 9∧s=Lib.itoa v
theorem Uf9 (n:Nat) (hn:20≤n) (s:List UInt8) (hs:s.length<2 ^ 40):∃ a d,(∀ k0:Int→Bool→Option R,p95 n (bs s) k0=k0 a d)∧(¬ UaL s→d=false):=by
 by_cases h:UaL s
 · obtain ⟨v,h1,rfl⟩:=h
   exact ⟨v,true,fun k0=>Udl n hn v h1 k0,fun h=>absurd ⟨v,h1,rfl⟩ h⟩
 · exact ⟨0,false,fun k0=>Ug n hn s hs h k0,fun _=>rfl⟩
theorem Ugr (n:Nat) (hn:20≤n) (v w:Int) (hv:v.natAbs<10 ^ 9) (hw:w.natAbs<10 ^ 9) (k0:Int→Int→Bool→Option R):p54 n (bs (Lib.itoa v)) (bs (Lib.itoa w)) k0=k0 v w true:=by
 have q1:=fun k0=>Udl (R:=R) n hn v hv k0
 have q2:=fun k0=>Udl (R:=R) n hn w hw k0
 simp only [p54,q1,q2,Uam]
theorem UbR (n:Nat) (hn:20≤n) (s t:List UInt8) (hs:s.length<2 ^ 40) (ht:t.length<2 ^ 40) (h:¬ (UaL s∧UaL t)):∃ a b,∀ k0:Int→Int→Bool→Option R,p54 n (bs s) (bs t) k0=k0 a b false:=by
 obtain ⟨a,d,q1,f1⟩:=Uf9 (R:=R) n hn s hs
 obtain ⟨b,e,q2,f2⟩:=Uf9 (R:=R) n hn t ht
 cases d with
 | false=>exact ⟨a,b,fun k0=>by simp only [p54,q1,q2,Uak]⟩
 | true =>
  have hS:UaL s:=Classical.byContradiction fun h=>by have:=f1 h; cases this
  have hT:¬ UaL t:=fun hT=>h ⟨hS,hT⟩
  have e0:=f2 hT
  subst e0
  exact ⟨a,b,fun k0=>by simp only [p54,q1,q2,Uam]⟩
theorem UiD (x:Int):JiA x=bs (Lib.itoa x):=rfl
theorem Ui0 (v:Int) (h:v.natAbs<10 ^ 400) (k0:ByteArray→Int→Option R):Ugl (v:Rat) k0=k0 (bs (Lib.itoa v)) 0:=by
 unfold Ugl
 rw [if_pos (UbW h),Ual]
theorem UaN {p:Rat} (h:UaL (Uaf p)):∃ v:Int,v.natAbs<10 ^ 9∧p=(v:Rat):=by
 obtain ⟨v,h1,h2⟩:=h
 exact ⟨v,h1,Ufv (h2.trans (Ual v))⟩
theorem Ul0:10 ^ 9<10 ^ 400:=by decide +kernel
theorem UoX {x:Int} (h1:-9223372036854775808≤x) (h2:x<9223372036854775808):JkS x=true:=by
 unfold JkS; simp; omega
theorem Un1 (n:Nat) (hn:10 ^ 1000≤n) (p q:Rat) (hp:fits p) (hq:fits q) (k0:ByteArray→Int→Option R):p22 n (bs (Uaf p)) (bs (Uaf q)) k0=Ugl (p + q) k0:=by
 have h20:=n20 hn
 have lp:=UaK hp
 have lq:=UaK hq
 by_cases hb:UaL (Uaf p)∧UaL (Uaf q)
 · obtain ⟨v,hv,rfl⟩:=UaN hb.1
   obtain ⟨w,hw,rfl⟩:=UaN hb.2
   have b1:=fun k0=>Ugr (R:=R) n (by omega) v w hv hw k0
   rw [←Rat.intCast_add,Ui0 _ (Nat.lt_of_le_of_lt (by omega:(v + w).natAbs≤2000000000) (by decide +kernel)),←Ual,←Ual]
   have e1:IntKind.i64.wrap (v + w)=v + w:=w64 (by omega) (by omega)
   have e2:JkS (v + w)=true:=UoX (by omega) (by omega)
   simp only [p22,b1,Uam,e1,e2,UiD]
 · obtain ⟨a,b,b1⟩:=UbR (R:=R) n (by omega) (Uaf p) (Uaf q) (by omega) (by omega) hb
   have t:=fun k0=>UmU (R:=R) n hn p q hp hq k0
   simp only [p22,b1,Uak,t]
theorem Un2 (n:Nat) (hn:10 ^ 1000≤n) (p q:Rat) (hp:fits p) (hq:fits q) (k0:ByteArray→Int→Option R):p21 n (bs (Uaf p)) (bs (Uaf q)) k0=Ugl (p * q) k0:=by
 have h20:=n20 hn
 have lp:=UaK hp
 have lq:=UaK hq
 by_cases hb:UaL (Uaf p)∧UaL (Uaf q)
 · obtain ⟨v,hv,rfl⟩:=UaN hb.1
   obtain ⟨w,hw,rfl⟩:=UaN hb.2
   have b1:=fun k0=>Ugr (R:=R) n (by omega) v w hv hw k0
   have hvw:(v * w).natAbs≤10 ^ 9 * 10 ^ 9:=by
    rw [Int.natAbs_mul]; exact Nat.mul_le_mul (Nat.le_of_lt hv) (Nat.le_of_lt hw)
   rw [←Rat.intCast_mul,Ui0 _ (Nat.lt_of_le_of_lt hvw (by decide +kernel)),←Ual,←Ual]
   generalize hx:v * w=x at *
   have e1:IntKind.i64.wrap x=x:=w64 (by omega) (by omega)
   have e2:JkS x=true:=UoX (by omega) (by omega)
   simp only [p21,b1,Uam,hx,e1,e2,UiD]
 · obtain ⟨a,b,b1⟩:=UbR (R:=R) n (by omega) (Uaf p) (Uaf q) (by omega) (by omega) hb
   have t:=fun k0=>UmV (R:=R) n hn p q hp hq k0
   simp only [p21,b1,Uak,t]
theorem UdM {s:List UInt8} (h:UaL s):isQ s:=by
 obtain ⟨v,h1,h2⟩:=h
 exact ⟨(v:Rat),UbW (Nat.lt_trans h1 Ul0),h2.trans (Ual v)⟩
theorem Ur0 (n:Nat) (hn:10 ^ 400≤n) (s t:List UInt8) (hs:s.length<2 ^ 17) (ht:t.length<2 ^ 17) (h:¬ (isQ s∧isQ t)) (k0:ByteArray→Int→Option R) :
 p61 n (bs s) (bs t) k0=k0 (bs []) 3∧Ug1 n (bs s) (bs t) k0=k0 (bs []) 3∧p61 n (bs s) (bs t) k0=k0 (bs []) 3∧p61 n (bs s) (bs t) k0=k0 (bs []) 3:=by
 obtain ⟨a,b,c,d,q1,f1⟩:=Udm (R:=R) n hn s hs
 obtain ⟨a',b',c',d',q2,f2⟩:=Udm (R:=R) n hn t ht
 cases d with
 | false=>refine ⟨?_,?_,?_,?_⟩ <;> simp only [p61,Ug1,p61,p61,q1,q2,Uq9,Uam] <;> rfl
 | true =>
  have hS:isQ s:=Classical.byContradiction fun h=>by have:=f1 h; cases this
  have hT:¬ isQ t:=fun hT=>h ⟨hS,hT⟩
  have e0:=f2 hT
  subst e0
  refine ⟨?_,?_,?_,?_⟩ <;> simp only [p61,Ug1,p61,p61,q1,q2,Uq9,Usc,Uam,Uak] <;> rfl
theorem Unf (a b:Nat):Ujp (a:Int) (b:Int)=UdU a b:=by
 unfold Ujp UdU
 by_cases h1:a<b
 · rw [if_pos (by omega),if_pos h1]
 · rw [if_neg (by omega),if_neg h1]
   by_cases h2:b<a
   · rw [if_neg (by omega),if_pos h2]
   · rw [if_pos (by omega),if_neg h2]
theorem Une (a b:Nat):Ujp (-(a:Int)) (-(b:Int))=0 - UdU a b:=by
 unfold Ujp UdU
 by_cases h1:a<b
 · rw [if_neg (by omega),if_neg (by omega),if_pos h1]; rfl
 · rw [if_neg h1]
   by_cases h2:b<a
   · rw [if_pos (by omega),if_pos h2]; rfl
   · rw [if_neg (by omega),if_pos (by omega),if_neg h2]; rfl
theorem Uqo (a b:Nat):-1≤UdU a b∧UdU a b≤1:=by unfold UdU; split <;> (try split) <;> omega
theorem Ush (n:Nat) (hn:10 ^ 1000≤n) (p q:Rat) (hp:fits p) (hq:fits q) (k0:Int→Option R):p19 n (bs (Uaf p)) (bs (Uaf q)) k0=k0 (Ujp (p.num * q.den) (q.num * p.den)):=by
 have h20:=n20 hn
 have lp:=UaK hp
 have lq:=UaK hq
 by_cases hb:UaL (Uaf p)∧UaL (Uaf q)
 · obtain ⟨v,hv,rfl⟩:=UaN hb.1
   obtain ⟨w,hw,rfl⟩:=UaN hb.2
   have b1:=fun k0=>Ugr (R:=R) n (by omega) v w hv hw k0
   rw [←Ual,←Ual,Rat.num_intCast,Rat.num_intCast,Rat.den_intCast,Rat.den_intCast,show ((1:Nat):Int)=1 from rfl,Int.mul_one,Int.mul_one]
   simp only [p19,b1,Uam,p55]
   unfold Ujp
   by_cases h1:v<w
   · rw [Jke h1,if_pos h1]
   · rw [c_neg h1,if_neg h1]
     by_cases h2:v>w
     · rw [Jke h2,if_neg (by omega)]
     · rw [c_neg h2,if_pos (by omega)]
 · obtain ⟨a,b,b1⟩:=UbR (R:=R) n (by omega) (Uaf p) (Uaf q) (by omega) (by omega) hb
   have r1:=fun k0=>Ubc (R:=R) n (Uc2 hn) p hp k0
   have r2:=fun k0=>Ubc (R:=R) n (Uc2 hn) q hq k0
   have m1:=Uav hp.1
   have m2:=Uav hp.2
   have m3:=Uav hq.1
   have m4:=Uav hq.2
   have s1:=fun k0=>UaD (R:=R) n p.num.natAbs q.den (by omega) (by omega) (by omega) k0
   have s2:=fun k0=>UaD (R:=R) n q.num.natAbs p.den (by omega) (by omega) (by omega) k0
   have l1:=UdN m1 m4
   have l2:=UdN m3 m2
   have c1:=fun k0=>Uk (R:=R) n (p.num.natAbs * q.den) (q.num.natAbs * p.den) (by omega) (by omega) (by omega) k0
   have hpd:=p.den_nz
   have hqd:=q.den_nz
   have z1:p.num * (q.den:Int)=zs (sg p.num) (p.num.natAbs * q.den):=by rw [←Um1,show zs (sg p.num) p.num.natAbs=p.num from UbM _]
   have z2:q.num * (p.den:Int)=zs (sg q.num) (q.num.natAbs * p.den):=by rw [←Um1,show zs (sg q.num) q.num.natAbs=q.num from UbM _]
   have h1:sg p.num=true→1≤p.num.natAbs * q.den:=by
    intro h
    have:p.num<0:=by simpa [sg] using h
    exact Nat.mul_le_mul (by omega:1≤p.num.natAbs) (by omega:1≤q.den)
   have h2:sg q.num=true→1≤q.num.natAbs * p.den:=by
    intro h
    have:q.num<0:=by simpa [sg] using h
    exact Nat.mul_le_mul (by omega:1≤q.num.natAbs) (by omega:1≤p.den)
   rw [z1,z2]
   simp only [p19,b1,r1,r2,Usc,Uak,Umf,Ucs,s1,s2,c1]
   generalize sg p.num=u at *
   generalize sg q.num=v at *
   generalize p.num.natAbs * q.den=x at *
   generalize q.num.natAbs * p.den=y at *
   have hc:=Uqo x y
   cases u <;> cases v
   · simp only [Uak,zs,Bool.false_eq_true,if_false,Unf]
   · have:=h2 rfl
     simp only [Uam,Uak,Uq9,zs,Bool.false_eq_true,if_false,if_true]
     unfold Ujp
     rw [if_neg (by omega),if_neg (by omega)]
   · have:=h1 rfl
     simp only [Uam,Uak,Uq9,zs,Bool.false_eq_true,if_false,if_true]
     unfold Ujp
     rw [if_pos (by omega)]
   · have e:IntKind.i64.wrap (0 - UdU x y)=0 - UdU x y:=w64 (by omega) (by omega)
     simp only [Uam,Uak,Usc,zs,if_true,Une,e]
theorem Upr (n:Nat) (hn:10 ^ 400≤n) (s t:List UInt8) (hs:s.length<2 ^ 17) (ht:t.length<2 ^ 17) (h:¬ (isQ s∧isQ t)) (k0:Int→Option R):p19 n (bs s) (bs t) k0=k0 0:=by
 have hN:=Ua6 hn
 obtain ⟨a,b,b1⟩:=UbR (R:=R) n (by omega) s t (by omega) (by omega) (fun q=>h ⟨UdM q.1,UdM q.2⟩)
 obtain ⟨a,b,c,d,q1,f1⟩:=Udm (R:=R) n hn s hs
 obtain ⟨a',b',c',d',q2,f2⟩:=Udm (R:=R) n hn t ht
 cases d with
 | false=>simp only [p19,b1,q1,q2,Uq9,Uam,Uak]
 | true =>
  have hS:isQ s:=Classical.byContradiction fun h=>by have:=f1 h; cases this
  have hT:¬ isQ t:=fun hT=>h ⟨hS,hT⟩
  have e0:=f2 hT
  subst e0
  simp only [p19,b1,q1,q2,Uq9,Usc,Uam,Uak]
theorem Udn {q:Rat} (h:fits q) (k0:ByteArray→Int→Option R):Ugl q k0=k0 (bs (Uaf q)) 0:=by unfold Ugl; rw [if_pos h]
def UbS (p q:Rat):Int:=Ujp (p.num * q.den) (q.num * p.den)
theorem Utq (p q:Rat):p=q↔p.num * (q.den:Int)=q.num * (p.den:Int):=by
 rw [←Rat.mkRat_eq_iff p.den_nz q.den_nz,Rat.mkRat_self,Rat.mkRat_self]
theorem Uez {p q:Rat} (h:p<q):UbS p q=-1:=by
 unfold UbS Ujp; rw [if_pos ((Rat.lt_iff p q).1 h)]
theorem UfS (p:Rat):UbS p p=0:=by
 unfold UbS Ujp; rw [if_neg (by omega),if_pos rfl]
theorem Ugu {p q:Rat} (h:q<p):UbS p q=1:=by
 have h1:=(Rat.lt_iff q p).1 h
 unfold UbS Ujp; rw [if_neg (by omega),if_neg (by omega)]
theorem tri (p q:Rat):p<q∨p=q∨q<p:=by
 rw [Rat.lt_iff,Rat.lt_iff,Utq]; omega
theorem Uj9 {p q:Rat} (h:UbS p q=0):p=q:=by
 rcases tri p q with h1 | h1 | h1
 · rw [Uez h1] at h; cases h
 · exact h1
 · rw [Ugu h1] at h; cases h
theorem Ujr (n:Nat) (hn:10 ^ 1000≤n) (p q:Rat) (hp:fits p) (hq:fits q) (k0:Int→Option R):p19 n (bs (Uaf p)) (bs (Uaf q)) k0=k0 (UbS p q):=Ush n hn p q hp hq k0
end Go.Proofs.YtmgfmlhdnadglaaGreatDoor
set_option linter.unusedVariables false
set_option maxRecDepth 100000
namespace Go.Proofs.YtmgfmlhdnadglaaGreatDoor
open Go Th Go.Proofs
noncomputable section
variable {R:Type}
def UpU:Ann:={ loops:=[],cuts:=[],frz:=[],rm:=[.id] }
abbrev Utk (n:Nat):Env:=eN
theorem Uk8 (n:Nat):EnvOK Tryz.prog GI (Utk n):=.nil
def p80 (n:Nat) (x1:Int) (k0:Bool→O R):O R :=
 bif (decide (x1≥0)) then (k0 (bif true then (decide (x1<2048)) else false)) else (k0 false)
abbrev UAv (n:Nat):Orc R:=oN
abbrev Uz2 (n:Nat):Orc R:=oN
abbrev K80 (R:Type) (n:Nat):=JcH (R:=R) Tryz.prog (Utk n) UpU n (9,[]) (UAv n) (Uz2 n)
theorem UBL (n:Nat):Je6 (K80 R n) (JaJ UpU (Jlk Tryz.f80)):=pO pN (by kernel_rfl)
abbrev t80:Sl (List SV):=(cI .n)
abbrev f80 (n:Nat) (K:List SV→O R):t80.T (O R):=fun x1=>p80 n x1 (fun y1=>K [vB y1])
abbrev Uwd (n:Nat):FS:=fT [false] t80 (f80 n)
theorem Uze (n:Nat):FSound Tryz.prog GI 80 (Uwd n):=gd UpU n (Uk8 n) Tryz.func80 (.cons (Uk8 n) t80 (f80 n) (fun K _=>(Jkp (c:=Jlk Tryz.f80) (by kernel_rfl) (UBL n) K).trans (by kernel_rfl)) .nil) (by kernel_rfl)
def UaO:Ann:={ loops:=[(4,ids [1,15,16,17],ids [1,2]),(10,ids [1,27,28,29],ids [1,2]),(17,ids [7,39,40,41],ids [2])],cuts:=[],frz:=[],rm:=[.id] }
abbrev UqG (n:Nat):Env:=eC 80 (Uwd n) (eC 53 (UqZ n) eN)
theorem UkQ (n:Nat):EnvOK Tryz.prog GI (UqG n):=.cons (.cons (.nil) (Usd n)) (Uze n)
def Ufc (n:Nat) (l0:LP→ByteArray→LP→Int→Int→O R) (x1:LP) (x2:ByteArray) (x3:LP) (x4 x5:Int) (k0:LP→ByteArray→Int→O R) (k1:LP→ByteArray→O R):O R :=
 bif (decide (x5<x4)) then (bif (inR x5 ((x3).length)) then (Jh1 ((x3).getD ((x5:Int).toNat) (.v (.bool false))) fun a6=>JdT a6 fun h7 t8=>Ji9 .i64 h7 fun e9=>JdT t8 fun h10 t11=>Jj2 h10 fun e12=>Ji1 t11 (p53 n e12 (fun y13=>bif (!y13) then (k0 x1 x2 3) else (l0 x1 x2 x3 x4 (IntKind.i64.wrap (x5 + 1)))))) else none) else (k1 x1 x2)
def Ucx (n:Nat):Nat→LP→ByteArray→LP→Int→Int→(LP→ByteArray→Int→O R)→(LP→ByteArray→O R)→O R
 | 0,_,_,_,_,_,_,_=>none
 | m + 1,x1,x2,x3,x4,x5,k0,k1=>Ufc n (fun x1 x2 x3 x4 x5=>Ucx n m x1 x2 x3 x4 x5 k0 k1) x1 x2 x3 x4 x5 k0 k1
def Upb (n:Nat) (x1:LP) (x2:ByteArray) (x3:LP) (x4 x5:Int) (k0:LP→ByteArray→Int→O R) (k1:LP→ByteArray→O R):O R:=Ucx n n x1 x2 x3 x4 x5 k0 k1
def Udj (n:Nat) (l0:LP→ByteArray→LP→Int→Int→O R) (x1:LP) (x2:ByteArray) (x3:LP) (x4 x5:Int) (k0:LP→ByteArray→Int→O R) (k1:LP→ByteArray→O R):O R :=
 bif (decide (x5<x4)) then (bif (inR x5 ((x3).length)) then (Jh1 ((x3).getD ((x5:Int).toNat) (.v (.bool false))) fun a6=>JdT a6 fun h7 t8=>Ji9 .i64 h7 fun e9=>JdT t8 fun h10 t11=>Jj2 h10 fun e12=>Ji1 t11 (p80 n e9 (fun y13=>bif (!y13) then (k0 x1 x2 2) else (l0 x1 x2 x3 x4 (IntKind.i64.wrap (x5 + 1)))))) else none) else (k1 x1 x2)
def Ubn (n:Nat):Nat→LP→ByteArray→LP→Int→Int→(LP→ByteArray→Int→O R)→(LP→ByteArray→O R)→O R
 | 0,_,_,_,_,_,_,_=>none
 | m + 1,x1,x2,x3,x4,x5,k0,k1=>Udj n (fun x1 x2 x3 x4 x5=>Ubn n m x1 x2 x3 x4 x5 k0 k1) x1 x2 x3 x4 x5 k0 k1
def Ug0 (n:Nat) (x1:LP) (x2:ByteArray) (x3:LP) (x4 x5:Int) (k0:LP→ByteArray→Int→O R) (k1:LP→ByteArray→O R):O R:=Ubn n n x1 x2 x3 x4 x5 k0 k1
def Udk (n:Nat) (l0:Int→LP→Int→Int→O R) (x1:Int) (x2:LP) (x3 x4:Int) (k0:Int→O R) (k1:O R):O R :=
 bif (decide (x4<x3)) then (bif (inR x4 ((x2).length)) then (Jh1 ((x2).getD ((x4:Int).toNat) (.v (.bool false))) fun a5=>JdT a5 fun h6 t7=>Ji9 .i64 h6 fun e8=>JdT t7 fun h9 t10=>Jj2 h9 fun e11=>Ji1 t10 (bif (eqS e11 (⟨#[48]⟩:ByteArray)) then (k0 3) else (bif (bif false then true else (decide (e8≤x1))) then (k0 3) else (l0 e8 x2 x3 (IntKind.i64.wrap (x4 + 1)))))) else none) else (k1)
def Ubo (n:Nat):Nat→Int→LP→Int→Int→(Int→O R)→(O R)→O R
 | 0,_,_,_,_,_,_=>none
 | m + 1,x1,x2,x3,x4,k0,k1=>Udk n (fun x1 x2 x3 x4=>Ubo n m x1 x2 x3 x4 k0 k1) x1 x2 x3 x4 k0 k1
def UdJ (n:Nat) (x1:Int) (x2:LP) (x3 x4:Int) (k0:Int→O R) (k1:O R):O R:=Ubo n n x1 x2 x3 x4 k0 k1
def p52 (n:Nat) (x1:LP) (x2:ByteArray) (k0:Int→O R):O R :=
 p53 n x2 (fun y3=>bif (!y3) then (k0 3) else (Upb n x1 x2 x1 ((x1).length:Int) 0 (fun y4 y5 y6=>k0 y6) (fun y7 y8=>Ug0 n y7 y8 y7 ((y7).length:Int) 0 (fun y9 y10 y11=>k0 y11) (fun y12 y13=>UdJ n (-1) y12 ((y12).length:Int) 0 (fun y14=>k0 y14) (k0 0)))))
abbrev E52 (n:Nat):Code→Fr→Kc R→O R:=evC Tryz.prog (UqG n) UaO n (57,[])
noncomputable def Uoi:Code:=Jj3 (Jlk Tryz.f52) [1,1,0,1,0,0]
abbrev Uec:Sl (List SV):=(.c (sBx 43 (cH (cS .n))) (cH (cI (cI .n))))
abbrev UlD (n m:Nat) (K:Kc R):Uec.T (O R):=fun x1 x2 x3 x4 x5=>Ucx n m x1 x2 x3 x4 x5 (fun y1 y2 y3=>xL UaO 4 K .ret [.bx 43 [vH y1,vS y2],vI y3]) (fun y1 y2=>xL UaO 4 K (.exit 0) [.bx 43 [vH y1,vS y2],dD])
abbrev Usy (n:Nat) (K:Kc R) (l0:Uec.T (O R)):Uec.T (O R):=fun x1 x2 x3 x4 x5=>Ufc n l0 x1 x2 x3 x4 x5 (fun y1 y2 y3=>xL UaO 4 K .ret [.bx 43 [vH y1,vS y2],vI y3]) (fun y1 y2=>xL UaO 4 K (.exit 0) [.bx 43 [vH y1,vS y2],dD])
noncomputable def UjZ:Code:=Jj3 (Jlk Tryz.f52) [1,1,1,0,1,0,0]
abbrev UcV:Sl (List SV):=(.c (sBx 43 (cH (cS .n))) (cH (cI (cI .n))))
abbrev UgK (n m:Nat) (K:Kc R):UcV.T (O R):=fun x1 x2 x3 x4 x5=>Ubn n m x1 x2 x3 x4 x5 (fun y1 y2 y3=>xL UaO 10 K .ret [.bx 43 [vH y1,vS y2],vI y3]) (fun y1 y2=>xL UaO 10 K (.exit 2) [.bx 43 [vH y1,vS y2],dD])
abbrev Uqf (n:Nat) (K:Kc R) (l0:UcV.T (O R)):UcV.T (O R):=fun x1 x2 x3 x4 x5=>Udj n l0 x1 x2 x3 x4 x5 (fun y1 y2 y3=>xL UaO 10 K .ret [.bx 43 [vH y1,vS y2],vI y3]) (fun y1 y2=>xL UaO 10 K (.exit 2) [.bx 43 [vH y1,vS y2],dD])
noncomputable def Uj0:Code:=Jj3 (Jlk Tryz.f52) [1,1,1,1,1,0,1,0,0]
abbrev UcW:Sl (List SV):=(cI (cH (cI (cI .n))))
abbrev UgL (n m:Nat) (K:Kc R):UcW.T (O R):=fun x1 x2 x3 x4=>Ubo n m x1 x2 x3 x4 (fun y1=>xL UaO 17 K .ret [vI y1]) (xL UaO 17 K (.exit 4) [dD])
abbrev Uqg (n:Nat) (K:Kc R) (l0:UcW.T (O R)):UcW.T (O R):=fun x1 x2 x3 x4=>Udk n l0 x1 x2 x3 x4 (fun y1=>xL UaO 17 K .ret [vI y1]) (xL UaO 17 K (.exit 4) [dD])
abbrev UvB (n:Nat):Orc R:=oL UaO (E52 n) n 17 Uj0 UcW (UgL n n) (oL UaO (E52 n) n 10 UjZ UcV (UgK n n) (oL UaO (E52 n) n 4 Uoi Uec (UlD n n) oN))
abbrev Uvq (n:Nat):Orc R:=oN
abbrev K52 (R:Type) (n:Nat):=JcH (R:=R) Tryz.prog (UqG n) UaO n (57,[]) (UvB n) (Uvq n)
theorem UuK (n:Nat):K52 R n (false,4,Uoi):=JkE (lo:=UvB n) (cu:=Uvq n) (pO pN (by kernel_rfl)) Uec (UlD n n) (JiD (F:=UlD n) Uec (Usy n) (fun K _ _ _ _ _=>rfl) (fun _ _=>rfl) (fun L K _ _ _ _ _=>by show _=_; kernel_rfl) n) fun _ _=>rfl
theorem UrI (n:Nat):K52 R n (false,10,UjZ):=JkE (lo:=UvB n) (cu:=Uvq n) (pO pN (by kernel_rfl)) UcV (UgK n n) (JiD (F:=UgK n) UcV (Uqf n) (fun K _ _ _ _ _=>rfl) (fun _ _=>rfl) (fun L K _ _ _ _ _=>by show _=_; kernel_rfl) n) fun _ _=>rfl
theorem UrJ (n:Nat):K52 R n (false,17,Uj0):=JkE (lo:=UvB n) (cu:=Uvq n) (pO pN (by kernel_rfl)) UcW (UgL n n) (JiD (F:=UgL n) UcW (Uqg n) (fun K _ _ _ _=>rfl) (fun _ _=>rfl) (fun L K _ _ _ _=>by show _=_; kernel_rfl) n) fun _ _=>rfl
theorem UBt (n:Nat):Je6 (K52 R n) (JaJ UaO (Jlk Tryz.f52)):=pO (pC (UuK n) (pC (UrI n) (pC (UrJ n) pN))) (by kernel_rfl)
abbrev t52:Sl (List SV):=(.c (sP (JlH (.c sSh (.c Jlx .n)))) .n)
abbrev f52 (n:Nat) (K:List SV→O R):t52.T (O R):=fun x1 x2=>p52 n x1 x2 (fun y1=>K [vI y1])
abbrev Ur9 (n:Nat):FS:=fT [false] t52 (f52 n)
theorem Uuf (n:Nat):FSound Tryz.prog GI 52 (Ur9 n):=gd UaO n (UkQ n) Tryz.func52 (.cons (UkQ n) t52 (f52 n) (fun K _ _=>(Jkp (c:=Jlk Tryz.f52) (by kernel_rfl) (UBt n) K).trans (by kernel_rfl)) .nil) (by kernel_rfl)
def Uex:Ann:={ loops:=[(2,ids [0,1,7,8,9],ids [1,4])],cuts:=[],frz:=[],rm:=[.id] }
abbrev UqN (n:Nat):Env:=eC 52 (Ur9 n) eN
theorem Uk5 (n:Nat):EnvOK Tryz.prog GI (UqN n):=.cons (.nil) (Uuf n)
def Ufl (n:Nat) (l0:Int→LP→LP→Int→Int→O R) (x1:Int) (x2 x3:LP) (x4 x5:Int) (k0:LP→Bool→O R) (k1:LP→O R):O R :=
 bif (decide (x5<x4)) then (bif (inR x5 ((x3).length)) then (Jh1 ((x3).getD ((x5:Int).toNat) (.v (.bool false))) fun a6=>JdT a6 fun h7 t8=>Ji9 .i64 h7 fun e9=>JdT t8 fun h10 t11=>Jj2 h10 fun e12=>Ji1 t11 (bif (decide (e9≥x1)) then (k0 x2 false) else (l0 x1 x2 x3 x4 (IntKind.i64.wrap (x5 + 1))))) else none) else (k1 x2)
def UcE (n:Nat):Nat→Int→LP→LP→Int→Int→(LP→Bool→O R)→(LP→O R)→O R
 | 0,_,_,_,_,_,_,_=>none
 | m + 1,x1,x2,x3,x4,x5,k0,k1=>Ufl n (fun x1 x2 x3 x4 x5=>UcE n m x1 x2 x3 x4 x5 k0 k1) x1 x2 x3 x4 x5 k0 k1
def Upg (n:Nat) (x1:Int) (x2 x3:LP) (x4 x5:Int) (k0:LP→Bool→O R) (k1:LP→O R):O R:=UcE n n x1 x2 x3 x4 x5 k0 k1
def p76 (n:Nat) (x1:Int) (x2:LP) (k0:Bool→O R):O R :=
 Upg n x1 x2 x2 ((x2).length:Int) 0 (fun y3 y4=>k0 y4) (fun y5=>p52 n y5 ⟨#[48]⟩ (fun y6=>k0 (y6 == 0)))
abbrev E76 (n:Nat):Code→Fr→Kc R→O R:=evC Tryz.prog (UqN n) Uex n (22,[])
noncomputable def Uop:Code:=Jj3 (Jlk Tryz.f76) [1,0,1,0,0]
abbrev Uej:Sl (List SV):=(cI (cH (cH (cI (cI .n)))))
abbrev UlN (n m:Nat) (K:Kc R):Uej.T (O R):=fun x1 x2 x3 x4 x5=>UcE n m x1 x2 x3 x4 x5 (fun y1 y2=>xL Uex 2 K .ret [vH y1,vB y2]) (fun y1=>xL Uex 2 K (.exit 0) [vH y1,dD])
abbrev UsF (n:Nat) (K:Kc R) (l0:Uej.T (O R)):Uej.T (O R):=fun x1 x2 x3 x4 x5=>Ufl n l0 x1 x2 x3 x4 x5 (fun y1 y2=>xL Uex 2 K .ret [vH y1,vB y2]) (fun y1=>xL Uex 2 K (.exit 0) [vH y1,dD])
abbrev Uy3 (n:Nat):Orc R:=oL Uex (E76 n) n 2 Uop Uej (UlN n n) oN
abbrev Uyb (n:Nat):Orc R:=oN
abbrev K76 (R:Type) (n:Nat):=JcH (R:=R) Tryz.prog (UqN n) Uex n (22,[]) (Uy3 n) (Uyb n)
theorem UuS (n:Nat):K76 R n (false,2,Uop):=JkE (lo:=Uy3 n) (cu:=Uyb n) (pO pN (by kernel_rfl)) Uej (UlN n n) (JiD (F:=UlN n) Uej (UsF n) (fun K _ _ _ _ _=>rfl) (fun _ _=>rfl) (fun L K _ _ _ _ _=>by show _=_; kernel_rfl) n) fun _ _=>rfl
theorem UBI (n:Nat):Je6 (K76 R n) (JaJ Uex (Jlk Tryz.f76)):=pO (pC (UuS n) pN) (by kernel_rfl)
abbrev t76:Sl (List SV):=(cI (cH .n))
abbrev f76 (n:Nat) (K:List SV→O R):t76.T (O R):=fun x1 x2=>p76 n x1 x2 (fun y1=>K [vB y1])
abbrev UyK (n:Nat):FS:=fT [false,false] t76 (f76 n)
theorem UAY (n:Nat):FSound Tryz.prog GI 76 (UyK n):=gd Uex n (Uk5 n) Tryz.func76 (.cons (Uk5 n) t76 (f76 n) (fun K _ _=>(Jkp (c:=Jlk Tryz.f76) (by kernel_rfl) (UBI n) K).trans (by kernel_rfl)) .nil) (by kernel_rfl)
def UbO:Ann:={ loops:=[(8,[(1,.id),(4,.id),(8,.cs [some 66,none]),(30,.id),(31,.id),(32,.id)],ids [4,5,8])],cuts:=[],frz:=[1000015,1000025,1000028,1000045],rm:=[.id,.id] }
abbrev Ukl (n:Nat):Env:=eC 21 (Uvs n) eN
theorem Uh4 (n:Nat):EnvOK Tryz.prog GI (Ukl n):=.cons (.nil) (UwT n)
def UiM (n:Nat) (l0:ByteArray→ByteArray→LP→ByteArray→LP→Int→Int→O R) (x1 x2:ByteArray) (x3:LP) (x4:ByteArray) (x5:LP) (x6 x7:Int) (k0:ByteArray→Int→LP→ByteArray→O R) (k1:ByteArray→LP→ByteArray→O R):O R :=
 bif (decide (x7<x6)) then (bif (inR x7 ((x5).length)) then (Jh1 ((x5).getD ((x7:Int).toNat) (.v (.bool false))) fun a8=>JdT a8 fun h9 t10=>Ji9 .i64 h9 fun e11=>JdT t10 fun h12 t13=>Jj2 h12 fun e14=>Ji1 t13 (p21 n e14 x1 (fun y15 y16=>bif (y16 != 0) then (k0 ByteArray.empty y16 x3 x4) else (bif (Jbu ((x3).length + 1) 24) then (l0 x1 x2 (x3++([.agg [.v (.int .i64 e11),.v (.string y15)]]:LP)) x4 x5 x6 (IntKind.i64.wrap (x7 + 1))) else none)))) else none) else (k1 x2 x3 x4)
def UeU (n:Nat):Nat→ByteArray→ByteArray→LP→ByteArray→LP→Int→Int→(ByteArray→Int→LP→ByteArray→O R)→(ByteArray→LP→ByteArray→O R)→O R
 | 0,_,_,_,_,_,_,_,_,_=>none
 | m + 1,x1,x2,x3,x4,x5,x6,x7,k0,k1=>UiM n (fun x1 x2 x3 x4 x5 x6 x7=>UeU n m x1 x2 x3 x4 x5 x6 x7 k0 k1) x1 x2 x3 x4 x5 x6 x7 k0 k1
def Ura (n:Nat) (x1 x2:ByteArray) (x3:LP) (x4:ByteArray) (x5:LP) (x6 x7:Int) (k0:ByteArray→Int→LP→ByteArray→O R) (k1:ByteArray→LP→ByteArray→O R):O R:=UeU n n x1 x2 x3 x4 x5 x6 x7 k0 k1
def Uzh (n:Nat) (x1:LP) (x2 x3:ByteArray) (k0:LP→ByteArray→Int→O R):O R :=
 bif (eqS x3 (⟨#[48]⟩:ByteArray)) then (k0 [] ⟨#[48]⟩ 0) else (p21 n x2 x3 (fun y4 y5=>bif (y5 != 0) then (k0 [] ByteArray.empty y5) else (Ura n x3 ByteArray.empty [] y4 x1 ((x1).length:Int) 0 (fun y6 y7 y8 y9=>k0 [] y6 y7) (fun y10 y11 y12=>k0 y11 y12 0))))
abbrev Uzt (n:Nat):Code→Fr→Kc R→O R:=evC Tryz.prog (Ukl n) UbO n (58,[])
noncomputable def UjK:Code:=Jj3 (Jlk Tryz.f113) [1,1,1,1,1,0,1,0,0]
abbrev UcP:Sl (List SV):=(cS (.c (sBx 43 (.c sNl (cS .n))) (.c (sBx 43 (cO 66 (cS .n))) (cH (cI (cI .n))))))
abbrev UgE (n m:Nat) (K:Kc R):UcP.T (O R):=fun x1 x2 x3 x4 x5 x6 x7=>UeU n m x1 x2 x3 x4 x5 x6 x7 (fun y1 y2 y3 y4=>xL UbO 8 K .ret [.bx 43 [.nl,vS y1],vI y2,.bx 43 [.own 66 y3,vS y4]]) (fun y1 y2 y3=>xL UbO 8 K (.exit 0) [.bx 43 [.nl,vS y1],dD,.bx 43 [.own 66 y2,vS y3]])
abbrev Up6 (n:Nat) (K:Kc R) (l0:UcP.T (O R)):UcP.T (O R):=fun x1 x2 x3 x4 x5 x6 x7=>UiM n l0 x1 x2 x3 x4 x5 x6 x7 (fun y1 y2 y3 y4=>xL UbO 8 K .ret [.bx 43 [.nl,vS y1],vI y2,.bx 43 [.own 66 y3,vS y4]]) (fun y1 y2 y3=>xL UbO 8 K (.exit 0) [.bx 43 [.nl,vS y1],dD,.bx 43 [.own 66 y2,vS y3]])
abbrev Ut4 (n:Nat):Orc R:=oL UbO (Uzt n) n 8 UjK UcP (UgE n n) oN
abbrev UsS (n:Nat):Orc R:=oN
abbrev UxX (R:Type) (n:Nat):=JcH (R:=R) Tryz.prog (Ukl n) UbO n (58,[]) (Ut4 n) (UsS n)
theorem Urq (n:Nat):UxX R n (false,8,UjK):=JkE (lo:=Ut4 n) (cu:=UsS n) (pO pN (by kernel_rfl)) UcP (UgE n n) (JiD (F:=UgE n) UcP (Up6 n) (fun K _ _ _ _ _ _ _=>rfl) (fun _ _=>rfl) (fun L K _ _ _ _ _ _ _=>by show _=_; kernel_rfl) n) fun _ _=>rfl
theorem Uxd (n:Nat):Je6 (UxX R n) (JaJ UbO (Jlk Tryz.f113)):=pO (pC (Urq n) pN) (by kernel_rfl)
abbrev Uxz:Sl (List SV):=(.c (sP (JlH (.c sSh (.c Jlx .n)))) (cS .n))
abbrev f113 (n:Nat) (K:List SV→O R):Uxz.T (O R):=fun x1 x2 x3=>Uzh n x1 x2 x3 (fun y1 y2 y3=>K [.p (.agg [.sh y1,.v (.string y2)]),vI y3])
abbrev UtE (n:Nat):FS:=fT [false,false] Uxz (f113 n)
theorem UwA (n:Nat):FSound Tryz.prog GI 113 (UtE n):=gd UbO n (Uh4 n) Tryz.func113 (.cons (Uh4 n) Uxz (f113 n) (fun K _ _ _=>(Jkp (c:=Jlk Tryz.f113) (by kernel_rfl) (Uxd n) K).trans (by kernel_rfl)) .nil) (by kernel_rfl)
def UpR:Ann:={ loops:=[],cuts:=[],frz:=[],rm:=[.id,.id] }
abbrev Uth (n:Nat):Env:=eC 113 (UtE n) (eC 53 (UqZ n) (eC 52 (Ur9 n) eN))
theorem Uk3 (n:Nat):EnvOK Tryz.prog GI (Uth n):=.cons (.cons (.cons (.nil) (Uuf n)) (Usd n)) (UwA n)
def p74 (n:Nat) (x1:LP) (x2 x3:ByteArray) (k0:LP→ByteArray→Int→O R):O R :=
 p52 n x1 x2 (fun y4=>bif (y4 != 0) then (k0 [] ByteArray.empty 3) else (p53 n x3 (fun y5=>bif (bif false then true else (!y5)) then (k0 [] ByteArray.empty 3) else (Uzh n x1 x2 x3 (fun y6 y7 y8=>k0 y6 y7 y8)))))
abbrev UAs (n:Nat):Orc R:=oN
abbrev UzZ (n:Nat):Orc R:=oN
abbrev K74 (R:Type) (n:Nat):=JcH (R:=R) Tryz.prog (Uth n) UpR n (20,[]) (UAs n) (UzZ n)
theorem UBG (n:Nat):Je6 (K74 R n) (JaJ UpR (Jlk Tryz.f74)):=pO pN (by kernel_rfl)
abbrev t74:Sl (List SV):=(.c (sP (JlH (.c sSh (.c Jlx .n)))) (cS .n))
abbrev f74 (n:Nat) (K:List SV→O R):t74.T (O R):=fun x1 x2 x3=>p74 n x1 x2 x3 (fun y1 y2 y3=>K [.p (.agg [.sh y1,.v (.string y2)]),vI y3])
abbrev UyI (n:Nat):FS:=fT [false,false] t74 (f74 n)
theorem UAW (n:Nat):FSound Tryz.prog GI 74 (UyI n):=gd UpR n (Uk3 n) Tryz.func74 (.cons (Uk3 n) t74 (f74 n) (fun K _ _ _=>(Jkp (c:=Jlk Tryz.f74) (by kernel_rfl) (UBG n) K).trans (by kernel_rfl)) .nil) (by kernel_rfl)
def Uat:Ann:={ loops:=[(6,[(2,.id),(3,.id),(4,.id),(8,.cs [some 66,none]),(9,.id),(10,.id)],ids [4,5,8])],cuts:=[(12,ids [2,3,4,8,9,10],ids [2,3,4,5,8,9,10]),(14,ids [2,3,4,8,9,10],ids [2,3,4,5,8,9,10]),(15,ids [2,3,4,8,9,10,78],ids [2,3,4,5,8,9,10]),(18,ids [2,3,4,8,9,10,118],ids [2,3,4,5,8,9,10])],frz:=[1000023,1000026,1000057],rm:=[.id,.id] }
abbrev Ukm (n:Nat):Env:=eC 22 (Uvt n) eN
theorem Uh5 (n:Nat):EnvOK Tryz.prog GI (Ukm n):=.cons (.nil) (UwU n)
def UeV (n:Nat) (x1:LP) (x2:ByteArray) (x3:LP) (x4 x5:ByteArray) (x6:LP) (x7:ByteArray) (x8 x9:Int) (k0:LP→ByteArray→LP→ByteArray→ByteArray→LP→ByteArray→Int→Int→O R):O R :=
 k0 x1 x2 x3 x4 x5 x6 x7 (IntKind.i64.wrap (x8 + 1)) (IntKind.i64.wrap (x9 + 1))
def UeX (n:Nat) (x1:LP) (x2:ByteArray) (x3:LP) (x4 x5:ByteArray) (x6:LP) (x7:ByteArray) (x8 x9:Int) (x10:Bool) (k0:LP→ByteArray→LP→ByteArray→ByteArray→LP→ByteArray→Int→Int→O R) (k1:LP→ByteArray→LP→ByteArray→ByteArray→Int→LP→ByteArray→Int→Int→O R):O R :=
 bif x10 then (bif (inR x9 ((x3).length)) then (Jh1 ((x3).getD ((x9:Int).toNat) (.v (.bool false))) fun a11=>JdT a11 fun h12 t13=>Ji9 .i64 h12 fun e14=>JdT t13 fun h15 t16=>Jj2 h15 fun e17=>Ji1 t16 (bif (Jbu ((x6).length + 1) 24) then (k0 x1 x2 x3 x4 x5 (x6++([.agg [.v (.int .i64 e14),.v (.string e17)]]:LP)) x7 x8 (IntKind.i64.wrap (x9 + 1))) else none)) else none) else (bif (inR x8 ((x1).length)) then (Jh1 ((x1).getD ((x8:Int).toNat) (.v (.bool false))) fun a18=>JdT a18 fun h19 t20=>Ji9 .i64 h19 fun e21=>JdT t20 fun h22 t23=>Jj2 h22 fun e24=>Ji1 t23 (bif (inR x9 ((x3).length)) then (Jh1 ((x3).getD ((x9:Int).toNat) (.v (.bool false))) fun a25=>JdT a25 fun h26 t27=>Ji9 .i64 h26 fun e28=>JdT t27 fun h29 t30=>Jj2 h29 fun e31=>Ji1 t30 (p22 n e24 e31 (fun y32 y33=>bif (y33 != 0) then (k1 x1 x2 x3 x4 ByteArray.empty y33 x6 x7 x8 x9) else (bif (!eqS y32 (⟨#[48]⟩:ByteArray)) then (bif (inR x8 ((x1).length)) then (Jh1 ((x1).getD ((x8:Int).toNat) (.v (.bool false))) fun a34=>JdT a34 fun h35 t36=>Ji9 .i64 h35 fun e37=>JdT t36 fun h38 t39=>Jj2 h38 fun e40=>Ji1 t39 (bif (Jbu ((x6).length + 1) 24) then (UeV n x1 x2 x3 x4 x5 (x6++([.agg [.v (.int .i64 e37),.v (.string y32)]]:LP)) x7 x8 x9 (fun y41 y42 y43 y44 y45 y46 y47 y48 y49=>k0 y41 y42 y43 y44 y45 y46 y47 y48 y49)) else none)) else none) else (UeV n x1 x2 x3 x4 x5 x6 x7 x8 x9 (fun y50 y51 y52 y53 y54 y55 y56 y57 y58=>k0 y50 y51 y52 y53 y54 y55 y56 y57 y58)))))) else none)) else none)
def Udd (n:Nat) (x1:LP) (x2:ByteArray) (x3:LP) (x4 x5:ByteArray) (x6:LP) (x7:ByteArray) (x8 x9:Int) (x10:Bool) (k0:LP→ByteArray→LP→ByteArray→ByteArray→LP→ByteArray→Int→Int→O R) (k1:LP→ByteArray→LP→ByteArray→ByteArray→Int→LP→ByteArray→Int→Int→O R):O R :=
 bif x10 then (bif (inR x8 ((x1).length)) then (Jh1 ((x1).getD ((x8:Int).toNat) (.v (.bool false))) fun a11=>JdT a11 fun h12 t13=>Ji9 .i64 h12 fun e14=>JdT t13 fun h15 t16=>Jj2 h15 fun e17=>Ji1 t16 (bif (Jbu ((x6).length + 1) 24) then (k0 x1 x2 x3 x4 x5 (x6++([.agg [.v (.int .i64 e14),.v (.string e17)]]:LP)) x7 (IntKind.i64.wrap (x8 + 1)) x9) else none)) else none) else (bif (x8 == ((x1).length:Int)) then (UeX n x1 x2 x3 x4 x5 x6 x7 x8 x9 true (fun y18 y19 y20 y21 y22 y23 y24 y25 y26=>k0 y18 y19 y20 y21 y22 y23 y24 y25 y26) (fun y27 y28 y29 y30 y31 y32 y33 y34 y35 y36=>k1 y27 y28 y29 y30 y31 y32 y33 y34 y35 y36)) else (bif (inR x9 ((x3).length)) then (Jh1 ((x3).getD ((x9:Int).toNat) (.v (.bool false))) fun a37=>JdT a37 fun h38 t39=>Ji9 .i64 h38 fun e40=>JdT t39 fun h41 t42=>Jj2 h41 fun e43=>Ji1 t42 (bif (inR x8 ((x1).length)) then (Jh1 ((x1).getD ((x8:Int).toNat) (.v (.bool false))) fun a44=>JdT a44 fun h45 t46=>Ji9 .i64 h45 fun e47=>JdT t46 fun h48 t49=>Jj2 h48 fun e50=>Ji1 t49 (UeX n x1 x2 x3 x4 x5 x6 x7 x8 x9 (bif false then true else (decide (e40<e47))) (fun y51 y52 y53 y54 y55 y56 y57 y58 y59=>k0 y51 y52 y53 y54 y55 y56 y57 y58 y59) (fun y60 y61 y62 y63 y64 y65 y66 y67 y68 y69=>k1 y60 y61 y62 y63 y64 y65 y66 y67 y68 y69))) else none)) else none))
def UeW (n:Nat) (x1:LP) (x2:ByteArray) (x3:LP) (x4 x5:ByteArray) (x6:LP) (x7:ByteArray) (x8 x9:Int) (k0:LP→ByteArray→LP→ByteArray→ByteArray→LP→ByteArray→Int→Int→O R) (k1:LP→ByteArray→LP→ByteArray→ByteArray→Int→LP→ByteArray→Int→Int→O R):O R :=
 bif (x9 == ((x3).length:Int)) then (Udd n x1 x2 x3 x4 x5 x6 x7 x8 x9 true (fun y10 y11 y12 y13 y14 y15 y16 y17 y18=>k0 y10 y11 y12 y13 y14 y15 y16 y17 y18) (fun y19 y20 y21 y22 y23 y24 y25 y26 y27 y28=>k1 y19 y20 y21 y22 y23 y24 y25 y26 y27 y28)) else (bif (decide (x8<((x1).length:Int))) then (bif (inR x8 ((x1).length)) then (Jh1 ((x1).getD ((x8:Int).toNat) (.v (.bool false))) fun a29=>JdT a29 fun h30 t31=>Ji9 .i64 h30 fun e32=>JdT t31 fun h33 t34=>Jj2 h33 fun e35=>Ji1 t34 (bif (inR x9 ((x3).length)) then (Jh1 ((x3).getD ((x9:Int).toNat) (.v (.bool false))) fun a36=>JdT a36 fun h37 t38=>Ji9 .i64 h37 fun e39=>JdT t38 fun h40 t41=>Jj2 h40 fun e42=>Ji1 t41 (Udd n x1 x2 x3 x4 x5 x6 x7 x8 x9 (bif false then true else (bif true then (decide (e32<e39)) else false)) (fun y43 y44 y45 y46 y47 y48 y49 y50 y51=>k0 y43 y44 y45 y46 y47 y48 y49 y50 y51) (fun y52 y53 y54 y55 y56 y57 y58 y59 y60 y61=>k1 y52 y53 y54 y55 y56 y57 y58 y59 y60 y61))) else none)) else none) else (Udd n x1 x2 x3 x4 x5 x6 x7 x8 x9 false (fun y62 y63 y64 y65 y66 y67 y68 y69 y70=>k0 y62 y63 y64 y65 y66 y67 y68 y69 y70) (fun y71 y72 y73 y74 y75 y76 y77 y78 y79 y80=>k1 y71 y72 y73 y74 y75 y76 y77 y78 y79 y80)))
def UiN (n:Nat) (l0:LP→ByteArray→LP→ByteArray→ByteArray→LP→ByteArray→Int→Int→O R) (x1:LP) (x2:ByteArray) (x3:LP) (x4 x5:ByteArray) (x6:LP) (x7:ByteArray) (x8 x9:Int) (k0:ByteArray→Int→LP→ByteArray→O R) (k1:ByteArray→LP→ByteArray→O R):O R :=
 bif (decide (x8<((x1).length:Int))) then (UeW n x1 x2 x3 x4 x5 x6 x7 x8 x9 (fun y10 y11 y12 y13 y14 y15 y16 y17 y18=>l0 y10 y11 y12 y13 y14 y15 y16 y17 y18) (fun y19 y20 y21 y22 y23 y24 y25 y26 y27 y28=>k0 y23 y24 y25 y26)) else (bif (bif false then true else (decide (x9<((x3).length:Int)))) then (UeW n x1 x2 x3 x4 x5 x6 x7 x8 x9 (fun y29 y30 y31 y32 y33 y34 y35 y36 y37=>l0 y29 y30 y31 y32 y33 y34 y35 y36 y37) (fun y38 y39 y40 y41 y42 y43 y44 y45 y46 y47=>k0 y42 y43 y44 y45)) else (k1 x5 x6 x7))
def UeY (n:Nat):Nat→LP→ByteArray→LP→ByteArray→ByteArray→LP→ByteArray→Int→Int→(ByteArray→Int→LP→ByteArray→O R)→(ByteArray→LP→ByteArray→O R)→O R
 | 0,_,_,_,_,_,_,_,_,_,_,_=>none
 | m + 1,x1,x2,x3,x4,x5,x6,x7,x8,x9,k0,k1=>UiN n (fun x1 x2 x3 x4 x5 x6 x7 x8 x9=>UeY n m x1 x2 x3 x4 x5 x6 x7 x8 x9 k0 k1) x1 x2 x3 x4 x5 x6 x7 x8 x9 k0 k1
def Urb (n:Nat) (x1:LP) (x2:ByteArray) (x3:LP) (x4 x5:ByteArray) (x6:LP) (x7:ByteArray) (x8 x9:Int) (k0:ByteArray→Int→LP→ByteArray→O R) (k1:ByteArray→LP→ByteArray→O R):O R:=UeY n n x1 x2 x3 x4 x5 x6 x7 x8 x9 k0 k1
def Uzi (n:Nat) (x1:LP) (x2:ByteArray) (x3:LP) (x4:ByteArray) (k0:LP→ByteArray→Int→O R):O R :=
 p22 n x2 x4 (fun y5 y6=>bif (y6 != 0) then (k0 [] ByteArray.empty y6) else (Urb n x1 x2 x3 x4 ByteArray.empty [] y5 0 0 (fun y7 y8 y9 y10=>k0 [] y7 y8) (fun y11 y12 y13=>k0 y12 y13 0)))
abbrev Usk (n:Nat):Code→Fr→Kc R→O R:=evC Tryz.prog (Ukm n) Uat n (152,[])
noncomputable def Uhv:Code:=Jj3 (Jlk Tryz.f114) [1,1,1,1,1,0,0,0,1,0,0,1,1,1,1,1,1,1]
abbrev Ufy:Sl (List SV):=(.c (sBx 43 (cH (cS .n))) (.c (sBx 43 (cH (cS .n))) (.c (sBx 43 (.c sNl (cS .n))) (.c (sBx 43 (cO 66 (cS .n))) (cI (cI .n))))))
abbrev Uii (n:Nat) (K:Kc R):Ufy.T (O R):=fun x1 x2 x3 x4 x5 x6 x7 x8 x9=>UeV n x1 x2 x3 x4 x5 x6 x7 x8 x9 (fun y1 y2 y3 y4 y5 y6 y7 y8 y9=>xC Uat 12 K .normal [.bx 43 [vH y1,vS y2],.bx 43 [vH y3,vS y4],.bx 43 [.nl,vS y5],dD,.bx 43 [.own 66 y6,vS y7],vI y8,vI y9])
noncomputable def Uhw:Code:=Jj3 (Jlk Tryz.f114) [1,1,1,1,1,0,0,0,1]
abbrev Ufz:Sl (List SV):=(.c (sBx 43 (cH (cS .n))) (.c (sBx 43 (cH (cS .n))) (.c (sBx 43 (.c sNl (cS .n))) (.c (sBx 43 (cO 66 (cS .n))) (cI (cI .n))))))
abbrev Uij (n:Nat) (K:Kc R):Ufz.T (O R):=fun x1 x2 x3 x4 x5 x6 x7 x8 x9=>UeW n x1 x2 x3 x4 x5 x6 x7 x8 x9 (fun y1 y2 y3 y4 y5 y6 y7 y8 y9=>xC Uat 14 K .normal [.bx 43 [vH y1,vS y2],.bx 43 [vH y3,vS y4],.bx 43 [.nl,vS y5],dD,.bx 43 [.own 66 y6,vS y7],vI y8,vI y9]) (fun y1 y2 y3 y4 y5 y6 y7 y8 y9 y10=>xC Uat 14 K .ret [.bx 43 [vH y1,vS y2],.bx 43 [vH y3,vS y4],.bx 43 [.nl,vS y5],vI y6,.bx 43 [.own 66 y7,vS y8],vI y9,vI y10])
noncomputable def Uhx:Code:=Jj3 (Jlk Tryz.f114) [1,1,1,1,1,0,0,0,1,0,0,1]
abbrev UfA:Sl (List SV):=(.c (sBx 43 (cH (cS .n))) (.c (sBx 43 (cH (cS .n))) (.c (sBx 43 (.c sNl (cS .n))) (.c (sBx 43 (cO 66 (cS .n))) (cI (cI (cB .n)))))))
abbrev Uik (n:Nat) (K:Kc R):UfA.T (O R):=fun x1 x2 x3 x4 x5 x6 x7 x8 x9 x10=>Udd n x1 x2 x3 x4 x5 x6 x7 x8 x9 x10 (fun y1 y2 y3 y4 y5 y6 y7 y8 y9=>xC Uat 15 K .normal [.bx 43 [vH y1,vS y2],.bx 43 [vH y3,vS y4],.bx 43 [.nl,vS y5],dD,.bx 43 [.own 66 y6,vS y7],vI y8,vI y9]) (fun y1 y2 y3 y4 y5 y6 y7 y8 y9 y10=>xC Uat 15 K .ret [.bx 43 [vH y1,vS y2],.bx 43 [vH y3,vS y4],.bx 43 [.nl,vS y5],vI y6,.bx 43 [.own 66 y7,vS y8],vI y9,vI y10])
noncomputable def Uhy:Code:=Jj3 (Jlk Tryz.f114) [1,1,1,1,1,0,0,0,1,0,0,1,1,1]
abbrev UfB:Sl (List SV):=(.c (sBx 43 (cH (cS .n))) (.c (sBx 43 (cH (cS .n))) (.c (sBx 43 (.c sNl (cS .n))) (.c (sBx 43 (cO 66 (cS .n))) (cI (cI (cB .n)))))))
abbrev Uil (n:Nat) (K:Kc R):UfB.T (O R):=fun x1 x2 x3 x4 x5 x6 x7 x8 x9 x10=>UeX n x1 x2 x3 x4 x5 x6 x7 x8 x9 x10 (fun y1 y2 y3 y4 y5 y6 y7 y8 y9=>xC Uat 18 K .normal [.bx 43 [vH y1,vS y2],.bx 43 [vH y3,vS y4],.bx 43 [.nl,vS y5],dD,.bx 43 [.own 66 y6,vS y7],vI y8,vI y9]) (fun y1 y2 y3 y4 y5 y6 y7 y8 y9 y10=>xC Uat 18 K .ret [.bx 43 [vH y1,vS y2],.bx 43 [vH y3,vS y4],.bx 43 [.nl,vS y5],vI y6,.bx 43 [.own 66 y7,vS y8],vI y9,vI y10])
noncomputable def UjL:Code:=Jj3 (Jlk Tryz.f114) [1,1,1,1,1,0,0,0]
abbrev UcQ:Sl (List SV):=(.c (sBx 43 (cH (cS .n))) (.c (sBx 43 (cH (cS .n))) (.c (sBx 43 (.c sNl (cS .n))) (.c (sBx 43 (cO 66 (cS .n))) (cI (cI .n))))))
abbrev UgF (n m:Nat) (K:Kc R):UcQ.T (O R):=fun x1 x2 x3 x4 x5 x6 x7 x8 x9=>UeY n m x1 x2 x3 x4 x5 x6 x7 x8 x9 (fun y1 y2 y3 y4=>xL Uat 6 K .ret [.bx 43 [.nl,vS y1],vI y2,.bx 43 [.own 66 y3,vS y4]]) (fun y1 y2 y3=>xL Uat 6 K (.exit 0) [.bx 43 [.nl,vS y1],dD,.bx 43 [.own 66 y2,vS y3]])
abbrev Up7 (n:Nat) (K:Kc R) (l0:UcQ.T (O R)):UcQ.T (O R):=fun x1 x2 x3 x4 x5 x6 x7 x8 x9=>UiN n l0 x1 x2 x3 x4 x5 x6 x7 x8 x9 (fun y1 y2 y3 y4=>xL Uat 6 K .ret [.bx 43 [.nl,vS y1],vI y2,.bx 43 [.own 66 y3,vS y4]]) (fun y1 y2 y3=>xL Uat 6 K (.exit 0) [.bx 43 [.nl,vS y1],dD,.bx 43 [.own 66 y2,vS y3]])
abbrev Uje (n:Nat):Orc R:=oL Uat (Usk n) n 6 UjL UcQ (UgF n n) oN
abbrev Uja (n:Nat):Orc R:=oC Uat (Usk n) 18 Uhy UfB (Uil n) (oC Uat (Usk n) 15 Uhx UfA (Uik n) (oC Uat (Usk n) 14 Uhw Ufz (Uij n) (oC Uat (Usk n) 12 Uhv Ufy (Uii n) oN)))
abbrev Ur3 (R:Type) (n:Nat):=JcH (R:=R) Tryz.prog (Ukm n) Uat n (152,[]) (Uje n) (Uja n)
theorem UnF (n:Nat):Ur3 R n (true,12,Uhv):=JkV (lo:=Uje n) (cu:=Uja n) (pO pN (by kernel_rfl)) Ufy (Uii n) (fun K _ _ _ _ _ _ _ _ _=>by show _=_; kernel_rfl) fun _ _=>rfl
theorem UnI (n:Nat):Ur3 R n (true,18,Uhy):=JkV (lo:=Uje n) (cu:=Uja n) (pO (pC (UnF n) pN) (by kernel_rfl)) UfB (Uil n) (fun K _ _ _ _ _ _ _ _ _ _=>by show _=_; kernel_rfl) fun _ _=>rfl
theorem UnH (n:Nat):Ur3 R n (true,15,Uhx):=JkV (lo:=Uje n) (cu:=Uja n) (pO (pC (UnI n) pN) (by kernel_rfl)) UfA (Uik n) (fun K _ _ _ _ _ _ _ _ _ _=>by show _=_; kernel_rfl) fun _ _=>rfl
theorem UnG (n:Nat):Ur3 R n (true,14,Uhw):=JkV (lo:=Uje n) (cu:=Uja n) (pO (pC (UnH n) pN) (by kernel_rfl)) Ufz (Uij n) (fun K _ _ _ _ _ _ _ _ _=>by show _=_; kernel_rfl) fun _ _=>rfl
theorem Urr (n:Nat):Ur3 R n (false,6,UjL):=JkE (lo:=Uje n) (cu:=Uja n) (pO (pC (UnG n) pN) (by kernel_rfl)) UcQ (UgF n n) (JiD (F:=UgF n) UcQ (Up7 n) (fun K _ _ _ _ _ _ _ _ _=>rfl) (fun _ _=>rfl) (fun L K _ _ _ _ _ _ _ _ _=>by show _=_; kernel_rfl) n) fun _ _=>rfl
theorem Uxe (n:Nat):Je6 (Ur3 R n) (JaJ Uat (Jlk Tryz.f114)):=pO (pC (Urr n) pN) (by kernel_rfl)
abbrev UxA:Sl (List SV):=(.c (sP (JlH (.c sSh (.c Jlx .n)))) (.c (sP (JlH (.c sSh (.c Jlx .n)))) .n))
abbrev f114 (n:Nat) (K:List SV→O R):UxA.T (O R):=fun x1 x2 x3 x4=>Uzi n x1 x2 x3 x4 (fun y1 y2 y3=>K [.p (.agg [.sh y1,.v (.string y2)]),vI y3])
abbrev UtF (n:Nat):FS:=fT [false,false] UxA (f114 n)
theorem UwB (n:Nat):FSound Tryz.prog GI 114 (UtF n):=gd Uat n (Uh5 n) Tryz.func114 (.cons (Uh5 n) UxA (f114 n) (fun K _ _ _ _=>(Jkp (c:=Jlk Tryz.f114) (by kernel_rfl) (Uxe n) K).trans (by kernel_rfl)) .nil) (by kernel_rfl)
def UpS:Ann:={ loops:=[],cuts:=[],frz:=[],rm:=[.id,.id] }
abbrev Uti (n:Nat):Env:=eC 114 (UtF n) (eC 52 (Ur9 n) eN)
theorem Uk4 (n:Nat):EnvOK Tryz.prog GI (Uti n):=.cons (.cons (.nil) (Uuf n)) (UwB n)
def p75 (n:Nat) (x1:LP) (x2:ByteArray) (x3:LP) (x4:ByteArray) (k0:LP→ByteArray→Int→O R):O R :=
 p52 n x1 x2 (fun y5=>bif (y5 != 0) then (k0 [] ByteArray.empty 3) else (p52 n x3 x4 (fun y6=>bif (bif false then true else (y6 != 0)) then (k0 [] ByteArray.empty 3) else (Uzi n x1 x2 x3 x4 (fun y7 y8 y9=>k0 y7 y8 y9)))))
abbrev UAt (n:Nat):Orc R:=oN
abbrev Uz0 (n:Nat):Orc R:=oN
abbrev K75 (R:Type) (n:Nat):=JcH (R:=R) Tryz.prog (Uti n) UpS n (20,[]) (UAt n) (Uz0 n)
theorem UBH (n:Nat):Je6 (K75 R n) (JaJ UpS (Jlk Tryz.f75)):=pO pN (by kernel_rfl)
abbrev t75:Sl (List SV):=(.c (sP (JlH (.c sSh (.c Jlx .n)))) (.c (sP (JlH (.c sSh (.c Jlx .n)))) .n))
abbrev f75 (n:Nat) (K:List SV→O R):t75.T (O R):=fun x1 x2 x3 x4=>p75 n x1 x2 x3 x4 (fun y1 y2 y3=>K [.p (.agg [.sh y1,.v (.string y2)]),vI y3])
abbrev UyJ (n:Nat):FS:=fT [false,false] t75 (f75 n)
theorem UAX (n:Nat):FSound Tryz.prog GI 75 (UyJ n):=gd UpS n (Uk4 n) Tryz.func75 (.cons (Uk4 n) t75 (f75 n) (fun K _ _ _ _=>(Jkp (c:=Jlk Tryz.f75) (by kernel_rfl) (UBH n) K).trans (by kernel_rfl)) .nil) (by kernel_rfl)
end
end Go.Proofs.YtmgfmlhdnadglaaGreatDoor
set_option linter.unusedVariables false
set_option linter.unusedSimpArgs false
namespace Go.Proofs.YtmgfmlhdnadglaaGreatDoor
open Go Th Go.Proofs
variable {R:Type}
noncomputable def aQ (l:List TermT):Bool:=l.all fun t=>qb t.2
def inC (c:Int):Bool:=decide (0≤c)&&decide (c<2048)
def aC (l:List TermT):Bool:=l.all fun t=>inC t.1
def aO:Int→List TermT→Bool
 | _,[]=>true
 | last,t::r=>if t.2=[48] then false else if t.1≤last then false else aO t.1 r
noncomputable def Ujd (l:List TermT) (c:List UInt8):Int:=if qb c=true then (if aQ l=true then (if aC l=true then (if aO (-1) l=true then 0 else 3) else 2) else 3) else 3
theorem Uf2:∀ {l:List TermT} {last:Int},-1≤last→(okT 2048 last l=true↔(aQ l=true∧aC l=true∧aO last l=true))
 | [],last,_=>by simp [okT,aQ,aC,aO]
 | t::l,last,h=>by
  have ih:=fun (h':-1≤t.1)=>Uf2 (l:=l) (last:=t.1) h'
  simp only [okT,aQ,aC,aO,List.all_cons,Bool.and_eq_true] at ih ⊢
  by_cases h1:t.1≤last
  · simp [h1]
  · have h1':=ih (by omega)
    have e0:inC t.1=decide (t.1<2048):=by
     unfold inC
     rw [decide_eq_true (by omega:0≤t.1),Bool.true_and]
    by_cases h2:t.1≥2048
    · have e1:inC t.1=false:=by rw [e0]; simp; omega
      simp [h1,h2,e1]
    · have e1:inC t.1=true:=by rw [e0]; simp; omega
      by_cases h3:t.2=[48]
      · simp [h1,h2,h3]
      · rw [if_neg h1,if_neg h2,if_neg h3,if_neg h3,if_neg h1,Bool.and_eq_true,h1',e1]
        grind
theorem UiG {l:List TermT} {c:List UInt8}:Ujd l c=0↔(okT 2048 (-1) l=true∧qb c=true):=by
 rw [Uf2 (by omega)]
 unfold Ujd
 cases qb c <;> cases aQ l <;> cases aC l <;> cases aO (-1) l <;> simp
theorem Uus (n:Nat) (x:Int) (k0:Bool→Option R):p80 n x k0=k0 (inC x):=by
 unfold p80 inC
 by_cases h:x≥0
 · have e:decide (x≥0)=true:=decide_eq_true h
   rw [e]; rfl
 · have e:decide (x≥0)=false:=decide_eq_false h
   rw [e]; rfl
theorem Uqm (n:Nat) (l:List TermT) (hn:l.length<n) (hl:l.length<2 ^ 17) (k0:Int→Option R) (k1:Option R):UdJ n (-1) (tms l) ((tms l).length:Int) 0 k0 k1=if aO (-1) l=true then k1 else k0 3:=by
 unfold UdJ
 have key:∀ (r:List TermT) (last:Int),Usf (fun (s:Int) (t:TermT) K=>if t.2=[48] then k0 3 else if t.1≤s then k0 3 else K t.1) (fun _=>k1) last r=if aO last r=true then k1 else k0 3:=by
  intro r
  induction r with
  | nil=>intro last; rfl
  | cons t r ih =>
   intro last
   simp only [Usf,aO]
   by_cases h1:t.2=[48]
   · simp [h1]
   · by_cases h2:t.1≤last
     · simp [h1,h2]
     · simp [h1,h2,ih]
 have h:=Ug8 (R:=R) (l:=l) (step:=fun (s:Int) (t:TermT) K=>if t.2=[48] then k0 3 else if t.1≤s then k0 3 else K t.1) (kend:=fun _=>k1)
  (fun m s i=>Ubo n m s (tms l) ((tms l).length:Int) (i:Int) k0 k1)
  (fun m s=>by simp only [Ubo,Udk]; simp (disch:=(first | omega | (simp only [JlD]; omega))) only [↓JlG,JlE,Ua])
  (fun m s i hi=>by
    simp only [Ubo,Udk]
    by_cases h1:(l[i]).2=[48]
    · simp (disch:=(first | omega | (simp only [JlD]; omega))) only [↓JlG,JlE,Ua,Jjh,Uay hi,i1,UsJ h1]
    · by_cases h2:(l[i]).1≤s
      · simp (disch:=(first | omega | (simp only [JlD]; omega))) only [↓JlG,JlE,Ua,Jjh,Uay hi,i1,Uqk h1]
      · simp (disch:=(first | omega | (simp only [JlD]; omega))) only [↓JlG,JlE,Ua,Jjh,Uay hi,i1,Uqk h1]) l.length n 0 (-1) (by omega) (by omega)
 rw [List.drop_zero,key] at h
 exact h
theorem UhJ (n:Nat) (hn:10 ^ 400≤n) (l:List TermT) (c:List UInt8) (hl:smT l) (hc:c.length<2 ^ 17) (k0:Int→Option R):p52 n (tms l) (bs c) k0=k0 (Ujd l c):=by
 have hN:=Ua6 hn
 have hL:=hl.1
 have e3:=Uqm (R:=R) n l (by omega) hL k0 (k0 0)
 have h4:=Uap (R:=R) (l:=l) (ok:=fun t=>qb t.2) (kbad:=k0 3) (kend:=if aC l=true then (if aO (-1) l=true then k0 0 else k0 3) else k0 2)
  (fun m i=>Ucx n m (tms l) (bs c) (tms l) ((tms l).length:Int) (i:Int) (fun y4 y5 y6=>k0 y6) (fun y7 y8=>Ug0 n y7 y8 y7 ((y7).length:Int) 0 (fun y9 y10 y11=>k0 y11) (fun y12 y13=>UdJ n (-1) y12 ((y12).length:Int) 0 (fun y14=>k0 y14) (k0 0))))
  (fun m=>by
    have h10:=Uap (R:=R) (l:=l) (ok:=fun t=>inC t.1) (kbad:=k0 2) (kend:=if aO (-1) l=true then k0 0 else k0 3)
     (fun m i=>Ubn n m (tms l) (bs c) (tms l) ((tms l).length:Int) (i:Int) (fun y9 y10 y11=>k0 y11) (fun y12 y13=>UdJ n (-1) y12 ((y12).length:Int) 0 (fun y14=>k0 y14) (k0 0)))
     (fun m=>by
       simp only [Ubn,Udj]
       simp (disch:=(first | omega | (simp only [JlD]; omega))) only [↓JlG,JlE,Ua]
       rw [Ua] at e3
       exact e3)
     (fun m i hi=>by
       have hv:=fun k=>Uus (R:=R) n (l[i]).1 k
       simp only [Ubn,Udj]
       simp (disch:=(first | omega | (simp only [JlD]; omega))) only [↓JlG,JlE,Ua,Jjh,Uay hi,i1,hv]
       cases inC (l[i]).1 <;> rfl) l.length n 0 (by omega) (by omega)
    rw [List.drop_zero] at h10
    simp only [Ucx,Ufc]
    unfold Ug0
    simp (disch:=(first | omega | (simp only [JlD]; omega))) only [↓JlG,JlE,Ua]
    rw [Ua] at h10
    exact h10)
  (fun m i hi=>by
    have hv:=fun k=>UbL (R:=R) n hn (l[i]).2 (hl.2 _ (List.getElem_mem hi)) k
    simp only [Ucx,Ufc]
    simp (disch:=(first | omega | (simp only [JlD]; omega))) only [↓JlG,JlE,Ua,Jjh,Uay hi,i1,hv]
    cases qb (l[i]).2 <;> rfl) l.length n 0 (by omega) (by omega)
 rw [List.drop_zero] at h4
 unfold p52
 rw [UbL n hn c hc]
 unfold Ujd Upb
 cases qb c with
 | false=>rfl
 | true =>
  refine Eq.trans h4 ?_
  unfold aQ
  cases (l.all fun t=>qb t.2) <;> cases aC l <;> cases aO (-1) l <;> rfl
theorem Ug7 {q:Rat} (h:fits q):(Uaf q).length<2 ^ 17:=Nat.lt_of_le_of_lt (UaK h) (by decide)
theorem Uvh {cols:Int} {l:List SpT} (h:okN cols l) (hl:l.length<2 ^ 17):smT (vt l):=by
 refine ⟨by rw [UbB]; exact hl,fun t ht=>?_⟩
 unfold vt at ht
 obtain ⟨x,hx,rfl⟩:=List.mem_map.1 ht
 exact Ug7 (h x hx).2.1
theorem UjB {cols:Int}:∀ {l:List SpT} {a:Int},asc a l→okN cols l→a<cols→(l.length:Int)≤cols - a - 1
 | [],a,_,_,h=>by simp only [List.length_nil]; omega
 | t::l,a,h1,h2,h=>by
  have h3:=(h2 t (List.mem_cons_self ..)).2.2
  have:=UjB h1.2 (fun x hx=>h2 x (List.mem_cons_of_mem _ hx)) h3
  have:=h1.1
  rw [List.length_cons]
  omega
theorem UgO {l:List SpT} (h:okS 2048 l):l.length≤2048:=by
 have:=UjB h.1 h.2 (by decide)
 omega
noncomputable def UdS (cols:Int) (l:List TermT):Bool:=okT cols (-1) l
theorem UiL {cols:Int} (hc:cols≤2048):∀ {l:List TermT} {last:Int},okT cols last l=true↔((l.all fun t=>decide (t.1<cols))=true∧okT 2048 last l=true)
 | [],last=>by simp [okT]
 | t::l,last=>by
  have ih:=UiL hc (l:=l) (last:=t.1)
  simp only [okT,List.all_cons,Bool.and_eq_true]
  by_cases h1:t.1≤last
  · simp [h1]
  · by_cases h2:t.1≥cols
    · have:¬ t.1<cols:=by omega
      simp [h1,h2,this]
    · have h3:¬ t.1≥2048:=by omega
      have h4:t.1<cols:=by omega
      by_cases h5:t.2=[48]
      · simp [h1,h5]
      · rw [if_neg h1,if_neg h1,if_neg h2,if_neg h3,if_neg h5,if_neg h5,Bool.and_eq_true,Bool.and_eq_true,ih,decide_eq_true h4]
        grind
theorem Uzn:qb [48]=true:=by rw [←UmA]; exact Ud UeP
theorem Ung (n:Nat) (hn:10 ^ 400≤n) (cols:Int) (hcol:cols≤2048) (l:List TermT) (hl:smT l) (k0:Bool→Option R):p76 n cols (tms l) k0=k0 (UdS cols l):=by
 have hN:=Ua6 hn
 have hL:=hl.1
 have hc:=fun k=>UhJ (R:=R) n hn l [48] hl (by decide) k
 have hc':∀ k:Int→Option R,p52 n (tms l) (⟨#[48]⟩:ByteArray) k=k (Ujd l [48]):=hc
 unfold p76 Upg
 have h:=Uap (R:=R) (l:=l) (ok:=fun t=>decide (t.1<cols)) (kbad:=k0 false) (kend:=k0 (Ujd l [48] == 0))
  (fun m i=>UcE n m cols (tms l) (tms l) ((tms l).length:Int) (i:Int) (fun y3 y4=>k0 y4) (fun y5=>p52 n y5 ⟨#[48]⟩ (fun y6=>k0 (y6 == 0))))
  (fun m=>by simp only [UcE,Ufl]; simp (disch:=(first | omega | (simp only [JlD]; omega))) only [↓JlG,JlE,Ua,hc])
  (fun m i hi=>by
    simp only [UcE,Ufl]
    by_cases h1:(l[i]).1<cols
    · simp (disch:=(first | omega | (simp only [JlD]; omega))) only [↓JlG,JlE,Ua,Jjh,Uay hi,i1]
    · simp (disch:=(first | omega | (simp only [JlD]; omega))) only [↓JlG,JlE,Ua,Jjh,Uay hi,i1]
      simp [h1]) l.length n 0 (by omega) (by omega)
 rw [List.drop_zero] at h
 refine Eq.trans h ?_
 unfold UdS
 have e1:(Ujd l [48] == 0)=okT 2048 (-1) l:=by
  rw [Bool.eq_iff_iff,beq_iff_eq,UiG,Uzn]
  simp
 have e2:=UiL hcol (l:=l) (last:=-1)
 rw [e1]
 cases h3:(l.all fun t=>decide (t.1<cols)) with
 | true =>
  rw [h3] at e2
  rw [if_pos rfl]
  congr 1
  rw [Bool.eq_iff_iff,e2]; simp
 | false =>
  rw [h3] at e2
  rw [if_neg (by decide)]
  congr 1
  symm
  rw [Bool.eq_false_iff]
  intro h4
  cases (e2.1 h4).1
end Go.Proofs.YtmgfmlhdnadglaaGreatDoor
set_option linter.unusedVariables false
set_option maxRecDepth 100000
namespace Go.Proofs.YtmgfmlhdnadglaaGreatDoor
open Go Th Go.Proofs
noncomputable section
variable {R:Type}
def Uer:Ann:={ loops:=[(3,ids [1,2,4,6,13,14],ids [4,5,6])],cuts:=[],frz:=[],rm:=[.id,.id] }
abbrev UqB (n:Nat):Env:=eC 75 (UyJ n) (eC 74 (UyI n) eN)
theorem UkH (n:Nat):EnvOK Tryz.prog GI (UqB n):=.cons (.cons (.nil) (UAW n)) (UAX n)
def Umh (n:Nat) (l0:LP→Int→LP→ByteArray→LP→ByteArray→Int→Int→O R) (x1:LP) (x2:Int) (x3:LP) (x4:ByteArray) (x5:LP) (x6:ByteArray) (x7 x8:Int) (k0:LP→ByteArray→Int→LP→ByteArray→O R) (k1:ByteArray→LP→ByteArray→O R):O R :=
 bif (decide (x8<x7)) then (bif (inR x8 ((x1).length)) then (Jj2 ((x1).getD ((x8:Int).toNat) (.v (.bool false))) fun e9=>bif (eqS e9 (⟨#[48]⟩:ByteArray)) then (l0 x1 x2 x3 x4 x5 x6 x7 (IntKind.i64.wrap (x8 + 1))) else (bif (inR x8 ((x3).length)) then (Jh1 ((x3).getD ((x8:Int).toNat) (.v (.bool false))) fun a10=>JdT a10 fun h11 t12=>Jkq h11 fun e13=>JdT t12 fun h14 t15=>Jj2 h14 fun e16=>JdT t15 fun h17 t18=>Jj1 h17 fun e19=>JdT t18 fun h20 t21=>Ji9 .i64 h20 fun e22=>Ji1 t21 (bif (inR x8 ((x3).length)) then (Jh1 ((x3).getD ((x8:Int).toNat) (.v (.bool false))) fun a23=>JdT a23 fun h24 t25=>Jkq h24 fun e26=>JdT t25 fun h27 t28=>Jj2 h27 fun e29=>JdT t28 fun h30 t31=>Jj1 h30 fun e32=>JdT t31 fun h33 t34=>Ji9 .i64 h33 fun e35=>Ji1 t34 (bif (inR x8 ((x1).length)) then (Jj2 ((x1).getD ((x8:Int).toNat) (.v (.bool false))) fun e36=>p74 n e13 e29 e36 (fun y37 y38 y39=>bif (y39 != 0) then (k0 [] ByteArray.empty y39 x5 x6) else (p75 n x5 x6 y37 y38 (fun y40 y41 y42=>bif (y42 != 0) then (k0 [] ByteArray.empty y42 y40 y41) else (l0 x1 x2 x3 x4 y40 y41 x7 (IntKind.i64.wrap (x8 + 1))))))) else none)) else none)) else none)) else none) else (k1 x4 x5 x6)
def UgU (n:Nat):Nat→LP→Int→LP→ByteArray→LP→ByteArray→Int→Int→(LP→ByteArray→Int→LP→ByteArray→O R)→(ByteArray→LP→ByteArray→O R)→O R
 | 0,_,_,_,_,_,_,_,_,_,_=>none
 | m + 1,x1,x2,x3,x4,x5,x6,x7,x8,k0,k1=>Umh n (fun x1 x2 x3 x4 x5 x6 x7 x8=>UgU n m x1 x2 x3 x4 x5 x6 x7 x8 k0 k1) x1 x2 x3 x4 x5 x6 x7 x8 k0 k1
def Uum (n:Nat) (x1:LP) (x2:Int) (x3:LP) (x4:ByteArray) (x5:LP) (x6:ByteArray) (x7 x8:Int) (k0:LP→ByteArray→Int→LP→ByteArray→O R) (k1:ByteArray→LP→ByteArray→O R):O R:=UgU n n x1 x2 x3 x4 x5 x6 x7 x8 k0 k1
def p30 (n:Nat) (x1:Int) (x2 x3:LP) (k0:LP→ByteArray→Int→O R):O R :=
 Uum n x3 x1 x2 ByteArray.empty [] ⟨#[48]⟩ ((x2).length:Int) 0 (fun y4 y5 y6 y7 y8=>k0 y4 y5 y6) (fun y9 y10 y11=>k0 y10 y11 0)
abbrev E30 (n:Nat):Code→Fr→Kc R→O R:=evC Tryz.prog (UqB n) Uer n (59,[])
noncomputable def Uoc:Code:=Jj3 (Jlk Tryz.f30) [1,1,0,1,0,0]
abbrev Ud9:Sl (List SV):=(cH (.c (sBx 24 (cI (cH .n))) (.c (sBx 43 (.c sNl (cS .n))) (.c (sBx 43 (cH (cS .n))) (cI (cI .n))))))
abbrev Ulw (n m:Nat) (K:Kc R):Ud9.T (O R):=fun x1 x2 x3 x4 x5 x6 x7 x8=>UgU n m x1 x2 x3 x4 x5 x6 x7 x8 (fun y1 y2 y3 y4 y5=>xL Uer 3 K .ret [.bx 43 [vH y1,vS y2],vI y3,.bx 43 [vH y4,vS y5]]) (fun y1 y2 y3=>xL Uer 3 K (.exit 0) [.bx 43 [.nl,vS y1],dD,.bx 43 [vH y2,vS y3]])
abbrev Usu (n:Nat) (K:Kc R) (l0:Ud9.T (O R)):Ud9.T (O R):=fun x1 x2 x3 x4 x5 x6 x7 x8=>Umh n l0 x1 x2 x3 x4 x5 x6 x7 x8 (fun y1 y2 y3 y4 y5=>xL Uer 3 K .ret [.bx 43 [vH y1,vS y2],vI y3,.bx 43 [vH y4,vS y5]]) (fun y1 y2 y3=>xL Uer 3 K (.exit 0) [.bx 43 [.nl,vS y1],dD,.bx 43 [vH y2,vS y3]])
abbrev UyW (n:Nat):Orc R:=oL Uer (E30 n) n 3 Uoc Ud9 (Ulw n n) oN
abbrev Ux5 (n:Nat):Orc R:=oN
abbrev K30 (R:Type) (n:Nat):=JcH (R:=R) Tryz.prog (UqB n) Uer n (59,[]) (UyW n) (Ux5 n)
theorem UuC (n:Nat):K30 R n (false,3,Uoc):=JkE (lo:=UyW n) (cu:=Ux5 n) (pO pN (by kernel_rfl)) Ud9 (Ulw n n) (JiD (F:=Ulw n) Ud9 (Usu n) (fun K _ _ _ _ _ _ _ _=>rfl) (fun _ _=>rfl) (fun L K _ _ _ _ _ _ _ _=>by show _=_; kernel_rfl) n) fun _ _=>rfl
theorem UBk (n:Nat):Je6 (K30 R n) (JaJ Uer (Jlk Tryz.f30)):=pO (pC (UuC n) pN) (by kernel_rfl)
abbrev t30:Sl (List SV):=(.c (sP (JlH (.c (Jlu .i64) (.c sSh .n)))) (cH .n))
abbrev f30 (n:Nat) (K:List SV→O R):t30.T (O R):=fun x1 x2 x3=>p30 n x1 x2 x3 (fun y1 y2 y3=>K [.p (.agg [.sh y1,.v (.string y2)]),vI y3])
abbrev Uvu (n:Nat):FS:=fT [false,false] t30 (f30 n)
theorem UwV (n:Nat):FSound Tryz.prog GI 30 (Uvu n):=gd Uer n (UkH n) Tryz.func30 (.cons (UkH n) t30 (f30 n) (fun K _ _ _=>(Jkp (c:=Jlk Tryz.f30) (by kernel_rfl) (UBk n) K).trans (by kernel_rfl)) .nil) (by kernel_rfl)
def Ui7:Ann:={ loops:=[],cuts:=[(3,ids [1,2,4],ids [4,5])],frz:=[],rm:=[.id,.id] }
abbrev Uqy (n:Nat):Env:=eC 66 (Uwb n) (eC 65 (Uvy n) (eC 30 (Uvu n) eN))
theorem UkD (n:Nat):EnvOK Tryz.prog GI (Uqy n):=.cons (.cons (.cons (.nil) (UwV n)) (UwZ n)) (Uzc n)
def Uo6 (n:Nat) (x1:LP) (x2:Int) (x3:LP) (x4:ByteArray) (k0:LP→ByteArray→Int→O R):O R :=
 bif (((x1).length:Int) != ((x3).length:Int)) then (k0 [] ByteArray.empty 6) else (p30 n x2 x3 x1 (fun y5 y6 y7=>k0 y5 y6 y7))
def p23 (n:Nat) (x1:Int) (x2 x3:LP) (k0:LP→ByteArray→Int→O R):O R :=
 p65 n x1 x2 (fun y4=>bif (y4 != 0) then (k0 [] ByteArray.empty 3) else (p66 n x3 (fun y5=>bif (bif false then true else (!y5)) then (k0 [] ByteArray.empty 3) else (Uo6 n x3 x1 x2 ByteArray.empty (fun y6 y7 y8=>k0 y6 y7 y8)))))
abbrev E23 (n:Nat):Code→Fr→Kc R→O R:=evC Tryz.prog (Uqy n) Ui7 n (27,[])
noncomputable def Un8:Code:=Jj3 (Jlk Tryz.f23) [1,1]
abbrev UmF:Sl (List SV):=(cH (.c (sBx 24 (cI (cH .n))) (.c (sBx 43 (.c sNl (cS .n))) .n)))
abbrev UoL (n:Nat) (K:Kc R):UmF.T (O R):=fun x1 x2 x3 x4=>Uo6 n x1 x2 x3 x4 (fun y1 y2 y3=>xC Ui7 3 K .ret [.bx 43 [vH y1,vS y2],vI y3])
abbrev UyU (n:Nat):Orc R:=oN
abbrev Ux3 (n:Nat):Orc R:=oC Ui7 (E23 n) 3 Un8 UmF (UoL n) oN
abbrev K23 (R:Type) (n:Nat):=JcH (R:=R) Tryz.prog (Uqy n) Ui7 n (27,[]) (UyU n) (Ux3 n)
theorem Uux (n:Nat):K23 R n (true,3,Un8):=JkV (lo:=UyU n) (cu:=Ux3 n) (pO pN (by kernel_rfl)) UmF (UoL n) (fun K _ _ _ _=>by show _=_; kernel_rfl) fun _ _=>rfl
theorem UBg (n:Nat):Je6 (K23 R n) (JaJ Ui7 (Jlk Tryz.f23)):=pO (pC (Uux n) pN) (by kernel_rfl)
abbrev t23:Sl (List SV):=(.c (sP (JlH (.c (Jlu .i64) (.c sSh .n)))) (cH .n))
abbrev f23 (n:Nat) (K:List SV→O R):t23.T (O R):=fun x1 x2 x3=>p23 n x1 x2 x3 (fun y1 y2 y3=>K [.p (.agg [.sh y1,.v (.string y2)]),vI y3])
abbrev Uyt (n:Nat):FS:=fT [false,false] t23 (f23 n)
theorem UAH (n:Nat):FSound Tryz.prog GI 23 (Uyt n):=gd Ui7 n (UkD n) Tryz.func23 (.cons (UkD n) t23 (f23 n) (fun K _ _ _=>(Jkp (c:=Jlk Tryz.f23) (by kernel_rfl) (UBg n) K).trans (by kernel_rfl)) .nil) (by kernel_rfl)
def Ues:Ann:={ loops:=[(2,ids [1,2,8,9],ids [4])],cuts:=[],frz:=[],rm:=[.id] }
abbrev UqC (n:Nat):Env:=eC 19 (UoV n) eN
theorem UkI (n:Nat):EnvOK Tryz.prog GI (UqC n):=.cons (.nil) (Ur n)
def Umi (n:Nat) (l0:LP→Int→LP→Int→Int→O R) (x1:LP) (x2:Int) (x3:LP) (x4 x5:Int) (k0:Bool→O R) (k1:O R):O R :=
 bif (decide (x5<x4)) then (bif (inR x5 ((x3).length)) then (Jh1 ((x3).getD ((x5:Int).toNat) (.v (.bool false))) fun a6=>JdT a6 fun h7 t8=>Jkq h7 fun e9=>JdT t8 fun h10 t11=>Jj2 h10 fun e12=>JdT t11 fun h13 t14=>Jj1 h13 fun e15=>JdT t14 fun h16 t17=>Ji9 .i64 h16 fun e18=>Ji1 t17 (bif (!e15) then (bif (inR x5 ((x1).length)) then (Jj2 ((x1).getD ((x5:Int).toNat) (.v (.bool false))) fun e19=>p19 n e19 ⟨#[48]⟩ (fun y20=>bif (bif true then (decide (y20<0)) else false) then (k0 false) else (l0 x1 x2 x3 x4 (IntKind.i64.wrap (x5 + 1))))) else none) else (l0 x1 x2 x3 x4 (IntKind.i64.wrap (x5 + 1))))) else none) else (k1)
def UgV (n:Nat):Nat→LP→Int→LP→Int→Int→(Bool→O R)→(O R)→O R
 | 0,_,_,_,_,_,_,_=>none
 | m + 1,x1,x2,x3,x4,x5,k0,k1=>Umi n (fun x1 x2 x3 x4 x5=>UgV n m x1 x2 x3 x4 x5 k0 k1) x1 x2 x3 x4 x5 k0 k1
def Uun (n:Nat) (x1:LP) (x2:Int) (x3:LP) (x4 x5:Int) (k0:Bool→O R) (k1:O R):O R:=UgV n n x1 x2 x3 x4 x5 k0 k1
def p31 (n:Nat) (x1:Int) (x2 x3:LP) (k0:Bool→O R):O R :=
 Uun n x3 x1 x2 ((x2).length:Int) 0 (fun y4=>k0 y4) (k0 true)
abbrev E31 (n:Nat):Code→Fr→Kc R→O R:=evC Tryz.prog (UqC n) Ues n (28,[])
noncomputable def Uod:Code:=Jj3 (Jlk Tryz.f31) [1,0,1,0,0]
abbrev Ue:Sl (List SV):=(cH (.c (sBx 24 (cI (cH .n))) (cI (cI .n))))
abbrev Ulx (n m:Nat) (K:Kc R):Ue.T (O R):=fun x1 x2 x3 x4 x5=>UgV n m x1 x2 x3 x4 x5 (fun y1=>xL Ues 2 K .ret [vB y1]) (xL Ues 2 K (.exit 0) [dD])
abbrev Usv (n:Nat) (K:Kc R) (l0:Ue.T (O R)):Ue.T (O R):=fun x1 x2 x3 x4 x5=>Umi n l0 x1 x2 x3 x4 x5 (fun y1=>xL Ues 2 K .ret [vB y1]) (xL Ues 2 K (.exit 0) [dD])
abbrev UyX (n:Nat):Orc R:=oL Ues (E31 n) n 2 Uod Ue (Ulx n n) oN
abbrev Ux6 (n:Nat):Orc R:=oN
abbrev K31 (R:Type) (n:Nat):=JcH (R:=R) Tryz.prog (UqC n) Ues n (28,[]) (UyX n) (Ux6 n)
theorem UuD (n:Nat):K31 R n (false,2,Uod):=JkE (lo:=UyX n) (cu:=Ux6 n) (pO pN (by kernel_rfl)) Ue (Ulx n n) (JiD (F:=Ulx n) Ue (Usv n) (fun K _ _ _ _ _=>rfl) (fun _ _=>rfl) (fun L K _ _ _ _ _=>by show _=_; kernel_rfl) n) fun _ _=>rfl
theorem UBl (n:Nat):Je6 (K31 R n) (JaJ Ues (Jlk Tryz.f31)):=pO (pC (UuD n) pN) (by kernel_rfl)
abbrev t31:Sl (List SV):=(.c (sP (JlH (.c (Jlu .i64) (.c sSh .n)))) (cH .n))
abbrev f31 (n:Nat) (K:List SV→O R):t31.T (O R):=fun x1 x2 x3=>p31 n x1 x2 x3 (fun y1=>K [vB y1])
abbrev Uv7 (n:Nat):FS:=fT [false,false] t31 (f31 n)
theorem Uy8 (n:Nat):FSound Tryz.prog GI 31 (Uv7 n):=gd Ues n (UkI n) Tryz.func31 (.cons (UkI n) t31 (f31 n) (fun K _ _ _=>(Jkp (c:=Jlk Tryz.f31) (by kernel_rfl) (UBl n) K).trans (by kernel_rfl)) .nil) (by kernel_rfl)
end
end Go.Proofs.YtmgfmlhdnadglaaGreatDoor
set_option linter.unusedVariables false
set_option linter.unusedSimpArgs false
namespace Go.Proofs.YtmgfmlhdnadglaaGreatDoor
open Go Th Go.Proofs
variable {R:Type}
theorem Usb:((5:Int) != 0)=true:=rfl
theorem Ujh:((0:Int) != 0)=false:=rfl
theorem Um0 {l:List SpT} {i:Nat} {d:PV} (h:i<l.length) (K:Int→ByteArray→Option R) :
 (Jh1 ((tms (vt l)).getD i d) fun a=>JdT a fun h1 t1=>Ji9 .i64 h1 fun e1=>JdT t1 fun h2 t2=>Jj2 h2 fun e2=>Ji1 t2 (K e1 e2))=K ((l[i]).1:Int) (bs (Uaf (l[i]).2)):=by
 rw [Uay (by rw [UbB]; exact h),Upq]
end Go.Proofs.YtmgfmlhdnadglaaGreatDoor
set_option linter.unusedVariables false
set_option maxRecDepth 100000
namespace Go.Proofs.YtmgfmlhdnadglaaGreatDoor
open Go Th Go.Proofs
noncomputable section
variable {R:Type}
def Ubv:Ann:={ loops:=[(4,ids [1,2,17,18,19],ids [1,2,4,5]),(14,ids [1,9,47,48,49],ids [4,5,9])],cuts:=[(12,ids [1,2],ids [4,5])],frz:=[],rm:=[.id,.id] }
abbrev Uqw (n:Nat):Env:=eC 53 (UqZ n) (eC 52 (Ur9 n) (eC 22 (Uvt n) (eC 21 (Uvs n) eN)))
theorem Uky (n:Nat):EnvOK Tryz.prog GI (Uqw n):=.cons (.cons (.cons (.cons (.nil) (UwT n)) (UwU n)) (Uuf n)) (Usd n)
def Ue7 (n:Nat) (l0:LP→LP→ByteArray→LP→Int→Int→O R) (x1 x2:LP) (x3:ByteArray) (x4:LP) (x5 x6:Int) (k0:LP→LP→ByteArray→ByteArray→Int→O R) (k1:LP→LP→ByteArray→O R):O R :=
 bif (decide (x6<x5)) then (bif (inR x6 ((x4).length)) then (Jj2 ((x4).getD ((x6:Int).toNat) (.v (.bool false))) fun e7=>p53 n e7 (fun y8=>bif (!y8) then (k0 x1 x2 x3 ⟨#[]⟩ 3) else (l0 x1 x2 x3 x4 x5 (IntKind.i64.wrap (x6 + 1))))) else none) else (k1 x1 x2 x3)
def Ucr (n:Nat):Nat→LP→LP→ByteArray→LP→Int→Int→(LP→LP→ByteArray→ByteArray→Int→O R)→(LP→LP→ByteArray→O R)→O R
 | 0,_,_,_,_,_,_,_,_=>none
 | m + 1,x1,x2,x3,x4,x5,x6,k0,k1=>Ue7 n (fun x1 x2 x3 x4 x5 x6=>Ucr n m x1 x2 x3 x4 x5 x6 k0 k1) x1 x2 x3 x4 x5 x6 k0 k1
def Uo5 (n:Nat) (x1 x2:LP) (x3:ByteArray) (x4:LP) (x5 x6:Int) (k0:LP→LP→ByteArray→ByteArray→Int→O R) (k1:LP→LP→ByteArray→O R):O R:=Ucr n n x1 x2 x3 x4 x5 x6 k0 k1
def Udi (n:Nat) (l0:LP→ByteArray→LP→Int→Int→O R) (x1:LP) (x2:ByteArray) (x3:LP) (x4 x5:Int) (k0:ByteArray→Int→ByteArray→O R) (k1:ByteArray→O R):O R :=
 bif (decide (x5<x4)) then (bif (inR x5 ((x3).length)) then (Jh1 ((x3).getD ((x5:Int).toNat) (.v (.bool false))) fun a6=>JdT a6 fun h7 t8=>Ji9 .i64 h7 fun e9=>JdT t8 fun h10 t11=>Jj2 h10 fun e12=>Ji1 t11 (bif (inR e9 ((x1).length)) then (Jj2 ((x1).getD ((e9:Int).toNat) (.v (.bool false))) fun e13=>p21 n e12 e13 (fun y14 y15=>bif (y15 != 0) then (k0 ⟨#[]⟩ y15 x2) else (p22 n x2 y14 (fun y16 y17=>bif (y17 != 0) then (k0 ⟨#[]⟩ y17 y16) else (l0 x1 y16 x3 x4 (IntKind.i64.wrap (x5 + 1))))))) else none)) else none) else (k1 x2)
def Ubl (n:Nat):Nat→LP→ByteArray→LP→Int→Int→(ByteArray→Int→ByteArray→O R)→(ByteArray→O R)→O R
 | 0,_,_,_,_,_,_,_=>none
 | m + 1,x1,x2,x3,x4,x5,k0,k1=>Udi n (fun x1 x2 x3 x4 x5=>Ubl n m x1 x2 x3 x4 x5 k0 k1) x1 x2 x3 x4 x5 k0 k1
def Ume (n:Nat) (x1:LP) (x2:ByteArray) (x3:LP) (x4 x5:Int) (k0:ByteArray→Int→ByteArray→O R) (k1:ByteArray→O R):O R:=Ubl n n x1 x2 x3 x4 x5 k0 k1
def UaS (n:Nat) (x1 x2:LP) (x3:ByteArray) (k0:ByteArray→Int→O R):O R :=
 Ume n x1 x3 x2 ((x2).length:Int) 0 (fun y4 y5 y6=>k0 y4 y5) (fun y7=>k0 y7 0)
def p18 (n:Nat) (x1:LP) (x2:ByteArray) (x3:LP) (k0:ByteArray→Int→O R):O R :=
 p52 n x1 x2 (fun y4=>bif (y4 != 0) then (k0 ⟨#[]⟩ 3) else (Uo5 n x3 x1 x2 x3 ((x3).length:Int) 0 (fun y5 y6 y7 y8 y9=>k0 y8 y9) (fun y10 y11 y12=>bif (decide (((y11).length:Int)>0)) then (let v13:=IntKind.i64.wrap (((y11).length:Int) - 1); bif (inR v13 ((y11).length)) then (Jh1 ((y11).getD ((v13:Int).toNat) (.v (.bool false))) fun a14=>JdT a14 fun h15 t16=>Ji9 .i64 h15 fun e17=>JdT t16 fun h18 t19=>Jj2 h18 fun e20=>Ji1 t19 (bif (bif true then (decide (e17≥((y10).length:Int))) else false) then (k0 ⟨#[]⟩ 2) else (UaS n y10 y11 y12 (fun y21 y22=>k0 y21 y22)))) else none) else (UaS n y10 y11 y12 (fun y23 y24=>k0 y23 y24)))))
abbrev E18 (n:Nat):Code→Fr→Kc R→O R:=evC Tryz.prog (Uqw n) Ubv n (78,[])
noncomputable def UjV:Code:=Jj3 (Jlk Tryz.f18) [1,1,1,1]
abbrev Uhg:Sl (List SV):=(cH (.c (sBx 43 (cH (cS .n))) .n))
abbrev Ulq (n:Nat) (K:Kc R):Uhg.T (O R):=fun x1 x2 x3=>UaS n x1 x2 x3 (fun y1 y2=>xC Ubv 12 K .ret [vS y1,vI y2])
noncomputable def Un6:Code:=Jj3 (Jlk Tryz.f18) [1,1,0,1,0,0]
abbrev Ud5:Sl (List SV):=(cH (.c (sBx 43 (cH (cS .n))) (cH (cI (cI .n)))))
abbrev Ulr (n m:Nat) (K:Kc R):Ud5.T (O R):=fun x1 x2 x3 x4 x5 x6=>Ucr n m x1 x2 x3 x4 x5 x6 (fun y1 y2 y3 y4 y5=>xL Ubv 4 K .ret [vH y1,.bx 43 [vH y2,vS y3],vS y4,vI y5]) (fun y1 y2 y3=>xL Ubv 4 K (.exit 0) [vH y1,.bx 43 [vH y2,vS y3],dD,dD])
abbrev Usq (n:Nat) (K:Kc R) (l0:Ud5.T (O R)):Ud5.T (O R):=fun x1 x2 x3 x4 x5 x6=>Ue7 n l0 x1 x2 x3 x4 x5 x6 (fun y1 y2 y3 y4 y5=>xL Ubv 4 K .ret [vH y1,.bx 43 [vH y2,vS y3],vS y4,vI y5]) (fun y1 y2 y3=>xL Ubv 4 K (.exit 0) [vH y1,.bx 43 [vH y2,vS y3],dD,dD])
noncomputable def UjW:Code:=Jj3 (Jlk Tryz.f18) [1,1,1,1,1,0,1,0,0]
abbrev UcU:Sl (List SV):=(cH (cS (cH (cI (cI .n)))))
abbrev UgJ (n m:Nat) (K:Kc R):UcU.T (O R):=fun x1 x2 x3 x4 x5=>Ubl n m x1 x2 x3 x4 x5 (fun y1 y2 y3=>xL Ubv 14 K .ret [vS y1,vI y2,vS y3]) (fun y1=>xL Ubv 14 K (.exit 2) [dD,dD,vS y1])
abbrev Uqb (n:Nat) (K:Kc R) (l0:UcU.T (O R)):UcU.T (O R):=fun x1 x2 x3 x4 x5=>Udi n l0 x1 x2 x3 x4 x5 (fun y1 y2 y3=>xL Ubv 14 K .ret [vS y1,vI y2,vS y3]) (fun y1=>xL Ubv 14 K (.exit 2) [dD,dD,vS y1])
abbrev Uvz (n:Nat):Orc R:=oL Ubv (E18 n) n 14 UjW UcU (UgJ n n) (oL Ubv (E18 n) n 4 Un6 Ud5 (Ulr n n) oN)
abbrev Uvo (n:Nat):Orc R:=oC Ubv (E18 n) 12 UjV Uhg (Ulq n) oN
abbrev K18 (R:Type) (n:Nat):=JcH (R:=R) Tryz.prog (Uqw n) Ubv n (78,[]) (Uvz n) (Uvo n)
theorem Uuv (n:Nat):K18 R n (false,4,Un6):=JkE (lo:=Uvz n) (cu:=Uvo n) (pO pN (by kernel_rfl)) Ud5 (Ulr n n) (JiD (F:=Ulr n) Ud5 (Usq n) (fun K _ _ _ _ _ _=>rfl) (fun _ _=>rfl) (fun L K _ _ _ _ _ _=>by show _=_; kernel_rfl) n) fun _ _=>rfl
theorem UrD (n:Nat):K18 R n (false,14,UjW):=JkE (lo:=Uvz n) (cu:=Uvo n) (pO pN (by kernel_rfl)) UcU (UgJ n n) (JiD (F:=UgJ n) UcU (Uqb n) (fun K _ _ _ _ _=>rfl) (fun _ _=>rfl) (fun L K _ _ _ _ _=>by show _=_; kernel_rfl) n) fun _ _=>rfl
theorem UrC (n:Nat):K18 R n (true,12,UjV):=JkV (lo:=Uvz n) (cu:=Uvo n) (pO (pC (UrD n) pN) (by kernel_rfl)) Uhg (Ulq n) (fun K _ _ _=>by show _=_; kernel_rfl) fun _ _=>rfl
theorem UBb (n:Nat):Je6 (K18 R n) (JaJ Ubv (Jlk Tryz.f18)):=pO (pC (Uuv n) (pC (UrC n) pN)) (by kernel_rfl)
abbrev t18:Sl (List SV):=(.c (sP (JlH (.c sSh (.c Jlx .n)))) (cH .n))
abbrev f18 (n:Nat) (K:List SV→O R):t18.T (O R):=fun x1 x2 x3=>p18 n x1 x2 x3 (fun y1 y2=>K [vS y1,vI y2])
abbrev Uvr (n:Nat):FS:=fT [false,false] t18 (f18 n)
theorem UwS (n:Nat):FSound Tryz.prog GI 18 (Uvr n):=gd Ubv n (Uky n) Tryz.func18 (.cons (Uky n) t18 (f18 n) (fun K _ _ _=>(Jkp (c:=Jlk Tryz.f18) (by kernel_rfl) (UBb n) K).trans (by kernel_rfl)) .nil) (by kernel_rfl)
def Ueu:Ann:={ loops:=[(2,ids [1,12,13,14],ids [4,5])],cuts:=[],frz:=[],rm:=[.id,.id] }
abbrev UqF (n:Nat):Env:=eC 19 (UoV n) (eC 18 (Uvr n) eN)
theorem UkP (n:Nat):EnvOK Tryz.prog GI (UqF n):=.cons (.cons (.nil) (UwS n)) (Ur n)
def Ufb (n:Nat) (l0:LP→LP→Int→Int→O R) (x1 x2:LP) (x3 x4:Int) (k0:Int→Int→O R) (k1:O R):O R :=
 bif (decide (x4<x3)) then (bif (inR x4 ((x2).length)) then (Jh1 ((x2).getD ((x4:Int).toNat) (.v (.bool false))) fun a5=>JdT a5 fun h6 t7=>Jkq h6 fun e8=>JdT t7 fun h9 t10=>Jj2 h9 fun e11=>JdT t10 fun h12 t13=>Jj1 h12 fun e14=>JdT t13 fun h15 t16=>Ji9 .i64 h15 fun e17=>Ji1 t16 (p18 n e8 e11 x1 (fun y18 y19=>bif (y19 != 0) then (k0 0 y19) else (p19 n y18 ⟨#[48]⟩ (fun y20=>bif (decide (y20<0)) then (k0 x4 0) else (bif (decide (y20>0)) then (bif (bif false then true else (bif true then e14 else false)) then (k0 x4 0) else (l0 x1 x2 x3 (IntKind.i64.wrap (x4 + 1)))) else (l0 x1 x2 x3 (IntKind.i64.wrap (x4 + 1))))))))) else none) else (k1)
def Ucw (n:Nat):Nat→LP→LP→Int→Int→(Int→Int→O R)→(O R)→O R
 | 0,_,_,_,_,_,_=>none
 | m + 1,x1,x2,x3,x4,k0,k1=>Ufb n (fun x1 x2 x3 x4=>Ucw n m x1 x2 x3 x4 k0 k1) x1 x2 x3 x4 k0 k1
def Upa (n:Nat) (x1 x2:LP) (x3 x4:Int) (k0:Int→Int→O R) (k1:O R):O R:=Ucw n n x1 x2 x3 x4 k0 k1
def p51 (n:Nat) (x1:Int) (x2 x3:LP) (k0:Int→Int→O R):O R :=
 Upa n x3 x2 ((x2).length:Int) 0 (fun y4 y5=>k0 y4 y5) (k0 (-1) 0)
abbrev E51 (n:Nat):Code→Fr→Kc R→O R:=evC Tryz.prog (UqF n) Ueu n (46,[])
noncomputable def Uoh:Code:=Jj3 (Jlk Tryz.f51) [1,0,1,0,0]
abbrev Ueb:Sl (List SV):=(cH (cH (cI (cI .n))))
abbrev UlC (n m:Nat) (K:Kc R):Ueb.T (O R):=fun x1 x2 x3 x4=>Ucw n m x1 x2 x3 x4 (fun y1 y2=>xL Ueu 2 K .ret [vI y1,vI y2]) (xL Ueu 2 K (.exit 0) [dD,dD])
abbrev Usx (n:Nat) (K:Kc R) (l0:Ueb.T (O R)):Ueb.T (O R):=fun x1 x2 x3 x4=>Ufb n l0 x1 x2 x3 x4 (fun y1 y2=>xL Ueu 2 K .ret [vI y1,vI y2]) (xL Ueu 2 K (.exit 0) [dD,dD])
abbrev UyZ (n:Nat):Orc R:=oL Ueu (E51 n) n 2 Uoh Ueb (UlC n n) oN
abbrev Ux8 (n:Nat):Orc R:=oN
abbrev K51 (R:Type) (n:Nat):=JcH (R:=R) Tryz.prog (UqF n) Ueu n (46,[]) (UyZ n) (Ux8 n)
theorem UuJ (n:Nat):K51 R n (false,2,Uoh):=JkE (lo:=UyZ n) (cu:=Ux8 n) (pO pN (by kernel_rfl)) Ueb (UlC n n) (JiD (F:=UlC n) Ueb (Usx n) (fun K _ _ _ _=>rfl) (fun _ _=>rfl) (fun L K _ _ _ _=>by show _=_; kernel_rfl) n) fun _ _=>rfl
theorem UBs (n:Nat):Je6 (K51 R n) (JaJ Ueu (Jlk Tryz.f51)):=pO (pC (UuJ n) pN) (by kernel_rfl)
abbrev t51:Sl (List SV):=(.c (sP (JlH (.c (Jlu .i64) (.c sSh .n)))) (cH .n))
abbrev f51 (n:Nat) (K:List SV→O R):t51.T (O R):=fun x1 x2 x3=>p51 n x1 x2 x3 (fun y1 y2=>K [vI y1,vI y2])
abbrev UyC (n:Nat):FS:=fT [false,false] t51 (f51 n)
theorem UAQ (n:Nat):FSound Tryz.prog GI 51 (UyC n):=gd Ueu n (UkP n) Tryz.func51 (.cons (UkP n) t51 (f51 n) (fun K _ _ _=>(Jkp (c:=Jlk Tryz.f51) (by kernel_rfl) (UBs n) K).trans (by kernel_rfl)) .nil) (by kernel_rfl)
def UpA:Ann:={ loops:=[],cuts:=[],frz:=[],rm:=[.id,.id] }
abbrev Us1 (n:Nat):Env:=eC 51 (UyC n) (eC 49 (Uv9 n) (eC 48 (UyA n) eN))
theorem Ukx (n:Nat):EnvOK Tryz.prog GI (Us1 n):=.cons (.cons (.cons (.nil) (UAO n)) (Uz n)) (UAQ n)
def p17 (n:Nat) (x1:Int) (x2 x3:LP) (k0:Bool→Int→O R):O R :=
 p48 n x1 x2 x3 (fun y4=>bif (y4 != 0) then (k0 false y4) else (UnB n x3 (fun y5=>bif y5 then (k0 false 0) else (p51 n x1 x2 x3 (fun y6 y7=>bif (y7 == 0) then (k0 (bif true then (decide (y6<0)) else false) y7) else (k0 false y7))))))
abbrev UAb (n:Nat):Orc R:=oN
abbrev UzI (n:Nat):Orc R:=oN
abbrev K17 (R:Type) (n:Nat):=JcH (R:=R) Tryz.prog (Us1 n) UpA n (30,[]) (UAb n) (UzI n)
theorem UBa (n:Nat):Je6 (K17 R n) (JaJ UpA (Jlk Tryz.f17)):=pO pN (by kernel_rfl)
abbrev t17:Sl (List SV):=(.c (sP (JlH (.c (Jlu .i64) (.c sSh .n)))) (cH .n))
abbrev f17 (n:Nat) (K:List SV→O R):t17.T (O R):=fun x1 x2 x3=>p17 n x1 x2 x3 (fun y1 y2=>K [vB y1,vI y2])
abbrev Uv5 (n:Nat):FS:=fT [false,false] t17 (f17 n)
theorem Uy6 (n:Nat):FSound Tryz.prog GI 17 (Uv5 n):=gd UpA n (Ukx n) Tryz.func17 (.cons (Ukx n) t17 (f17 n) (fun K _ _ _=>(Jkp (c:=Jlk Tryz.f17) (by kernel_rfl) (UBa n) K).trans (by kernel_rfl)) .nil) (by kernel_rfl)
def Ueq:Ann:={ loops:=[(5,ids [0,1,4,18,19,20],ids [0,1,2,3,4])],cuts:=[],frz:=[],rm:=[.id,.id] }
abbrev UqA (n:Nat):Env:=eC 31 (Uv7 n) (eC 30 (Uvu n) (eC 19 (UoV n) eN))
theorem UkG (n:Nat):EnvOK Tryz.prog GI (UqA n):=.cons (.cons (.cons (.nil) (Ur n)) (UwV n)) (Uy8 n)
def Umg (n:Nat) (l0:Int→LP→LP→LP→ByteArray→LP→Int→Int→O R) (x1:Int) (x2 x3 x4:LP) (x5:ByteArray) (x6:LP) (x7 x8:Int) (k0:Int→LP→LP→Bool→Int→LP→ByteArray→O R) (k1:Int→LP→LP→LP→ByteArray→O R):O R :=
 bif (decide (x8<x7)) then (bif (inR x8 ((x6).length)) then (Jh1 ((x6).getD ((x8:Int).toNat) (.v (.bool false))) fun a9=>JdT a9 fun h10 t11=>Ji9 .i64 h10 fun e12=>JdT t11 fun h13 t14=>Jj2 h13 fun e15=>Ji1 t14 (p19 n e15 ⟨#[48]⟩ (fun y16=>bif (decide (y16>0)) then (k0 x1 x2 x3 false 0 x4 x5) else (l0 x1 x2 x3 x4 x5 x6 x7 (IntKind.i64.wrap (x8 + 1)))))) else none) else (k1 x1 x2 x3 x4 x5)
def UgT (n:Nat):Nat→Int→LP→LP→LP→ByteArray→LP→Int→Int→(Int→LP→LP→Bool→Int→LP→ByteArray→O R)→(Int→LP→LP→LP→ByteArray→O R)→O R
 | 0,_,_,_,_,_,_,_,_,_,_=>none
 | m + 1,x1,x2,x3,x4,x5,x6,x7,x8,k0,k1=>Umg n (fun x1 x2 x3 x4 x5 x6 x7 x8=>UgT n m x1 x2 x3 x4 x5 x6 x7 x8 k0 k1) x1 x2 x3 x4 x5 x6 x7 x8 k0 k1
def Uul (n:Nat) (x1:Int) (x2 x3 x4:LP) (x5:ByteArray) (x6:LP) (x7 x8:Int) (k0:Int→LP→LP→Bool→Int→LP→ByteArray→O R) (k1:Int→LP→LP→LP→ByteArray→O R):O R:=UgT n n x1 x2 x3 x4 x5 x6 x7 x8 k0 k1
def p29 (n:Nat) (x1:Int) (x2 x3:LP) (k0:Bool→Int→O R):O R :=
 p30 n x1 x2 x3 (fun y4 y5 y6=>bif (y6 != 0) then (k0 false y6) else (Uul n x1 x2 x3 y4 y5 y4 ((y4).length:Int) 0 (fun y7 y8 y9 y10 y11 y12 y13=>k0 y10 y11) (fun y14 y15 y16 y17 y18=>p31 n y14 y15 y16 (fun y19=>bif y19 then (p19 n y18 ⟨#[48]⟩ (fun y20=>k0 (bif true then (decide (y20<0)) else false) 0)) else (k0 false 0)))))
abbrev E29 (n:Nat):Code→Fr→Kc R→O R:=evC Tryz.prog (UqA n) Ueq n (38,[])
noncomputable def Uob:Code:=Jj3 (Jlk Tryz.f29) [1,1,1,0,1,0,0]
abbrev Ud8:Sl (List SV):=(.c (sP (sFb (.c (Jlu .i64) (.c sSh .n)))) (.c (sP (sFb (.c sSh .n))) (.c (sBx 43 (cH (cS .n))) (cH (cI (cI .n))))))
abbrev Ulv (n m:Nat) (K:Kc R):Ud8.T (O R):=fun x1 x2 x3 x4 x5 x6 x7 x8=>UgT n m x1 x2 x3 x4 x5 x6 x7 x8 (fun y1 y2 y3 y4 y5 y6 y7=>xL Ueq 5 K .ret [.p (.fb [.v (.int .i64 y1),.sh y2]),.p (.fb [.sh y3]),vB y4,vI y5,.bx 43 [vH y6,vS y7]]) (fun y1 y2 y3 y4 y5=>xL Ueq 5 K (.exit 0) [.p (.fb [.v (.int .i64 y1),.sh y2]),.p (.fb [.sh y3]),dD,dD,.bx 43 [vH y4,vS y5]])
abbrev Ust (n:Nat) (K:Kc R) (l0:Ud8.T (O R)):Ud8.T (O R):=fun x1 x2 x3 x4 x5 x6 x7 x8=>Umg n l0 x1 x2 x3 x4 x5 x6 x7 x8 (fun y1 y2 y3 y4 y5 y6 y7=>xL Ueq 5 K .ret [.p (.fb [.v (.int .i64 y1),.sh y2]),.p (.fb [.sh y3]),vB y4,vI y5,.bx 43 [vH y6,vS y7]]) (fun y1 y2 y3 y4 y5=>xL Ueq 5 K (.exit 0) [.p (.fb [.v (.int .i64 y1),.sh y2]),.p (.fb [.sh y3]),dD,dD,.bx 43 [vH y4,vS y5]])
abbrev UyV (n:Nat):Orc R:=oL Ueq (E29 n) n 5 Uob Ud8 (Ulv n n) oN
abbrev Ux4 (n:Nat):Orc R:=oN
abbrev K29 (R:Type) (n:Nat):=JcH (R:=R) Tryz.prog (UqA n) Ueq n (38,[]) (UyV n) (Ux4 n)
theorem UuB (n:Nat):K29 R n (false,5,Uob):=JkE (lo:=UyV n) (cu:=Ux4 n) (pO pN (by kernel_rfl)) Ud8 (Ulv n n) (JiD (F:=Ulv n) Ud8 (Ust n) (fun K _ _ _ _ _ _ _ _=>rfl) (fun _ _=>rfl) (fun L K _ _ _ _ _ _ _ _=>by show _=_; kernel_rfl) n) fun _ _=>rfl
theorem UBj (n:Nat):Je6 (K29 R n) (JaJ Ueq (Jlk Tryz.f29)):=pO (pC (UuB n) pN) (by kernel_rfl)
abbrev t29:Sl (List SV):=(.c (sP (sFb (.c (Jlu .i64) (.c sSh .n)))) (.c (sP (sFb (.c sSh .n))) .n))
abbrev f29 (n:Nat) (K:List SV→O R):t29.T (O R):=fun x1 x2 x3=>p29 n x1 x2 x3 (fun y1 y2=>K [vB y1,vI y2])
abbrev Uyw (n:Nat):FS:=fT [false,false] t29 (f29 n)
theorem UAK (n:Nat):FSound Tryz.prog GI 29 (Uyw n):=gd Ueq n (UkG n) Tryz.func29 (.cons (UkG n) t29 (f29 n) (fun K _ _ _=>(Jkp (c:=Jlk Tryz.f29) (by kernel_rfl) (UBj n) K).trans (by kernel_rfl)) .nil) (by kernel_rfl)
def UpF:Ann:={ loops:=[],cuts:=[],frz:=[],rm:=[.id,.id] }
abbrev Us6 (n:Nat):Env:=eC 18 (Uvr n) eN
theorem UkK (n:Nat):EnvOK Tryz.prog GI (Us6 n):=.cons (.nil) (UwS n)
def p36 (n:Nat) (x1 x2:LP) (k0:ByteArray→Int→O R):O R :=
 p18 n x1 ⟨#[48]⟩ x2 (fun y3 y4=>k0 y3 y4)
abbrev UAg (n:Nat):Orc R:=oN
abbrev UzN (n:Nat):Orc R:=oN
abbrev K36 (R:Type) (n:Nat):=JcH (R:=R) Tryz.prog (Us6 n) UpF n (12,[]) (UAg n) (UzN n)
theorem UBn (n:Nat):Je6 (K36 R n) (JaJ UpF (Jlk Tryz.f36)):=pO pN (by kernel_rfl)
abbrev t36:Sl (List SV):=(cH (cH .n))
abbrev f36 (n:Nat) (K:List SV→O R):t36.T (O R):=fun x1 x2=>p36 n x1 x2 (fun y1 y2=>K [vS y1,vI y2])
abbrev Uv8 (n:Nat):FS:=fT [false,false] t36 (f36 n)
theorem Uy9 (n:Nat):FSound Tryz.prog GI 36 (Uv8 n):=gd UpF n (UkK n) Tryz.func36 (.cons (UkK n) t36 (f36 n) (fun K _ _=>(Jkp (c:=Jlk Tryz.f36) (by kernel_rfl) (UBn n) K).trans (by kernel_rfl)) .nil) (by kernel_rfl)
def Ujv:Ann:={ loops:=[],cuts:=[],frz:=[],rm:=[.id] }
abbrev UoD (n:Nat):Env:=eN
theorem Uh9 (n:Nat):EnvOK Tryz.prog GI (UoD n):=.nil
def Uw2 (n:Nat) (x1:Int) (x2:ByteArray) (x3:Int) (k0:Int→O R):O R :=
 k0 (IntKind.i64.wrap (x1 - x3))
abbrev Uwj (n:Nat):Orc R:=oN
abbrev UvR (n:Nat):Orc R:=oN
abbrev Uzz (R:Type) (n:Nat):=JcH (R:=R) Tryz.prog (UoD n) Ujv n (9,[]) (Uwj n) (UvR n)
theorem Uxi (n:Nat):Je6 (Uzz R n) (JaJ Ujv (Jlk Tryz.f118)):=pO pN (by kernel_rfl)
abbrev UxC:Sl (List SV):=(.c (sP (JlH (.c (Jlu .i64) (.c Jlx .n)))) (cI .n))
abbrev f118 (n:Nat) (K:List SV→O R):UxC.T (O R):=fun x1 x2 x3=>Uw2 n x1 x2 x3 (fun y1=>K [vI y1])
abbrev UtI (n:Nat):FS:=fT [false,false] UxC (f118 n)
theorem UwE (n:Nat):FSound Tryz.prog GI 118 (UtI n):=gd Ujv n (Uh9 n) Tryz.func118 (.cons (Uh9 n) UxC (f118 n) (fun K _ _ _=>(Jkp (c:=Jlk Tryz.f118) (by kernel_rfl) (Uxi n) K).trans (by kernel_rfl)) .nil) (by kernel_rfl)
def Udt:Ann:={ loops:=[(3,ids [0,1,2,8,9,10],ids [0,1,2,6,7,8,9])],cuts:=[],frz:=[],rm:=[.id,.id] }
abbrev Uko (n:Nat):Env:=eC 118 (UtI n) eN
theorem Uh8 (n:Nat):EnvOK Tryz.prog GI (Uko n):=.cons (.nil) (UwE n)
def UiQ (n:Nat) (l0:LP→Int→Int→Int→Int→O R) (x1:LP) (x2 x3 x4 x5:Int) (k0:LP→Int→Int→Int→O R):O R :=
 bif (decide (x4<x5)) then (let v6:=IntKind.u64.wrap (IntKind.i64.wrap (x4 + x5)); bif decide ((1:Int)<0) then none else (let v7:=Int.fdiv v6 (2 ^ (min ((1:Int)).toNat IntKind.u64.bits)); bif (inR (IntKind.i64.wrap (v7)) ((x1).length)) then (Jh1 ((x1).getD ((IntKind.i64.wrap (v7):Int).toNat) (.v (.bool false))) fun a8=>JdT a8 fun h9 t10=>Ji9 .i64 h9 fun e11=>JdT t10 fun h12 t13=>Jj2 h12 fun e14=>Ji1 t13 (Uw2 n e11 e14 x2 (fun y15=>bif (decide (y15<0)) then (let v16:=IntKind.i64.wrap ((IntKind.i64.wrap (v7)) + 1); l0 x1 x2 x3 v16 x5) else (l0 x1 x2 x3 x4 (IntKind.i64.wrap (v7)))))) else none)) else (k0 x1 x2 x3 x4)
def Ue5 (n:Nat):Nat→LP→Int→Int→Int→Int→(LP→Int→Int→Int→O R)→O R
 | 0,_,_,_,_,_,_=>none
 | m + 1,x1,x2,x3,x4,x5,k0=>UiQ n (fun x1 x2 x3 x4 x5=>Ue5 n m x1 x2 x3 x4 x5 k0) x1 x2 x3 x4 x5 k0
def Urc (n:Nat) (x1:LP) (x2 x3 x4 x5:Int) (k0:LP→Int→Int→Int→O R):O R:=Ue5 n n x1 x2 x3 x4 x5 k0
def Uzj (n:Nat) (x1:LP) (x2:Int) (k0:Int→Bool→O R):O R :=
 Urc n x1 x2 ((x1).length:Int) 0 ((x1).length:Int) (fun y3 y4 y5 y6=>bif (decide (y6<y5)) then (bif (inR y6 ((y3).length)) then (Jh1 ((y3).getD ((y6:Int).toNat) (.v (.bool false))) fun a7=>JdT a7 fun h8 t9=>Ji9 .i64 h8 fun e10=>JdT t9 fun h11 t12=>Jj2 h11 fun e13=>Ji1 t12 (Uw2 n e10 e13 y4 (fun y14=>k0 y6 (bif true then (y14 == 0) else false)))) else none) else (k0 y6 false))
abbrev Uzu (n:Nat):Code→Fr→Kc R→O R:=evC Tryz.prog (Uko n) Udt n (49,[])
noncomputable def UjS:Code:=Jj3 (Jlk Tryz.f117) [1,1,1,0,0,0]
abbrev UcR:Sl (List SV):=(cH (cI (.c (sP (sFn 118)) (cI (cI (cI .n))))))
abbrev UgG (n m:Nat) (K:Kc R):UcR.T (O R):=fun x1 x2 x3 x4 x5=>Ue5 n m x1 x2 x3 x4 x5 (fun y1 y2 y3 y4=>xL Udt 3 K (.exit 0) [vH y1,vI y2,.p (.v (.func (.func 118) #[] #[])),dD,dD,vI y3,vI y4])
abbrev Up8 (n:Nat) (K:Kc R) (l0:UcR.T (O R)):UcR.T (O R):=fun x1 x2 x3 x4 x5=>UiQ n l0 x1 x2 x3 x4 x5 (fun y1 y2 y3 y4=>xL Udt 3 K (.exit 0) [vH y1,vI y2,.p (.v (.func (.func 118) #[] #[])),dD,dD,vI y3,vI y4])
abbrev Ut5 (n:Nat):Orc R:=oL Udt (Uzu n) n 3 UjS UcR (UgG n n) oN
abbrev UsT (n:Nat):Orc R:=oN
abbrev UxY (R:Type) (n:Nat):=JcH (R:=R) Tryz.prog (Uko n) Udt n (49,[]) (Ut5 n) (UsT n)
theorem Urz (n:Nat):UxY R n (false,3,UjS):=JkE (lo:=Ut5 n) (cu:=UsT n) (pO pN (by kernel_rfl)) UcR (UgG n n) (JiD (F:=UgG n) UcR (Up8 n) (fun K _ _ _ _ _=>rfl) (fun _ _=>rfl) (fun L K _ _ _ _ _=>by show _=_; kernel_rfl) n) fun _ _=>rfl
theorem Uxh (n:Nat):Je6 (UxY R n) (JaJ Udt (Jlk Tryz.f117)):=pO (pC (Urz n) pN) (by kernel_rfl)
abbrev t117:Sl (List SV):=(cH (cI (.c (sP (sFn 118)) .n)))
abbrev f117 (n:Nat) (K:List SV→O R):t117.T (O R):=fun x1 x2=>Uzj n x1 x2 (fun y1 y2=>K [vI y1,vB y2])
abbrev UtH (n:Nat):FS:=fT [false,false,false] t117 (f117 n)
theorem UwD (n:Nat):FSound Tryz.prog GI 117 (UtH n):=gd Udt n (Uh8 n) Tryz.func117 (.cons (Uh8 n) t117 (f117 n) (fun K _ _=>(Jkp (c:=Jlk Tryz.f117) (by kernel_rfl) (Uxh n) K).trans (by kernel_rfl)) .nil) (by kernel_rfl)
def UpV:Ann:={ loops:=[],cuts:=[],frz:=[],rm:=[.id,.id] }
abbrev Utl (n:Nat):Env:=eC 117 (UtH n) eN
theorem Uk9 (n:Nat):EnvOK Tryz.prog GI (Utl n):=.cons (.nil) (UwD n)
def p81 (n:Nat) (x1:LP) (x2:ByteArray) (x3:Int) (k0:Int→Bool→O R):O R :=
 Uzj n x1 x3 (fun y4 y5=>k0 y4 y5)
abbrev UAw (n:Nat):Orc R:=oN
abbrev Uz3 (n:Nat):Orc R:=oN
abbrev K81 (R:Type) (n:Nat):=JcH (R:=R) Tryz.prog (Utl n) UpV n (12,[]) (UAw n) (Uz3 n)
theorem UBM (n:Nat):Je6 (K81 R n) (JaJ UpV (Jlk Tryz.f81)):=pO pN (by kernel_rfl)
abbrev t81:Sl (List SV):=(.c (sP (JlH (.c sSh (.c Jlx .n)))) (cI .n))
abbrev f81 (n:Nat) (K:List SV→O R):t81.T (O R):=fun x1 x2 x3=>p81 n x1 x2 x3 (fun y1 y2=>K [vI y1,vB y2])
abbrev UyM (n:Nat):FS:=fT [false,false] t81 (f81 n)
theorem UA0 (n:Nat):FSound Tryz.prog GI 81 (UyM n):=gd UpV n (Uk9 n) Tryz.func81 (.cons (Uk9 n) t81 (f81 n) (fun K _ _ _=>(Jkp (c:=Jlk Tryz.f81) (by kernel_rfl) (UBM n) K).trans (by kernel_rfl)) .nil) (by kernel_rfl)
def Ui8:Ann:={ loops:=[],cuts:=[(3,ids [1,2],ids [4])],frz:=[],rm:=[.id] }
abbrev UqE (n:Nat):Env:=eC 81 (UyM n) (eC 80 (Uwd n) (eC 52 (Ur9 n) eN))
theorem UkM (n:Nat):EnvOK Tryz.prog GI (UqE n):=.cons (.cons (.cons (.nil) (Uuf n)) (Uze n)) (UA0 n)
def Up (n:Nat) (x1:Int) (x2:LP) (x3:ByteArray) (k0:ByteArray→O R):O R :=
 p81 n x2 x3 x1 (fun y4 y5=>bif y5 then (bif (inR y4 ((x2).length)) then (Jh1 ((x2).getD ((y4:Int).toNat) (.v (.bool false))) fun a6=>JdT a6 fun h7 t8=>Ji9 .i64 h7 fun e9=>JdT t8 fun h10 t11=>Jj2 h10 fun e12=>Ji1 t11 (k0 e12)) else none) else (k0 ⟨#[48]⟩))
def p38 (n:Nat) (x1:LP) (x2:ByteArray) (x3:Int) (k0:ByteArray→O R):O R :=
 p52 n x1 x2 (fun y4=>bif (y4 != 0) then (k0 ⟨#[48]⟩) else (p80 n x3 (fun y5=>bif (bif false then true else (!y5)) then (k0 ⟨#[48]⟩) else (Up n x3 x1 x2 (fun y6=>k0 y6)))))
abbrev E38 (n:Nat):Code→Fr→Kc R→O R:=evC Tryz.prog (UqE n) Ui8 n (28,[])
noncomputable def Uog:Code:=Jj3 (Jlk Tryz.f38) [1,1]
abbrev UmI:Sl (List SV):=(cI (.c (sBx 43 (cH (cS .n))) .n))
abbrev UoO (n:Nat) (K:Kc R):UmI.T (O R):=fun x1 x2 x3=>Up n x1 x2 x3 (fun y1=>xC Ui8 3 K .ret [vS y1])
abbrev UyY (n:Nat):Orc R:=oN
abbrev Ux7 (n:Nat):Orc R:=oC Ui8 (E38 n) 3 Uog UmI (UoO n) oN
abbrev K38 (R:Type) (n:Nat):=JcH (R:=R) Tryz.prog (UqE n) Ui8 n (28,[]) (UyY n) (Ux7 n)
theorem UuI (n:Nat):K38 R n (true,3,Uog):=JkV (lo:=UyY n) (cu:=Ux7 n) (pO pN (by kernel_rfl)) UmI (UoO n) (fun K _ _ _=>by show _=_; kernel_rfl) fun _ _=>rfl
theorem UBp (n:Nat):Je6 (K38 R n) (JaJ Ui8 (Jlk Tryz.f38)):=pO (pC (UuI n) pN) (by kernel_rfl)
abbrev t38:Sl (List SV):=(.c (sP (JlH (.c sSh (.c Jlx .n)))) (cI .n))
abbrev f38 (n:Nat) (K:List SV→O R):t38.T (O R):=fun x1 x2 x3=>p38 n x1 x2 x3 (fun y1=>K [vS y1])
abbrev Uyz (n:Nat):FS:=fT [false,false] t38 (f38 n)
theorem UAN (n:Nat):FSound Tryz.prog GI 38 (Uyz n):=gd Ui8 n (UkM n) Tryz.func38 (.cons (UkM n) t38 (f38 n) (fun K _ _ _=>(Jkp (c:=Jlk Tryz.f38) (by kernel_rfl) (UBp n) K).trans (by kernel_rfl)) .nil) (by kernel_rfl)
def Uet:Ann:={ loops:=[(9,ids [2,6,9,40,41],ids [4,5,9])],cuts:=[(8,ids [0,2,6,9],ids [4,5])],frz:=[],rm:=[.id,.id] }
abbrev UqD (n:Nat):Env:=eC 38 (Uyz n) (eC 37 (Uyy n) (eC 36 (Uv8 n) (eC 31 (Uv7 n) (eC 30 (Uvu n) (eC 19 (UoV n) eN)))))
theorem UkJ (n:Nat):EnvOK Tryz.prog GI (UqD n):=.cons (.cons (.cons (.cons (.cons (.cons (.nil) (Ur n)) (UwV n)) (Uy8 n)) (Uy9 n)) (UAM n)) (UAN n)
def Umm (n:Nat) (l0:LP→LP→ByteArray→Bool→Int→Int→O R) (x1 x2:LP) (x3:ByteArray) (x4:Bool) (x5 x6:Int) (k0:Bool→O R):O R :=
 bif (decide (x6<x5)) then (bif x4 then (bif true then (bif true then (p38 n x2 x3 x6 (fun y7=>bif true then (bif true then (bif true then (bif true then (p38 n x1 ⟨#[48]⟩ x6 (fun y8=>bif true then (p19 n y7 y8 (fun y9=>bif true then (l0 x1 x2 x3 (bif true then (decide (y9≤0)) else false) x5 (IntKind.i64.wrap (x6 + 1))) else none)) else none)) else none) else none) else none) else none)) else none) else none) else (bif false then none else (bif false then none else (bif false then none else (bif false then none else (bif false then none else (bif false then none else (bif false then none else (bif false then none else (bif false then none else (l0 x1 x2 x3 false x5 (IntKind.i64.wrap (x6 + 1))))))))))))) else (k0 x4)
def UgZ (n:Nat):Nat→LP→LP→ByteArray→Bool→Int→Int→(Bool→O R)→O R
 | 0,_,_,_,_,_,_,_=>none
 | m + 1,x1,x2,x3,x4,x5,x6,k0=>Umm n (fun x1 x2 x3 x4 x5 x6=>UgZ n m x1 x2 x3 x4 x5 x6 k0) x1 x2 x3 x4 x5 x6 k0
def Uuq (n:Nat) (x1 x2:LP) (x3:ByteArray) (x4:Bool) (x5 x6:Int) (k0:Bool→O R):O R:=UgZ n n x1 x2 x3 x4 x5 x6 k0
def Uml (n:Nat) (x1:Int) (x2 x3 x4:LP) (x5:ByteArray) (x6:Bool) (k0:Bool→Int→O R):O R :=
 Uuq n x3 x4 x5 x6 x1 0 (fun y7=>k0 y7 0)
def p35 (n:Nat) (x1:Int) (x2 x3 x4 x5:LP) (k0:Bool→Int→O R):O R :=
 p30 n x1 x2 x3 (fun y6 y7 y8=>bif (y8 != 0) then (k0 false y8) else (p36 n x4 x5 (fun y9 y10=>bif (y10 != 0) then (k0 false y10) else (p31 n x1 x2 x3 (fun y11=>bif y11 then (bif true then (bif true then (bif true then (p37 n y7 (fun y12=>bif true then (Uml n x1 x2 x4 y6 y7 (bif true then eqS y9 y12 else false) (fun y13 y14=>k0 y13 y14)) else none)) else none) else none) else none) else (bif false then none else (bif false then none else (bif false then none else (bif false then none else (bif false then none else (Uml n x1 x2 x4 y6 y7 false (fun y15 y16=>k0 y15 y16))))))))))))
abbrev E35 (n:Nat):Code→Fr→Kc R→O R:=evC Tryz.prog (UqD n) Uet n (58,[])
noncomputable def Uoe:Code:=Jj3 (Jlk Tryz.f35) [1,1,1,1,1,1]
abbrev UmH:Sl (List SV):=(.c (sP (sFb (.c (Jlu .i64) (.c sSh .n)))) (.c (sP (sFb (.c sSh .n))) (.c (sBx 43 (cH (cS .n))) (cB .n))))
abbrev UoN (n:Nat) (K:Kc R):UmH.T (O R):=fun x1 x2 x3 x4 x5 x6=>Uml n x1 x2 x3 x4 x5 x6 (fun y1 y2=>xC Uet 8 K .ret [vB y1,vI y2])
noncomputable def Uof:Code:=Jj3 (Jlk Tryz.f35) [1,1,1,1,1,1,0,1,0,0]
abbrev Uea:Sl (List SV):=(.c (sP (sFb (.c sSh .n))) (.c (sBx 43 (cH (cS .n))) (cB (cI (cI .n)))))
abbrev UlB (n m:Nat) (K:Kc R):Uea.T (O R):=fun x1 x2 x3 x4 x5 x6=>UgZ n m x1 x2 x3 x4 x5 x6 (fun y1=>xL Uet 9 K (.exit 0) [dD,dD,vB y1])
abbrev Usw (n:Nat) (K:Kc R) (l0:Uea.T (O R)):Uea.T (O R):=fun x1 x2 x3 x4 x5 x6=>Umm n l0 x1 x2 x3 x4 x5 x6 (fun y1=>xL Uet 9 K (.exit 0) [dD,dD,vB y1])
abbrev Uwp (n:Nat):Orc R:=oL Uet (E35 n) n 9 Uof Uea (UlB n n) oN
abbrev UvX (n:Nat):Orc R:=oC Uet (E35 n) 8 Uoe UmH (UoN n) oN
abbrev K35 (R:Type) (n:Nat):=JcH (R:=R) Tryz.prog (UqD n) Uet n (58,[]) (Uwp n) (UvX n)
theorem UuH (n:Nat):K35 R n (false,9,Uof):=JkE (lo:=Uwp n) (cu:=UvX n) (pO pN (by kernel_rfl)) Uea (UlB n n) (JiD (F:=UlB n) Uea (Usw n) (fun K _ _ _ _ _ _=>rfl) (fun _ _=>rfl) (fun L K _ _ _ _ _ _=>by show _=_; kernel_rfl) n) fun _ _=>rfl
theorem UuG (n:Nat):K35 R n (true,8,Uoe):=JkV (lo:=Uwp n) (cu:=UvX n) (pO (pC (UuH n) pN) (by kernel_rfl)) UmH (UoN n) (fun K _ _ _ _ _ _=>by show _=_; kernel_rfl) fun _ _=>rfl
theorem UBm (n:Nat):Je6 (K35 R n) (JaJ Uet (Jlk Tryz.f35)):=pO (pC (UuG n) pN) (by kernel_rfl)
abbrev t35:Sl (List SV):=(.c (sP (sFb (.c (Jlu .i64) (.c sSh .n)))) (.c (sP (sFb (.c sSh .n))) (.c (sP (sFb (.c sSh .n))) (.c (sP (sFb (.c sSh .n))) .n))))
abbrev f35 (n:Nat) (K:List SV→O R):t35.T (O R):=fun x1 x2 x3 x4 x5=>p35 n x1 x2 x3 x4 x5 (fun y1 y2=>K [vB y1,vI y2])
abbrev Uyx (n:Nat):FS:=fT [false,false,false,false] t35 (f35 n)
theorem UAL (n:Nat):FSound Tryz.prog GI 35 (Uyx n):=gd Uet n (UkJ n) Tryz.func35 (.cons (UkJ n) t35 (f35 n) (fun K _ _ _ _ _=>(Jkp (c:=Jlk Tryz.f35) (by kernel_rfl) (UBm n) K).trans (by kernel_rfl)) .nil) (by kernel_rfl)
def Uc1:Ann:={ loops:=[(3,ids [0,1,2,5,15,16,17],ids [0,1,2,3,4,5]),(8,ids [0,2,5,29,30,31],ids [0,2,3,4,5])],cuts:=[],frz:=[],rm:=[.id,.id] }
abbrev UqK (n:Nat):Env:=eC 36 (Uv8 n) (eC 19 (UoV n) eN)
theorem UkX (n:Nat):EnvOK Tryz.prog GI (UqK n):=.cons (.cons (.nil) (Ur n)) (Uy9 n)
def Ufh (n:Nat) (l0:LP→Int→LP→LP→Bool→LP→Int→Int→O R) (x1:LP) (x2:Int) (x3 x4:LP) (x5:Bool) (x6:LP) (x7 x8:Int) (k0:LP→Int→LP→LP→Bool→O R):O R :=
 bif (decide (x8<x7)) then (bif (inR x8 ((x6).length)) then (Jj2 ((x6).getD ((x8:Int).toNat) (.v (.bool false))) fun e9=>bif x5 then (bif true then (p19 n e9 ⟨#[48]⟩ (fun y10=>bif true then (l0 x1 x2 x3 x4 (bif true then (decide (y10≥0)) else false) x6 x7 (IntKind.i64.wrap (x8 + 1))) else none)) else none) else (bif false then none else (bif false then none else (bif false then none else (l0 x1 x2 x3 x4 false x6 x7 (IntKind.i64.wrap (x8 + 1))))))) else none) else (k0 x1 x2 x3 x4 x5)
def UcB (n:Nat):Nat→LP→Int→LP→LP→Bool→LP→Int→Int→(LP→Int→LP→LP→Bool→O R)→O R
 | 0,_,_,_,_,_,_,_,_,_=>none
 | m + 1,x1,x2,x3,x4,x5,x6,x7,x8,k0=>Ufh n (fun x1 x2 x3 x4 x5 x6 x7 x8=>UcB n m x1 x2 x3 x4 x5 x6 x7 x8 k0) x1 x2 x3 x4 x5 x6 x7 x8 k0
def Umn (n:Nat) (x1:LP) (x2:Int) (x3 x4:LP) (x5:Bool) (x6:LP) (x7 x8:Int) (k0:LP→Int→LP→LP→Bool→O R):O R:=UcB n n x1 x2 x3 x4 x5 x6 x7 x8 k0
def Ufi (n:Nat) (l0:LP→LP→Bool→LP→Int→Int→O R) (x1 x2:LP) (x3:Bool) (x4:LP) (x5 x6:Int) (k0:LP→LP→Bool→Int→Bool→O R) (k1:LP→LP→Bool→O R):O R :=
 bif (decide (x6<x5)) then (bif (inR x6 ((x4).length)) then (Jh1 ((x4).getD ((x6:Int).toNat) (.v (.bool false))) fun a7=>JdT a7 fun h8 t9=>Jkq h8 fun e10=>JdT t9 fun h11 t12=>Jj2 h11 fun e13=>JdT t12 fun h14 t15=>Jj1 h14 fun e16=>JdT t15 fun h17 t18=>Ji9 .i64 h17 fun e19=>Ji1 t18 (p36 n e10 x1 (fun y20 y21=>bif (y21 != 0) then (k0 x1 x2 false y21 x3) else (p19 n y20 ⟨#[48]⟩ (fun y22=>bif x3 then (bif true then (bif true then (bif (y22 == 0) then (bif true then (bif true then (bif true then (bif true then (bif true then (l0 x1 x2 true x4 x5 (IntKind.i64.wrap (x6 + 1))) else none) else none) else none) else none) else none) else (bif false then none else (bif false then none else (bif (decide (y22>0)) then (bif true then (bif true then (bif false then none else (bif true then (l0 x1 x2 (bif true then (bif false then true else (bif true then (!e16) else false)) else false) x4 x5 (IntKind.i64.wrap (x6 + 1))) else none)) else none) else none) else (bif false then none else (bif false then none else (bif false then none else (bif false then none else (bif true then (l0 x1 x2 false x4 x5 (IntKind.i64.wrap (x6 + 1))) else none))))))))) else none) else none) else (bif false then none else (bif false then none else (bif false then none else (bif false then none else (l0 x1 x2 false x4 x5 (IntKind.i64.wrap (x6 + 1)))))))))))) else none) else (k1 x1 x2 x3)
def UcC (n:Nat):Nat→LP→LP→Bool→LP→Int→Int→(LP→LP→Bool→Int→Bool→O R)→(LP→LP→Bool→O R)→O R
 | 0,_,_,_,_,_,_,_,_=>none
 | m + 1,x1,x2,x3,x4,x5,x6,k0,k1=>Ufi n (fun x1 x2 x3 x4 x5 x6=>UcC n m x1 x2 x3 x4 x5 x6 k0 k1) x1 x2 x3 x4 x5 x6 k0 k1
def Umo (n:Nat) (x1 x2:LP) (x3:Bool) (x4:LP) (x5 x6:Int) (k0:LP→LP→Bool→Int→Bool→O R) (k1:LP→LP→Bool→O R):O R:=UcC n n x1 x2 x3 x4 x5 x6 k0 k1
def p59 (n:Nat) (x1:LP) (x2:Int) (x3 x4:LP) (k0:Bool→Int→O R):O R :=
 Umn n x1 x2 x3 x4 true x1 ((x1).length:Int) 0 (fun y5 y6 y7 y8 y9=>Umo n y5 y8 y9 y7 ((y7).length:Int) 0 (fun y10 y11 y12 y13 y14=>k0 y12 y13) (fun y15 y16 y17=>p36 n y16 y15 (fun y18 y19=>bif y17 then (bif true then (p19 n y18 ⟨#[48]⟩ (fun y20=>bif true then (k0 (bif true then (decide (y20<0)) else false) y19) else none)) else none) else (bif false then none else (bif false then none else (bif false then none else (k0 false y19)))))))
abbrev E59 (n:Nat):Code→Fr→Kc R→O R:=evC Tryz.prog (UqK n) Uc1 n (75,[])
noncomputable def Uom:Code:=Jj3 (Jlk Tryz.f59) [1,1,0,1,0,0]
abbrev Ueg:Sl (List SV):=(.c (sP (sFb (.c sSh .n))) (.c (sP (sFb (.c (Jlu .i64) (.c sSh .n)))) (.c (sP (sFb (.c sSh .n))) (cB (cH (cI (cI .n)))))))
abbrev UlI (n m:Nat) (K:Kc R):Ueg.T (O R):=fun x1 x2 x3 x4 x5 x6 x7 x8=>UcB n m x1 x2 x3 x4 x5 x6 x7 x8 (fun y1 y2 y3 y4 y5=>xL Uc1 3 K (.exit 0) [.p (.fb [.sh y1]),.p (.fb [.v (.int .i64 y2),.sh y3]),.p (.fb [.sh y4]),dD,dD,vB y5])
abbrev UsC (n:Nat) (K:Kc R) (l0:Ueg.T (O R)):Ueg.T (O R):=fun x1 x2 x3 x4 x5 x6 x7 x8=>Ufh n l0 x1 x2 x3 x4 x5 x6 x7 x8 (fun y1 y2 y3 y4 y5=>xL Uc1 3 K (.exit 0) [.p (.fb [.sh y1]),.p (.fb [.v (.int .i64 y2),.sh y3]),.p (.fb [.sh y4]),dD,dD,vB y5])
noncomputable def Uon:Code:=Jj3 (Jlk Tryz.f59) [1,1,1,0,1,0,0]
abbrev Ueh:Sl (List SV):=(.c (sP (sFb (.c sSh .n))) (.c (sP (sFb (.c sSh .n))) (cB (cH (cI (cI .n))))))
abbrev UlJ (n m:Nat) (K:Kc R):Ueh.T (O R):=fun x1 x2 x3 x4 x5 x6=>UcC n m x1 x2 x3 x4 x5 x6 (fun y1 y2 y3 y4 y5=>xL Uc1 8 K .ret [.p (.fb [.sh y1]),.p (.fb [.sh y2]),vB y3,vI y4,vB y5]) (fun y1 y2 y3=>xL Uc1 8 K (.exit 2) [.p (.fb [.sh y1]),.p (.fb [.sh y2]),dD,dD,vB y3])
abbrev UsD (n:Nat) (K:Kc R) (l0:Ueh.T (O R)):Ueh.T (O R):=fun x1 x2 x3 x4 x5 x6=>Ufi n l0 x1 x2 x3 x4 x5 x6 (fun y1 y2 y3 y4 y5=>xL Uc1 8 K .ret [.p (.fb [.sh y1]),.p (.fb [.sh y2]),vB y3,vI y4,vB y5]) (fun y1 y2 y3=>xL Uc1 8 K (.exit 2) [.p (.fb [.sh y1]),.p (.fb [.sh y2]),dD,dD,vB y3])
abbrev Uwr (n:Nat):Orc R:=oL Uc1 (E59 n) n 8 Uon Ueh (UlJ n n) (oL Uc1 (E59 n) n 3 Uom Ueg (UlI n n) oN)
abbrev UvZ (n:Nat):Orc R:=oN
abbrev K59 (R:Type) (n:Nat):=JcH (R:=R) Tryz.prog (UqK n) Uc1 n (75,[]) (Uwr n) (UvZ n)
theorem UuO (n:Nat):K59 R n (false,3,Uom):=JkE (lo:=Uwr n) (cu:=UvZ n) (pO pN (by kernel_rfl)) Ueg (UlI n n) (JiD (F:=UlI n) Ueg (UsC n) (fun K _ _ _ _ _ _ _ _=>rfl) (fun _ _=>rfl) (fun L K _ _ _ _ _ _ _ _=>by show _=_; kernel_rfl) n) fun _ _=>rfl
theorem UuP (n:Nat):K59 R n (false,8,Uon):=JkE (lo:=Uwr n) (cu:=UvZ n) (pO pN (by kernel_rfl)) Ueh (UlJ n n) (JiD (F:=UlJ n) Ueh (UsD n) (fun K _ _ _ _ _ _=>rfl) (fun _ _=>rfl) (fun L K _ _ _ _ _ _=>by show _=_; kernel_rfl) n) fun _ _=>rfl
theorem UBA (n:Nat):Je6 (K59 R n) (JaJ Uc1 (Jlk Tryz.f59)):=pO (pC (UuO n) (pC (UuP n) pN)) (by kernel_rfl)
abbrev t59:Sl (List SV):=(.c (sP (sFb (.c sSh .n))) (.c (sP (sFb (.c (Jlu .i64) (.c sSh .n)))) (.c (sP (sFb (.c sSh .n))) .n)))
abbrev f59 (n:Nat) (K:List SV→O R):t59.T (O R):=fun x1 x2 x3 x4=>p59 n x1 x2 x3 x4 (fun y1 y2=>K [vB y1,vI y2])
abbrev UyE (n:Nat):FS:=fT [false,false,false] t59 (f59 n)
theorem UAS (n:Nat):FSound Tryz.prog GI 59 (UyE n):=gd Uc1 n (UkX n) Tryz.func59 (.cons (UkX n) t59 (f59 n) (fun K _ _ _ _=>(Jkp (c:=Jlk Tryz.f59) (by kernel_rfl) (UBA n) K).trans (by kernel_rfl)) .nil) (by kernel_rfl)
def Uab:Ann:={ loops:=[(4,ids [1,31,32,33],ids [1,2]),(10,ids [1,42,43,44],ids [1,2])],cuts:=[(3,ids [1],ids [2]),(17,ids [1],ids [2]),(23,ids [1],ids [2])],frz:=[],rm:=[.id] }
abbrev UeE (n:Nat):Env:=eC 76 (UyK n) (eC 66 (Uwb n) (eC 65 (Uvy n) (eC 59 (UyE n) (eC 35 (Uyx n) (eC 29 (Uyw n) (eC 17 (Uv5 n) eN))))))
theorem UeF (n:Nat):EnvOK Tryz.prog GI (UeE n):=.cons (.cons (.cons (.cons (.cons (.cons (.cons (.nil) (Uy6 n)) (UAK n)) (UAL n)) (UAS n)) (UwZ n)) (Uzc n)) (UAY n)
def Umk (n:Nat) (l0:Int→LP→LP→LP→LP→Bool→Int→LP→LP→LP→Int→Int→O R) (x1:Int) (x2 x3 x4 x5:LP) (x6:Bool) (x7:Int) (x8 x9 x10:LP) (x11 x12:Int) (k0:Int→LP→LP→LP→LP→Bool→Int→LP→LP→Int→O R) (k1:Int→LP→LP→LP→LP→Bool→Int→LP→LP→O R):O R :=
 bif (decide (x12<x11)) then (bif (inR x12 ((x10).length)) then (Jkq ((x10).getD ((x12:Int).toNat) (.v (.bool false))) fun e13=>p66 n e13 (fun y14=>bif (!y14) then (k0 x1 x2 x3 x4 x5 x6 x7 x8 x9 3) else (l0 x1 x2 x3 x4 x5 x6 x7 x8 x9 x10 x11 (IntKind.i64.wrap (x12 + 1))))) else none) else (k1 x1 x2 x3 x4 x5 x6 x7 x8 x9)
def UgY (n:Nat):Nat→Int→LP→LP→LP→LP→Bool→Int→LP→LP→LP→Int→Int→(Int→LP→LP→LP→LP→Bool→Int→LP→LP→Int→O R)→(Int→LP→LP→LP→LP→Bool→Int→LP→LP→O R)→O R
 | 0,_,_,_,_,_,_,_,_,_,_,_,_,_,_=>none
 | m + 1,x1,x2,x3,x4,x5,x6,x7,x8,x9,x10,x11,x12,k0,k1=>Umk n (fun x1 x2 x3 x4 x5 x6 x7 x8 x9 x10 x11 x12=>UgY n m x1 x2 x3 x4 x5 x6 x7 x8 x9 x10 x11 x12 k0 k1) x1 x2 x3 x4 x5 x6 x7 x8 x9 x10 x11 x12 k0 k1
def Uuo (n:Nat) (x1:Int) (x2 x3 x4 x5:LP) (x6:Bool) (x7:Int) (x8 x9 x10:LP) (x11 x12:Int) (k0:Int→LP→LP→LP→LP→Bool→Int→LP→LP→Int→O R) (k1:Int→LP→LP→LP→LP→Bool→Int→LP→LP→O R):O R:=UgY n n x1 x2 x3 x4 x5 x6 x7 x8 x9 x10 x11 x12 k0 k1
def UiT (n:Nat) (l0:Int→LP→LP→LP→LP→Bool→Int→LP→LP→LP→Int→Int→O R) (x1:Int) (x2 x3 x4 x5:LP) (x6:Bool) (x7:Int) (x8 x9 x10:LP) (x11 x12:Int) (k0:Int→LP→LP→LP→LP→Bool→Int→LP→LP→Int→O R) (k1:Int→LP→LP→LP→LP→Bool→Int→LP→LP→O R):O R :=
 bif (decide (x12<x11)) then (bif (inR x12 ((x10).length)) then (Jkq ((x10).getD ((x12:Int).toNat) (.v (.bool false))) fun e13=>bif (((e13).length:Int) != x1) then (k0 x1 x2 x3 x4 x5 x6 x7 x8 x9 6) else (l0 x1 x2 x3 x4 x5 x6 x7 x8 x9 x10 x11 (IntKind.i64.wrap (x12 + 1)))) else none) else (k1 x1 x2 x3 x4 x5 x6 x7 x8 x9)
def Ufa (n:Nat):Nat→Int→LP→LP→LP→LP→Bool→Int→LP→LP→LP→Int→Int→(Int→LP→LP→LP→LP→Bool→Int→LP→LP→Int→O R)→(Int→LP→LP→LP→LP→Bool→Int→LP→LP→O R)→O R
 | 0,_,_,_,_,_,_,_,_,_,_,_,_,_,_=>none
 | m + 1,x1,x2,x3,x4,x5,x6,x7,x8,x9,x10,x11,x12,k0,k1=>UiT n (fun x1 x2 x3 x4 x5 x6 x7 x8 x9 x10 x11 x12=>Ufa n m x1 x2 x3 x4 x5 x6 x7 x8 x9 x10 x11 x12 k0 k1) x1 x2 x3 x4 x5 x6 x7 x8 x9 x10 x11 x12 k0 k1
def Ure (n:Nat) (x1:Int) (x2 x3 x4 x5:LP) (x6:Bool) (x7:Int) (x8 x9 x10:LP) (x11 x12:Int) (k0:Int→LP→LP→LP→LP→Bool→Int→LP→LP→Int→O R) (k1:Int→LP→LP→LP→LP→Bool→Int→LP→LP→O R):O R:=Ufa n n x1 x2 x3 x4 x5 x6 x7 x8 x9 x10 x11 x12 k0 k1
def UgX (n:Nat) (x1:Int) (x2 x3 x4 x5:LP) (x6:Bool) (x7:Int) (x8 x9:LP) (k0:Int→O R):O R :=
 p29 n x7 x8 x9 (fun y10 y11=>bif (y11 != 0) then (k0 y11) else (bif (!y10) then (k0 16) else (k0 0)))
def UgW (n:Nat) (x1:Int) (x2 x3 x4 x5:LP) (x6:Bool) (x7:Int) (x8 x9:LP) (k0:Int→O R):O R :=
 bif (decide (((x4).length:Int)>0)) then (bif (inR 0 ((x4).length)) then (Jkq ((x4).getD ((0:Int).toNat) (.v (.bool false))) fun e10=>p17 n x1 x2 e10 (fun y11 y12=>bif (y12 != 0) then (k0 y12) else (bif (!y11) then (k0 15) else (UgX n x1 x2 x3 x4 x5 x6 x7 x8 x9 (fun y13=>k0 y13))))) else none) else (UgX n x1 x2 x3 x4 x5 x6 x7 x8 x9 (fun y14=>k0 y14))
def Uo9 (n:Nat) (x1:Int) (x2 x3 x4 x5:LP) (x6:Bool) (x7:Int) (x8 x9:LP) (k0:Int→O R):O R :=
 Uuo n x1 x2 x3 x4 x5 x6 x7 x8 x9 x4 ((x4).length:Int) 0 (fun y10 y11 y12 y13 y14 y15 y16 y17 y18 y19=>k0 y19) (fun y20 y21 y22 y23 y24 y25 y26 y27 y28=>Ure n y20 y21 y22 y23 y24 y25 y26 y27 y28 y23 ((y23).length:Int) 0 (fun y29 y30 y31 y32 y33 y34 y35 y36 y37 y38=>k0 y38) (fun y39 y40 y41 y42 y43 y44 y45 y46 y47=>bif y44 then (bif (bif true then (((y43).length:Int) != ((y40).length:Int)) else false) then (k0 6) else (UgW n y39 y40 y41 y42 y43 y44 y45 y46 y47 (fun y48=>k0 y48))) else (UgW n y39 y40 y41 y42 y43 y44 y45 y46 y47 (fun y49=>k0 y49))))
def p32 (n:Nat) (x1:Int) (x2 x3 x4 x5:LP) (x6:Bool) (x7:Int) (x8 x9:LP) (k0:Int→O R):O R :=
 p65 n x1 x2 (fun y10=>bif (y10 != 0) then (k0 3) else (p76 n x1 x3 (fun y11=>bif (bif false then true else (!y11)) then (k0 3) else (p66 n x5 (fun y12=>bif (bif false then true else (!y12)) then (k0 3) else (Uo9 n x1 x2 x3 x4 x5 x6 x7 x8 x9 (fun y13=>k0 y13)))))))
def Uf4 (n:Nat) (l0:Int→LP→LP→LP→LP→Bool→Int→LP→LP→LP→LP→LP→Int→Int→O R) (x1:Int) (x2 x3 x4 x5:LP) (x6:Bool) (x7:Int) (x8 x9 x10 x11 x12:LP) (x13 x14:Int) (k0:Int→LP→LP→LP→LP→Bool→Int→LP→LP→LP→LP→Int→O R) (k1:Int→LP→LP→LP→LP→Bool→Int→LP→LP→LP→LP→O R):O R :=
 bif (decide (x14<x13)) then (bif (inR x14 ((x12).length)) then (Jkq ((x12).getD ((x14:Int).toNat) (.v (.bool false))) fun e15=>p66 n e15 (fun y16=>bif (!y16) then (k0 x1 x2 x3 x4 x5 x6 x7 x8 x9 x10 x11 3) else (l0 x1 x2 x3 x4 x5 x6 x7 x8 x9 x10 x11 x12 x13 (IntKind.i64.wrap (x14 + 1))))) else none) else (k1 x1 x2 x3 x4 x5 x6 x7 x8 x9 x10 x11)
def UdH (n:Nat):Nat→Int→LP→LP→LP→LP→Bool→Int→LP→LP→LP→LP→LP→Int→Int→(Int→LP→LP→LP→LP→Bool→Int→LP→LP→LP→LP→Int→O R)→(Int→LP→LP→LP→LP→Bool→Int→LP→LP→LP→LP→O R)→O R
 | 0,_,_,_,_,_,_,_,_,_,_,_,_,_,_,_,_=>none
 | m + 1,x1,x2,x3,x4,x5,x6,x7,x8,x9,x10,x11,x12,x13,x14,k0,k1=>Uf4 n (fun x1 x2 x3 x4 x5 x6 x7 x8 x9 x10 x11 x12 x13 x14=>UdH n m x1 x2 x3 x4 x5 x6 x7 x8 x9 x10 x11 x12 x13 x14 k0 k1) x1 x2 x3 x4 x5 x6 x7 x8 x9 x10 x11 x12 x13 x14 k0 k1
def UnA (n:Nat) (x1:Int) (x2 x3 x4 x5:LP) (x6:Bool) (x7:Int) (x8 x9 x10 x11 x12:LP) (x13 x14:Int) (k0:Int→LP→LP→LP→LP→Bool→Int→LP→LP→LP→LP→Int→O R) (k1:Int→LP→LP→LP→LP→Bool→Int→LP→LP→LP→LP→O R):O R:=UdH n n x1 x2 x3 x4 x5 x6 x7 x8 x9 x10 x11 x12 x13 x14 k0 k1
def UdX (n:Nat) (l0:Int→LP→LP→LP→LP→Bool→Int→LP→LP→LP→LP→LP→Int→Int→O R) (x1:Int) (x2 x3 x4 x5:LP) (x6:Bool) (x7:Int) (x8 x9 x10 x11 x12:LP) (x13 x14:Int) (k0:Int→LP→LP→LP→LP→Bool→Int→LP→LP→LP→LP→Int→O R) (k1:Int→LP→LP→LP→LP→Bool→Int→LP→LP→LP→LP→O R):O R :=
 bif (decide (x14<x13)) then (bif (inR x14 ((x12).length)) then (Jkq ((x12).getD ((x14:Int).toNat) (.v (.bool false))) fun e15=>bif (((e15).length:Int) != x1) then (k0 x1 x2 x3 x4 x5 x6 x7 x8 x9 x10 x11 6) else (l0 x1 x2 x3 x4 x5 x6 x7 x8 x9 x10 x11 x12 x13 (IntKind.i64.wrap (x14 + 1)))) else none) else (k1 x1 x2 x3 x4 x5 x6 x7 x8 x9 x10 x11)
def Ucu (n:Nat):Nat→Int→LP→LP→LP→LP→Bool→Int→LP→LP→LP→LP→LP→Int→Int→(Int→LP→LP→LP→LP→Bool→Int→LP→LP→LP→LP→Int→O R)→(Int→LP→LP→LP→LP→Bool→Int→LP→LP→LP→LP→O R)→O R
 | 0,_,_,_,_,_,_,_,_,_,_,_,_,_,_,_,_=>none
 | m + 1,x1,x2,x3,x4,x5,x6,x7,x8,x9,x10,x11,x12,x13,x14,k0,k1=>UdX n (fun x1 x2 x3 x4 x5 x6 x7 x8 x9 x10 x11 x12 x13 x14=>Ucu n m x1 x2 x3 x4 x5 x6 x7 x8 x9 x10 x11 x12 x13 x14 k0 k1) x1 x2 x3 x4 x5 x6 x7 x8 x9 x10 x11 x12 x13 x14 k0 k1
def Umj (n:Nat) (x1:Int) (x2 x3 x4 x5:LP) (x6:Bool) (x7:Int) (x8 x9 x10 x11 x12:LP) (x13 x14:Int) (k0:Int→LP→LP→LP→LP→Bool→Int→LP→LP→LP→LP→Int→O R) (k1:Int→LP→LP→LP→LP→Bool→Int→LP→LP→LP→LP→O R):O R:=Ucu n n x1 x2 x3 x4 x5 x6 x7 x8 x9 x10 x11 x12 x13 x14 k0 k1
def UdG (n:Nat) (x1:Int) (x2 x3 x4 x5:LP) (x6:Bool) (x7:Int) (x8 x9 x10 x11:LP) (k0:Int→O R):O R :=
 p35 n x7 x8 x9 x10 x11 (fun y12 y13=>bif (y13 != 0) then (k0 y13) else (bif (!y12) then (k0 16) else (k0 0)))
def UdF (n:Nat) (x1:Int) (x2 x3 x4 x5:LP) (x6:Bool) (x7:Int) (x8 x9 x10 x11:LP) (k0:Int→O R):O R :=
 bif (decide (((x4).length:Int)>0)) then (bif (inR 0 ((x4).length)) then (Jkq ((x4).getD ((0:Int).toNat) (.v (.bool false))) fun e12=>p17 n x1 x2 e12 (fun y13 y14=>bif (y14 != 0) then (k0 y14) else (bif (!y13) then (k0 15) else (UdG n x1 x2 x3 x4 x5 x6 x7 x8 x9 x10 x11 (fun y15=>k0 y15))))) else none) else (UdG n x1 x2 x3 x4 x5 x6 x7 x8 x9 x10 x11 (fun y16=>k0 y16))
def UiS (n:Nat) (x1:Int) (x2 x3 x4 x5:LP) (x6:Bool) (x7:Int) (x8 x9 x10 x11:LP) (k0:Int→O R):O R :=
 UnA n x1 x2 x3 x4 x5 x6 x7 x8 x9 x10 x11 x4 ((x4).length:Int) 0 (fun y12 y13 y14 y15 y16 y17 y18 y19 y20 y21 y22 y23=>k0 y23) (fun y24 y25 y26 y27 y28 y29 y30 y31 y32 y33 y34=>Umj n y24 y25 y26 y27 y28 y29 y30 y31 y32 y33 y34 y27 ((y27).length:Int) 0 (fun y35 y36 y37 y38 y39 y40 y41 y42 y43 y44 y45 y46=>k0 y46) (fun y47 y48 y49 y50 y51 y52 y53 y54 y55 y56 y57=>bif y52 then (bif (bif true then (((y51).length:Int) != ((y48).length:Int)) else false) then (k0 6) else (UdF n y47 y48 y49 y50 y51 y52 y53 y54 y55 y56 y57 (fun y58=>k0 y58))) else (UdF n y47 y48 y49 y50 y51 y52 y53 y54 y55 y56 y57 (fun y59=>k0 y59))))
def Uup (n:Nat) (x1:Int) (x2 x3 x4 x5:LP) (x6:Bool) (x7:Int) (x8 x9 x10 x11:LP) (k0:Int→O R):O R :=
 p65 n x1 x2 (fun y12=>bif (y12 != 0) then (k0 3) else (p76 n x1 x3 (fun y13=>bif (bif false then true else (!y13)) then (k0 3) else (p66 n x5 (fun y14=>bif (bif false then true else (!y14)) then (k0 3) else (UiS n x1 x2 x3 x4 x5 x6 x7 x8 x9 x10 x11 (fun y15=>k0 y15)))))))
def UdI (n:Nat) (l0:Int→LP→LP→LP→LP→Bool→LP→Int→LP→LP→LP→Int→Int→O R) (x1:Int) (x2 x3 x4 x5:LP) (x6:Bool) (x7:LP) (x8:Int) (x9 x10 x11:LP) (x12 x13:Int) (k0:Int→LP→LP→LP→LP→Bool→LP→Int→LP→LP→Int→O R) (k1:Int→LP→LP→LP→LP→Bool→LP→Int→LP→LP→O R):O R :=
 bif (decide (x13<x12)) then (bif (inR x13 ((x11).length)) then (Jkq ((x11).getD ((x13:Int).toNat) (.v (.bool false))) fun e14=>p66 n e14 (fun y15=>bif (!y15) then (k0 x1 x2 x3 x4 x5 x6 x7 x8 x9 x10 3) else (l0 x1 x2 x3 x4 x5 x6 x7 x8 x9 x10 x11 x12 (IntKind.i64.wrap (x13 + 1))))) else none) else (k1 x1 x2 x3 x4 x5 x6 x7 x8 x9 x10)
def Ucc (n:Nat):Nat→Int→LP→LP→LP→LP→Bool→LP→Int→LP→LP→LP→Int→Int→(Int→LP→LP→LP→LP→Bool→LP→Int→LP→LP→Int→O R)→(Int→LP→LP→LP→LP→Bool→LP→Int→LP→LP→O R)→O R
 | 0,_,_,_,_,_,_,_,_,_,_,_,_,_,_,_=>none
 | m + 1,x1,x2,x3,x4,x5,x6,x7,x8,x9,x10,x11,x12,x13,k0,k1=>UdI n (fun x1 x2 x3 x4 x5 x6 x7 x8 x9 x10 x11 x12 x13=>Ucc n m x1 x2 x3 x4 x5 x6 x7 x8 x9 x10 x11 x12 x13 k0 k1) x1 x2 x3 x4 x5 x6 x7 x8 x9 x10 x11 x12 x13 k0 k1
def UiU (n:Nat) (x1:Int) (x2 x3 x4 x5:LP) (x6:Bool) (x7:LP) (x8:Int) (x9 x10 x11:LP) (x12 x13:Int) (k0:Int→LP→LP→LP→LP→Bool→LP→Int→LP→LP→Int→O R) (k1:Int→LP→LP→LP→LP→Bool→LP→Int→LP→LP→O R):O R:=Ucc n n x1 x2 x3 x4 x5 x6 x7 x8 x9 x10 x11 x12 x13 k0 k1
def Ucv (n:Nat) (l0:Int→LP→LP→LP→LP→Bool→LP→Int→LP→LP→LP→Int→Int→O R) (x1:Int) (x2 x3 x4 x5:LP) (x6:Bool) (x7:LP) (x8:Int) (x9 x10 x11:LP) (x12 x13:Int) (k0:Int→LP→LP→LP→LP→Bool→LP→Int→LP→LP→Int→O R) (k1:Int→LP→LP→LP→LP→Bool→LP→Int→LP→LP→O R):O R :=
 bif (decide (x13<x12)) then (bif (inR x13 ((x11).length)) then (Jkq ((x11).getD ((x13:Int).toNat) (.v (.bool false))) fun e14=>bif (((e14).length:Int) != x1) then (k0 x1 x2 x3 x4 x5 x6 x7 x8 x9 x10 6) else (l0 x1 x2 x3 x4 x5 x6 x7 x8 x9 x10 x11 x12 (IntKind.i64.wrap (x13 + 1)))) else none) else (k1 x1 x2 x3 x4 x5 x6 x7 x8 x9 x10)
def Ubm (n:Nat):Nat→Int→LP→LP→LP→LP→Bool→LP→Int→LP→LP→LP→Int→Int→(Int→LP→LP→LP→LP→Bool→LP→Int→LP→LP→Int→O R)→(Int→LP→LP→LP→LP→Bool→LP→Int→LP→LP→O R)→O R
 | 0,_,_,_,_,_,_,_,_,_,_,_,_,_,_,_=>none
 | m + 1,x1,x2,x3,x4,x5,x6,x7,x8,x9,x10,x11,x12,x13,k0,k1=>Ucv n (fun x1 x2 x3 x4 x5 x6 x7 x8 x9 x10 x11 x12 x13=>Ubm n m x1 x2 x3 x4 x5 x6 x7 x8 x9 x10 x11 x12 x13 k0 k1) x1 x2 x3 x4 x5 x6 x7 x8 x9 x10 x11 x12 x13 k0 k1
def Uf3 (n:Nat) (x1:Int) (x2 x3 x4 x5:LP) (x6:Bool) (x7:LP) (x8:Int) (x9 x10 x11:LP) (x12 x13:Int) (k0:Int→LP→LP→LP→LP→Bool→LP→Int→LP→LP→Int→O R) (k1:Int→LP→LP→LP→LP→Bool→LP→Int→LP→LP→O R):O R:=Ubm n n x1 x2 x3 x4 x5 x6 x7 x8 x9 x10 x11 x12 x13 k0 k1
def Ucb (n:Nat) (x1:Int) (x2 x3 x4 x5:LP) (x6:Bool) (x7:LP) (x8:Int) (x9 x10:LP) (k0:Int→O R):O R :=
 p59 n x7 x8 x9 x10 (fun y11 y12=>bif (y12 != 0) then (k0 y12) else (bif (!y11) then (k0 16) else (k0 0)))
def Uca (n:Nat) (x1:Int) (x2 x3 x4 x5:LP) (x6:Bool) (x7:LP) (x8:Int) (x9 x10:LP) (k0:Int→O R):O R :=
 bif (decide (((x4).length:Int)>0)) then (bif (inR 0 ((x4).length)) then (Jkq ((x4).getD ((0:Int).toNat) (.v (.bool false))) fun e11=>p17 n x1 x2 e11 (fun y12 y13=>bif (y13 != 0) then (k0 y13) else (bif (!y12) then (k0 15) else (Ucb n x1 x2 x3 x4 x5 x6 x7 x8 x9 x10 (fun y14=>k0 y14))))) else none) else (Ucb n x1 x2 x3 x4 x5 x6 x7 x8 x9 x10 (fun y15=>k0 y15))
def Uf (n:Nat) (x1:Int) (x2 x3 x4 x5:LP) (x6:Bool) (x7:LP) (x8:Int) (x9 x10:LP) (k0:Int→O R):O R :=
 UiU n x1 x2 x3 x4 x5 x6 x7 x8 x9 x10 x4 ((x4).length:Int) 0 (fun y11 y12 y13 y14 y15 y16 y17 y18 y19 y20 y21=>k0 y21) (fun y22 y23 y24 y25 y26 y27 y28 y29 y30 y31=>Uf3 n y22 y23 y24 y25 y26 y27 y28 y29 y30 y31 y25 ((y25).length:Int) 0 (fun y32 y33 y34 y35 y36 y37 y38 y39 y40 y41 y42=>k0 y42) (fun y43 y44 y45 y46 y47 y48 y49 y50 y51 y52=>bif y48 then (bif (bif true then (((y47).length:Int) != ((y44).length:Int)) else false) then (k0 6) else (Uca n y43 y44 y45 y46 y47 y48 y49 y50 y51 y52 (fun y53=>k0 y53))) else (Uca n y43 y44 y45 y46 y47 y48 y49 y50 y51 y52 (fun y54=>k0 y54))))
def Urf (n:Nat) (x1:Int) (x2 x3 x4 x5:LP) (x6:Bool) (x7:LP) (x8:Int) (x9 x10:LP) (k0:Int→O R):O R :=
 p65 n x1 x2 (fun y11=>bif (y11 != 0) then (k0 3) else (p76 n x1 x3 (fun y12=>bif (bif false then true else (!y12)) then (k0 3) else (p66 n x5 (fun y13=>bif (bif false then true else (!y13)) then (k0 3) else (Uf n x1 x2 x3 x4 x5 x6 x7 x8 x9 x10 (fun y14=>k0 y14)))))))
abbrev E32 (n:Nat):Code→Fr→Kc R→O R:=evC Tryz.prog (UeE n) Uab n (97,[])
noncomputable def UjY:Code:=Jj3 (Jlk Tryz.f32) [1,1]
abbrev Uhi:Sl (List SV):=(.c (sBx 74 (cI (cH (cH (cH (cH (cB (.c (sP (JlI 29 (.c (sFb (.c (Jlu .i64) (.c sSh .n))) (.c (sFb (.c sSh .n)) .n)))) .n)))))))) .n)
abbrev Uhj:Sl (List SV):=(.c (sBx 74 (cI (cH (cH (cH (cH (cB (.c (sP (JlI 35 (.c (sFb (.c (Jlu .i64) (.c sSh .n))) (.c (sFb (.c sSh .n)) (.c (sFb (.c sSh .n)) (.c (sFb (.c sSh .n)) .n)))))) .n)))))))) .n)
abbrev Uhk:Sl (List SV):=(.c (sBx 74 (cI (cH (cH (cH (cH (cB (.c (sP (JlI 59 (.c (sFb (.c sSh .n)) (.c (sFb (.c (Jlu .i64) (.c sSh .n))) (.c (sFb (.c sSh .n)) .n))))) .n)))))))) .n)
abbrev Uly (n:Nat) (K:Kc R):Uhi.T (O R):=fun x1 x2 x3 x4 x5 x6 x7 x8 x9=>Uo9 n x1 x2 x3 x4 x5 x6 x7 x8 x9 (fun y1=>xC Uab 3 K .ret [vI y1])
abbrev Ulz (n:Nat) (K:Kc R):Uhj.T (O R):=fun x1 x2 x3 x4 x5 x6 x7 x8 x9 x10 x11=>UiS n x1 x2 x3 x4 x5 x6 x7 x8 x9 x10 x11 (fun y1=>xC Uab 3 K .ret [vI y1])
abbrev UlA (n:Nat) (K:Kc R):Uhk.T (O R):=fun x1 x2 x3 x4 x5 x6 x7 x8 x9 x10=>Uf n x1 x2 x3 x4 x5 x6 x7 x8 x9 x10 (fun y1=>xC Uab 3 K .ret [vI y1])
noncomputable def Ugs:Code:=Jj3 (Jlk Tryz.f32) [1,1,1,1,1]
abbrev UfI:Sl (List SV):=(.c (sBx 74 (cI (cH (cH (cH (cH (cB (.c (sP (JlI 29 (.c (sFb (.c (Jlu .i64) (.c sSh .n))) (.c (sFb (.c sSh .n)) .n)))) .n)))))))) .n)
abbrev UfJ:Sl (List SV):=(.c (sBx 74 (cI (cH (cH (cH (cH (cB (.c (sP (JlI 35 (.c (sFb (.c (Jlu .i64) (.c sSh .n))) (.c (sFb (.c sSh .n)) (.c (sFb (.c sSh .n)) (.c (sFb (.c sSh .n)) .n)))))) .n)))))))) .n)
abbrev UfK:Sl (List SV):=(.c (sBx 74 (cI (cH (cH (cH (cH (cB (.c (sP (JlI 59 (.c (sFb (.c sSh .n)) (.c (sFb (.c (Jlu .i64) (.c sSh .n))) (.c (sFb (.c sSh .n)) .n))))) .n)))))))) .n)
abbrev Uis (n:Nat) (K:Kc R):UfI.T (O R):=fun x1 x2 x3 x4 x5 x6 x7 x8 x9=>UgW n x1 x2 x3 x4 x5 x6 x7 x8 x9 (fun y1=>xC Uab 17 K .ret [vI y1])
abbrev Uit (n:Nat) (K:Kc R):UfJ.T (O R):=fun x1 x2 x3 x4 x5 x6 x7 x8 x9 x10 x11=>UdF n x1 x2 x3 x4 x5 x6 x7 x8 x9 x10 x11 (fun y1=>xC Uab 17 K .ret [vI y1])
abbrev Uiu (n:Nat) (K:Kc R):UfK.T (O R):=fun x1 x2 x3 x4 x5 x6 x7 x8 x9 x10=>Uca n x1 x2 x3 x4 x5 x6 x7 x8 x9 x10 (fun y1=>xC Uab 17 K .ret [vI y1])
noncomputable def Ugt:Code:=Jj3 (Jlk Tryz.f32) [1,1,1,1,1,1]
abbrev UfL:Sl (List SV):=(.c (sBx 74 (cI (cH (cH (cH (cH (cB (.c (sP (JlI 29 (.c (sFb (.c (Jlu .i64) (.c sSh .n))) (.c (sFb (.c sSh .n)) .n)))) .n)))))))) .n)
abbrev UfM:Sl (List SV):=(.c (sBx 74 (cI (cH (cH (cH (cH (cB (.c (sP (JlI 35 (.c (sFb (.c (Jlu .i64) (.c sSh .n))) (.c (sFb (.c sSh .n)) (.c (sFb (.c sSh .n)) (.c (sFb (.c sSh .n)) .n)))))) .n)))))))) .n)
abbrev UfN:Sl (List SV):=(.c (sBx 74 (cI (cH (cH (cH (cH (cB (.c (sP (JlI 59 (.c (sFb (.c sSh .n)) (.c (sFb (.c (Jlu .i64) (.c sSh .n))) (.c (sFb (.c sSh .n)) .n))))) .n)))))))) .n)
abbrev Uiv (n:Nat) (K:Kc R):UfL.T (O R):=fun x1 x2 x3 x4 x5 x6 x7 x8 x9=>UgX n x1 x2 x3 x4 x5 x6 x7 x8 x9 (fun y1=>xC Uab 23 K .ret [vI y1])
abbrev Uiw (n:Nat) (K:Kc R):UfM.T (O R):=fun x1 x2 x3 x4 x5 x6 x7 x8 x9 x10 x11=>UdG n x1 x2 x3 x4 x5 x6 x7 x8 x9 x10 x11 (fun y1=>xC Uab 23 K .ret [vI y1])
abbrev Uix (n:Nat) (K:Kc R):UfN.T (O R):=fun x1 x2 x3 x4 x5 x6 x7 x8 x9 x10=>Ucb n x1 x2 x3 x4 x5 x6 x7 x8 x9 x10 (fun y1=>xC Uab 23 K .ret [vI y1])
noncomputable def UdT:Code:=Jj3 (Jlk Tryz.f32) [1,1,0,1,0,0]
abbrev UbG:Sl (List SV):=(.c (sBx 74 (cI (cH (cH (cH (cH (cB (.c (sP (JlI 29 (.c (sFb (.c (Jlu .i64) (.c sSh .n))) (.c (sFb (.c sSh .n)) .n)))) .n)))))))) (cH (cI (cI .n))))
abbrev UbH:Sl (List SV):=(.c (sBx 74 (cI (cH (cH (cH (cH (cB (.c (sP (JlI 35 (.c (sFb (.c (Jlu .i64) (.c sSh .n))) (.c (sFb (.c sSh .n)) (.c (sFb (.c sSh .n)) (.c (sFb (.c sSh .n)) .n)))))) .n)))))))) (cH (cI (cI .n))))
abbrev UbI:Sl (List SV):=(.c (sBx 74 (cI (cH (cH (cH (cH (cB (.c (sP (JlI 59 (.c (sFb (.c sSh .n)) (.c (sFb (.c (Jlu .i64) (.c sSh .n))) (.c (sFb (.c sSh .n)) .n))))) .n)))))))) (cH (cI (cI .n))))
abbrev UeK (n m:Nat) (K:Kc R):UbG.T (O R):=fun x1 x2 x3 x4 x5 x6 x7 x8 x9 x10 x11 x12=>UgY n m x1 x2 x3 x4 x5 x6 x7 x8 x9 x10 x11 x12 (fun y1 y2 y3 y4 y5 y6 y7 y8 y9 y10=>xL Uab 4 K .ret [.bx 74 [vI y1,vH y2,vH y3,vH y4,vH y5,vB y6,.p (.clo 29 [.fb [.v (.int .i64 y7),.sh y8],.fb [.sh y9]])],vI y10]) (fun y1 y2 y3 y4 y5 y6 y7 y8 y9=>xL Uab 4 K (.exit 0) [.bx 74 [vI y1,vH y2,vH y3,vH y4,vH y5,vB y6,.p (.clo 29 [.fb [.v (.int .i64 y7),.sh y8],.fb [.sh y9]])],dD])
abbrev Uqc (n:Nat) (K:Kc R) (l0:UbG.T (O R)):UbG.T (O R):=fun x1 x2 x3 x4 x5 x6 x7 x8 x9 x10 x11 x12=>Umk n l0 x1 x2 x3 x4 x5 x6 x7 x8 x9 x10 x11 x12 (fun y1 y2 y3 y4 y5 y6 y7 y8 y9 y10=>xL Uab 4 K .ret [.bx 74 [vI y1,vH y2,vH y3,vH y4,vH y5,vB y6,.p (.clo 29 [.fb [.v (.int .i64 y7),.sh y8],.fb [.sh y9]])],vI y10]) (fun y1 y2 y3 y4 y5 y6 y7 y8 y9=>xL Uab 4 K (.exit 0) [.bx 74 [vI y1,vH y2,vH y3,vH y4,vH y5,vB y6,.p (.clo 29 [.fb [.v (.int .i64 y7),.sh y8],.fb [.sh y9]])],dD])
abbrev UeL (n m:Nat) (K:Kc R):UbH.T (O R):=fun x1 x2 x3 x4 x5 x6 x7 x8 x9 x10 x11 x12 x13 x14=>UdH n m x1 x2 x3 x4 x5 x6 x7 x8 x9 x10 x11 x12 x13 x14 (fun y1 y2 y3 y4 y5 y6 y7 y8 y9 y10 y11 y12=>xL Uab 4 K .ret [.bx 74 [vI y1,vH y2,vH y3,vH y4,vH y5,vB y6,.p (.clo 35 [.fb [.v (.int .i64 y7),.sh y8],.fb [.sh y9],.fb [.sh y10],.fb [.sh y11]])],vI y12]) (fun y1 y2 y3 y4 y5 y6 y7 y8 y9 y10 y11=>xL Uab 4 K (.exit 0) [.bx 74 [vI y1,vH y2,vH y3,vH y4,vH y5,vB y6,.p (.clo 35 [.fb [.v (.int .i64 y7),.sh y8],.fb [.sh y9],.fb [.sh y10],.fb [.sh y11]])],dD])
abbrev Uqd (n:Nat) (K:Kc R) (l0:UbH.T (O R)):UbH.T (O R):=fun x1 x2 x3 x4 x5 x6 x7 x8 x9 x10 x11 x12 x13 x14=>Uf4 n l0 x1 x2 x3 x4 x5 x6 x7 x8 x9 x10 x11 x12 x13 x14 (fun y1 y2 y3 y4 y5 y6 y7 y8 y9 y10 y11 y12=>xL Uab 4 K .ret [.bx 74 [vI y1,vH y2,vH y3,vH y4,vH y5,vB y6,.p (.clo 35 [.fb [.v (.int .i64 y7),.sh y8],.fb [.sh y9],.fb [.sh y10],.fb [.sh y11]])],vI y12]) (fun y1 y2 y3 y4 y5 y6 y7 y8 y9 y10 y11=>xL Uab 4 K (.exit 0) [.bx 74 [vI y1,vH y2,vH y3,vH y4,vH y5,vB y6,.p (.clo 35 [.fb [.v (.int .i64 y7),.sh y8],.fb [.sh y9],.fb [.sh y10],.fb [.sh y11]])],dD])
abbrev UeM (n m:Nat) (K:Kc R):UbI.T (O R):=fun x1 x2 x3 x4 x5 x6 x7 x8 x9 x10 x11 x12 x13=>Ucc n m x1 x2 x3 x4 x5 x6 x7 x8 x9 x10 x11 x12 x13 (fun y1 y2 y3 y4 y5 y6 y7 y8 y9 y10 y11=>xL Uab 4 K .ret [.bx 74 [vI y1,vH y2,vH y3,vH y4,vH y5,vB y6,.p (.clo 59 [.fb [.sh y7],.fb [.v (.int .i64 y8),.sh y9],.fb [.sh y10]])],vI y11]) (fun y1 y2 y3 y4 y5 y6 y7 y8 y9 y10=>xL Uab 4 K (.exit 0) [.bx 74 [vI y1,vH y2,vH y3,vH y4,vH y5,vB y6,.p (.clo 59 [.fb [.sh y7],.fb [.v (.int .i64 y8),.sh y9],.fb [.sh y10]])],dD])
abbrev Uqe (n:Nat) (K:Kc R) (l0:UbI.T (O R)):UbI.T (O R):=fun x1 x2 x3 x4 x5 x6 x7 x8 x9 x10 x11 x12 x13=>UdI n l0 x1 x2 x3 x4 x5 x6 x7 x8 x9 x10 x11 x12 x13 (fun y1 y2 y3 y4 y5 y6 y7 y8 y9 y10 y11=>xL Uab 4 K .ret [.bx 74 [vI y1,vH y2,vH y3,vH y4,vH y5,vB y6,.p (.clo 59 [.fb [.sh y7],.fb [.v (.int .i64 y8),.sh y9],.fb [.sh y10]])],vI y11]) (fun y1 y2 y3 y4 y5 y6 y7 y8 y9 y10=>xL Uab 4 K (.exit 0) [.bx 74 [vI y1,vH y2,vH y3,vH y4,vH y5,vB y6,.p (.clo 59 [.fb [.sh y7],.fb [.v (.int .i64 y8),.sh y9],.fb [.sh y10]])],dD])
noncomputable def Ucj:Code:=Jj3 (Jlk Tryz.f32) [1,1,1,0,1,0,0]
abbrev UaV:Sl (List SV):=(.c (sBx 74 (cI (cH (cH (cH (cH (cB (.c (sP (JlI 29 (.c (sFb (.c (Jlu .i64) (.c sSh .n))) (.c (sFb (.c sSh .n)) .n)))) .n)))))))) (cH (cI (cI .n))))
abbrev UaW:Sl (List SV):=(.c (sBx 74 (cI (cH (cH (cH (cH (cB (.c (sP (JlI 35 (.c (sFb (.c (Jlu .i64) (.c sSh .n))) (.c (sFb (.c sSh .n)) (.c (sFb (.c sSh .n)) (.c (sFb (.c sSh .n)) .n)))))) .n)))))))) (cH (cI (cI .n))))
abbrev UaX:Sl (List SV):=(.c (sBx 74 (cI (cH (cH (cH (cH (cB (.c (sP (JlI 59 (.c (sFb (.c sSh .n)) (.c (sFb (.c (Jlu .i64) (.c sSh .n))) (.c (sFb (.c sSh .n)) .n))))) .n)))))))) (cH (cI (cI .n))))
abbrev Uc5 (n m:Nat) (K:Kc R):UaV.T (O R):=fun x1 x2 x3 x4 x5 x6 x7 x8 x9 x10 x11 x12=>Ufa n m x1 x2 x3 x4 x5 x6 x7 x8 x9 x10 x11 x12 (fun y1 y2 y3 y4 y5 y6 y7 y8 y9 y10=>xL Uab 10 K .ret [.bx 74 [vI y1,vH y2,vH y3,vH y4,vH y5,vB y6,.p (.clo 29 [.fb [.v (.int .i64 y7),.sh y8],.fb [.sh y9]])],vI y10]) (fun y1 y2 y3 y4 y5 y6 y7 y8 y9=>xL Uab 10 K (.exit 2) [.bx 74 [vI y1,vH y2,vH y3,vH y4,vH y5,vB y6,.p (.clo 29 [.fb [.v (.int .i64 y7),.sh y8],.fb [.sh y9]])],dD])
abbrev Unb (n:Nat) (K:Kc R) (l0:UaV.T (O R)):UaV.T (O R):=fun x1 x2 x3 x4 x5 x6 x7 x8 x9 x10 x11 x12=>UiT n l0 x1 x2 x3 x4 x5 x6 x7 x8 x9 x10 x11 x12 (fun y1 y2 y3 y4 y5 y6 y7 y8 y9 y10=>xL Uab 10 K .ret [.bx 74 [vI y1,vH y2,vH y3,vH y4,vH y5,vB y6,.p (.clo 29 [.fb [.v (.int .i64 y7),.sh y8],.fb [.sh y9]])],vI y10]) (fun y1 y2 y3 y4 y5 y6 y7 y8 y9=>xL Uab 10 K (.exit 2) [.bx 74 [vI y1,vH y2,vH y3,vH y4,vH y5,vB y6,.p (.clo 29 [.fb [.v (.int .i64 y7),.sh y8],.fb [.sh y9]])],dD])
abbrev Uc6 (n m:Nat) (K:Kc R):UaW.T (O R):=fun x1 x2 x3 x4 x5 x6 x7 x8 x9 x10 x11 x12 x13 x14=>Ucu n m x1 x2 x3 x4 x5 x6 x7 x8 x9 x10 x11 x12 x13 x14 (fun y1 y2 y3 y4 y5 y6 y7 y8 y9 y10 y11 y12=>xL Uab 10 K .ret [.bx 74 [vI y1,vH y2,vH y3,vH y4,vH y5,vB y6,.p (.clo 35 [.fb [.v (.int .i64 y7),.sh y8],.fb [.sh y9],.fb [.sh y10],.fb [.sh y11]])],vI y12]) (fun y1 y2 y3 y4 y5 y6 y7 y8 y9 y10 y11=>xL Uab 10 K (.exit 2) [.bx 74 [vI y1,vH y2,vH y3,vH y4,vH y5,vB y6,.p (.clo 35 [.fb [.v (.int .i64 y7),.sh y8],.fb [.sh y9],.fb [.sh y10],.fb [.sh y11]])],dD])
abbrev Unc (n:Nat) (K:Kc R) (l0:UaW.T (O R)):UaW.T (O R):=fun x1 x2 x3 x4 x5 x6 x7 x8 x9 x10 x11 x12 x13 x14=>UdX n l0 x1 x2 x3 x4 x5 x6 x7 x8 x9 x10 x11 x12 x13 x14 (fun y1 y2 y3 y4 y5 y6 y7 y8 y9 y10 y11 y12=>xL Uab 10 K .ret [.bx 74 [vI y1,vH y2,vH y3,vH y4,vH y5,vB y6,.p (.clo 35 [.fb [.v (.int .i64 y7),.sh y8],.fb [.sh y9],.fb [.sh y10],.fb [.sh y11]])],vI y12]) (fun y1 y2 y3 y4 y5 y6 y7 y8 y9 y10 y11=>xL Uab 10 K (.exit 2) [.bx 74 [vI y1,vH y2,vH y3,vH y4,vH y5,vB y6,.p (.clo 35 [.fb [.v (.int .i64 y7),.sh y8],.fb [.sh y9],.fb [.sh y10],.fb [.sh y11]])],dD])
abbrev Uc7 (n m:Nat) (K:Kc R):UaX.T (O R):=fun x1 x2 x3 x4 x5 x6 x7 x8 x9 x10 x11 x12 x13=>Ubm n m x1 x2 x3 x4 x5 x6 x7 x8 x9 x10 x11 x12 x13 (fun y1 y2 y3 y4 y5 y6 y7 y8 y9 y10 y11=>xL Uab 10 K .ret [.bx 74 [vI y1,vH y2,vH y3,vH y4,vH y5,vB y6,.p (.clo 59 [.fb [.sh y7],.fb [.v (.int .i64 y8),.sh y9],.fb [.sh y10]])],vI y11]) (fun y1 y2 y3 y4 y5 y6 y7 y8 y9 y10=>xL Uab 10 K (.exit 2) [.bx 74 [vI y1,vH y2,vH y3,vH y4,vH y5,vB y6,.p (.clo 59 [.fb [.sh y7],.fb [.v (.int .i64 y8),.sh y9],.fb [.sh y10]])],dD])
abbrev Und (n:Nat) (K:Kc R) (l0:UaX.T (O R)):UaX.T (O R):=fun x1 x2 x3 x4 x5 x6 x7 x8 x9 x10 x11 x12 x13=>Ucv n l0 x1 x2 x3 x4 x5 x6 x7 x8 x9 x10 x11 x12 x13 (fun y1 y2 y3 y4 y5 y6 y7 y8 y9 y10 y11=>xL Uab 10 K .ret [.bx 74 [vI y1,vH y2,vH y3,vH y4,vH y5,vB y6,.p (.clo 59 [.fb [.sh y7],.fb [.v (.int .i64 y8),.sh y9],.fb [.sh y10]])],vI y11]) (fun y1 y2 y3 y4 y5 y6 y7 y8 y9 y10=>xL Uab 10 K (.exit 2) [.bx 74 [vI y1,vH y2,vH y3,vH y4,vH y5,vB y6,.p (.clo 59 [.fb [.sh y7],.fb [.v (.int .i64 y8),.sh y9],.fb [.sh y10]])],dD])
abbrev UdQ (n:Nat):Orc R:=fun i vs K=>JfJ (Nat.beq i 10) (Jjf (UaV.ap vs (Uc5 n n K)) (Jjf (UaW.ap vs (Uc6 n n K)) (Jjf (UaX.ap vs (Uc7 n n K)) (JcB Uab 10 (E32 n Ucj) n vs K)))) ((fun i vs K=>JfJ (Nat.beq i 4) (Jjf (UbG.ap vs (UeK n n K)) (Jjf (UbH.ap vs (UeL n n K)) (Jjf (UbI.ap vs (UeM n n K)) (JcB Uab 4 (E32 n UdT) n vs K)))) (oN i vs K)) i vs K)
abbrev UdP (n:Nat):Orc R:=fun i vs K=>JfJ (Nat.beq i 23) (Jjf (UfL.ap vs (Uiv n K)) (Jjf (UfM.ap vs (Uiw n K)) (Jjf (UfN.ap vs (Uix n K)) (Jkh Uab 23 (E32 n Ugt) vs K)))) ((fun i vs K=>JfJ (Nat.beq i 17) (Jjf (UfI.ap vs (Uis n K)) (Jjf (UfJ.ap vs (Uit n K)) (Jjf (UfK.ap vs (Uiu n K)) (Jkh Uab 17 (E32 n Ugs) vs K)))) ((fun i vs K=>JfJ (Nat.beq i 3) (Jjf (Uhi.ap vs (Uly n K)) (Jjf (Uhj.ap vs (Ulz n K)) (Jjf (Uhk.ap vs (UlA n K)) (Jkh Uab 3 (E32 n UjY) vs K)))) (oN i vs K)) i vs K)) i vs K)
abbrev K32 (R:Type) (n:Nat):=JcH (R:=R) Tryz.prog (UeE n) Uab n (97,[]) (UdQ n) (UdP n)
theorem Ug4 (n:Nat):Je6 (K32 R n) (JaJ Uab UdT):=pO pN (by kernel_rfl)
theorem Uqp (n:Nat):∀ m (K:Kc R),UbG.all (fun vs r=>JcB Uab 4 (JcU Tryz.prog (UeE n) Uab (97,[]) (UdQ n) (UdP n) UdT) m vs K=r) (UeK n m K):=JiD (F:=UeK n) UbG (Uqc n) (fun K _ _ _ _ _ _ _ _ _ _ _ _=>rfl) (fun _ _=>rfl) (fun L K _ _ _ _ _ _ _ _ _ _ _ _=>by show _=_; kernel_rfl)
theorem Uqq (n:Nat):∀ m (K:Kc R),UbH.all (fun vs r=>JcB Uab 4 (JcU Tryz.prog (UeE n) Uab (97,[]) (UdQ n) (UdP n) UdT) m vs K=r) (UeL n m K):=JiD (F:=UeL n) UbH (Uqd n) (fun K _ _ _ _ _ _ _ _ _ _ _ _ _ _=>rfl) (fun _ _=>rfl) (fun L K _ _ _ _ _ _ _ _ _ _ _ _ _ _=>by show _=_; kernel_rfl)
theorem Uqr (n:Nat):∀ m (K:Kc R),UbI.all (fun vs r=>JcB Uab 4 (JcU Tryz.prog (UeE n) Uab (97,[]) (UdQ n) (UdP n) UdT) m vs K=r) (UeM n m K):=JiD (F:=UeM n) UbI (Uqe n) (fun K _ _ _ _ _ _ _ _ _ _ _ _ _=>rfl) (fun _ _=>rfl) (fun L K _ _ _ _ _ _ _ _ _ _ _ _ _=>by show _=_; kernel_rfl)
theorem UuF (n:Nat):K32 R n (false,4,UdT):=JkE (lo:=UdQ n) (cu:=UdP n) (Ug4 n) UbG (UeK n n) (Uqp n n) (JkE (lo:=UdQ n) (cu:=UdP n) (Ug4 n) UbH (UeL n n) (Uqq n n) (JkE (lo:=UdQ n) (cu:=UdP n) (Ug4 n) UbI (UeM n n) (Uqr n n) fun _ _=>rfl))
theorem Uft (n:Nat):Je6 (K32 R n) (JaJ Uab Ucj):=pO pN (by kernel_rfl)
theorem Uno (n:Nat):∀ m (K:Kc R),UaV.all (fun vs r=>JcB Uab 10 (JcU Tryz.prog (UeE n) Uab (97,[]) (UdQ n) (UdP n) Ucj) m vs K=r) (Uc5 n m K):=JiD (F:=Uc5 n) UaV (Unb n) (fun K _ _ _ _ _ _ _ _ _ _ _ _=>rfl) (fun _ _=>rfl) (fun L K _ _ _ _ _ _ _ _ _ _ _ _=>by show _=_; kernel_rfl)
theorem Unp (n:Nat):∀ m (K:Kc R),UaW.all (fun vs r=>JcB Uab 10 (JcU Tryz.prog (UeE n) Uab (97,[]) (UdQ n) (UdP n) Ucj) m vs K=r) (Uc6 n m K):=JiD (F:=Uc6 n) UaW (Unc n) (fun K _ _ _ _ _ _ _ _ _ _ _ _ _ _=>rfl) (fun _ _=>rfl) (fun L K _ _ _ _ _ _ _ _ _ _ _ _ _ _=>by show _=_; kernel_rfl)
theorem Unq (n:Nat):∀ m (K:Kc R),UaX.all (fun vs r=>JcB Uab 10 (JcU Tryz.prog (UeE n) Uab (97,[]) (UdQ n) (UdP n) Ucj) m vs K=r) (Uc7 n m K):=JiD (F:=Uc7 n) UaX (Und n) (fun K _ _ _ _ _ _ _ _ _ _ _ _ _=>rfl) (fun _ _=>rfl) (fun L K _ _ _ _ _ _ _ _ _ _ _ _ _=>by show _=_; kernel_rfl)
theorem UrH (n:Nat):K32 R n (false,10,Ucj):=JkE (lo:=UdQ n) (cu:=UdP n) (Uft n) UaV (Uc5 n n) (Uno n n) (JkE (lo:=UdQ n) (cu:=UdP n) (Uft n) UaW (Uc6 n n) (Unp n n) (JkE (lo:=UdQ n) (cu:=UdP n) (Uft n) UaX (Uc7 n n) (Unq n n) fun _ _=>rfl))
theorem Ufs (n:Nat):Je6 (K32 R n) (JaJ Uab Ugt):=pO pN (by kernel_rfl)
theorem UrG (n:Nat):K32 R n (true,23,Ugt):=JkV (lo:=UdQ n) (cu:=UdP n) (Ufs n) UfL (Uiv n) (fun K _ _ _ _ _ _ _ _ _=>by show _=_; kernel_rfl) (JkV (lo:=UdQ n) (cu:=UdP n) (Ufs n) UfM (Uiw n) (fun K _ _ _ _ _ _ _ _ _ _ _=>by show _=_; kernel_rfl) (JkV (lo:=UdQ n) (cu:=UdP n) (Ufs n) UfN (Uix n) (fun K _ _ _ _ _ _ _ _ _ _=>by show _=_; kernel_rfl) fun _ _=>rfl))
theorem Ufr (n:Nat):Je6 (K32 R n) (JaJ Uab Ugs):=pO (pC (UrG n) pN) (by kernel_rfl)
theorem UrF (n:Nat):K32 R n (true,17,Ugs):=JkV (lo:=UdQ n) (cu:=UdP n) (Ufr n) UfI (Uis n) (fun K _ _ _ _ _ _ _ _ _=>by show _=_; kernel_rfl) (JkV (lo:=UdQ n) (cu:=UdP n) (Ufr n) UfJ (Uit n) (fun K _ _ _ _ _ _ _ _ _ _ _=>by show _=_; kernel_rfl) (JkV (lo:=UdQ n) (cu:=UdP n) (Ufr n) UfK (Uiu n) (fun K _ _ _ _ _ _ _ _ _ _=>by show _=_; kernel_rfl) fun _ _=>rfl))
theorem Ug3 (n:Nat):Je6 (K32 R n) (JaJ Uab UjY):=pO (pC (UuF n) (pC (UrH n) (pC (UrF n) pN))) (by kernel_rfl)
theorem UuE (n:Nat):K32 R n (true,3,UjY):=JkV (lo:=UdQ n) (cu:=UdP n) (Ug3 n) Uhi (Uly n) (fun K _ _ _ _ _ _ _ _ _=>by show _=_; kernel_rfl) (JkV (lo:=UdQ n) (cu:=UdP n) (Ug3 n) Uhj (Ulz n) (fun K _ _ _ _ _ _ _ _ _ _ _=>by show _=_; kernel_rfl) (JkV (lo:=UdQ n) (cu:=UdP n) (Ug3 n) Uhk (UlA n) (fun K _ _ _ _ _ _ _ _ _ _=>by show _=_; kernel_rfl) fun _ _=>rfl))
theorem Uxp (n:Nat):Je6 (K32 R n) (JaJ Uab (Jlk Tryz.f32)):=pO (pC (UuE n) pN) (by kernel_rfl)
abbrev UxI:Sl (List SV):=(.c (sP (JlH (.c (Jlu .i64) (.c sSh (.c sSh (.c sSh (.c sSh (.c Jle (.c (JlI 29 (.c (sFb (.c (Jlu .i64) (.c sSh .n))) (.c (sFb (.c sSh .n)) .n))) .n))))))))) .n)
abbrev Uyf (n:Nat) (K:List SV→O R):UxI.T (O R):=fun x1 x2 x3 x4 x5 x6 x7 x8 x9=>p32 n x1 x2 x3 x4 x5 x6 x7 x8 x9 (fun y1=>K [vI y1])
abbrev UxJ:Sl (List SV):=(.c (sP (JlH (.c (Jlu .i64) (.c sSh (.c sSh (.c sSh (.c sSh (.c Jle (.c (JlI 35 (.c (sFb (.c (Jlu .i64) (.c sSh .n))) (.c (sFb (.c sSh .n)) (.c (sFb (.c sSh .n)) (.c (sFb (.c sSh .n)) .n))))) .n))))))))) .n)
abbrev Uyg (n:Nat) (K:List SV→O R):UxJ.T (O R):=fun x1 x2 x3 x4 x5 x6 x7 x8 x9 x10 x11=>Uup n x1 x2 x3 x4 x5 x6 x7 x8 x9 x10 x11 (fun y1=>K [vI y1])
abbrev UxK:Sl (List SV):=(.c (sP (JlH (.c (Jlu .i64) (.c sSh (.c sSh (.c sSh (.c sSh (.c Jle (.c (JlI 59 (.c (sFb (.c sSh .n)) (.c (sFb (.c (Jlu .i64) (.c sSh .n))) (.c (sFb (.c sSh .n)) .n)))) .n))))))))) .n)
abbrev Uyh (n:Nat) (K:List SV→O R):UxK.T (O R):=fun x1 x2 x3 x4 x5 x6 x7 x8 x9 x10=>Urf n x1 x2 x3 x4 x5 x6 x7 x8 x9 x10 (fun y1=>K [vI y1])
abbrev Uvv (n:Nat):FS:={ om:=[false],run:=fun args K=>Jjf (UxI.ap args (Uyf n K)) (Jjf (UxJ.ap args (Uyg n K)) (Jjf (UxK.ap args (Uyh n K)) none)) }
theorem UwW (n:Nat):FSound Tryz.prog GI 32 (Uvv n):=gd Uab n (UeF n) Tryz.func32 (.cons (UeF n) UxI (Uyf n) (fun K _ _ _ _ _ _ _ _ _=>(Jkp (c:=Jlk Tryz.f32) (by kernel_rfl) (Uxp n) K).trans (by kernel_rfl)) (.cons (UeF n) UxJ (Uyg n) (fun K _ _ _ _ _ _ _ _ _ _ _=>(Jkp (c:=Jlk Tryz.f32) (by kernel_rfl) (Uxp n) K).trans (by kernel_rfl)) (.cons (UeF n) UxK (Uyh n) (fun K _ _ _ _ _ _ _ _ _ _=>(Jkp (c:=Jlk Tryz.f32) (by kernel_rfl) (Uxp n) K).trans (by kernel_rfl)) .nil))) (by kernel_rfl)
def Upy:Ann:={ loops:=[],cuts:=[],frz:=[],rm:=[.id] }
abbrev UsZ (n:Nat):Env:=eC 32 (Uvv n) eN
theorem Uku (n:Nat):EnvOK Tryz.prog GI (UsZ n):=.cons (.nil) (UwW n)
def p12 (n:Nat) (x1:Int) (x2 x3:LP) (k0:Int→O R):O R :=
 p32 n x1 x2 [] [] x3 true x1 x2 x3 (fun y4=>k0 y4)
abbrev UA (n:Nat):Orc R:=oN
abbrev UzG (n:Nat):Orc R:=oN
abbrev K12 (R:Type) (n:Nat):=JcH (R:=R) Tryz.prog (UsZ n) Upy n (10,[]) (UA n) (UzG n)
theorem UA8 (n:Nat):Je6 (K12 R n) (JaJ Upy (Jlk Tryz.f12)):=pO pN (by kernel_rfl)
abbrev t12:Sl (List SV):=(.c (sP (JlH (.c (Jlu .i64) (.c sSh .n)))) (cH .n))
abbrev f12 (n:Nat) (K:List SV→O R):t12.T (O R):=fun x1 x2 x3=>p12 n x1 x2 x3 (fun y1=>K [vI y1])
abbrev Uyq (n:Nat):FS:=fT [false,false] t12 (f12 n)
theorem UAE (n:Nat):FSound Tryz.prog GI 12 (Uyq n):=gd Upy n (Uku n) Tryz.func12 (.cons (Uku n) t12 (f12 n) (fun K _ _ _=>(Jkp (c:=Jlk Tryz.f12) (by kernel_rfl) (UA8 n) K).trans (by kernel_rfl)) .nil) (by kernel_rfl)
end
end Go.Proofs.YtmgfmlhdnadglaaGreatDoor
set_option linter.unusedVariables false
set_option linter.unusedSimpArgs false
namespace Go.Proofs.YtmgfmlhdnadglaaGreatDoor
open Go Th Go.Proofs
variable {R:Type}
theorem Uey {p:Rat}:UbS p 0<0↔p<0:=by
 rcases tri p 0 with h | h | h
 · rw [Uez h]; exact ⟨fun _=>h,fun _=>by decide⟩
 · rw [h,UfS]; exact ⟨fun q=>absurd q (by decide),fun q=>absurd q (by decide)⟩
 · rw [Ugu h]; exact ⟨fun q=>absurd q (by decide),fun q=>absurd (Rat.le_of_lt h) (Rat.not_le.2 q)⟩
theorem Uj8 {p:Rat}:UbS p 0>0↔0<p:=by
 rcases tri p 0 with h | h | h
 · rw [Uez h]; exact ⟨fun q=>absurd q (by decide),fun q=>absurd (Rat.le_of_lt h) (Rat.not_le.2 q)⟩
 · rw [h,UfS]; exact ⟨fun q=>absurd q (by decide),fun q=>absurd q (by decide)⟩
 · rw [Ugu h]; exact ⟨fun _=>h,fun _=>by decide⟩
theorem UsO (n:Nat) (hn:10 ^ 1000≤n) (p:Rat) (hp:fits p) (k0:Int→Option R):p19 n (bs (Uaf p)) (bs [48]) k0=k0 (UbS p 0):=by
 rw [←UmA]; exact Ujr n hn p 0 hp UeP k0
structure okRM (cols:Int) (rows:List RowT) (mult:List (List UInt8)):Prop where
 hc:cols≤2048
 few:rows.length≤2048
 len:mult.length=rows.length
 hr:∀ r∈rows,okR cols r=true
 hm:∀ m∈mult,qb m=true
theorem UiJ {a b:Int} (h:a≤b) {r:SpR} (hr:okF a r):okF b r:=⟨⟨hr.1.1,UiK h hr.1.2⟩,hr.2⟩
theorem UmD {cols:Int} {rows:List RowT} (h:Ugm cols rows=0):0≤cols∧cols≤2048∧rows.length≤2048∧∀ r∈rows,okR cols r=true:=by
 unfold Ugm at h
 by_cases h1:cols<0
 · rw [if_pos h1] at h; cases h
 rw [if_neg h1] at h
 by_cases h2:cols>2048
 · rw [if_pos h2] at h; cases h
 rw [if_neg h2] at h
 by_cases h3:rows.length>2048
 · rw [if_pos h3] at h; cases h
 rw [if_neg h3] at h
 cases h4:rows.all (okR cols) with
 | false=>rw [h4] at h; cases h
 | true=>exact ⟨by omega,by omega,by omega,fun r hr=>List.all_eq_true.1 h4 r hr⟩
end Go.Proofs.YtmgfmlhdnadglaaGreatDoor
set_option linter.unusedVariables false
set_option maxRecDepth 100000
namespace Go.Proofs.YtmgfmlhdnadglaaGreatDoor
open Go Th Go.Proofs
noncomputable section
variable {R:Type}
abbrev t72:Sl (List SV):=(.c (sP (JlH (.c Jle (.c sSh (.c Jle (.c sSh .n)))))) .n)
end
end Go.Proofs.YtmgfmlhdnadglaaGreatDoor
set_option linter.unusedVariables false
set_option linter.unusedSimpArgs false
namespace Go.Proofs.YtmgfmlhdnadglaaGreatDoor
open Go Th Go.Proofs
variable {R:Type}
section
variable (n:Nat) (hn:10 ^ 1000≤n) (p q:Rat) (hp:fits p) (hq:fits q)
include hp hq
include hn
end
end Go.Proofs.YtmgfmlhdnadglaaGreatDoor
