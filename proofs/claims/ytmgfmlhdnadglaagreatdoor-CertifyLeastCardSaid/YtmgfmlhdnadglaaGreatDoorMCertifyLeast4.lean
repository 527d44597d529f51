/- Proved: the law CertifyLeast returns true at all its arguments (no further conditions): the row and what it stands on. -/
import Derived.Test.YtmgfmlhdnadglaaGreatDoorMCertifyLeast3
import Derived.Test.YtmgfmlhdnadglaaGreatDoorMCertifyLeast0
import Derived.Test.YtmgfmlhdnadglaaGreatDoorMCertifyLeast2
import Derived.Test.YtmgfmlhdnadglaaGreatDoorT2
import Derived.Test.YtmgfmlhdnadglaaGreatDoorT1
import Derived.Test.YtmgfmlhdnadglaaGreatDoorRows
import Derived.Test.YtmgfmlhdnadglaaGreatDoorMCertifyLeast1
import Derived.WalkKit
import Derived.ProofKit
import Derived.LaidMore
import Derived.Lay
import Derived.Lib.LaidTab
import Derived.Test.YtmgfmlhdnadglaaGreatDoorCards
import Derived.Test.YtmgfmlhdnadglaaGreatDoorTie
import Derived.OpenShut
import Derived.ShutString
import Derived.ChangeOld
import Derived.Below
import Derived.SizedLaws
import Derived.SevenTiedAt
import Derived.Stop.Joined
import Derived.Deep.Strs
import Derived.Carry
set_option linter.unusedVariables false
set_option linter.unusedSimpArgs false
namespace Go.Proofs.YtmgfmlhdnadglaaGreatDoor
open Go Th Go.Proofs
variable {R:Type}
theorem UqE {cols:Int} {rows:List RowT} {mult:List (List UInt8)} (h:okRM cols rows mult):(Ub1 (zsR rows mult) ([],0)=none∧Ufn (zsD rows mult) ([],0)=none) ∨
 ∃ x d,Ub1 (zsR rows mult) ([],0)=some x∧Ufn (zsD rows mult) ([],0)=some d∧okF cols x∧same x d∧d.1.length≤2048∧UaJ d:=by
 have hcs:=Uj4 (cols:=cols) (l:=zsR rows mult) (ld:=zsD rows mult) (s:=([],0)) (sd:=([],0)) (by simp [zsR,zsD]) (fun i a b=>by
  have hr':=h.hr _ (List.of_mem_zip (List.getElem_mem (by simpa [zsR] using a))).1
  simp only [zsR,zsD,List.getElem_map]
  exact ⟨(Ub4 hr').1,(Ugn h.hc hr').2.2.1,trivial⟩) Umt ⟨rfl,fun i=>by simp [cf]⟩
 rcases hcs with q | ⟨x,d,q1,q2,q3,q4⟩
 · exact .inl q
 · have:∀ (l:List (DnR × Rat)) (s:DnR),(∀ y∈l,y.1.1.length≤2048)→(s.1.length≤2048∧UaJ s)→∀ x,Ufn l s=some x→x.1.length≤2048∧UaJ x:=fun l s hl hs x hx=>by
    rw [Ud7] at hx
    exact Udv (step:=fun s (x:DnR × Rat)=>Ubg x.2 x.1 s) (P:=fun y=>y.1.1.length≤2048) (Inv:=fun s=>s.1.length≤2048∧UaJ s) (fun s s' a ha hs he=>Ujv ha hs he) hl hs hx
   have hd:=this (zsD rows mult) ([],0) (fun y hy=>by
    obtain ⟨z,hz,rfl⟩:=List.mem_map.1 hy
    exact (Ugn h.hc (h.hr _ (List.of_mem_zip hz).1)).2.1) ⟨by simp,⟨by simp,UbV⟩⟩ d q2
   exact .inr ⟨x,d,q1,q2,q3,q4,hd.1,hd.2⟩
theorem UwL (n:Nat) (hn:10 ^ 1000≤n) {cols:Int} {rows:List RowT} {mult:List (List UInt8)} (hr:smA rows) (hm:smS mult) (hs:Ufj cols rows=0) (h:okRM cols rows mult) (k0:List PV→Bool→List PV→Bool→List PV→Int→Option R) :
 p24 n cols (rws rows) (sl mult) k0=UDG k0 (Ufn (zsD rows mult) ([],0)):=by
 unfold p24
 have ha:Ude mult=true:=List.all_eq_true.2 h.hm
 rw [UlU n (Uat hn) cols rows hr,hs,show ((0:Int) != 0)=false from rfl,Uaf,Uc5 n (Uat hn) mult hm,ha]
 exact UlP n hn cols rows mult h _
theorem Uj6 (n:Nat) (hn:10 ^ 1000≤n) {cols:Int} (hc:0≤cols∧cols≤2048) {cost:List TermT} (hcb:Udr cols cost=true) (hsm:smT cost):∃ d:List Rat,(d.length:Int)≤cols∧d.length≤2048∧same (spL cost,0) (d,0)∧UaJ (d,0) ∧
 ∀ k0:List PV→Bool→List PV→Bool→List PV→Int→Option R,p46 n (bs [48]) (tms cost) k0=k0 (qs d) (sg (0:Rat).num) (II (0:Rat).num.natAbs) false (II (0:Rat).den) 0:=by
 obtain ⟨f1,f2,f3,f4⟩:=UmV hc.2 hcb
 obtain ⟨d,e1,e2,e3⟩:=UuL f1.1
 have e2':d.length=hiC (spL cost):=e2
 have hlen:(d.length:Int)≤cols:=by
  have hc2:=hc.2
  have:=Ugr (s:=spL cost) (b:=cols.toNat) fun t ht=>by
   have:=(f2.1.2 t ht).2.2
   omega
  omega
 refine ⟨d,hlen,by have:=hc.2; omega,⟨rfl,e3⟩,UaF.2 ⟨fun i=>by show fits (d.getD i 0); rw [e3]; exact Ud5 f1.1.2 i,UbV⟩,fun k0=>?_⟩
 obtain ⟨a1,a2⟩:=Ug0.1 f4
 obtain ⟨b1,b2,b3⟩:=(Ub5 (by omega)).1 a1
 rw [UlQ n hn cost [48] hsm (by decide)]
 unfold Uo7
 rw [if_pos a2,if_pos b1,if_pos b2,e1,UPd]; rfl
theorem UwM (n:Nat) (hn2:10 ^ 2000≤n) {cols:Int} (hc:0≤cols∧cols≤2048) {cost:List TermT} (hcb:Udr cols cost=true) (hsm:smT cost) {w:List (List UInt8)} (hw:Ude w=true) (hl:(w.length:Int)=cols) (hs:smS w) (K:Bool→List PV→Bool→List PV→Bool→Option R) (kf:Option R) (hK:∀ a b c e,K a b c e false=kf) :
 p43 n (tms cost) (sl w) K=dvK kf K (Uan (evS (vq w)) 0 (spL cost)):=by
 have hn:=Uke hn2
 obtain ⟨d,h1,h2,h3,h4,h5⟩:=Uj6 (R:=R) n hn hc hcb hsm
 obtain ⟨f1,f2,f3,f4⟩:=UmV hc.2 hcb
 have g1:=UmZ (R:=R) n hn2 h4 h2 (v:=vq w) (Uzr hw) (by rw [UkE]; exact hs.1) K kf hK
 have ev:=UE0 (v:=vq w) f1 h4 h3 (by rw [UkE]; show d.length≤w.length; omega)
 rw [ev] at g1
 unfold p43
 refine Eq.trans (h5 _) ?_
 rw [UkC n (Uat hn) hw hs]
 exact g1
theorem UwQ (n:Nat) (hn:10 ^ 1000≤n) {cols:Int} (hc:0≤cols∧cols≤2048) (x2:List PV) {a b:SpR} {da db:List Rat} (ha:UaJ (da,a.2)) (hb:UaJ (db,b.2)) (ea:∀ i,da.getD i 0=cf a.1 i) (eb:∀ i,db.getD i 0=cf b.1 i) (x4:Bool) (x5:List PV) (x6:Bool) (x7:List PV) (x9:Bool) (x10:List PV) (x11:Bool) (x12:List PV) (k0:Int→Option R) :
 UlC n cols x2 (qs da) x4 x5 x6 x7 (qs db) x9 x10 x11 x12 0 (fun y15=>k0 y15) (k0 0)=k0 (if leB cols a.1 b.1=true then 0 else 16):=by
 have hN:=Ual (Uat hn)
 obtain ⟨N,rfl⟩:∃ N:Nat,cols=(N:Int):=⟨cols.toNat,by omega⟩
 unfold UlC
 have hr:(List.range N).length=N:=List.length_range
 have H:=Uaj (R:=R) (l:=List.range N) (ok:=fun i=>decide (cf a.1 i≤cf b.1 i)) (kbad:=k0 16) (kend:=k0 0)
  (fun m i=>Ucv n m (N:Int) x2 (qs da) x4 x5 x6 x7 (qs db) x9 x10 x11 x12 (i:Int) (fun y15=>k0 y15) (k0 0))
  (fun m=>by simp only [Ucv,UfU]; rw [hr]; simp (disch:=(first | omega | (simp only [JlE]; omega))) only [↓JlH,JlF])
  (fun m i hi=>by
    have hi':i<N:=by omega
    rw [List.getElem_range]
    have g1:=fun k=>Uid (R:=R) n (Uat hn) da i x4 x5 x6 x7 k
    have g2:=fun k=>Uid (R:=R) n (Uat hn) db i x9 x10 x11 x12 k
    have fa:=(UaF.1 ha).1 i
    have fb:=(UaF.1 hb).1 i
    have g3:=fun k=>Ukq (R:=R) n hn (da.getD i 0) (db.getD i 0) fa fb k
    have e:∀ p q:Rat,UgS (p.num * q.den) (q.num * p.den)=Ud2 p q:=fun p q=>rfl
    simp only [e,ea,eb] at g1 g2 g3
    have hle:=UxU (p:=cf a.1 i) (q:=cf b.1 i)
    simp only [Ucv,UfU]
    by_cases h0:cf a.1 i≤cf b.1 i
    · have h0':¬ Ud2 (cf a.1 i) (cf b.1 i)>0:=by have:=hle.2 h0; omega
      simp (disch:=(first | omega | (simp only [JlE]; omega))) only [↓JlH,JlF,g1,g2,g3,i1] <;> simp [h0]
    · have h0':Ud2 (cf a.1 i) (cf b.1 i)>0:=by
       apply Int.not_le.1
       intro q; exact h0 (hle.1 q)
      simp (disch:=(first | omega | (simp only [JlE]; omega))) only [↓JlH,JlF,g1,g2,g3,i1] <;> simp [h0]) N n 0 (by omega) (by omega)
 rw [List.drop_zero] at H
 refine Eq.trans H ?_
 unfold leB
 rw [Int.toNat_natCast]
 cases ((List.range N).all fun i=>decide (cf a.1 i≤cf b.1 i)) <;> rfl
theorem UuP (n:Nat) (hn2:10 ^ 2000≤n) (cols:Int) (rows:List RowT) (cost:List TermT) (w mult:List (List UInt8)) (hr:smA rows) (hcs:smT cost) (hw:smS w) (hm:smS mult) (k0:Int→Option R) :
 p16 n cols (rws rows) (tms cost) (sl w) (sl mult) k0=k0 (UgZ cols rows cost w mult):=by
 have hn:=Uke hn2
 have hN:=Ual (Uat hn)
 unfold p16 UgZ
 rw [UlU n (Uat hn) cols rows hr]
 by_cases h1:Ufj cols rows=0
 · obtain ⟨a,b,c,d⟩:=Ujw h1
   have e1:(Ufj cols rows != 0)=false:=by rw [h1]; rfl
   rw [e1,if_neg (by simp [h1]),Uaf,UuK n hn cols b cost hcs]
   cases h2:Udr cols cost with
   | false=>rfl
   | true =>
    rw [if_neg (by decide)]
    simp only [Bool.not_true,Uaf,Uc5 n (Uat hn) w hw,Uc5 n (Uat hn) mult hm]
    cases h4:Ude w with
    | false =>
     cases h3:Ude mult <;> rfl
    | true =>
     cases h3:Ude mult with
     | false=>rfl
     | true =>
      rw [if_neg (by decide),if_neg (by decide)]
      simp only [Bool.not_true,Uaf,Uuk,Uac,Uab]
      by_cases h5:(w.length:Int)=cols
      · have e5:((w.length:Int) != cols)=false:=by simp [h5]
        rw [if_neg (by simp [h5]),e5,Uaf]
        by_cases h6:mult.length=rows.length
        · have e6:((mult.length:Int) != (rows.length:Int))=false:=by simp [h6]
          have hrm:=UtV h1 h3 h6
          have ha:=UkP h1 h5 h4
          have g7:∀ k:Bool→Int→Option R,p85 n cols (rws rows) (sl w) k=UDz k (hM rows w):=fun k=>by
           rw [UuO n hn2 cols rows w hr hw]
           unfold UoY
           rw [if_neg (by simp [ha])]
          rw [if_neg (by simp [h6]),e6,Uaf]
          unfold Uul p42
          rw [g7]
          cases hM rows w with
          | none=>rfl
          | some bb =>
           cases bb with
           | false=>rfl
           | true =>
            simp only [UDz,UgQ,Uaf,Bool.not_true]
            rw [UwL n hn hr hm h1 hrm]
            rcases UqE hrm with ⟨q1,q2⟩ | ⟨x,dd,q1,q2,q3,q4,q5,q6⟩
            · rw [q1,q2]; rfl
            · rw [q1,q2]
              simp only [UDG,UgQ,Uaf]
              have g8:=fun K kf hK=>UwM (R:=R) n hn2 ⟨a,b⟩ h2 hcs h4 h5 hw K kf hK
              refine Eq.trans (g8 _ _ (fun _ _ _ _=>rfl)) ?_
              simp only [Ukb]
              cases hy:Uan (evS (vq w)) 0 (spL cost) with
              | none=>rfl
              | some y =>
               have fy:fits y:=UkZ (vq w) UbV hy
               have g9:=fun k=>UDn (R:=R) n hn cols rows mult hrm k
               have g10:=fun k=>UuQ (R:=R) n (by omega) dd.2 q6.2 k
               have fn:fits (-dd.2):=Uoa q6.2
               have g11:=fun k=>Ukq (R:=R) n hn y (-dd.2) fy fn k
               have e:UgS (y.num * (-dd.2).den) ((-dd.2).num * y.den)=Ud2 y (-dd.2):=rfl
               rw [e] at g11
               simp only [dvK,Bool.not_true,Uaf,g9]
               unfold UtL
               cases adm rows mult with
               | false=>rfl
               | true =>
                simp only [Bool.not_true,Uaf,g10,g11]
                have e2:y=-x.2↔Ud2 y (-dd.2)=0:=by
                 rw [q4.1]
                 exact ⟨fun q=>by rw [q]; exact Ubn _,fun q=>UqC q⟩
                by_cases h7:y=-x.2
                · have h7':=e2.1 h7
                  rw [decide_eq_true h7,h7']
                  obtain ⟨dc,c1,c2,c3,c4,c5⟩:=Uj6 (R:=R) n hn ⟨a,b⟩ h2 hcs
                  rw [show ((0:Int) != 0)=false from rfl]
                  simp only [Uaf]
                  unfold UlB
                  refine Eq.trans (c5 _) ?_
                  refine Eq.trans (UwQ n hn ⟨a,b⟩ (rws rows) (a:=x) (b:=(spL cost,0)) (da:=dd.1) (db:=dc) (UaF.2 ⟨fun i=>(UaF.1 q6).1 i,q3.2⟩) c4 q4.2 c3.2 _ _ _ _ _ _ _ _ k0) ?_
                  dsimp only
                  cases leB cols x.1 (spL cost) <;> rfl
                · have h7':(Ud2 y (-dd.2) != 0)=true:=by
                   rw [bne_iff_ne]
                   exact fun q=>h7 (e2.2 q)
                  rw [decide_eq_false h7,h7']; rfl
        · have e6:((mult.length:Int) != (rows.length:Int))=true:=by simp; omega
          rw [if_pos h6,e6]; rfl
      · have e5:((w.length:Int) != cols)=true:=by simp [h5]
        rw [if_pos h5,e5]; rfl
 · have e1:(Ufj cols rows != 0)=true:=by simp [h1]
   rw [e1,if_pos h1]; rfl
def UFO (rows:List RowT) (cost:List TermT) (w mult:List (List UInt8)):Bool:=(cost.all fun t=>decide (t.2.length≤60))&&(UBN rows&&(decide (cost.length≤10)&&(UcT w&&UcT mult)))
theorem UBP {rows:List RowT} {cost:List TermT} {w mult:List (List UInt8)} (h:UFO rows cost w mult=true):smA rows∧smT cost∧smS w∧smS mult:=by
 unfold UFO at h
 simp only [Bool.and_eq_true,decide_eq_true_iff,List.all_eq_true] at h
 obtain ⟨a,b,c,d,e⟩:=h
 exact ⟨UFS b,⟨by omega,fun t ht=>by have:=a t ht; omega⟩,UoJ d,UoJ e⟩
theorem UBO (n:Nat) (hn:200000≤n) (hnm:9223372036854775807<n) (cols:Int) (rows:List RowT) (cost:List TermT) (hcl:cost.length≤9223372036854775807) (w mult:List (List UInt8)) (k0:Bool→Option R):p14 n cols (rws rows) (tms cost) (sl w) (sl mult) k0=k0 (UFO rows cost w mult):=by
 have g1:=fun k=>UFQ (R:=R) n hn cols rows k
 have g2:=fun k=>Ukv (R:=R) n hn w k
 have g3:=fun k=>Ukv (R:=R) n hn mult k
 unfold p14 UyM
 have H:=Uaj (R:=R) (l:=cost) (ok:=fun t=>decide (t.2.length≤60)) (kbad:=k0 false) (kend:=k0 (UBN rows&&(decide (cost.length≤10)&&(UcT w&&UcT mult))))
  (fun m i=>Uec n m cols (rws rows) (tms cost) (sl w) (sl mult) (tms cost) ((tms cost).length:Int) (i:Int) (fun y6 y7 y8 y9 y10 y11=>k0 y11) (fun y12 y13 y14 y15 y16=>p9 n y12 y13 (fun y17=>bif y17 then (bif (bif true then (decide (((y14).length:Int)≤10)) else false) then (p10 n y15 (fun y18=>bif (bif true then y18 else false) then (p10 n y16 (fun y19=>k0 (bif true then y19 else false))) else (k0 false))) else (k0 false)) else (k0 false))))
  (fun m=>by
    simp only [Uec,UiK]
    simp (disch:=(first | omega | (simp only [JlE]; omega))) only [↓JlH,JlF,Ua,g1]
    cases UBN rows with
    | false=>rfl
    | true =>
     by_cases h1:cost.length≤10
     · simp (disch:=(first | omega | (simp only [JlE]; omega))) only [↓JlH,JlF,Ua,g2,g3]
       cases UcT w with
       | false=>simp [h1]
       | true=>cases UcT mult <;> simp [h1]
     · simp (disch:=(first | omega | (simp only [JlE]; omega))) only [↓JlH,JlF,Ua] <;> simp [h1])
  (fun m i hi=>by
    simp only [Uec,UiK]
    by_cases h1:(cost[i]).2.length≤60
    · simp (disch:=(first | omega | (simp only [JlE]; omega))) only [↓JlH,JlF,Ua,Jji,Uas hi,i1]
    · simp (disch:=(first | omega | (simp only [JlE]; omega))) only [↓JlH,JlF,Ua,Jji,Uas hi,i1]
      simp [h1]) cost.length n 0 (by omega) (by omega)
 rw [List.drop_zero] at H
 refine Eq.trans H ?_
 unfold UFO
 cases (cost.all fun t=>decide (t.2.length≤60)) <;> rfl
end Go.Proofs.YtmgfmlhdnadglaaGreatDoor
set_option linter.unusedVariables false
set_option maxRecDepth 100000
namespace Go.Proofs.YtmgfmlhdnadglaaGreatDoor
open Go Th Go.Proofs
noncomputable section
variable {R:Type}
def UzB:Ann:={ loops:=[],cuts:=[],frz:=[],rm:=[.id] }
abbrev UE6 (n:Nat):Env:=eC 32 (UIN n) eN
theorem Urm (n:Nat):EnvOK Tryz.prog GI (UE6 n):=.cons (.nil) (ULi n)
def p20 (n:Nat) (x1:Int) (x2 x3 x4 x5:LP) (k0:Int→O R):O R :=
 UHf n x1 x2 x3 ([.sh x4,.sh x5]:LP) [] false x5 x1 x2 x3 (fun y6=>k0 y6)
abbrev UQx (n:Nat):Orc R:=oN
abbrev UPM (n:Nat):Orc R:=oN
abbrev K20 (R:Type) (n:Nat):=JcH (R:=R) Tryz.prog (UE6 n) UzB n (17,[]) (UQx n) (UPM n)
theorem UR5 (n:Nat):Je6 (K20 R n) (JaJ UzB (Jll Tryz.f20)):=pO pN (by kernel_rfl)
abbrev t20:Sl (List SV):=(.c (sP (JlI (.c (Jlv .i64) (.c sSh .n)))) (cH (cH (cH .n))))
abbrev f20 (n:Nat) (K:List SV→O R):t20.T (O R):=fun x1 x2 x3 x4 x5=>p20 n x1 x2 x3 x4 x5 (fun y1=>K [vI y1])
abbrev UNR (n:Nat):FS:=fT [false,false,false,false] t20 (f20 n)
theorem URj (n:Nat):FSound Tryz.prog GI 20 (UNR n):=gd UzB n (Urm n) Tryz.func20 (.cons (Urm n) t20 (f20 n) (fun K _ _ _ _ _=>(Jkq (c:=Jll Tryz.f20) (by kernel_rfl) (UR5 n) K).trans (by kernel_rfl)) .nil) (by kernel_rfl)
def UzE:Ann:={ loops:=[],cuts:=[],frz:=[],rm:=[.id] }
abbrev UE9 (n:Nat):Env:=eN
theorem Urt (n:Nat):EnvOK Tryz.prog GI (UE9 n):=.nil
def p28 (n:Nat) (x1:Int) (x2:ByteArray) (k0:Int→ByteArray→O R):O R :=
 k0 x1 x2
abbrev UQA (n:Nat):Orc R:=oN
abbrev UPP (n:Nat):Orc R:=oN
abbrev K28 (R:Type) (n:Nat):=JcH (R:=R) Tryz.prog (UE9 n) UzE n (8,[]) (UQA n) (UPP n)
theorem USb (n:Nat):Je6 (K28 R n) (JaJ UzE (Jll Tryz.f28)):=pO pN (by kernel_rfl)
abbrev t28:Sl (List SV):=(cI (cS .n))
abbrev f28 (n:Nat) (K:List SV→O R):t28.T (O R):=fun x1 x2=>p28 n x1 x2 (fun y1 y2=>K [.p (.agg [.v (.int .i64 y1),.v (.string y2)])])
abbrev UNW (n:Nat):FS:=fT [false,false] t28 (f28 n)
theorem URo (n:Nat):FSound Tryz.prog GI 28 (UNW n):=gd UzE n (Urt n) Tryz.func28 (.cons (Urt n) t28 (f28 n) (fun K _ _=>(Jkq (c:=Jll Tryz.f28) (by kernel_rfl) (USb n) K).trans (by kernel_rfl)) .nil) (by kernel_rfl)
def Uzx:Ann:={ loops:=[],cuts:=[],frz:=[],rm:=[.id] }
abbrev UE2 (n:Nat):Env:=eC 28 (UNW n) (eC 23 (UNS n) (eC 20 (UNR n) (eC 15 (UJX n) (eC 12 (UNN n) eN))))
theorem Ure (n:Nat):EnvOK Tryz.prog GI (UE2 n):=.cons (.cons (.cons (.cons (.cons (.nil) (URf n)) (UOO n)) (URj n)) (URk n)) (URo n)
def p11 (n:Nat)  (k0:Bool→O R):O R :=
 p28 n 0 ⟨#[49]⟩ (fun y1 y2=>p28 n 0 ⟨#[45,49]⟩ (fun y3 y4=>p23 n 1 ([.agg [.sh ([.agg [.v (.int .i64 y1),.v (.string y2)]]:LP),.v (.string ⟨#[45,51]⟩),.v (.bool false),.v (.int .i64 0)],.agg [.sh ([.agg [.v (.int .i64 y3),.v (.string y4)]]:LP),.v (.string ⟨#[50]⟩),.v (.bool false),.v (.int .i64 0)]]:LP) ([.v (.string ⟨#[49]⟩),.v (.string ⟨#[49]⟩)]:LP) (fun y5 y6 y7=>p28 n 0 ⟨#[49]⟩ (fun y8 y9=>p28 n 1 ⟨#[49]⟩ (fun y10 y11=>bif (y7 == 0) then (bif true then (bif true then (bif true then (bif (bif true then (((y5).length:Int) == 0) else false) then (bif true then (bif true then (bif (bif true then eqS y6 (⟨#[45,49]⟩:ByteArray) else false) then (bif true then (bif true then (p12 n 1 ([.agg [.sh ([.agg [.v (.int .i64 y1),.v (.string y2)]]:LP),.v (.string ⟨#[45,51]⟩),.v (.bool false),.v (.int .i64 0)],.agg [.sh ([.agg [.v (.int .i64 y3),.v (.string y4)]]:LP),.v (.string ⟨#[50]⟩),.v (.bool false),.v (.int .i64 0)]]:LP) ([.v (.string ⟨#[49]⟩),.v (.string ⟨#[49]⟩)]:LP) (fun y12=>bif true then (bif (bif true then (y12 == 0) else false) then (bif true then (bif true then (p12 n 1 ([.agg [.sh ([.agg [.v (.int .i64 y1),.v (.string y2)]]:LP),.v (.string ⟨#[45,51]⟩),.v (.bool false),.v (.int .i64 0)],.agg [.sh ([.agg [.v (.int .i64 y3),.v (.string y4)]]:LP),.v (.string ⟨#[50]⟩),.v (.bool false),.v (.int .i64 0)]]:LP) ([.v (.string ⟨#[49]⟩),.v (.string ⟨#[48]⟩)]:LP) (fun y13=>bif true then (bif (bif true then (y13 == 16) else false) then (bif true then (p28 n 0 ⟨#[50]⟩ (fun y14 y15=>bif true then (p28 n 1 ⟨#[51]⟩ (fun y16 y17=>bif true then (bif true then (bif true then (bif true then (p15 n 2 ([.agg [.sh ([.agg [.v (.int .i64 y8),.v (.string y9)],.agg [.v (.int .i64 y10),.v (.string y11)]]:LP),.v (.string ⟨#[45,50]⟩),.v (.bool false),.v (.int .i64 0)]]:LP) ([.agg [.v (.int .i64 y14),.v (.string y15)],.agg [.v (.int .i64 y16),.v (.string y17)]]:LP) ([.v (.string ⟨#[50]⟩),.v (.string ⟨#[48]⟩)]:LP) ([.v (.string ⟨#[50]⟩)]:LP) (fun y18=>bif true then (bif (bif true then (y18 == 0) else false) then (bif true then (p28 n 1 ⟨#[45,49]⟩ (fun y19 y20=>bif true then (bif true then (bif true then (bif true then (p20 n 2 ([.agg [.sh ([.agg [.v (.int .i64 y8),.v (.string y9)],.agg [.v (.int .i64 y10),.v (.string y11)]]:LP),.v (.string ⟨#[45,50]⟩),.v (.bool false),.v (.int .i64 0)]]:LP) ([.agg [.v (.int .i64 y19),.v (.string y20)]]:LP) ([.v (.string ⟨#[50]⟩),.v (.string ⟨#[48]⟩)]:LP) ([.v (.string ⟨#[48]⟩),.v (.string ⟨#[49]⟩)]:LP) (fun y21=>bif true then (k0 (bif true then (y21 == 0) else false)) else none)) else none) else none) else none) else none)) else none) else (bif false then none else (bif false then none else (bif false then none else (bif false then none else (bif false then none else (bif false then none else (bif false then none else (k0 false))))))))) else none)) else none) else none) else none) else none)) else none)) else none) else (bif false then none else (bif false then none else (bif false then none else (bif false then none else (bif false then none else (bif false then none else (bif false then none else (bif false then none else (bif false then none else (bif false then none else (bif false then none else (bif false then none else (bif false then none else (bif false then none else (bif false then none else (bif false then none else (k0 false)))))))))))))))))) else none)) else none) else none) else (bif false then none else (bif false then none else (bif false then none else (bif false then none else (bif false then none else (bif false then none else (bif false then none else (bif false then none else (bif false then none else (bif false then none else (bif false then none else (bif false then none else (bif false then none else (bif false then none else (bif false then none else (bif false then none else (bif false then none else (bif false then none else (bif false then none else (bif false then none else (bif false then none else (k0 false))))))))))))))))))))))) else none)) else none) else none) else (bif false then none else (bif false then none else (bif false then none else (bif false then none else (bif false then none else (bif false then none else (bif false then none else (bif false then none else (bif false then none else (bif false then none else (bif false then none else (bif false then none else (bif false then none else (bif false then none else (bif false then none else (bif false then none else (bif false then none else (bif false then none else (bif false then none else (bif false then none else (bif false then none else (bif false then none else (bif false then none else (bif false then none else (bif false then none else (bif false then none else (k0 false)))))))))))))))))))))))))))) else none) else none) else (bif false then none else (bif false then none else (bif false then none else (bif false then none else (bif false then none else (bif false then none else (bif false then none else (bif false then none else (bif false then none else (bif false then none else (bif false then none else (bif false then none else (bif false then none else (bif false then none else (bif false then none else (bif false then none else (bif false then none else (bif false then none else (bif false then none else (bif false then none else (bif false then none else (bif false then none else (bif false then none else (bif false then none else (bif false then none else (bif false then none else (bif false then none else (bif false then none else (bif false then none else (bif false then none else (k0 false)))))))))))))))))))))))))))))))) else none) else none) else none) else (bif false then none else (bif false then none else (bif false then none else (bif false then none else (bif false then none else (bif false then none else (bif false then none else (bif false then none else (bif false then none else (bif false then none else (bif false then none else (bif false then none else (bif false then none else (bif false then none else (bif false then none else (bif false then none else (bif false then none else (bif false then none else (bif false then none else (bif false then none else (bif false then none else (bif false then none else (bif false then none else (bif false then none else (bif false then none else (bif false then none else (bif false then none else (bif false then none else (bif false then none else (bif false then none else (bif false then none else (bif false then none else (bif false then none else (bif false then none else (bif false then none else (k0 false)))))))))))))))))))))))))))))))))))))))))
abbrev UQt (n:Nat):Orc R:=oN
abbrev UPI (n:Nat):Orc R:=oN
abbrev K11 (R:Type) (n:Nat):=JcH (R:=R) Tryz.prog (UE2 n) Uzx n (69,[]) (UQt n) (UPI n)
theorem URX (n:Nat):Je6 (K11 R n) (JaJ Uzx (Jll Tryz.f11)):=pO pN (by kernel_rfl)
abbrev t11:Sl (List SV):=.n
abbrev f11 (n:Nat) (K:List SV→O R):t11.T (O R):=p11 n  (fun y1=>K [vB y1])
abbrev UNM (n:Nat):FS:=fT [] t11 (f11 n)
theorem URe (n:Nat):FSound Tryz.prog GI 11 (UNM n):=gd Uzx n (Ure n) Tryz.func11 (.cons (Ure n) t11 (f11 n) (fun K=>(Jkq (c:=Jll Tryz.f11) (by kernel_rfl) (URX n) K).trans (by kernel_rfl)) .nil) (by kernel_rfl)
end
end Go.Proofs.YtmgfmlhdnadglaaGreatDoor
namespace Go.Proofs.YtmgfmlhdnadglaaGreatDoor
open Go Th Go.Proofs
theorem UG8 {R:Type} (m:Nat) (k0:Bool→Option R):p11 (m + 40) k0=k0 true:=by kernel_rfl
theorem UCh {R:Type} (n:Nat) (h:40≤n) (k0:Bool→Option R):p11 n k0=k0 true:=by
 rw [show n=(n - 40) + 40 from by omega]; exact UG8 _ k0
end Go.Proofs.YtmgfmlhdnadglaaGreatDoor
set_option linter.unusedVariables false
namespace Go.Proofs.YtmgfmlhdnadglaaGreatDoor
open Go Th Go.Proofs
abbrev Udz:List (String × DataW Unit):=[("math/bits.deBruijn32tab",Rows.laid_math_bits_deBruijn32tab),("math/bits.deBruijn64tab",Rows.laid_math_bits_deBruijn64tab),("internal/strconv.uint64pow10",Rows.laid_internal_strconv_uint64pow10),("unicode/utf8.acceptRanges",Rows.laid_unicode_utf8_acceptRanges),("strconv.ErrRange",Rows.laid_strconv_ErrRange),("strconv.ErrSyntax",Rows.laid_strconv_ErrSyntax),("unicode/utf8.first",Rows.laid_unicode_utf8_first)]
theorem UwV {W:World} (h:laidMetH Tryz.prog Udz W):Lib.TabIs Tryz.prog W "internal/strconv.uint64pow10" .u64 Lib.pow10Tab:=by
 rw [MakeChecks.laidMetH_plain _ _ _ (by kernel_rfl)] at h
 obtain ⟨ps,⟨_,_,_,_,_,_,_,_,_,_,⟨_,_,_,_,_,_,_,_,_,_,⟨g,t,cs,f,p,q,hg,ht,hv,hd,_,_⟩,_⟩,_⟩,_⟩:=h
 obtain rfl:=Option.some.inj ((show Tryz.prog.globalNamed "internal/strconv.uint64pow10" = some 0 by kernel_rfl).symm.trans hg)
 have e:(Rows.laid_internal_strconv_uint64pow10:DataW Unit)=Lib.tabData .u64 Lib.pow10Tab:=by kernel_rfl
 rw [e] at hd
 obtain rfl:=Option.some.inj ((show (Tryz.prog.globals[0]?).map (·.type)=some 199 by kernel_rfl).symm.trans ht)
 have hc:=Lib.cells_of_tab Tryz.underlying199 Tryz.underlying144 (by kernel_rfl) (by kernel_rfl) hd
 unfold Lib.TabIs
 rw [hv,←hc]
theorem UwW {P:Program} {W:World} {name:String} {k:IntKind} {zs:List Int} {g:Nat} (hg:P.globalNamed name=some g) (h:Lib.TabIs P W name k zs):g<W.heap.size:=by
 unfold Lib.TabIs World.var? at h
 rw [hg] at h
 simp only [Option.bind_some] at h
 split at h
 · rename_i hh
   exact (Array.getElem?_eq_some_iff.1 hh).1
 · cases h
abbrev Tab (W:World):Prop:=Lib.TabIs Tryz.prog W "internal/strconv.uint64pow10" .u64 Lib.pow10Tab
def Fp (ps:List MemPlace) (b:Nat):Prop:=b=0∨∃ x∈ps,x.block=b
theorem UJW {ps qs:List MemPlace} (h:∀ x∈qs,x∈ps):∀ x∈qs,Fp ps x.block:=fun x hx=>.inr ⟨x,h x hx,rfl⟩
theorem Uv6 {g:Nat} {fs:FS} (hf:FSound Tryz.prog GI g fs) {cargs:Array Value} {args:List PV} {W:World} (h:Tab W) (ps:List MemPlace) (hlt:∀ x∈ps,x.block<W.heap.size)
 (ha:RSs Tryz.prog (Fp ps) W (args.map SV.p) cargs.toList []) (hk:fs.run (args.map SV.p) JgZ=some true) :
 Calls Tryz.prog g cargs W fun e w'=>e=.returned (.bool true)∧RowKit.Below W.heap.size W w' :=
 Jjb hf W (Fp ps) (fun b hb=>by
  rcases hb with rfl | ⟨x,hx,rfl⟩
  · exact UwW (by kernel_rfl) h
  · exact hlt x hx) ⟨.inl rfl,h⟩ ha hk
theorem c3:Tryz.prog.cellsOf 3=1:=by kernel_rfl
theorem c4:Tryz.prog.cellsOf 4=1:=by kernel_rfl
theorem c9:Tryz.prog.cellsOf 9=1:=by kernel_rfl
theorem c22:Tryz.prog.cellsOf 22=1:=by kernel_rfl
theorem c24:Tryz.prog.cellsOf 24=2:=by kernel_rfl
theorem c25:Tryz.prog.cellsOf 25=1:=by kernel_rfl
theorem c33:Tryz.prog.cellsOf 33=1:=by kernel_rfl
theorem c35:Tryz.prog.cellsOf 35=5:=by kernel_rfl
theorem c66:Tryz.prog.cellsOf 66=2:=by kernel_rfl
theorem c70:Tryz.prog.cellsOf 70=4:=by kernel_rfl
section
variable {H:Type} {enc:TypeId × Value→H} {W:World} {spare:Nat→Bool} {held:Bool} {F:Nat→Prop}
abbrev UkK:=Int × ByteArray × Unit
abbrev UDF:=List UkK × ByteArray × Bool × Int × Unit
abbrev UJs:=Int × List UDF × Unit
def termC (y:UkK):List PV:=[.v (.int .i64 y.1)]++([.v (.string y.2.1)]++[])
def rowC (y:UDF):List PV:=[.sh (y.1.map fun t=>.agg (termC t))]++([.v (.string y.2.1)]++([.v (.bool y.2.2.1)]++([.v (.int .i64 y.2.2.2.1)]++[])))
def sysC (y:UJs):List PV:=[.v (.int .i64 y.1)]++([.sh (y.2.1.map fun r=>.agg (rowC r))]++[])
theorem UBL {f:Field} {fs:List Field} {off:Nat} {B:Type} {ok2:B→Prop} {cells2:B→List PV} {size:Nat} (ho:f.offset=off) (ht:f.type=3) (s:Fld enc Tryz.prog W spare held F fs (off + 1) B ok2 cells2 size) :
 Fld enc Tryz.prog W spare held F (f::fs) off (Int × B) (fun y=>(Lit.int .i64 y.1).wf=true∧ok2 y.2) (fun y=>[.v (.int .i64 y.1)]++cells2 y.2) (1 + size) :=
 JkR ho (by rw [ht]; exact c3) (by rw [ht]; exact Jlo Tryz.underlying3 c3) s
theorem UFN {f:Field} {fs:List Field} {off:Nat} {B:Type} {ok2:B→Prop} {cells2:B→List PV} {size:Nat} (ho:f.offset=off) (ht:f.type=9) (s:Fld enc Tryz.prog W spare held F fs (off + 1) B ok2 cells2 size) :
 Fld enc Tryz.prog W spare held F (f::fs) off (ByteArray × B) (fun y=>y.1.size≤maxLen∧ok2 y.2) (fun y=>[.v (.string y.1)]++cells2 y.2) (1 + size) :=
 JkR ho (by rw [ht]; exact c9) (by rw [ht]; exact Jlp Tryz.underlying9 c9) s
theorem UFM {f:Field} {fs:List Field} {off:Nat} {B:Type} {ok2:B→Prop} {cells2:B→List PV} {size:Nat} (ho:f.offset=off) (ht:f.type=4) (s:Fld enc Tryz.prog W spare held F fs (off + 1) B ok2 cells2 size) :
 Fld enc Tryz.prog W spare held F (f::fs) off (Bool × B) (fun y=>True∧ok2 y.2) (fun y=>[.v (.bool y.1)]++cells2 y.2) (1 + size) :=
 JkR ho (by rw [ht]; exact c4) (by rw [ht]; exact Jlc Tryz.underlying4 c4) s
theorem UDK {t k:Nat} {f:Field} {fs:List Field} {off:Nat} {A B:Type} {ok:A→Prop} {cells:A→List PV} {ok2:B→Prop} {cells2:B→List PV} {size:Nat} (ht:f.type=t) (hc:Tryz.prog.cellsOf t=k) (r:Rd enc Tryz.prog W spare held F t A ok cells) (ho:f.offset=off) (s:Fld enc Tryz.prog W spare held F fs (off + k) B ok2 cells2 size) :
 Fld enc Tryz.prog W spare held F (f::fs) off (A × B) (fun y=>ok y.1∧ok2 y.2) (fun y=>cells y.1++cells2 y.2) (k + size) :=
 JkR ho (by rw [ht]; exact hc) (by rw [ht]; exact r) s
theorem UDr:∃ ok,Rd enc Tryz.prog W spare held F 66 UkK ok termC :=
 ⟨_,JkG Tryz.underlying66 c66 (UBL rfl rfl (UFN rfl rfl (Jk4 _)))⟩
theorem UoD:∃ ok,Rd enc Tryz.prog W spare held F 33 (List UkK) ok (fun l=>[.sh (l.map fun t=>.agg (termC t))]) :=
 let ⟨ok,h⟩:=UDr
 ⟨_,JkY Tryz.underlying33 c33 (by rw [c66]; omega) (fun a=>rfl) h⟩
theorem UIk:∃ ok,Rd enc Tryz.prog W spare held F 70 UDF ok rowC :=
 let ⟨ok,h⟩:=UoD
 ⟨_,JkG Tryz.underlying70 c70 (UDK (t:=33) rfl c33 h rfl (UFN rfl rfl (UFM rfl rfl (UBL rfl rfl (Jk4 _)))))⟩
theorem UDp:∃ ok,Rd enc Tryz.prog W spare held F 22 (List UDF) ok (fun l=>[.sh (l.map fun t=>.agg (rowC t))]) :=
 let ⟨ok,h⟩:=UIk
 ⟨_,JkY Tryz.underlying22 c22 (by rw [c70]; omega) (fun a=>rfl) h⟩
theorem UIl:∃ ok,Rd enc Tryz.prog W spare held F 24 UJs ok sysC :=
 let ⟨ok,h⟩:=UDp
 ⟨_,JkG Tryz.underlying24 c24 (UBL rfl rfl (UDK (t:=22) rfl c22 h rfl (Jk4 _)))⟩
theorem UDq:∃ ok,Rd enc Tryz.prog W spare held F 25 (List ByteArray) ok (fun l=>[.sh (l.map fun s=>.v (.string s))]) :=
 ⟨_,JkY Tryz.underlying25 c25 (by rw [c9]; omega) (fun a=>rfl) (Jlp Tryz.underlying9 c9)⟩
def Uvh (y:UkK):TermT:=(y.1,y.2.1.data.toList)
def UJj (y:UDF):RowT:=⟨y.1.map Uvh,y.2.1.data.toList,y.2.2.1,y.2.2.2.1⟩
theorem Uvi (l:List UkK):(l.map fun t=>PV.agg (termC t))=tms (l.map Uvh):=by
 unfold tms; rw [List.map_map]; rfl
theorem UIn (l:List UDF):(l.map fun t=>PV.agg (rowC t))=rws (l.map UJj):=by
 unfold rws
 rw [List.map_map]
 refine List.map_congr_left fun r _=>?_
 show PV.agg ([.sh (r.1.map fun t=>.agg (termC t))]++_)=rPV (UJj r)
 rw [Uvi]; rfl
theorem Uzm (l:List ByteArray):(l.map fun s=>PV.v (.string s))=sl (l.map fun s=>s.data.toList):=by
 unfold sl; rw [List.map_map]; rfl
abbrev UDV:=UJs × List UkK × List ByteArray × List ByteArray × Unit
def caseC (y:UDV):List PV:=sysC y.1++([.sh (y.2.1.map fun t=>.agg (termC t))]++([.sh (y.2.2.1.map fun s=>.v (.string s))]++([.sh (y.2.2.2.1.map fun s=>.v (.string s))]++[])))
theorem UDo:∃ ok,Rd enc Tryz.prog W spare held F 35 UDV ok caseC :=
 let ⟨_,h1⟩:=UIl
 let ⟨_,h2⟩:=UoD
 let ⟨_,h3⟩:=UDq
 ⟨_,JkG Tryz.underlying35 c35 (UDK (t:=24) rfl c24 h1 rfl (UDK (t:=33) rfl c33 h2 rfl (UDK (t:=25) rfl c25 h3 rfl (UDK (t:=25) rfl c25 h3 rfl (Jk4 _)))))⟩
theorem UIo {es:List PV} {v:Value} (h:RP F W (.sh es) v):es.length≤maxLen:=by
 cases h with
 | sh _ _ _ _ h4 h5 h6=>omega
theorem Uvy {cs:Array Value} {d:DataW H} {p:List MemPlace} (h:DataW.Trod enc Tryz.prog W 0 spare held 35 (.agg cs) d p) (hF:∀ x∈p,F x.block) :
 ∃ cols rows cost w mult,cost.length≤9223372036854775807∧RP F W (.agg [.v (.int .i64 cols),.sh (rws rows),.sh (tms cost),.sh (sl w),.sh (sl mult)]) (.agg cs):=by
 obtain ⟨ok,r⟩:=UDo (enc:=enc) (W:=W) (spare:=spare) (held:=held) (F:=F)
 obtain ⟨a,_,h2⟩:=Jlq r h hF
 have e:caseC a=[.v (.int .i64 a.1.1),.sh (rws (a.1.2.1.map UJj)),.sh (tms (a.2.1.map Uvh)),.sh (sl (a.2.2.1.map fun s=>s.data.toList)),.sh (sl (a.2.2.2.1.map fun s=>s.data.toList))]:=by
  rw [←UIn,←Uvi,←Uzm,←Uzm]; rfl
 rw [e] at h2
 refine ⟨a.1.1,a.1.2.1.map UJj,a.2.1.map Uvh,a.2.2.1.map fun s=>s.data.toList,a.2.2.2.1.map fun s=>s.data.toList,?_,h2⟩
 have h3:∃ v,RP F W (.sh (tms (a.2.1.map Uvh))) v:=by
  cases h2 with
  | agg q _ =>
   cases q with
   | cons _ q =>
    cases q with
    | cons _ q =>
     cases q with
     | cons q _=>exact ⟨_,q⟩
 obtain ⟨v,h3⟩:=h3
 have:=UIo h3
 rw [Ua] at this
 exact Nat.le_trans this (by decide)
end
end Go.Proofs.YtmgfmlhdnadglaaGreatDoor
set_option linter.unusedVariables false
set_option maxRecDepth 100000
namespace Go.Proofs.YtmgfmlhdnadglaaGreatDoor
open Go Th Go.Proofs
noncomputable section
variable {R:Type}
def UJt:Ann:={ loops:=[],cuts:=[],frz:=[],rm:=[.id] }
abbrev UNA (n:Nat):Env:=eC 16 (UNP n) (eC 15 (UJX n) (eC 14 (UNO n) (eC 11 (UNM n) eN)))
theorem Uyc (n:Nat):EnvOK Tryz.prog GI (UNA n):=.cons (.cons (.cons (.cons (.nil) (URe n)) (URg n)) (UOO n)) (URh n)
def p4 (n:Nat) (x1:Int) (x2 x3 x4 x5:LP) (k0:Bool→O R):O R :=
 p14 n x1 x2 x3 x4 x5 (fun y6=>bif (!y6) then (p11 n (fun y7=>k0 y7)) else (p15 n x1 x2 x3 x4 x5 (fun y8=>p16 n x1 x2 x3 x4 x5 (fun y9=>bif (y8 == y9) then (p11 n (fun y10=>k0 (bif true then y10 else false))) else (k0 false)))))
abbrev lo4 (n:Nat):Orc R:=oN
abbrev cu4 (n:Nat):Orc R:=oN
abbrev K4 (R:Type) (n:Nat):=JcH (R:=R) Tryz.prog (UNA n) UJt n (29,[]) (lo4 n) (cu4 n)
theorem pa4 (n:Nat):Je6 (K4 R n) (JaJ UJt (Jll Tryz.f4)):=pO pN (by kernel_rfl)
abbrev t4:Sl (List SV):=(.c (sP (JlI (.c (Jlv .i64) (.c sSh (.c sSh (.c sSh (.c sSh .n))))))) .n)
abbrev f4 (n:Nat) (K:List SV→O R):t4.T (O R):=fun x1 x2 x3 x4 x5=>p4 n x1 x2 x3 x4 x5 (fun y1=>K [vB y1])
abbrev fs4 (n:Nat):FS:=fT [false] t4 (f4 n)
theorem ok4 (n:Nat):FSound Tryz.prog GI 4 (fs4 n):=gd UJt n (Uyc n) Tryz.func4 (.cons (Uyc n) t4 (f4 n) (fun K _ _ _ _ _=>(Jkq (c:=Jll Tryz.f4) (by kernel_rfl) (pa4 n) K).trans (by kernel_rfl)) .nil) (by kernel_rfl)
end
end Go.Proofs.YtmgfmlhdnadglaaGreatDoor
set_option linter.unusedVariables false
set_option linter.unusedSimpArgs false
namespace Go.Proofs.YtmgfmlhdnadglaaGreatDoor
open Go Th Go.Proofs
variable {R:Type}
theorem Ufr (n:Nat) (hn:10 ^ 2000≤n) (cols:Int) (rows:List RowT) (cost:List TermT) (hcl:cost.length≤9223372036854775807) (w mult:List (List UInt8)) (k:Bool→Option R):p4 n cols (rws rows) (tms cost) (sl w) (sl mult) k=k true:=by
 have hN:=Ual (Uat (Uke hn))
 have hA:=fun k=>UCh (R:=R) n (Nat.le_trans (by decide) hN) k
 have h1:=fun k=>UBO (R:=R) n hN (Nat.lt_of_lt_of_le (by decide +kernel) hn) cols rows cost hcl w mult k
 unfold p4
 rw [h1]
 cases h3:UFO rows cost w mult with
 | false=>simp only [UKJ,Uay,hA]
 | true =>
  obtain ⟨s1,s2,s3,s4⟩:=UBP h3
  have g1:=fun k=>Uv7 (R:=R) n (Uke hn) cols rows cost w mult s1 s2 s3 s4 k
  have g2:=fun k=>UuP (R:=R) n hn cols rows cost w mult s1 s2 s3 s4 k
  have e:(UgZ cols rows cost w mult == UgZ cols rows cost w mult)=true:=beq_self_eq_true _
  simp only [UI2,Uaf,g1,g2,e,Uay,hA]
theorem Ufo {H:Type} {enc:TypeId × Value→H} {spare:Nat→Bool} {held:Bool} (W:World) (h:Tab W) {c0:Array Value} {d0:DataW H} {q0:List MemPlace}
 (h0:DataW.Trod enc Tryz.prog W 0 spare held 35 (.agg c0) d0 q0) (hlt:∀ x∈q0,x.block<W.heap.size) :
 Calls Tryz.prog 4 #[.agg c0] W fun e w'=>e=.returned (.bool true)∧RowKit.Below W.heap.size W w':=by
 obtain ⟨cols,rows,cost,w,mult,hcl,r0⟩:=Uvy (F:=Fp q0) h0 (UJW fun x hx=>hx)
 obtain ⟨n,hn⟩:∃ n:Nat,10 ^ 2000≤n:=⟨_,Nat.le_refl _⟩
 refine Uv6 (ok4 n) (args:=[.agg [.v (.int .i64 cols),.sh (rws rows),.sh (tms cost),.sh (sl w),.sh (sl mult)]]) h q0 hlt (.cons (B:=[]) (.p r0) .nil) ?_
 show p4 n cols (rws rows) (tms cost) (sl w) (sl mult) _=_
 rw [Ufr n hn cols rows cost hcl w mult]; rfl
end Go.Proofs.YtmgfmlhdnadglaaGreatDoor
namespace Go.Proofs.YtmgfmlhdnadglaaGreatDoor.certifyLeast
open Go.ChangeShapes Go.WideShapes Go.ChangeAt Go.RowKit
open Go.ChangeMaps (open_string shut_string)
theorem own:ownKnob Tryz.prog.godebug=none:=by kernel_rfl
theorem laidOut:laidOutB Tryz.prog=true:=by kernel_rfl
set_option maxRecDepth 100000 in
theorem lifted (os:Os) (started:os.Started) (H:Type) (enc:TypeId × Value→H) :
 ReturnsInHanded {} Tryz.checked os 4 .any (fun w args=>(Rows.certifyLeastSpec.pre enc Tryz.prog Tryz.f4 Rows.certifyLeastRow.domain false w args∧laidMetH Tryz.prog Udz w)∧sizedMet enc Tryz.prog Tryz.f4 (OpenSpec.ofChange Rows.certifyLeastSpec) false w args)
  (Rows.certifyLeastSpec.post enc Tryz.prog Tryz.f4 false true false false):=by
 refine returnsInHanded_of_change_and (C:=Tryz.checked) (X:=fun w _=>laidMetH Tryz.prog Udz w) (fun _ _ _ hh h=>h.of_heap hh) own started (by kernel_rfl) Tryz.func4
  (ChangeSpec.witness_shaped (enc:=enc) (C:=Tryz.checked) (os:=os) (X:=fun w _=>laidMetH Tryz.prog Udz w) false (World.laidAll Tryz.prog os Udz) #[.agg #[.int .i64 0,.slice none 0 0,.slice none 0 0,.slice none 0 0,.slice none 0 0]] 8 (World.laidAll_os _ _ _)
    (World.shaped_of_ZipB (by kernel_rfl) (by kernel_rfl)) (by kernel_rfl) (by kernel_rfl) (by kernel_rfl)
    (by rw [MakeChecks.laidMetH_plain _ _ _ (by kernel_rfl)]; exact laidMet_laidAll _ (by kernel_rfl) (by kernel_rfl))) ?_
 intro W base args ds gs before hval0 hW hcnd hsz0 hL _
 have hval:∀ (j:Nat) t v,Tryz.f4.params[j]? = some t→args[j]? = some v→Value.okWide Tryz.prog W .any base t v:=hval0
 have hW':=hW
 obtain ⟨p,q,hA0,hV,rfl,hfz,hnd⟩:=hW
 have hA:DataW.TrodAll enc Tryz.prog W 0 (fun _=>true) true Tryz.f4.params.toList args.toList ds p:=hA0
 rw [Tryz.params4] at hA hval
 obtain ⟨v0,vs0,d0,ds0,p0,q0,hargs,rfl,rfl,h0,r0⟩:=trodAll_cons hA
 obtain ⟨rfl,rfl,rfl⟩:=trodAll_nil r0
 obtain rfl:args=#[v0]:=by cases args; simp_all
 obtain ⟨rfl,rfl⟩:=trodVars_none hV
 obtain ⟨cs0,rfl,_⟩:=okWide_struct Tryz.underlying35 (hval 0 35 v0 rfl rfl)
 have h0k:=h0
 have hlt:∀ x∈p0,x.block<W.heap.size:=fun x hx=>by simpa using hW'.lt x (by simpa using hx)
 have hcall:=Ufo W (UwV hL) h0 hlt
 clear hA0 hval0 hsz0
 refine hcall.mono fun e W' ⟨he,bel⟩=>?_
 subst he
 exact ⟨_,rfl,_,_,_,[],_,[],hW',trodAll_mk1 (shut_bool Tryz.underlying4 _),(trodAll_cons_mk (Below.trod laidOut (by kernel_rfl) (of_decide_eq_true (by kernel_rfl)) h0k bel (fun x hx=>hlt x (by simp [hx]))) trodAll_mk0),rfl,bel.frame _,fun h=>by cases h⟩
theorem over:Rows.CertifyLeastSaid :=
 OpenClaim.holds_of_wide 4 Tryz.f4 rfl rfl rfl rfl rfl rfl rfl ⟨rfl,rfl,rfl,rfl,rfl⟩ rfl rfl rfl rfl rfl (by kernel_rfl) Tryz.func4 (by kernel_rfl)
  (of_decide_eq_true (by kernel_rfl)) (by unfold Func.isWrapper; first | (rw [if_pos (by decide +kernel)]; kernel_rfl) | (rw [if_neg (by decide +kernel)]; exact ⟨rfl,rfl⟩))
  (fun os started H enc _=>lifted os started H enc)
theorem proved:Rows.CertifyLeastCardSaid :=
 Claim7.holds_tied_plain_at .later [] [.data,.data,.data,.data,.sentinel,.sentinel,.pinned] true (true, "f7700371c8b5fddb2e0cf9d5ff2e169200c13f28753ab1d3c19509a013739147") true over (fun _ h=>by cases h) (by kernel_rfl) (fun _ h=>by cases h) certifyLeast_row_tie rfl ⟨rfl,rfl⟩ (by kernel_rfl) rfl
  (fun f fn hf hfn=>by
    obtain rfl:f=4:=Option.some.inj ((show Tryz.prog.funcNamed "cellarer/cellarerlaw08.CertifyLeast" = some 4 by kernel_rfl).symm.trans hf) |>.symm
    obtain rfl:fn=Tryz.f4:=(Option.some.inj (Tryz.func4.symm.trans hfn)).symm
    exact ⟨by kernel_rfl,fun j t ht=>by
     rw [Tryz.params4] at ht
     have hm:t∈[35]:=by simpa using Array.mem_of_getElem? ht
     have hall:([35].all fun u=>!Tryz.prog.wantsStandIn u)=true:=by kernel_rfl
     exact (show Tryz.prog.wantsStandIn t=false by simpa using List.all_eq_true.1 hall t hm)⟩)
  (by kernel_rfl)
end Go.Proofs.YtmgfmlhdnadglaaGreatDoor.certifyLeast
namespace Go.Proofs.YtmgfmlhdnadglaaGreatDoor
theorem certifyLeast_holds:Rows.CertifyLeastCardSaid:=certifyLeast.proved
end Go.Proofs.YtmgfmlhdnadglaaGreatDoor
