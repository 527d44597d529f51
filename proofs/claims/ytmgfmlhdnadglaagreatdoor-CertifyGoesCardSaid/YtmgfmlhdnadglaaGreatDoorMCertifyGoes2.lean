/- Proved: the law CertifyGoes returns true at all its arguments (no further conditions): the row and what it stands on. -/
import Derived.Test.YtmgfmlhdnadglaaGreatDoorMCertifyGoes0
import Derived.Test.YtmgfmlhdnadglaaGreatDoorMCertifyGoes1
import Derived.Test.YtmgfmlhdnadglaaGreatDoorT2
import Derived.Test.YtmgfmlhdnadglaaGreatDoorT1
import Derived.Test.YtmgfmlhdnadglaaGreatDoorRows
import Derived.WalkKit
import Derived.ProofKit
import Derived.LaidMore
import Derived.Lay
import Derived.Lib.LaidTab
import Derived.Test.YtmgfmlhdnadglaaGreatDoorCards
import Derived.Test.YtmgfmlhdnadglaaGreatDoorTie
import Derived.OpenShut
import Derived.ShutString
import Derived.ChangeOld
import Derived.Below
import Derived.SizedLaws
import Derived.SevenTiedAt
import Derived.Stop.Joined
import Derived.Deep.Strs
import Derived.Carry
set_option linter.unusedVariables false
set_option maxRecDepth 100000
namespace Go.Proofs.YtmgfmlhdnadglaaGreatDoor
open Go Th Go.Proofs
noncomputable section
variable {R:Type}
abbrev t25:Sl (List SV):=(.c (sP (JlH (.c sSh (.c Jle (.c sSh (.c Jle (.c sSh .n))))))) .n)
abbrev t46:Sl (List SV):=(cS (cH .n))
abbrev t70:Sl (List SV):=(.c (sP (JlH (.c sSh (.c Jle (.c sSh (.c Jle (.c sSh .n))))))) (.c (sP (JlH (.c sSh (.c Jle (.c sSh (.c Jle (.c sSh .n))))))) .n))
abbrev t24:Sl (List SV):=(.c (sP (JlH (.c (Jlu .i64) (.c sSh .n)))) (cH .n))
abbrev t34:Sl (List SV):=(.c (sP (JlH (.c Jle (.c sSh (.c Jle (.c sSh .n)))))) .n)
end
end Go.Proofs.YtmgfmlhdnadglaaGreatDoor
set_option linter.unusedVariables false
set_option linter.unusedSimpArgs false
namespace Go.Proofs.YtmgfmlhdnadglaaGreatDoor
open Go Th Go.Proofs
variable {R:Type}
theorem Ucg {N:Nat} {σ:Type} {Inv:Nat→σ→Prop} (L:Nat→σ→Nat→Option R) {r:Option R} (hend:∀ m s,Inv N s→L (m + 1) s N=r)
 (hstep:∀ m s i,i<N→Inv i s→L (m + 1) s i=r∨∃ s',Inv (i + 1) s'∧L (m + 1) s i=L m s' (i + 1)):∀ (d m i:Nat) (s:σ),d + i=N→d<m→Inv i s→L m s i=r
 | 0,m + 1,i,s,hd,hm,hs=>by
  have:i=N:=by omega
  subst this
  exact hend m s hs
 | d + 1,m + 1,i,s,hd,hm,hs=>by
  rcases hstep m s i (by omega) hs with h | ⟨s',h1,h2⟩
  · exact h
  · rw [h2]; exact Ucg L hend hstep d m (i + 1) s' (by omega) (by omega) h1
def hiC (s:List SpT):Nat:=s.foldl (fun c t=>max c (t.1 + 1)) 0
theorem UdB:∀ (s:List SpT) (c:Nat),c≤s.foldl (fun c t=>max c (t.1 + 1)) c∧(∀ t∈s,t.1<s.foldl (fun c t=>max c (t.1 + 1)) c)∧∀ b,c≤b→(∀ t∈s,t.1<b)→s.foldl (fun c t=>max c (t.1 + 1)) c≤b
 | [],c=>⟨Nat.le_refl _,(by intro t h; cases h),fun b h _=>h⟩
 | t::s,c=>by
  obtain ⟨h1,h2,h3⟩:=UdB s (max c (t.1 + 1))
  rw [List.foldl_cons]
  refine ⟨by omega,fun x hx=>?_,fun b hb hx=>h3 b ?_ fun y hy=>hx y (List.mem_cons_of_mem _ hy)⟩
  · rcases List.mem_cons.1 hx with rfl | hx
    · omega
    · exact h2 x hx
  · have:=hx t (List.mem_cons_self ..)
    omega
theorem UtZ {s:List SpT}:∀ t∈s,t.1<hiC s:=(UdB s 0).2.1
theorem UlW {s:List SpT} {b:Nat} (h:∀ t∈s,t.1<b):hiC s≤b:=(UdB s 0).2.2 b (Nat.zero_le _) h
theorem UrX (l:List TermT):(spL l).length=l.length:=by unfold spL; rw [List.length_map]
end Go.Proofs.YtmgfmlhdnadglaaGreatDoor
set_option linter.unusedVariables false
set_option maxRecDepth 100000
namespace Go.Proofs.YtmgfmlhdnadglaaGreatDoor
open Go Th Go.Proofs
noncomputable section
variable {R:Type}
abbrev t13:Sl (List SV):=(.c (sP (JlH (.c (Jlu .i64) (.c sSh .n)))) (cH .n))
end
end Go.Proofs.YtmgfmlhdnadglaaGreatDoor
set_option linter.unusedVariables false
set_option linter.unusedSimpArgs false
namespace Go.Proofs.YtmgfmlhdnadglaaGreatDoor
open Go Th Go.Proofs
variable {R:Type}
end Go.Proofs.YtmgfmlhdnadglaaGreatDoor
set_option linter.unusedVariables false
set_option maxRecDepth 100000
namespace Go.Proofs.YtmgfmlhdnadglaaGreatDoor
open Go Th Go.Proofs
noncomputable section
variable {R:Type}
end
end Go.Proofs.YtmgfmlhdnadglaaGreatDoor
set_option linter.unusedVariables false
set_option linter.unusedSimpArgs false
namespace Go.Proofs.YtmgfmlhdnadglaaGreatDoor
open Go Th Go.Proofs
variable {R:Type}
theorem Uq1 (a b:List SpT):hiC (a++b)=(b.foldl (fun c t=>max c (t.1 + 1)) (hiC a)):=by unfold hiC; rw [List.foldl_append]
theorem UjA:∀ {a:List SpT} {t:SpT} {last:Int},asc last (a++[t])→∀ x∈a,x.1<t.1
 | y::a,t,last,h,x,hx=>by
  rcases List.mem_cons.1 hx with rfl | hx
  · have:=Ugq h.2 t (List.mem_append_right _ (List.mem_singleton.2 rfl)); omega
  · exact UjA h.2 x hx
theorem Usn {s:List SpT} {last:Int} (h:asc last s) (hl:0<s.length):hiC s=(s[s.length - 1]'(by omega)).1 + 1:=by
 obtain ⟨a,t,rfl⟩:∃ a t,s=a++[t]:=⟨s.dropLast,s.getLast (by intro e; rw [e] at hl; simp at hl),(List.dropLast_concat_getLast _).symm⟩
 have h1:hiC a≤t.1:=UlW fun x hx=>UjA h x hx
 have e:(a++[t])[(a++[t]).length - 1]'(by omega)=t:=by simp
 rw [e,Uq1]
 simp only [List.foldl_cons,List.foldl_nil]
 omega
theorem Uq2:hiC []=0:=rfl
noncomputable def evK (k0:ByteArray→Int→Option R):Option Rat→Option R
 | none=>k0 (bs []) 5
 | some x=>k0 (bs (Uaf x)) 0
noncomputable def vq (w:List (List UInt8)):List Rat:=w.map rq
theorem Uc0 (w:List (List UInt8)):(vq w).length=w.length:=by unfold vq; rw [List.length_map]
theorem Uvg {w:List (List UInt8)} {i:Nat} (h:i<w.length):(vq w).getD i 0=rq w[i]:=by
 unfold vq; rw [Uc8 rq h]
theorem Uns (n:Nat) (hn:10 ^ 1000≤n) {r:SpR} (hr:okF 2048 r) {w:List (List UInt8)} (hw:Udq w=true) (hc:hiC r.1≤w.length) (k0:ByteArray→Int→Option R) :
 UaS n (sl w) (tms (vt r.1)) (bs (Uaf r.2)) k0=evK k0 (Uao (evS (vq w)) r.2 r.1):=by
 have hN:=Ua6 (Uc2 hn)
 have hL:=UgO hr.1
 have H:=Ui3 (R:=R) (l:=r.1) (step:=evS (vq w)) (kerr:=k0 (bs []) 5) (kend:=fun x=>k0 (bs (Uaf x)) 0) (Inv:=fun _ x=>fits x)
  (fun m x i=>Ubl n m (sl w) (bs (Uaf x)) (tms (vt r.1)) ((tms (vt r.1)).length:Int) (i:Int) (fun y4 y5 y6=>k0 y4 y5) (fun y7=>k0 y7 0))
  (fun m x hx=>by simp only [Ubl,Udi]; simp (disch:=(first | omega | (simp only [JlD]; omega))) only [↓JlG,JlE,Ua,UbB])
  (fun x x' i hi hx he=>(Udp he).2)
  (fun m x i hi hx=>by
    have ht:=(hr.1.2 _ (List.getElem_mem hi)).2.1
    have htw:(r.1[i]).1<w.length:=Nat.lt_of_lt_of_le (UtZ _ (List.getElem_mem hi)) hc
    have hq:=Upl (List.all_eq_true.1 hw _ (List.getElem_mem htw))
    have hin:inR ((r.1[i]).1:Int) w.length=true:=Jkt (by omega) (by omega)
    have g1:∀ k,p21 n (bs (Uaf (r.1[i]).2)) (bs (w[(r.1[i]).1])) k=Ugl ((r.1[i]).2 * rq (w[(r.1[i]).1])) k:=fun k=>by
     have:=Un2 (R:=R) n hn (r.1[i]).2 (rq (w[(r.1[i]).1])) ht hq.1 k
     rw [←hq.2] at this
     exact this
    simp only [Ubl,Udi]
    unfold evS Uvm
    rw [Uvg htw]
    by_cases h1:fits ((r.1[i]).2 * rq (w[(r.1[i]).1]))
    · have g1':∀ k,p21 n (bs (Uaf (r.1[i]).2)) (bs (w[(r.1[i]).1])) k=k (bs (Uaf ((r.1[i]).2 * rq (w[(r.1[i]).1])))) 0:=fun k=>by rw [g1,Udn h1]
      have g2:=fun k=>Un1 (R:=R) n hn x ((r.1[i]).2 * rq (w[(r.1[i]).1])) hx h1 k
      rw [if_pos h1]
      by_cases h2:fits (x + (r.1[i]).2 * rq (w[(r.1[i]).1]))
      · have g2':∀ k,p22 n (bs (Uaf x)) (bs (Uaf ((r.1[i]).2 * rq (w[(r.1[i]).1])))) k=k (bs (Uaf (x + (r.1[i]).2 * rq (w[(r.1[i]).1])))) 0:=fun k=>by rw [g2,Udn h2]
        rw [if_pos h2]
        simp (disch:=(first | omega | (simp only [JlD]; omega))) only [↓JlG,JlE,Ua,UbB,Jjh,Um0 hi,Uag,hin,Ua1 htw,g1',Ujh,g2',i1]
        rfl
      · have g2':∀ k,p22 n (bs (Uaf x)) (bs (Uaf ((r.1[i]).2 * rq (w[(r.1[i]).1])))) k=k (bs []) 5:=fun k=>by rw [g2]; unfold Ugl; rw [if_neg h2]
        rw [if_neg h2]
        simp (disch:=(first | omega | (simp only [JlD]; omega))) only [↓JlG,JlE,Ua,UbB,Jjh,Um0 hi,Uag,hin,Ua1 htw,g1',Ujh,g2',Usb,i1]
        rfl
    · have g1':∀ k,p21 n (bs (Uaf (r.1[i]).2)) (bs (w[(r.1[i]).1])) k=k (bs []) 5:=fun k=>by rw [g1]; unfold Ugl; rw [if_neg h1]
      rw [if_neg h1]
      simp (disch:=(first | omega | (simp only [JlD]; omega))) only [↓JlG,JlE,Ua,UbB,Jjh,Um0 hi,Uag,hin,Ua1 htw,g1',Usb,i1]
      rfl) r.1.length n 0 r.2 (by omega) (by omega) hr.2
 rw [List.drop_zero] at H
 unfold UaS Ume
 refine Eq.trans H ?_
 cases Uao (evS (vq w)) r.2 r.1 <;> rfl
noncomputable def evA (l:List TermT) (c:List UInt8) (w:List (List UInt8)) (k0:ByteArray→Int→Option R):Option R :=
 if Ujd l c≠0 then k0 (bs []) 3 else if Udq w=false then k0 (bs []) 3 else if w.length<hiC (spL l) then k0 (bs []) 2 else evK k0 (Uao (evS (vq w)) (rq c) (spL l))
theorem Ulf (n:Nat) (hn:10 ^ 1000≤n) (l:List TermT) (c:List UInt8) (w:List (List UInt8)) (hl:smT l) (hc:c.length<2 ^ 17) (hw:smS w) (k0:ByteArray→Int→Option R) :
 p18 n (tms l) (bs c) (sl w) k0=evA l c w k0:=by
 have hN:=Ua6 (Uc2 hn)
 have hL:=hw.1
 unfold p18 evA
 rw [UhJ n (Uc2 hn) l c hl hc]
 by_cases h0:Ujd l c=0
 · have e0:(Ujd l c != 0)=false:=by rw [h0]; rfl
   rw [e0,Uak,if_neg (by simp [h0])]
   obtain ⟨o1,o2⟩:=UiG.1 h0
   obtain ⟨s1,s2⟩:=Ul4 o1
   have c1:=Upl o2
   have hr:okF 2048 (spL l,rq c):=⟨s1,c1.1⟩
   have h:=Uap (R:=R) (l:=w) (ok:=qb) (kbad:=k0 (bs []) 3) (kend:=(fun y10 y11 y12=>bif (decide (((y11).length:Int)>0)) then (let v13:=IntKind.i64.wrap (((y11).length:Int) - 1); bif (inR v13 ((y11).length)) then (Jh1 ((y11).getD ((v13:Int).toNat) (.v (.bool false))) fun a14=>JdT a14 fun h15 t16=>Ji9 .i64 h15 fun e17=>JdT t16 fun h18 t19=>Jj2 h18 fun e20=>Ji1 t19 (bif (bif true then (decide (e17≥((y10).length:Int))) else false) then (k0 ⟨#[]⟩ 2) else (UaS n y10 y11 y12 (fun y21 y22=>k0 y21 y22)))) else none) else (UaS n y10 y11 y12 (fun y23 y24=>k0 y23 y24))) (sl w) (tms l) (bs c))
    (fun m i=>Ucr n m (sl w) (tms l) (bs c) (sl w) ((sl w).length:Int) (i:Int) (fun y5 y6 y7 y8 y9=>k0 y8 y9) (fun y10 y11 y12=>bif (decide (((y11).length:Int)>0)) then (let v13:=IntKind.i64.wrap (((y11).length:Int) - 1); bif (inR v13 ((y11).length)) then (Jh1 ((y11).getD ((v13:Int).toNat) (.v (.bool false))) fun a14=>JdT a14 fun h15 t16=>Ji9 .i64 h15 fun e17=>JdT t16 fun h18 t19=>Jj2 h18 fun e20=>Ji1 t19 (bif (bif true then (decide (e17≥((y10).length:Int))) else false) then (k0 ⟨#[]⟩ 2) else (UaS n y10 y11 y12 (fun y21 y22=>k0 y21 y22)))) else none) else (UaS n y10 y11 y12 (fun y23 y24=>k0 y23 y24))))
    (fun m=>by simp only [Ucr,Ue7]; simp (disch:=(first | omega | (simp only [JlD]; omega))) only [↓JlG,JlE,Uag])
    (fun m i hi=>by
      have hv:=fun k=>UbL (R:=R) n (Uc2 hn) w[i] (hw.2 _ (List.getElem_mem hi)) k
      simp only [Ucr,Ue7]
      simp (disch:=(first | omega | (simp only [JlD]; omega))) only [↓JlG,JlE,Uag,Jjh,Ua1 hi,hv,i1]
      cases qb w[i] <;> rfl) w.length n 0 (by omega) (by omega)
   rw [List.drop_zero] at h
   unfold Uo5
   refine Eq.trans h ?_
   have ea:w.all qb=Udq w:=rfl
   rw [ea]
   cases hq:Udq w with
   | false=>rfl
   | true =>
    rw [if_pos rfl,if_neg (by decide)]
    have g:=fun h' k=>Uns (R:=R) n hn hr (w:=w) hq h' k
    dsimp only at g
    rw [←s2,←c1.2] at g
    have hls:l.length=(spL l).length:=(UrX l).symm
    by_cases h3:0<(spL l).length
    · have hh:=Usn s1.1 h3
      have hlast:l.length - 1<l.length:=by omega
      have eg:(l[l.length - 1]).1=(((spL l)[(spL l).length - 1]'(by omega)).1:Int):=by
       have:∀ (k:Nat) (h1:k<l.length) (h2:k<(spL l).length),(l[k]).1=(((spL l)[k]).1:Int):=fun k h1 h2=>by
        have e:=Upq (l:=spL l) (i:=k) (by rw [UbB]; exact h2)
        have e2:l[k]=(vt (spL l))[k]'(by rw [UbB]; exact h2):=by congr 1
        rw [e2,e]
       have e3:=this (l.length - 1) hlast (by omega)
       rw [e3]
       congr 2
       simp only [hls]
      have hlL:=hl.1
      have ei:(l.length:Int) - 1=((l.length - 1:Nat):Int):=by omega
      by_cases h4:w.length<hiC (spL l)
      · rw [if_pos h4]
        have h5:(l[l.length - 1]).1≥(w.length:Int):=by rw [eg]; omega
        simp (disch:=(first | omega | (simp only [JlD]; omega))) only [↓JlG,JlE,Ua,Uag,ei,Jjh,Uay hlast]
      · rw [if_neg h4]
        have h5:¬ (l[l.length - 1]).1≥(w.length:Int):=by rw [eg]; omega
        simp (disch:=(first | omega | (simp only [JlD]; omega))) only [↓JlG,JlE,Ua,Uag,ei,Jjh,Uay hlast]
        exact g (by omega) k0
    · have e:spL l=[]:=List.eq_nil_of_length_eq_zero (by omega)
      have h4:¬ w.length<hiC (spL l):=by rw [e,Uq2]; omega
      rw [if_neg h4]
      simp (disch:=(first | omega | (simp only [JlD]; omega))) only [↓JlG,JlE,Ua]
      exact g (by omega) k0
 · have e0:(Ujd l c != 0)=true:=by simp [h0]
   rw [e0,Uam,if_pos h0]; rfl
end Go.Proofs.YtmgfmlhdnadglaaGreatDoor
set_option linter.unusedVariables false
set_option linter.unusedSimpArgs false
namespace Go.Proofs.YtmgfmlhdnadglaaGreatDoor
open Go Th Go.Proofs
variable {R:Type}
section
variable (n:Nat) (hn:10 ^ 1000≤n) (cols:Int) (rows:List RowT) (mult:List (List UInt8)) (h:okRM cols rows mult) (k0:List PV→Bool→List PV→Bool→List PV→Int→Option R)
include hn h
end
end Go.Proofs.YtmgfmlhdnadglaaGreatDoor
set_option linter.unusedVariables false
set_option maxRecDepth 100000
namespace Go.Proofs.YtmgfmlhdnadglaaGreatDoor
open Go Th Go.Proofs
noncomputable section
variable {R:Type}
abbrev t42:Sl (List SV):=(.c (sP (JlH (.c (Jlu .i64) (.c sSh .n)))) (cH .n))
end
end Go.Proofs.YtmgfmlhdnadglaaGreatDoor
set_option linter.unusedVariables false
set_option linter.unusedSimpArgs false
namespace Go.Proofs.YtmgfmlhdnadglaaGreatDoor
open Go Th Go.Proofs
variable {R:Type}
noncomputable def Um3 (v:List Rat) (r:RowT):Option Rat:=Uao (evS v) (rq r.c) (spL r.tm)
open Classical in
noncomputable def Um2 (r:RowT) (x:Rat):Bool:=decide (x<0∨(0<x∧r.eq=true))
noncomputable def Ujo (v:List Rat):List RowT→Option Bool
 | []=>some true
 | r::rs=>match Um3 v r with
  | none=>none
  | some x=>if Um2 r x=true then some false else Ujo v rs
noncomputable def UmY (k0:Bool→Int→Option R):Option Bool→Option R
 | none=>k0 false 5
 | some b=>k0 b 0
structure okSV (cols:Int) (rows:List RowT) (w:List (List UInt8)):Prop where
 hc:0≤cols∧cols≤2048
 few:rows.length≤2048
 hr:∀ r∈rows,okR cols r=true
 hw:Udq w=true
 len:(w.length:Int)=cols
 sm:smS w
theorem Uv (n:Nat) (hn:10 ^ 1000≤n) {cols:Int} {rows:List RowT} {w:List (List UInt8)} (h:okSV cols rows w) {r:RowT} (hr:r∈rows) (k0:ByteArray→Int→Option R) :
 p18 n (tms r.tm) (bs r.c) (sl w) k0=evK k0 (Um3 (vq w) r):=by
 have h1:=h.hr r hr
 obtain ⟨o1,o2,o3⟩:=Uf1 h1
 have o1':=UiJ h.hc.2 o1
 have hl:=UgO o1'.1
 unfold okR at h1
 rw [Bool.and_eq_true] at h1
 have e0:Ujd r.tm r.c=0:=UiG.2 ⟨by rw [o2]; exact Ul5 o1'.1.1 o1'.1.2,h1.2⟩
 have e1:¬ w.length<hiC (spL r.tm):=by
  have:=UlW (s:=spL r.tm) (b:=cols.toNat) fun t ht=>by
   have:=(o1.1.2 t ht).2.2
   omega
  have:=h.len
  omega
 rw [Ulf n hn r.tm r.c w (by rw [o2]; exact Uvh o1'.1.2 (Nat.lt_of_le_of_lt hl (by decide))) (by rw [o3]; exact Ug7 o1.2) h.sm]
 unfold evA
 rw [if_neg (by simp [e0]),if_neg (by simp [h.hw]),if_neg e1]; rfl
theorem Umy {cols:Int} {r:RowT} (h:okR cols r=true) {v:List Rat} {x:Rat} (hx:Um3 v r=some x):fits x:=UdA v (Uf1 h).1.2 hx
theorem Uqj {r:RowT} {x:Rat}:Um2 r x=true↔(UbS x 0<0∨(UbS x 0>0∧r.eq=true)):=by
 unfold Um2
 rw [decide_eq_true_iff,Uey,Uj8]
theorem Ur1 (n:Nat) (hn:10 ^ 1000≤n) {cols:Int} {rows:List RowT} {w:List (List UInt8)} (h:okSV cols rows w) (k0:Bool→Int→Option R) :
 (p51 n cols (rws rows) (sl w) fun y6 y7=>bif (y7 == 0) then (k0 (bif true then (decide (y6<0)) else false) y7) else (k0 false y7))=UmY k0 (Ujo (vq w) rows):=by
 have hN:=Ua6 (Uc2 hn)
 have hf:=h.few
 unfold p51 Upa
 refine Ucg (R:=R) (N:=rows.length) (σ:=Unit) (Inv:=fun i _=>Ujo (vq w) (rows.drop i)=Ujo (vq w) rows)
  (fun m _ i=>Ucw n m (sl w) (rws rows) ((rws rows).length:Int) (i:Int) _ _) (fun m _ hi=>?_) (fun m _ i hi hv=>?_) rows.length n 0 () (by omega) (by omega) rfl
 · rw [List.drop_length] at hi
   rw [←hi]
   simp only [Ucw,Ufb]
   simp (disch:=(first | omega | (simp only [JlD]; omega))) only [↓JlG,JlE,Uae]
   rfl
 · rw [Ua9 hi] at hv
   have g1:=fun k=>Uv (R:=R) n hn h (List.getElem_mem hi) k
   simp only [Ucw,Ufb]
   have hv':(match Um3 (vq w) rows[i] with | none=>none | some x=>if Um2 rows[i] x=true then some false else Ujo (vq w) (rows.drop (i + 1)))=Ujo (vq w) rows:=hv
   cases hx:Um3 (vq w) rows[i] with
   | none =>
    rw [hx] at hv' g1
    dsimp only at hv'
    left
    rw [←hv']
    simp (disch:=(first | omega | (simp only [JlD]; omega))) only [↓JlG,JlE,Uae,Jjh,UaB hi,g1,evK,Usb]
    rfl
   | some x =>
    rw [hx] at hv' g1
    dsimp only at hv'
    have hfx:=Umy (h.hr _ (List.getElem_mem hi)) hx
    have g2:=fun k=>UsO (R:=R) n hn x hfx k
    have hb:=Uqj (r:=rows[i]) (x:=x)
    have hi0:¬ (i:Int)<0:=by omega
    by_cases h1:UbS x 0<0
    · left
      rw [←hv',if_pos (hb.2 (.inl h1))]
      simp (disch:=(first | omega | (simp only [JlD]; omega))) only [↓JlG,JlE,Uae,Jjh,UaB hi,g1,evK,Ujh,g2]
      rfl
    · by_cases h2:UbS x 0>0
      · rcases Bool.eq_false_or_eq_true (rows[i]).eq with h3 | h3
        · left
          rw [←hv',if_pos (hb.2 (.inr ⟨h2,h3⟩))]
          simp (disch:=(first | omega | (simp only [JlD]; omega))) only [↓JlG,JlE,Uae,Jjh,UaB hi,g1,evK,Ujh,g2,h3]
          rfl
        · right
          rw [if_neg (fun q=>by rcases hb.1 q with q | q; exact h1 q; rw [h3] at q; cases q.2)] at hv'
          refine ⟨(),hv',?_⟩
          simp (disch:=(first | omega | (simp only [JlD]; omega))) only [↓JlG,JlE,Uae,Jjh,UaB hi,g1,evK,Ujh,g2,h3,i1]
      · right
        rw [if_neg (fun q=>by rcases hb.1 q with q | q; exact h1 q; exact h2 q.1)] at hv'
        refine ⟨(),hv',?_⟩
        simp (disch:=(first | omega | (simp only [JlD]; omega))) only [↓JlG,JlE,Uae,Jjh,UaB hi,g1,evK,Ujh,g2,i1]
open Classical in
noncomputable def ltB (x:Rat):Bool:=decide (x<0)
noncomputable def hM (rows:List RowT) (w:List (List UInt8)):Option Bool:=if w.any (fun s=>ltB (rq s))=true then some false else Ujo (vq w) rows
theorem UeQ {cols:Int} {rows:List RowT} {w:List (List UInt8)} (hs:smS w) (h:Uj cols rows w=0):okSV cols rows w:=by
 unfold Uj at h
 by_cases h1:Ugm cols rows=0
 · rw [if_neg (by simp [h1])] at h
   by_cases h2:(w.length:Int)=cols
   · rw [if_neg (by simp [h2])] at h
     cases h3:Udq w with
     | false=>rw [h3] at h; cases h
     | true =>
      obtain ⟨a,b,c,d⟩:=UmD h1
      exact ⟨⟨a,b⟩,c,d,h3,h2,hs⟩
   · rw [if_pos h2] at h; cases h
 · rw [if_pos h1] at h; cases h
theorem Udv {cols:Int} {rows:List RowT} {w:List (List UInt8)} (h1:Ugm cols rows=0) (h2:(w.length:Int)=cols) (h3:Udq w=true):Uj cols rows w=0:=by
 unfold Uj
 rw [if_neg (by simp [h1]),if_neg (by simp [h2]),if_pos h3]
theorem Ut9 {x:Rat}:ltB x=decide (UbS x 0<0):=by
 unfold ltB
 rw [Bool.eq_iff_iff,decide_eq_true_iff,decide_eq_true_iff,Uey]
theorem Up0 {α:Type} (l:List α) (p:α→Bool):l.any p=!(l.all fun x=>!p x):=by rw [List.not_all_eq_any_not]; simp
theorem Uuc (n:Nat) (hn:10 ^ 1000≤n) {w:List (List UInt8)} (hw:Udq w=true) (hl:w.length<2 ^ 17) (k0:Bool→Option R):UnB n (sl w) k0=k0 (w.any fun s=>ltB (rq s)):=by
 have hN:=Ua6 (Uc2 hn)
 unfold UnB Urh UiV
 have h:=Uap (R:=R) (l:=w) (ok:=fun s=>!ltB (rq s)) (kbad:=k0 true) (kend:=k0 false)
  (fun m i=>UaM n m (sl w) ((sl w).length:Int) (i:Int) (fun y2=>k0 (decide (y2≥0))) (k0 (decide ((-1:Int)≥0))))
  (fun m=>by simp only [UaM,Ucd]; simp (disch:=(first | omega | (simp only [JlD]; omega))) only [↓JlG,JlE,Uag])
  (fun m i hi=>by
    have hq:=Upl (List.all_eq_true.1 hw _ (List.getElem_mem hi))
    have g1:∀ k,p19 n (bs w[i]) (bs [48]) k=k (UbS (rq w[i]) 0):=fun k=>by
     have:=UsO (R:=R) n hn (rq w[i]) hq.1 k
     rw [←hq.2] at this
     exact this
    have e:=Ut9 (x:=rq w[i])
    simp only [UaM,Ucd,p50]
    by_cases h0:UbS (rq w[i]) 0<0
    · rw [decide_eq_true h0] at e
      simp (disch:=(first | omega | (simp only [JlD]; omega))) only [↓JlG,JlE,Uag,Jjh,Ua1 hi,g1,i1]
      simp [e]
    · rw [decide_eq_false h0] at e
      simp (disch:=(first | omega | (simp only [JlD]; omega))) only [↓JlG,JlE,Uag,Jjh,Ua1 hi,g1,i1]
      simp [e]) w.length n 0 (by omega) (by omega)
 rw [List.drop_zero] at h
 refine Eq.trans h ?_
 rw [Up0]
 cases (w.all fun s=>!ltB (rq s)) <;> rfl
noncomputable def UlX (cols:Int) (rows:List RowT) (w:List (List UInt8)) (k0:Bool→Int→Option R):Option R:=if Uj cols rows w≠0 then k0 false (Uj cols rows w) else UmY k0 (hM rows w)
theorem Uiz (n:Nat) (hn:10 ^ 1000≤n) (cols:Int) (rows:List RowT) (w:List (List UInt8)) (hr:smA rows) (hw:smS w) (k0:Bool→Int→Option R):p17 n cols (rws rows) (sl w) k0=UlX cols rows w k0:=by
 unfold p17 UlX
 rw [Usm n (Uc2 hn) cols rows hr w hw]
 by_cases h1:Uj cols rows w=0
 · have e1:(Uj cols rows w != 0)=false:=by rw [h1]; rfl
   have h:=UeQ hw h1
   rw [e1,Uak,if_neg (by simp [h1]),Uuc n hn h.hw hw.1]
   unfold hM
   cases h2:w.any fun s=>ltB (rq s) with
   | true=>rfl
   | false =>
    rw [Uak,if_neg (by decide)]
    exact Ur1 n hn h k0
 · have e1:(Uj cols rows w != 0)=true:=by simp [h1]
   rw [e1,Uam,if_pos h1]
end Go.Proofs.YtmgfmlhdnadglaaGreatDoor
set_option linter.unusedVariables false
set_option maxRecDepth 100000
namespace Go.Proofs.YtmgfmlhdnadglaaGreatDoor
open Go Th Go.Proofs
noncomputable section
variable {R:Type}
end
end Go.Proofs.YtmgfmlhdnadglaaGreatDoor
set_option linter.unusedVariables false
set_option linter.unusedSimpArgs false
namespace Go.Proofs.YtmgfmlhdnadglaaGreatDoor
open Go Th Go.Proofs
variable {R:Type}
end Go.Proofs.YtmgfmlhdnadglaaGreatDoor
set_option linter.unusedVariables false
set_option maxRecDepth 100000
namespace Go.Proofs.YtmgfmlhdnadglaaGreatDoor
open Go Th Go.Proofs
noncomputable section
variable {R:Type}
def Upz:Ann:={ loops:=[],cuts:=[],frz:=[],rm:=[.id] }
abbrev Us0 (n:Nat):Env:=eC 32 (Uvv n) eN
theorem Ukw (n:Nat):EnvOK Tryz.prog GI (Us0 n):=.cons (.nil) (UwW n)
def p15 (n:Nat) (x1:Int) (x2 x3 x4 x5:LP) (k0:Int→O R):O R :=
 Uup n x1 x2 x3 ([.sh x4]:LP) x5 true x1 x2 x5 x3 x4 (fun y6=>k0 y6)
abbrev UAa (n:Nat):Orc R:=oN
abbrev UzH (n:Nat):Orc R:=oN
abbrev K15 (R:Type) (n:Nat):=JcH (R:=R) Tryz.prog (Us0 n) Upz n (17,[]) (UAa n) (UzH n)
theorem UB (n:Nat):Je6 (K15 R n) (JaJ Upz (Jlk Tryz.f15)):=pO pN (by kernel_rfl)
abbrev t15:Sl (List SV):=(.c (sP (JlH (.c (Jlu .i64) (.c sSh .n)))) (cH (cH (cH .n))))
abbrev f15 (n:Nat) (K:List SV→O R):t15.T (O R):=fun x1 x2 x3 x4 x5=>p15 n x1 x2 x3 x4 x5 (fun y1=>K [vI y1])
abbrev Uys (n:Nat):FS:=fT [false,false,false,false] t15 (f15 n)
theorem UAG (n:Nat):FSound Tryz.prog GI 15 (Uys n):=gd Upz n (Ukw n) Tryz.func15 (.cons (Ukw n) t15 (f15 n) (fun K _ _ _ _ _=>(Jkp (c:=Jlk Tryz.f15) (by kernel_rfl) (UB n) K).trans (by kernel_rfl)) .nil) (by kernel_rfl)
end
end Go.Proofs.YtmgfmlhdnadglaaGreatDoor
set_option linter.unusedVariables false
set_option linter.unusedSimpArgs false
namespace Go.Proofs.YtmgfmlhdnadglaaGreatDoor
open Go Th Go.Proofs
variable {R:Type}
theorem Uoz {cols:Int} (hc:cols≤2048) {cost:List TermT} (h:UdS cols cost=true):okF 2048 (spL cost,0)∧okF cols (spL cost,0)∧cost=vt (spL cost)∧Ujd cost [48]=0:=by
 obtain ⟨s1,s2⟩:=Ul4 (cols:=cols) h
 have s1':okS 2048 (spL cost):=⟨s1.1,UiK hc s1.2⟩
 refine ⟨⟨s1',UeP⟩,⟨s1,UeP⟩,s2,UiG.2 ⟨?_,Uzn⟩⟩
 rw [s2]; exact Ul5 s1'.1 s1'.2
theorem UBT:rq [48]=0:=by rw [←UmA]; exact Ug6 UeP
theorem UeA (n:Nat) (hn:10 ^ 1000≤n) {cols:Int} (hc:cols≤2048) {cost:List TermT} (hcb:UdS cols cost=true) (hsm:smT cost) {w:List (List UInt8)} (hw:Udq w=true) (hl:(w.length:Int)=cols) (hs:smS w) (k0:ByteArray→Int→Option R) :
 p18 n (tms cost) (bs [48]) (sl w) k0=evK k0 (Uao (evS (vq w)) 0 (spL cost)):=by
 obtain ⟨f1,f2,f3,f4⟩:=Uoz hc hcb
 have e1:¬ w.length<hiC (spL cost):=by
  have:=UlW (s:=spL cost) (b:=cols.toNat) fun t ht=>by
   have:=(f2.1.2 t ht).2.2
   omega
  omega
 rw [Ulf n hn cost [48] w hsm (by decide) hs]
 unfold evA
 rw [if_neg (by simp [f4]),if_neg (by simp [hw]),if_neg e1,UBT]
theorem UeB {cols:Int} (hc:cols≤2048) {cost:List TermT} (h:UdS cols cost=true) {v:List Rat} (hl:cols≤(v.length:Int)) {y:Rat} (hy:Uao (evS v) 0 (spL cost)=some y):y=UbU (cf (spL cost)) 0 v:=by
 obtain ⟨f1,f2,f3,f4⟩:=Uoz hc h
 rw [Uif v hy,Rat.zero_add]
 exact UhV v f1.1.1 fun t ht=>by
  have:=(f2.1.2 t ht).2.2
  omega
noncomputable def UAB (k0:Bool→Int→Option R):Option Bool→Option R
 | none=>k0 false 5
 | some b=>k0 b 0
theorem Ui6 {v:List Rat}:∀ {rows:List RowT},Ujo v rows=some true→∀ r∈rows,∃ x,Um3 v r=some x∧Um2 r x=false
 | [],_,r,hr=>by cases hr
 | r::rs,h,q,hq=>by
  rw [Ujo] at h
  cases hx:Um3 v r with
  | none=>rw [hx] at h; cases h
  | some x =>
   rw [hx] at h
   dsimp only at h
   cases hb:Um2 r x with
   | true=>rw [hb,if_pos rfl] at h; cases h
   | false =>
    rw [hb,if_neg (by decide)] at h
    rcases List.mem_cons.1 hq with rfl | hq
    · exact ⟨x,hx,hb⟩
    · exact Ui6 h q hq
theorem Unt {r:RowT} {x:Rat} (h:Um2 r x=false):0≤x∧(r.eq=true→x=0):=by
 unfold Um2 at h
 rw [decide_eq_false_iff_not] at h
 have h1:¬ x<0:=fun q=>h (.inl q)
 refine ⟨Rat.not_lt.1 h1,fun he=>?_⟩
 rcases tri x 0 with q | q | q
 · exact absurd q h1
 · exact q
 · exact absurd (.inr ⟨q,he⟩) h
theorem Umz {cols:Int} {r:RowT} (hr:okR cols r=true) {v:List Rat} (hl:cols≤(v.length:Int)) {x:Rat} (hx:Um3 v r=some x):x=(spR r).2 + UbU (cf (spR r).1) 0 v:=by
 obtain ⟨o1,o2,o3⟩:=Uf1 hr
 have h1:=Uif v hx
 rw [h1]
 have h2:=UhV v (l:=spL r.tm) o1.1.1 fun t ht=>by
  have:=(o1.1.2 t ht).2.2
  omega
 rw [h2]; rfl
theorem Uq0 {rows:List RowT} {w:List (List UInt8)} (h:hM rows w=some true):(∀ x∈vq w,0≤x)∧Ujo (vq w) rows=some true:=by
 unfold hM at h
 cases h1:w.any fun s=>ltB (rq s) with
 | true=>rw [h1,if_pos rfl] at h; cases h
 | false =>
  rw [h1,if_neg (by decide)] at h
  refine ⟨fun x hx=>?_,h⟩
  obtain ⟨s,hs,rfl⟩:=List.mem_map.1 hx
  have:=List.any_eq_false.1 h1 s hs
  unfold ltB at this
  rw [decide_eq_true_iff] at this
  exact Rat.not_lt.1 this
end Go.Proofs.YtmgfmlhdnadglaaGreatDoor
set_option linter.unusedVariables false
set_option maxRecDepth 100000
namespace Go.Proofs.YtmgfmlhdnadglaaGreatDoor
open Go Th Go.Proofs
noncomputable section
variable {R:Type}
def UpB:Ann:={ loops:=[],cuts:=[],frz:=[],rm:=[.id] }
abbrev Us2 (n:Nat):Env:=eC 32 (Uvv n) eN
theorem UkA (n:Nat):EnvOK Tryz.prog GI (Us2 n):=.cons (.nil) (UwW n)
def p20 (n:Nat) (x1:Int) (x2 x3 x4 x5:LP) (k0:Int→O R):O R :=
 Urf n x1 x2 x3 ([.sh x4,.sh x5]:LP) [] false x5 x1 x2 x3 (fun y6=>k0 y6)
abbrev UAc (n:Nat):Orc R:=oN
abbrev UzJ (n:Nat):Orc R:=oN
abbrev K20 (R:Type) (n:Nat):=JcH (R:=R) Tryz.prog (Us2 n) UpB n (17,[]) (UAc n) (UzJ n)
theorem UBd (n:Nat):Je6 (K20 R n) (JaJ UpB (Jlk Tryz.f20)):=pO pN (by kernel_rfl)
abbrev t20:Sl (List SV):=(.c (sP (JlH (.c (Jlu .i64) (.c sSh .n)))) (cH (cH (cH .n))))
abbrev f20 (n:Nat) (K:List SV→O R):t20.T (O R):=fun x1 x2 x3 x4 x5=>p20 n x1 x2 x3 x4 x5 (fun y1=>K [vI y1])
abbrev Uv6 (n:Nat):FS:=fT [false,false,false,false] t20 (f20 n)
theorem Uy7 (n:Nat):FSound Tryz.prog GI 20 (Uv6 n):=gd UpB n (UkA n) Tryz.func20 (.cons (UkA n) t20 (f20 n) (fun K _ _ _ _ _=>(Jkp (c:=Jlk Tryz.f20) (by kernel_rfl) (UBd n) K).trans (by kernel_rfl)) .nil) (by kernel_rfl)
end
end Go.Proofs.YtmgfmlhdnadglaaGreatDoor
set_option linter.unusedVariables false
set_option linter.unusedSimpArgs false
namespace Go.Proofs.YtmgfmlhdnadglaaGreatDoor
open Go Th Go.Proofs
variable {R:Type}
open Classical in
noncomputable def geB (x:Rat):Bool:=decide (0≤x)
theorem UtY {x:Rat}:decide (UbS x 0≥0)=geB x:=by
 unfold geB
 rw [Bool.eq_iff_iff,decide_eq_true_iff,decide_eq_true_iff]
 have h:=Uey (p:=x)
 have h2:0≤x↔¬ x<0:=Rat.not_lt.symm
 rw [h2,←h]
 omega
theorem Uu6 (n:Nat) (hn:10 ^ 1000≤n) {w:List (List UInt8)} (hw:Udq w=true) (hl:w.length<2 ^ 17) (x1:List PV) (x2:Int) (x3 x4:List PV) (k0:List PV→Int→List PV→List PV→Bool→Option R) :
 Umn n x1 x2 x3 x4 true (sl w) ((sl w).length:Int) 0 k0=k0 x1 x2 x3 x4 (w.all fun s=>geB (rq s)):=by
 have hN:=Ua6 (Uc2 hn)
 unfold Umn
 refine Ucg (R:=R) (N:=w.length) (Inv:=fun i b=>b=(w.take i).all fun s=>geB (rq s))
  (fun m b i=>UcB n m x1 x2 x3 x4 b (sl w) ((sl w).length:Int) (i:Int) k0) (fun m b hb=>?_) (fun m b i hi hb=>?_) w.length n 0 true (by omega) (by omega) rfl
 · subst hb
   rw [List.take_length]
   simp only [UcB,Ufh]
   simp (disch:=(first | omega | (simp only [JlD]; omega))) only [↓JlG,JlE,Uag]
 · subst hb
   have hq:=Upl (List.all_eq_true.1 hw _ (List.getElem_mem hi))
   have g1:∀ k,p19 n (bs w[i]) (bs [48]) k=k (UbS (rq w[i]) 0):=fun k=>by
    have:=UsO (R:=R) n hn (rq w[i]) hq.1 k
    rw [←hq.2] at this
    exact this
   refine .inr ⟨_,rfl,?_⟩
   rw [List.take_succ_eq_append_getElem hi,List.all_append]
   have e:=UtY (x:=rq w[i])
   simp only [UcB,Ufh]
   cases ((w.take i).all fun s=>geB (rq s)) with
   | false=>simp (disch:=(first | omega | (simp only [JlD]; omega))) only [↓JlG,JlE,Uag,Jjh,Ua1 hi,i1]
   | true =>
    simp (disch:=(first | omega | (simp only [JlD]; omega))) only [↓JlG,JlE,Uag,Jjh,Ua1 hi,i1,g1,e]
    simp
noncomputable def Upk (r:RowT) (x:Rat):Bool:=decide (UbS x 0=0)||(decide (UbS x 0>0)&&!r.eq)
noncomputable def Ujq (v:List Rat):Bool→List RowT→Option Bool
 | b,[]=>some b
 | b,r::rs=>match Uao (evS v) 0 (spL r.tm) with
  | none=>none
  | some x=>Ujq v (b&&Upk r x) rs
theorem UrW (n:Nat) (hn:10 ^ 1000≤n) {cols:Int} {rows:List RowT} {w:List (List UInt8)} (h:okSV cols rows w) {r:RowT} (hr:r∈rows) (k0:ByteArray→Int→Option R) :
 p18 n (tms r.tm) (bs [48]) (sl w) k0=evK k0 (Uao (evS (vq w)) 0 (spL r.tm)):=by
 have h1:=h.hr r hr
 obtain ⟨o1,o2,o3⟩:=Uf1 h1
 have o1':=UiJ h.hc.2 o1
 have hl:=UgO o1'.1
 have h1':=h1
 unfold okR at h1'
 rw [Bool.and_eq_true] at h1'
 exact UeA n hn h.hc.2 h1'.1 (by rw [o2]; exact Uvh o1'.1.2 (Nat.lt_of_le_of_lt hl (by decide))) h.hw h.len h.sm k0
theorem Uu7 (n:Nat) (hn:10 ^ 1000≤n) {cols:Int} {rows:List RowT} {w:List (List UInt8)} (h:okSV cols rows w) (x2:List PV) (b:Bool) (k0:List PV→List PV→Bool→Int→Bool→Option R) (k1:List PV→List PV→Bool→Option R) (kf:Option R) (hk:∀ c,k0 (sl w) x2 false 5 c=kf) :
 Umo n (sl w) x2 b (rws rows) ((rws rows).length:Int) 0 k0 k1=match Ujq (vq w) b rows with | none=>kf | some c=>k1 (sl w) x2 c:=by
 have hN:=Ua6 (Uc2 hn)
 have hf:=h.few
 unfold Umo
 refine Ucg (R:=R) (N:=rows.length) (Inv:=fun i c=>Ujq (vq w) c (rows.drop i)=Ujq (vq w) b rows)
  (fun m c i=>UcC n m (sl w) x2 c (rws rows) ((rws rows).length:Int) (i:Int) k0 k1) (fun m c hc=>?_) (fun m c i hi hc=>?_) rows.length n 0 b (by omega) (by omega) (by rw [List.drop_zero])
 · rw [List.drop_length] at hc
   rw [←hc]
   simp only [UcC,Ufi]
   simp (disch:=(first | omega | (simp only [JlD]; omega))) only [↓JlG,JlE,Uae]
   rfl
 · rw [Ua9 hi] at hc
   have g1:∀ k:ByteArray→Int→Option R,p36 n (tms (rows[i]).tm) (sl w) k=evK k (Uao (evS (vq w)) 0 (spL (rows[i]).tm)):=fun k=>UrW n hn h (List.getElem_mem hi) k
   have hc':(match Uao (evS (vq w)) 0 (spL (rows[i]).tm) with | none=>none | some x=>Ujq (vq w) (c&&Upk rows[i] x) (rows.drop (i + 1)))=Ujq (vq w) b rows:=hc
   simp only [UcC,Ufi]
   cases hx:Uao (evS (vq w)) 0 (spL (rows[i]).tm) with
   | none =>
    rw [hx] at hc' g1
    dsimp only at hc'
    left
    rw [←hc']
    simp (disch:=(first | omega | (simp only [JlD]; omega))) only [↓JlG,JlE,Uae,Jjh,UaB hi,g1,evK,Usb,hk]
   | some x =>
    rw [hx] at hc' g1
    dsimp only at hc'
    have fx:fits x:=UdA (vq w) UeP hx
    have g2:=fun k=>UsO (R:=R) n hn x fx k
    right
    refine ⟨c&&Upk rows[i] x,hc',?_⟩
    unfold Upk
    cases c with
    | false=>simp (disch:=(first | omega | (simp only [JlD]; omega))) only [↓JlG,JlE,Uae,Jjh,UaB hi,g1,evK,Ujh,g2,i1]
    | true =>
     by_cases h1:UbS x 0=0
     · have e1:(UbS x 0 == 0)=true:=by rw [h1]; rfl
       simp (disch:=(first | omega | (simp only [JlD]; omega))) only [↓JlG,JlE,Uae,Jjh,UaB hi,g1,evK,Ujh,g2,i1,e1]
       simp [h1]
     · have e1:(UbS x 0 == 0)=false:=beq_eq_false_iff_ne.2 h1
       by_cases h2:UbS x 0>0
       · simp (disch:=(first | omega | (simp only [JlD]; omega))) only [↓JlG,JlE,Uae,Jjh,UaB hi,g1,evK,Ujh,g2,i1,e1]
         simp [h1,h2]
       · simp (disch:=(first | omega | (simp only [JlD]; omega))) only [↓JlG,JlE,Uae,Jjh,UaB hi,g1,evK,Ujh,g2,i1,e1]
         simp [h1,h2]
theorem Uq4 (z:Int):Lib.itoa z≠[]:=by
 by_cases h:z<0
 · unfold Lib.itoa
   rw [if_pos h]
   simp
 · obtain ⟨a,rfl⟩:∃ a:Nat,z=(a:Int):=⟨z.toNat,by omega⟩
   rw [UbZ]
   exact UhN a
theorem UmB (q:Rat):Uaf q≠[]:=fun h=>by
 unfold Uaf at h
 exact Uq4 q.num (List.append_eq_nil_iff.1 h).1
noncomputable def Uu4 (rows:List RowT) (cost:List TermT) (w:List (List UInt8)):Option Bool :=
 match Ujq (vq w) (w.all fun s=>geB (rq s)) rows with
 | none=>none
 | some b=>match Uao (evS (vq w)) 0 (spL cost) with
  | none=>none
  | some y=>some (b&&decide (UbS y 0<0))
theorem UrQ (n:Nat) (hn:10 ^ 1000≤n) {cols:Int} {rows:List RowT} {w:List (List UInt8)} (h:okSV cols rows w) {cost:List TermT} (hcb:UdS cols cost=true) (hsm:smT cost) (k0:Bool→Int→Option R) (hk:∀ b,k0 b 5=k0 false 5) :
 p59 n (sl w) cols (rws rows) (tms cost) k0=UAB k0 (Uu4 rows cost w):=by
 unfold p59
 rw [Uu6 n hn h.hw h.sm.1]
 unfold Uu4
 rw [Uu7 n hn h (tms cost) (w.all fun s=>geB (rq s)) _ _ (k0 false 5) (fun c=>rfl)]
 cases Ujq (vq w) (w.all fun s=>geB (rq s)) rows with
 | none=>rfl
 | some b =>
  have g1:∀ k:ByteArray→Int→Option R,p36 n (tms cost) (sl w) k=evK k (Uao (evS (vq w)) 0 (spL cost)):=fun k=>UeA n hn h.hc.2 hcb hsm h.hw h.len h.sm k
  dsimp only
  rw [g1]
  cases hy:Uao (evS (vq w)) 0 (spL cost) with
  | none =>
   cases b with
   | false=>rfl
   | true =>
    simp only [evK,Uam]
    rw [show p19 n (bs []) (⟨#[48]⟩:ByteArray) _=_ from Upr n (Uc2 hn) [] [48] (by decide) (by decide) (fun q=>by
     obtain ⟨z,hz,e⟩:=q.1
     exact UmB z e.symm) _]
    exact hk _
  | some y =>
   have fy:fits y:=UdA (vq w) UeP hy
   have g2:=fun k=>UsO (R:=R) n hn y fy k
   cases b with
   | false=>rfl
   | true =>
    simp only [evK,Uam]
    rw [show p19 n (bs (Uaf y)) (⟨#[48]⟩:ByteArray) _=_ from g2 _]
    rfl
noncomputable def UrP (cols:Int) (rows:List RowT) (cost:List TermT) (w ray:List (List UInt8)):Int :=
 if Ugm cols rows≠0 then 3 else if UdS cols cost=false then 3 else if Udq w=false then 3 else if Udq ray=false then 3 else if (w.length:Int)≠cols then 6 else if (ray.length:Int)≠cols then 6 else
  match hM rows w with
  | none=>5
  | some false=>15
  | some true=>match Uu4 rows cost ray with
   | none=>5
   | some false=>16
   | some true=>0
theorem Uu5 (n:Nat) (hn:10 ^ 1000≤n) (cols:Int) (rows:List RowT) (cost:List TermT) (w ray:List (List UInt8)) (hr:smA rows) (hcs:smT cost) (hw:smS w) (hm:smS ray) (k0:Int→Option R) :
 p20 n cols (rws rows) (tms cost) (sl w) (sl ray) k0=k0 (UrP cols rows cost w ray):=by
 have hN:=Ua6 (Uc2 hn)
 unfold p20 Urf UrP
 rw [Upo n (Uc2 hn) cols rows hr]
 by_cases h1:Ugm cols rows=0
 · obtain ⟨a,b,c,d⟩:=UmD h1
   have e1:(Ugm cols rows != 0)=false:=by rw [h1]; rfl
   rw [e1,if_neg (by simp [h1]),Uak,Ung n (Uc2 hn) cols b cost hcs]
   cases h2:UdS cols cost with
   | false=>rfl
   | true =>
    rw [if_neg (by decide)]
    have g0:∀ k:Bool→Option R,p66 n [] k=k true:=fun k=>Ucn n (Uc2 hn) [] ⟨by simp,by simp⟩ k
    simp only [Bool.not_true,Uak,g0]
    unfold Uf UiU Uf3
    obtain ⟨m,rfl⟩:∃ m,n=m + 1 + 1 + 1:=⟨n - 3,by omega⟩
    have gd:(([.sh (sl w),.sh (sl ray)]:List PV).getD ((0:Int).toNat) (.v (.bool false)))=.sh (sl w):=rfl
    have gd1:(([.sh (sl w),.sh (sl ray)]:List PV).getD ((1:Int).toNat) (.v (.bool false)))=.sh (sl ray):=rfl
    have gl:∀ (l:List PV) (K:List PV→Option R),Jkq (.sh l) K=K l:=fun l K=>rfl
    have e01:(0:Int) + 1=1:=rfl
    have g4:=fun k=>Ucn (R:=R) (m + 1 + 1 + 1) (Uc2 hn) w hw k
    have g4':=fun k=>Ucn (R:=R) (m + 1 + 1 + 1) (Uc2 hn) ray hm k
    simp only [Ucc,UdI]
    cases h4:Udq w with
    | false =>
     rw [h4] at g4
     simp (disch:=(first | omega | (simp only [JlD]; omega))) only [↓JlG,JlE,gd,gl,g4]
    | true =>
     rw [h4] at g4
     rw [if_neg (by decide)]
     cases h3:Udq ray with
     | false =>
      rw [h3] at g4'
      simp (disch:=(first | omega | (simp only [JlD]; omega))) only [↓JlG,JlE,gd,gd1,gl,g4,g4',e01]
     | true =>
      rw [h3] at g4'
      rw [if_neg (by decide)]
      simp only [Ubm,Ucv]
      by_cases h5:(w.length:Int)=cols
      · have e5:((w.length:Int) != cols)=false:=by simp [h5]
        rw [if_neg (by simp [h5])]
        by_cases h6:(ray.length:Int)=cols
        · have e6:((ray.length:Int) != cols)=false:=by simp [h6]
          have ha:=Udv h1 h5 h4
          have sv:=UeQ hm (Udv h1 h6 h3)
          have g7:∀ k:Bool→Int→Option R,p17 (m + 1 + 1 + 1) cols (rws rows) (sl w) k=UmY k (hM rows w):=fun k=>by
           rw [Uiz (m + 1 + 1 + 1) hn cols rows w hr hw]
           unfold UlX
           rw [if_neg (by simp [ha])]
          have g8:=fun k hk=>UrQ (R:=R) (m + 1 + 1 + 1) hn sv h2 hcs k hk
          rw [if_neg (by simp [h6])]
          simp (disch:=(first | omega | (simp only [JlD]; omega))) only [↓JlG,JlE,gd,gd1,gl,g4,g4',e01,Uag,e5,e6,Uca,Ucb,g7]
          cases hM rows w with
          | none=>rfl
          | some b =>
           cases b with
           | false=>rfl
           | true =>
            simp only [UmY,Ujh,Uak,Bool.not_true]
            refine Eq.trans (g8 _ (fun b=>rfl)) ?_
            cases Uu4 rows cost ray with
            | none=>rfl
            | some b=>cases b <;> rfl
        · have e6:((ray.length:Int) != cols)=true:=by simp [h6]
          rw [if_pos h6]
          simp (disch:=(first | omega | (simp only [JlD]; omega))) only [↓JlG,JlE,gd,gd1,gl,g4,g4',e01,Uag,e5,e6]
      · have e5:((w.length:Int) != cols)=true:=by simp [h5]
        rw [if_pos h5]
        simp (disch:=(first | omega | (simp only [JlD]; omega))) only [↓JlG,JlE,gd,gd1,gl,g4,g4',e01,Uag,e5]
 · have e1:(Ugm cols rows != 0)=true:=by simp [h1]
   rw [e1,if_pos h1]; rfl
end Go.Proofs.YtmgfmlhdnadglaaGreatDoor
set_option linter.unusedVariables false
set_option maxRecDepth 100000
namespace Go.Proofs.YtmgfmlhdnadglaaGreatDoor
open Go Th Go.Proofs
noncomputable section
variable {R:Type}
def Ua4:Ann:={ loops:=[(4,ids [1,2,5],ids [4]),(9,ids [1,2,5,6],ids [1,2,4,5])],cuts:=[(8,ids [1,2,5],ids [1,2,4,5])],frz:=[],rm:=[.id] }
abbrev Uqz (n:Nat):Env:=eN
theorem UkE (n:Nat):EnvOK Tryz.prog GI (Uqz n):=.nil
def Ue9 (n:Nat) (l0:Int→Int→LP→Int→Int→O R) (x1 x2:Int) (x3:LP) (x4 x5:Int) (k0:Int→Int→LP→Bool→Int→O R) (k1:Int→Int→LP→Int→O R):O R :=
 bif (inR x4 ((x3).length)) then (Jh1 ((x3).getD ((x4:Int).toNat) (.v (.bool false))) fun a6=>JdT a6 fun h7 t8=>Jkq h7 fun e9=>JdT t8 fun h10 t11=>Jj2 h10 fun e12=>JdT t11 fun h13 t14=>Jj1 h13 fun e15=>JdT t14 fun h16 t17=>Ji9 .i64 h16 fun e18=>Ji1 t17 (bif (decide (x5<((e9).length:Int))) then (bif (inR x4 ((x3).length)) then (Jh1 ((x3).getD ((x4:Int).toNat) (.v (.bool false))) fun a19=>JdT a19 fun h20 t21=>Jkq h20 fun e22=>JdT t21 fun h23 t24=>Jj2 h23 fun e25=>JdT t24 fun h26 t27=>Jj1 h26 fun e28=>JdT t27 fun h29 t30=>Ji9 .i64 h29 fun e31=>Ji1 t30 (bif (inR x5 ((e22).length)) then (Jh1 ((e22).getD ((x5:Int).toNat) (.v (.bool false))) fun a32=>JdT a32 fun h33 t34=>Ji9 .i64 h33 fun e35=>JdT t34 fun h36 t37=>Jj2 h36 fun e38=>Ji1 t37 (bif (decide (((e38).size:Int)>x1)) then (k0 x1 x2 x3 false x4) else (l0 x1 x2 x3 x4 (IntKind.i64.wrap (x5 + 1))))) else none)) else none) else (k1 x1 x2 x3 x4))) else none
def Uct (n:Nat):Nat→Int→Int→LP→Int→Int→(Int→Int→LP→Bool→Int→O R)→(Int→Int→LP→Int→O R)→O R
 | 0,_,_,_,_,_,_,_=>none
 | m + 1,x1,x2,x3,x4,x5,k0,k1=>Ue9 n (fun x1 x2 x3 x4 x5=>Uct n m x1 x2 x3 x4 x5 k0 k1) x1 x2 x3 x4 x5 k0 k1
def Uo8 (n:Nat) (x1 x2:Int) (x3:LP) (x4 x5:Int) (k0:Int→Int→LP→Bool→Int→O R) (k1:Int→Int→LP→Int→O R):O R:=Uct n n x1 x2 x3 x4 x5 k0 k1
def UiR (n:Nat) (x1 x2:Int) (x3:LP) (x4:Int) (k0:Int→Int→LP→Bool→Int→O R) (k1:Int→Int→LP→Int→O R):O R :=
 Uo8 n x1 x2 x3 x4 0 (fun y5 y6 y7 y8 y9=>k0 y5 y6 y7 y8 y9) (fun y10 y11 y12 y13=>k1 y10 y11 y12 y13)
def Ue8 (n:Nat) (l0:Int→Int→LP→Int→O R) (x1 x2:Int) (x3:LP) (x4:Int) (k0:Bool→O R) (k1:O R):O R :=
 bif (decide (x4<((x3).length:Int))) then (bif (inR x4 ((x3).length)) then (Jh1 ((x3).getD ((x4:Int).toNat) (.v (.bool false))) fun a5=>JdT a5 fun h6 t7=>Jkq h6 fun e8=>JdT t7 fun h9 t10=>Jj2 h9 fun e11=>JdT t10 fun h12 t13=>Jj1 h12 fun e14=>JdT t13 fun h15 t16=>Ji9 .i64 h15 fun e17=>Ji1 t16 (bif (decide (((e8).length:Int)>12)) then (k0 false) else (bif (inR x4 ((x3).length)) then (Jh1 ((x3).getD ((x4:Int).toNat) (.v (.bool false))) fun a18=>JdT a18 fun h19 t20=>Jkq h19 fun e21=>JdT t20 fun h22 t23=>Jj2 h22 fun e24=>JdT t23 fun h25 t26=>Jj1 h25 fun e27=>JdT t26 fun h28 t29=>Ji9 .i64 h28 fun e30=>Ji1 t29 (bif (bif false then true else (decide (((e24).size:Int)>x1))) then (k0 false) else (UiR n x1 x2 x3 x4 (fun y31 y32 y33 y34 y35=>k0 y34) (fun y36 y37 y38 y39=>l0 y36 y37 y38 (IntKind.i64.wrap (y39 + 1)))))) else none))) else none) else (k1)
def UbE (n:Nat):Nat→Int→Int→LP→Int→(Bool→O R)→(O R)→O R
 | 0,_,_,_,_,_,_=>none
 | m + 1,x1,x2,x3,x4,k0,k1=>Ue8 n (fun x1 x2 x3 x4=>UbE n m x1 x2 x3 x4 k0 k1) x1 x2 x3 x4 k0 k1
def Uo7 (n:Nat) (x1 x2:Int) (x3:LP) (x4:Int) (k0:Bool→O R) (k1:O R):O R:=UbE n n x1 x2 x3 x4 k0 k1
def p27 (n:Nat) (x1:Int) (x2:LP) (x3:Int) (k0:Bool→O R):O R :=
 bif (decide (((x2).length:Int)>16)) then (k0 false) else (Uo7 n x3 x1 x2 0 (fun y4=>k0 y4) (k0 true))
abbrev E27 (n:Nat):Code→Fr→Kc R→O R:=evC Tryz.prog (Uqz n) Ua4 n (61,[])
noncomputable def Un9:Code:=Jj3 (Jlk Tryz.f27) [1,1,0,1,0,0,1,0,0,1]
abbrev UmG:Sl (List SV):=(cI (.c (sBx 24 (cI (cH .n))) (cI .n)))
abbrev UoM (n:Nat) (K:Kc R):UmG.T (O R):=fun x1 x2 x3 x4=>UiR n x1 x2 x3 x4 (fun y1 y2 y3 y4 y5=>xC Ua4 8 K .ret [vI y1,.bx 24 [vI y2,vH y3],vB y4,vI y5]) (fun y1 y2 y3 y4=>xC Ua4 8 K .normal [vI y1,.bx 24 [vI y2,vH y3],dD,vI y4])
noncomputable def Uo:Code:=Jj3 (Jlk Tryz.f27) [1,1,0,1,0,0]
abbrev Ud6:Sl (List SV):=(cI (.c (sBx 24 (cI (cH .n))) (cI .n)))
abbrev Ult (n m:Nat) (K:Kc R):Ud6.T (O R):=fun x1 x2 x3 x4=>UbE n m x1 x2 x3 x4 (fun y1=>xL Ua4 4 K .ret [vB y1]) (xL Ua4 4 K (.exit 0) [dD])
abbrev Usr (n:Nat) (K:Kc R) (l0:Ud6.T (O R)):Ud6.T (O R):=fun x1 x2 x3 x4=>Ue8 n l0 x1 x2 x3 x4 (fun y1=>xL Ua4 4 K .ret [vB y1]) (xL Ua4 4 K (.exit 0) [dD])
noncomputable def Uoa:Code:=Jj3 (Jlk Tryz.f27) [1,1,0,1,0,0,1,0,0,1,1,0,0]
abbrev Ud7:Sl (List SV):=(cI (.c (sBx 24 (cI (cH .n))) (cI (cI .n))))
abbrev Ulu (n m:Nat) (K:Kc R):Ud7.T (O R):=fun x1 x2 x3 x4 x5=>Uct n m x1 x2 x3 x4 x5 (fun y1 y2 y3 y4 y5=>xL Ua4 9 K .ret [vI y1,.bx 24 [vI y2,vH y3],vB y4,vI y5]) (fun y1 y2 y3 y4=>xL Ua4 9 K (.exit 2) [vI y1,.bx 24 [vI y2,vH y3],dD,vI y4])
abbrev Uss (n:Nat) (K:Kc R) (l0:Ud7.T (O R)):Ud7.T (O R):=fun x1 x2 x3 x4 x5=>Ue9 n l0 x1 x2 x3 x4 x5 (fun y1 y2 y3 y4 y5=>xL Ua4 9 K .ret [vI y1,.bx 24 [vI y2,vH y3],vB y4,vI y5]) (fun y1 y2 y3 y4=>xL Ua4 9 K (.exit 2) [vI y1,.bx 24 [vI y2,vH y3],dD,vI y4])
abbrev UvA (n:Nat):Orc R:=oL Ua4 (E27 n) n 9 Uoa Ud7 (Ulu n n) (oL Ua4 (E27 n) n 4 Uo Ud6 (Ult n n) oN)
abbrev Uvp (n:Nat):Orc R:=oC Ua4 (E27 n) 8 Un9 UmG (UoM n) oN
abbrev K27 (R:Type) (n:Nat):=JcH (R:=R) Tryz.prog (Uqz n) Ua4 n (61,[]) (UvA n) (Uvp n)
theorem UuA (n:Nat):K27 R n (false,9,Uoa):=JkE (lo:=UvA n) (cu:=Uvp n) (pO pN (by kernel_rfl)) Ud7 (Ulu n n) (JiD (F:=Ulu n) Ud7 (Uss n) (fun K _ _ _ _ _=>rfl) (fun _ _=>rfl) (fun L K _ _ _ _ _=>by show _=_; kernel_rfl) n) fun _ _=>rfl
theorem Uuy (n:Nat):K27 R n (true,8,Un9):=JkV (lo:=UvA n) (cu:=Uvp n) (pO (pC (UuA n) pN) (by kernel_rfl)) UmG (UoM n) (fun K _ _ _ _=>by show _=_; kernel_rfl) fun _ _=>rfl
theorem Uuz (n:Nat):K27 R n (false,4,Uo):=JkE (lo:=UvA n) (cu:=Uvp n) (pO (pC (Uuy n) pN) (by kernel_rfl)) Ud6 (Ult n n) (JiD (F:=Ult n) Ud6 (Usr n) (fun K _ _ _ _=>rfl) (fun _ _=>rfl) (fun L K _ _ _ _=>by show _=_; kernel_rfl) n) fun _ _=>rfl
theorem UBh (n:Nat):Je6 (K27 R n) (JaJ Ua4 (Jlk Tryz.f27)):=pO (pC (Uuz n) pN) (by kernel_rfl)
abbrev t27:Sl (List SV):=(.c (sP (JlH (.c (Jlu .i64) (.c sSh .n)))) (cI .n))
abbrev f27 (n:Nat) (K:List SV→O R):t27.T (O R):=fun x1 x2 x3=>p27 n x1 x2 x3 (fun y1=>K [vB y1])
abbrev Uyu (n:Nat):FS:=fT [false,false] t27 (f27 n)
theorem UAI (n:Nat):FSound Tryz.prog GI 27 (Uyu n):=gd Ua4 n (UkE n) Tryz.func27 (.cons (UkE n) t27 (f27 n) (fun K _ _ _=>(Jkp (c:=Jlk Tryz.f27) (by kernel_rfl) (UBh n) K).trans (by kernel_rfl)) .nil) (by kernel_rfl)
def UvM:Ann:={ loops:=[],cuts:=[],frz:=[],rm:=[.id] }
abbrev Uye (n:Nat):Env:=eC 27 (Uyu n) eN
theorem UoJ (n:Nat):EnvOK Tryz.prog GI (Uye n):=.cons (.nil) (UAI n)
def p9 (n:Nat) (x1:Int) (x2:LP) (k0:Bool→O R):O R :=
 p27 n x1 x2 14 (fun y3=>k0 y3)
abbrev lo9 (n:Nat):Orc R:=oN
abbrev cu9 (n:Nat):Orc R:=oN
abbrev K9 (R:Type) (n:Nat):=JcH (R:=R) Tryz.prog (Uye n) UvM n (5,[]) (lo9 n) (cu9 n)
theorem pa9 (n:Nat):Je6 (K9 R n) (JaJ UvM (Jlk Tryz.f9)):=pO pN (by kernel_rfl)
abbrev t9:Sl (List SV):=(.c (sP (JlH (.c (Jlu .i64) (.c sSh .n)))) .n)
abbrev f9 (n:Nat) (K:List SV→O R):t9.T (O R):=fun x1 x2=>p9 n x1 x2 (fun y1=>K [vB y1])
abbrev fs9 (n:Nat):FS:=fT [false] t9 (f9 n)
theorem ok9 (n:Nat):FSound Tryz.prog GI 9 (fs9 n):=gd UvM n (UoJ n) Tryz.func9 (.cons (UoJ n) t9 (f9 n) (fun K _ _=>(Jkp (c:=Jlk Tryz.f9) (by kernel_rfl) (pa9 n) K).trans (by kernel_rfl)) .nil) (by kernel_rfl)
def Ueo:Ann:={ loops:=[(2,ids [0,3],ids [0,2])],cuts:=[],frz:=[],rm:=[.id] }
abbrev Uqu (n:Nat):Env:=eN
theorem Uks (n:Nat):EnvOK Tryz.prog GI (Uqu n):=.nil
def UeT (n:Nat) (l0:LP→Int→O R) (x1:LP) (x2:Int) (k0:LP→Bool→O R) (k1:LP→O R):O R :=
 bif (decide (x2<((x1).length:Int))) then (bif (bif true then (decide (x2<20)) else false) then (bif (inR x2 ((x1).length)) then (Jj2 ((x1).getD ((x2:Int).toNat) (.v (.bool false))) fun e3=>bif (decide (((e3).size:Int)>14)) then (k0 x1 false) else (l0 x1 (IntKind.i64.wrap (x2 + 1)))) else none) else (k1 x1)) else (k1 x1)
def Ucp (n:Nat):Nat→LP→Int→(LP→Bool→O R)→(LP→O R)→O R
 | 0,_,_,_,_=>none
 | m + 1,x1,x2,k0,k1=>UeT n (fun x1 x2=>Ucp n m x1 x2 k0 k1) x1 x2 k0 k1
def Uo3 (n:Nat) (x1:LP) (x2:Int) (k0:LP→Bool→O R) (k1:LP→O R):O R:=Ucp n n x1 x2 k0 k1
def p10 (n:Nat) (x1:LP) (k0:Bool→O R):O R :=
 Uo3 n x1 0 (fun y2 y3=>k0 y3) (fun y4=>k0 (decide (((y4).length:Int)≤16)))
abbrev E10 (n:Nat):Code→Fr→Kc R→O R:=evC Tryz.prog (Uqu n) Ueo n (23,[])
noncomputable def Un4:Code:=Jj3 (Jlk Tryz.f10) [1,0,1,0,0]
abbrev Ud3:Sl (List SV):=(cH (cI .n))
abbrev Uli (n m:Nat) (K:Kc R):Ud3.T (O R):=fun x1 x2=>Ucp n m x1 x2 (fun y1 y2=>xL Ueo 2 K .ret [vH y1,vB y2]) (fun y1=>xL Ueo 2 K (.exit 0) [vH y1,dD])
abbrev Uso (n:Nat) (K:Kc R) (l0:Ud3.T (O R)):Ud3.T (O R):=fun x1 x2=>UeT n l0 x1 x2 (fun y1 y2=>xL Ueo 2 K .ret [vH y1,vB y2]) (fun y1=>xL Ueo 2 K (.exit 0) [vH y1,dD])
abbrev UyS (n:Nat):Orc R:=oL Ueo (E10 n) n 2 Un4 Ud3 (Uli n n) oN
abbrev Ux1 (n:Nat):Orc R:=oN
abbrev K10 (R:Type) (n:Nat):=JcH (R:=R) Tryz.prog (Uqu n) Ueo n (23,[]) (UyS n) (Ux1 n)
theorem Uut (n:Nat):K10 R n (false,2,Un4):=JkE (lo:=UyS n) (cu:=Ux1 n) (pO pN (by kernel_rfl)) Ud3 (Uli n n) (JiD (F:=Uli n) Ud3 (Uso n) (fun K _ _=>rfl) (fun _ _=>rfl) (fun L K _ _=>by show _=_; kernel_rfl) n) fun _ _=>rfl
theorem UA6 (n:Nat):Je6 (K10 R n) (JaJ Ueo (Jlk Tryz.f10)):=pO (pC (Uut n) pN) (by kernel_rfl)
abbrev t10:Sl (List SV):=(cH .n)
abbrev f10 (n:Nat) (K:List SV→O R):t10.T (O R):=fun x1=>p10 n x1 (fun y1=>K [vB y1])
abbrev Uyo (n:Nat):FS:=fT [false] t10 (f10 n)
theorem UAC (n:Nat):FSound Tryz.prog GI 10 (Uyo n):=gd Ueo n (Uks n) Tryz.func10 (.cons (Uks n) t10 (f10 n) (fun K _=>(Jkp (c:=Jlk Tryz.f10) (by kernel_rfl) (UA6 n) K).trans (by kernel_rfl)) .nil) (by kernel_rfl)
end
end Go.Proofs.YtmgfmlhdnadglaaGreatDoor
set_option linter.unusedVariables false
set_option linter.unusedSimpArgs false
namespace Go.Proofs.YtmgfmlhdnadglaaGreatDoor
open Go Th Go.Proofs
variable {R:Type}
def Utv (r:RowT):Bool:=decide (r.tm.length≤12)&&(decide (r.c.length≤14)&&r.tm.all fun t=>decide (t.2.length≤14))
def UqU (rows:List RowT):Bool:=decide (rows.length≤16)&&rows.all Utv
def Ubz (l:List (List UInt8)):Bool:=((l.take 20).all fun s=>decide (s.length≤14))&&decide (l.length≤16)
theorem Uty {rows:List RowT} (h:UqU rows=true):smA rows:=by
 unfold UqU at h
 simp only [Bool.and_eq_true,decide_eq_true_iff,List.all_eq_true] at h
 refine ⟨by omega,fun r hr=>?_⟩
 have:=h.2 r hr
 unfold Utv at this
 simp only [Bool.and_eq_true,decide_eq_true_iff,List.all_eq_true] at this
 refine ⟨⟨by omega,fun t ht=>?_⟩,by omega⟩
 have:=this.2.2 t ht
 omega
theorem Ui2 {l:List (List UInt8)} (h:Ubz l=true):smS l:=by
 unfold Ubz at h
 simp only [Bool.and_eq_true,decide_eq_true_iff,List.all_eq_true] at h
 rw [List.take_of_length_le (by omega)] at h
 refine ⟨by omega,fun s hs=>?_⟩
 have:=h.1 s hs
 omega
theorem Utx (n:Nat) (hn:200000≤n) (cols:Int) (rows:List RowT) (i:Nat) (hi:i<rows.length) (hl:(rows[i]).tm.length≤12) (k0:Int→Int→List PV→Bool→Int→Option R) (k1:Int→Int→List PV→Int→Option R) :
 UiR n 14 cols (rws rows) (i:Int) k0 k1=if ((rows[i]).tm.all fun t=>decide (t.2.length≤14))=true then k1 14 cols (rws rows) (i:Int) else k0 14 cols (rws rows) false (i:Int):=by
 unfold UiR Uo8
 have h:=Uap (R:=R) (l:=(rows[i]).tm) (ok:=fun t=>decide (t.2.length≤14)) (kbad:=k0 14 cols (rws rows) false (i:Int)) (kend:=k1 14 cols (rws rows) (i:Int))
  (fun m j=>Uct n m 14 cols (rws rows) (i:Int) (j:Int) (fun y5 y6 y7 y8 y9=>k0 y5 y6 y7 y8 y9) (fun y10 y11 y12 y13=>k1 y10 y11 y12 y13))
  (fun m=>by
    simp only [Uct,Ue9]
    simp (disch:=(first | omega | (simp only [JlD]; omega))) only [↓JlG,JlE,Uae,Jjh,UaB hi,Ua])
  (fun m j hj=>by
    simp only [Uct,Ue9]
    by_cases h1:((rows[i]).tm[j]).2.length≤14
    · simp (disch:=(first | omega | (simp only [JlD]; omega))) only [↓JlG,JlE,Uae,Jjh,UaB hi,Ua,Uay hj,i1]
    · simp (disch:=(first | omega | (simp only [JlD]; omega))) only [↓JlG,JlE,Uae,Jjh,UaB hi,Ua,Uay hj,i1]
      simp [h1]) (rows[i]).tm.length n 0 (by omega) (by omega)
 rw [List.drop_zero] at h
 exact h
theorem Utw (n:Nat) (hn:200000≤n) (cols:Int) (rows:List RowT) (k0:Bool→Option R):p9 n cols (rws rows) k0=k0 (UqU rows):=by
 unfold p9 p27 UqU
 by_cases h0:rows.length≤16
 · have h:=Uap (R:=R) (l:=rows) (ok:=Utv) (kbad:=k0 false) (kend:=k0 true) (fun m i=>UbE n m 14 cols (rws rows) (i:Int) (fun y4=>k0 y4) (k0 true))
    (fun m=>by simp only [UbE,Ue8]; simp (disch:=(first | omega | (simp only [JlD]; omega))) only [↓JlG,JlE,Uae])
    (fun m i hi=>by
      simp only [UbE,Ue8,Utv]
      by_cases h1:(rows[i]).tm.length≤12
      · by_cases h2:(rows[i]).c.length≤14
        · simp (disch:=(first | omega | (simp only [JlD]; omega))) only [↓JlG,JlE,Uae,Jjh,UaB hi,Ua,i1,Utx n hn cols rows i hi h1]
        · simp (disch:=(first | omega | (simp only [JlD]; omega))) only [↓JlG,JlE,Uae,Jjh,UaB hi,Ua,i1]
          simp [h2]
      · simp (disch:=(first | omega | (simp only [JlD]; omega))) only [↓JlG,JlE,Uae,Jjh,UaB hi,Ua,i1]
        simp [h1]) rows.length n 0 (by omega) (by omega)
   rw [List.drop_zero] at h
   have h':UbE n n 14 cols (rws rows) 0 (fun y4=>k0 y4) (k0 true)=_:=h
   unfold Uo7
   simp (disch:=(first | omega | (simp only [JlD]; omega))) only [↓JlG,JlE,Uae,h']
   cases rows.all Utv <;> rfl
 · simp (disch:=(first | omega | (simp only [JlD]; omega))) only [↓JlG,JlE,Uae]
theorem Ugc (n:Nat) (hn:200000≤n) (l:List (List UInt8)) (k0:Bool→Option R):p10 n (sl l) k0=k0 (Ubz l):=by
 unfold p10 Uo3
 have hg:∀ (i:Nat) (h:i<(l.take 20).length),(l.take 20)[i]=l[i]'(by rw [List.length_take] at h; omega):=fun i h=>List.getElem_take
 have hlen:(l.take 20).length=min 20 l.length:=List.length_take
 have h:=Uap (R:=R) (l:=l.take 20) (ok:=fun s=>decide (s.length≤14)) (kbad:=k0 false) (kend:=k0 (decide (l.length≤16)))
  (fun m i=>Ucp n m (sl l) (i:Int) (fun y2 y3=>k0 y3) (fun y4=>k0 (decide (((y4).length:Int)≤16))))
  (fun m=>by
    have e:decide (((l.length:Nat):Int)≤16)=decide (l.length≤16):=by rw [Bool.eq_iff_iff]; simp; omega
    simp only [Ucp,UeT]
    rw [hlen]
    by_cases h1:l.length<20
    · rw [show min 20 l.length=l.length from by omega]
      simp (disch:=(first | omega | (simp only [JlD]; omega))) only [↓JlG,JlE,Uag,e]
    · by_cases h2:l.length=20
      · rw [show min 20 l.length=20 from by omega]
        simp (disch:=(first | omega | (simp only [JlD]; omega))) only [↓JlG,JlE,Uag,e]
      · rw [show min 20 l.length=20 from by omega]
        simp (disch:=(first | omega | (simp only [JlD]; omega))) only [↓JlG,JlE,Uag,e])
  (fun m i hi=>by
    have hi':i<l.length:=by omega
    have hi2:i<20:=by omega
    rw [hg i hi]
    simp only [Ucp,UeT]
    by_cases h1:(l[i]).length≤14
    · simp (disch:=(first | omega | (simp only [JlD]; omega))) only [↓JlG,JlE,Uag,Jjh,Ua1 hi',i1]
    · simp (disch:=(first | omega | (simp only [JlD]; omega))) only [↓JlG,JlE,Uag,Jjh,Ua1 hi',i1]
      simp [h1]) (l.take 20).length n 0 (by omega) (by omega)
 rw [List.drop_zero] at h
 refine Eq.trans h ?_
 unfold Ubz
 cases ((l.take 20).all fun s=>decide (s.length≤14)) <;> rfl
end Go.Proofs.YtmgfmlhdnadglaaGreatDoor
set_option linter.unusedVariables false
set_option maxRecDepth 100000
namespace Go.Proofs.YtmgfmlhdnadglaaGreatDoor
open Go Th Go.Proofs
noncomputable section
variable {R:Type}
abbrev t16:Sl (List SV):=(.c (sP (JlH (.c (Jlu .i64) (.c sSh .n)))) (cH (cH (cH .n))))
def Uep:Ann:={ loops:=[(2,ids [1,6,7,8],ids [1,2])],cuts:=[],frz:=[],rm:=[.id] }
abbrev Uqv (n:Nat):Env:=eC 10 (Uyo n) (eC 9 (fs9 n) eN)
theorem Ukv (n:Nat):EnvOK Tryz.prog GI (Uqv n):=.cons (.cons (.nil) (ok9 n)) (UAC n)
def Ue6 (n:Nat) (l0:Int→LP→LP→LP→LP→LP→Int→Int→O R) (x1:Int) (x2 x3 x4 x5 x6:LP) (x7 x8:Int) (k0:Int→LP→LP→LP→LP→Bool→O R) (k1:Int→LP→LP→LP→LP→O R):O R :=
 bif (decide (x8<x7)) then (bif (inR x8 ((x6).length)) then (Jh1 ((x6).getD ((x8:Int).toNat) (.v (.bool false))) fun a9=>JdT a9 fun h10 t11=>Ji9 .i64 h10 fun e12=>JdT t11 fun h13 t14=>Jj2 h13 fun e15=>Ji1 t14 (bif (decide (((e15).size:Int)>60)) then (k0 x1 x2 x3 x4 x5 false) else (l0 x1 x2 x3 x4 x5 x6 x7 (IntKind.i64.wrap (x8 + 1))))) else none) else (k1 x1 x2 x3 x4 x5)
def Ucq (n:Nat):Nat→Int→LP→LP→LP→LP→LP→Int→Int→(Int→LP→LP→LP→LP→Bool→O R)→(Int→LP→LP→LP→LP→O R)→O R
 | 0,_,_,_,_,_,_,_,_,_,_=>none
 | m + 1,x1,x2,x3,x4,x5,x6,x7,x8,k0,k1=>Ue6 n (fun x1 x2 x3 x4 x5 x6 x7 x8=>Ucq n m x1 x2 x3 x4 x5 x6 x7 x8 k0 k1) x1 x2 x3 x4 x5 x6 x7 x8 k0 k1
def Uo4 (n:Nat) (x1:Int) (x2 x3 x4 x5 x6:LP) (x7 x8:Int) (k0:Int→LP→LP→LP→LP→Bool→O R) (k1:Int→LP→LP→LP→LP→O R):O R:=Ucq n n x1 x2 x3 x4 x5 x6 x7 x8 k0 k1
def p14 (n:Nat) (x1:Int) (x2 x3 x4 x5:LP) (k0:Bool→O R):O R :=
 Uo4 n x1 x2 x3 x4 x5 x3 ((x3).length:Int) 0 (fun y6 y7 y8 y9 y10 y11=>k0 y11) (fun y12 y13 y14 y15 y16=>p9 n y12 y13 (fun y17=>bif y17 then (bif (bif true then (decide (((y14).length:Int)≤10)) else false) then (p10 n y15 (fun y18=>bif (bif true then y18 else false) then (p10 n y16 (fun y19=>k0 (bif true then y19 else false))) else (k0 false))) else (k0 false)) else (k0 false)))
abbrev E14 (n:Nat):Code→Fr→Kc R→O R:=evC Tryz.prog (Uqv n) Uep n (36,[])
noncomputable def Un5:Code:=Jj3 (Jlk Tryz.f14) [1,0,1,0,0]
abbrev Ud4:Sl (List SV):=(.c (sBx 35 (cI (cH (cH (cH (cH .n)))))) (cH (cI (cI .n))))
abbrev Ulp (n m:Nat) (K:Kc R):Ud4.T (O R):=fun x1 x2 x3 x4 x5 x6 x7 x8=>Ucq n m x1 x2 x3 x4 x5 x6 x7 x8 (fun y1 y2 y3 y4 y5 y6=>xL Uep 2 K .ret [.bx 35 [vI y1,vH y2,vH y3,vH y4,vH y5],vB y6]) (fun y1 y2 y3 y4 y5=>xL Uep 2 K (.exit 0) [.bx 35 [vI y1,vH y2,vH y3,vH y4,vH y5],dD])
abbrev Usp (n:Nat) (K:Kc R) (l0:Ud4.T (O R)):Ud4.T (O R):=fun x1 x2 x3 x4 x5 x6 x7 x8=>Ue6 n l0 x1 x2 x3 x4 x5 x6 x7 x8 (fun y1 y2 y3 y4 y5 y6=>xL Uep 2 K .ret [.bx 35 [vI y1,vH y2,vH y3,vH y4,vH y5],vB y6]) (fun y1 y2 y3 y4 y5=>xL Uep 2 K (.exit 0) [.bx 35 [vI y1,vH y2,vH y3,vH y4,vH y5],dD])
abbrev UyT (n:Nat):Orc R:=oL Uep (E14 n) n 2 Un5 Ud4 (Ulp n n) oN
abbrev Ux2 (n:Nat):Orc R:=oN
abbrev K14 (R:Type) (n:Nat):=JcH (R:=R) Tryz.prog (Uqv n) Uep n (36,[]) (UyT n) (Ux2 n)
theorem Uuu (n:Nat):K14 R n (false,2,Un5):=JkE (lo:=UyT n) (cu:=Ux2 n) (pO pN (by kernel_rfl)) Ud4 (Ulp n n) (JiD (F:=Ulp n) Ud4 (Usp n) (fun K _ _ _ _ _ _ _ _=>rfl) (fun _ _=>rfl) (fun L K _ _ _ _ _ _ _ _=>by show _=_; kernel_rfl) n) fun _ _=>rfl
theorem UA9 (n:Nat):Je6 (K14 R n) (JaJ Uep (Jlk Tryz.f14)):=pO (pC (Uuu n) pN) (by kernel_rfl)
abbrev t14:Sl (List SV):=(.c (sP (JlH (.c (Jlu .i64) (.c sSh (.c sSh (.c sSh (.c sSh .n))))))) .n)
abbrev f14 (n:Nat) (K:List SV→O R):t14.T (O R):=fun x1 x2 x3 x4 x5=>p14 n x1 x2 x3 x4 x5 (fun y1=>K [vB y1])
abbrev Uyr (n:Nat):FS:=fT [false] t14 (f14 n)
theorem UAF (n:Nat):FSound Tryz.prog GI 14 (Uyr n):=gd Uep n (Ukv n) Tryz.func14 (.cons (Ukv n) t14 (f14 n) (fun K _ _ _ _ _=>(Jkp (c:=Jlk Tryz.f14) (by kernel_rfl) (UA9 n) K).trans (by kernel_rfl)) .nil) (by kernel_rfl)
end
end Go.Proofs.YtmgfmlhdnadglaaGreatDoor
set_option linter.unusedVariables false
set_option linter.unusedSimpArgs false
namespace Go.Proofs.YtmgfmlhdnadglaaGreatDoor
open Go Th Go.Proofs
variable {R:Type}
def Utu (rows:List RowT) (cost:List TermT) (w mult:List (List UInt8)):Bool:=(cost.all fun t=>decide (t.2.length≤60))&&(UqU rows&&(decide (cost.length≤10)&&(Ubz w&&Ubz mult)))
theorem UqW {rows:List RowT} {cost:List TermT} {w mult:List (List UInt8)} (h:Utu rows cost w mult=true):smA rows∧smT cost∧smS w∧smS mult:=by
 unfold Utu at h
 simp only [Bool.and_eq_true,decide_eq_true_iff,List.all_eq_true] at h
 obtain ⟨a,b,c,d,e⟩:=h
 exact ⟨Uty b,⟨by omega,fun t ht=>by have:=a t ht; omega⟩,Ui2 d,Ui2 e⟩
theorem UqV (n:Nat) (hn:200000≤n) (hnm:9223372036854775807<n) (cols:Int) (rows:List RowT) (cost:List TermT) (hcl:cost.length≤9223372036854775807) (w mult:List (List UInt8)) (k0:Bool→Option R):p14 n cols (rws rows) (tms cost) (sl w) (sl mult) k0=k0 (Utu rows cost w mult):=by
 have g1:=fun k=>Utw (R:=R) n hn cols rows k
 have g2:=fun k=>Ugc (R:=R) n hn w k
 have g3:=fun k=>Ugc (R:=R) n hn mult k
 unfold p14 Uo4
 have H:=Uap (R:=R) (l:=cost) (ok:=fun t=>decide (t.2.length≤60)) (kbad:=k0 false) (kend:=k0 (UqU rows&&(decide (cost.length≤10)&&(Ubz w&&Ubz mult))))
  (fun m i=>Ucq n m cols (rws rows) (tms cost) (sl w) (sl mult) (tms cost) ((tms cost).length:Int) (i:Int) (fun y6 y7 y8 y9 y10 y11=>k0 y11) (fun y12 y13 y14 y15 y16=>p9 n y12 y13 (fun y17=>bif y17 then (bif (bif true then (decide (((y14).length:Int)≤10)) else false) then (p10 n y15 (fun y18=>bif (bif true then y18 else false) then (p10 n y16 (fun y19=>k0 (bif true then y19 else false))) else (k0 false))) else (k0 false)) else (k0 false))))
  (fun m=>by
    simp only [Ucq,Ue6]
    simp (disch:=(first | omega | (simp only [JlD]; omega))) only [↓JlG,JlE,Ua,g1]
    cases UqU rows with
    | false=>rfl
    | true =>
     by_cases h1:cost.length≤10
     · simp (disch:=(first | omega | (simp only [JlD]; omega))) only [↓JlG,JlE,Ua,g2,g3]
       cases Ubz w with
       | false=>simp [h1]
       | true=>cases Ubz mult <;> simp [h1]
     · simp (disch:=(first | omega | (simp only [JlD]; omega))) only [↓JlG,JlE,Ua] <;> simp [h1])
  (fun m i hi=>by
    simp only [Ucq,Ue6]
    by_cases h1:(cost[i]).2.length≤60
    · simp (disch:=(first | omega | (simp only [JlD]; omega))) only [↓JlG,JlE,Ua,Jjh,Uay hi,i1]
    · simp (disch:=(first | omega | (simp only [JlD]; omega))) only [↓JlG,JlE,Ua,Jjh,Uay hi,i1]
      simp [h1]) cost.length n 0 (by omega) (by omega)
 rw [List.drop_zero] at H
 refine Eq.trans H ?_
 unfold Utu
 cases (cost.all fun t=>decide (t.2.length≤60)) <;> rfl
end Go.Proofs.YtmgfmlhdnadglaaGreatDoor
set_option linter.unusedVariables false
set_option maxRecDepth 100000
namespace Go.Proofs.YtmgfmlhdnadglaaGreatDoor
open Go Th Go.Proofs
noncomputable section
variable {R:Type}
def UpE:Ann:={ loops:=[],cuts:=[],frz:=[],rm:=[.id] }
abbrev Us5 (n:Nat):Env:=eN
theorem UkF (n:Nat):EnvOK Tryz.prog GI (Us5 n):=.nil
def p28 (n:Nat) (x1:Int) (x2:ByteArray) (k0:Int→ByteArray→O R):O R :=
 k0 x1 x2
abbrev UAf (n:Nat):Orc R:=oN
abbrev UzM (n:Nat):Orc R:=oN
abbrev K28 (R:Type) (n:Nat):=JcH (R:=R) Tryz.prog (Us5 n) UpE n (8,[]) (UAf n) (UzM n)
theorem UBi (n:Nat):Je6 (K28 R n) (JaJ UpE (Jlk Tryz.f28)):=pO pN (by kernel_rfl)
abbrev t28:Sl (List SV):=(cI (cS .n))
abbrev f28 (n:Nat) (K:List SV→O R):t28.T (O R):=fun x1 x2=>p28 n x1 x2 (fun y1 y2=>K [.p (.agg [.v (.int .i64 y1),.v (.string y2)])])
abbrev Uyv (n:Nat):FS:=fT [false,false] t28 (f28 n)
theorem UAJ (n:Nat):FSound Tryz.prog GI 28 (Uyv n):=gd UpE n (UkF n) Tryz.func28 (.cons (UkF n) t28 (f28 n) (fun K _ _=>(Jkp (c:=Jlk Tryz.f28) (by kernel_rfl) (UBi n) K).trans (by kernel_rfl)) .nil) (by kernel_rfl)
def Upx:Ann:={ loops:=[],cuts:=[],frz:=[],rm:=[.id] }
abbrev UsY (n:Nat):Env:=eC 28 (Uyv n) (eC 23 (Uyt n) (eC 20 (Uv6 n) (eC 15 (Uys n) (eC 12 (Uyq n) eN))))
theorem Ukt (n:Nat):EnvOK Tryz.prog GI (UsY n):=.cons (.cons (.cons (.cons (.cons (.nil) (UAE n)) (UAG n)) (Uy7 n)) (UAH n)) (UAJ n)
def p11 (n:Nat)  (k0:Bool→O R):O R :=
 p28 n 0 ⟨#[49]⟩ (fun y1 y2=>p28 n 0 ⟨#[45,49]⟩ (fun y3 y4=>p23 n 1 ([.agg [.sh ([.agg [.v (.int .i64 y1),.v (.string y2)]]:LP),.v (.string ⟨#[45,51]⟩),.v (.bool false),.v (.int .i64 0)],.agg [.sh ([.agg [.v (.int .i64 y3),.v (.string y4)]]:LP),.v (.string ⟨#[50]⟩),.v (.bool false),.v (.int .i64 0)]]:LP) ([.v (.string ⟨#[49]⟩),.v (.string ⟨#[49]⟩)]:LP) (fun y5 y6 y7=>p28 n 0 ⟨#[49]⟩ (fun y8 y9=>p28 n 1 ⟨#[49]⟩ (fun y10 y11=>bif (y7 == 0) then (bif true then (bif true then (bif true then (bif (bif true then (((y5).length:Int) == 0) else false) then (bif true then (bif true then (bif (bif true then eqS y6 (⟨#[45,49]⟩:ByteArray) else false) then (bif true then (bif true then (p12 n 1 ([.agg [.sh ([.agg [.v (.int .i64 y1),.v (.string y2)]]:LP),.v (.string ⟨#[45,51]⟩),.v (.bool false),.v (.int .i64 0)],.agg [.sh ([.agg [.v (.int .i64 y3),.v (.string y4)]]:LP),.v (.string ⟨#[50]⟩),.v (.bool false),.v (.int .i64 0)]]:LP) ([.v (.string ⟨#[49]⟩),.v (.string ⟨#[49]⟩)]:LP) (fun y12=>bif true then (bif (bif true then (y12 == 0) else false) then (bif true then (bif true then (p12 n 1 ([.agg [.sh ([.agg [.v (.int .i64 y1),.v (.string y2)]]:LP),.v (.string ⟨#[45,51]⟩),.v (.bool false),.v (.int .i64 0)],.agg [.sh ([.agg [.v (.int .i64 y3),.v (.string y4)]]:LP),.v (.string ⟨#[50]⟩),.v (.bool false),.v (.int .i64 0)]]:LP) ([.v (.string ⟨#[49]⟩),.v (.string ⟨#[48]⟩)]:LP) (fun y13=>bif true then (bif (bif true then (y13 == 16) else false) then (bif true then (p28 n 0 ⟨#[50]⟩ (fun y14 y15=>bif true then (p28 n 1 ⟨#[51]⟩ (fun y16 y17=>bif true then (bif true then (bif true then (bif true then (p15 n 2 ([.agg [.sh ([.agg [.v (.int .i64 y8),.v (.string y9)],.agg [.v (.int .i64 y10),.v (.string y11)]]:LP),.v (.string ⟨#[45,50]⟩),.v (.bool false),.v (.int .i64 0)]]:LP) ([.agg [.v (.int .i64 y14),.v (.string y15)],.agg [.v (.int .i64 y16),.v (.string y17)]]:LP) ([.v (.string ⟨#[50]⟩),.v (.string ⟨#[48]⟩)]:LP) ([.v (.string ⟨#[50]⟩)]:LP) (fun y18=>bif true then (bif (bif true then (y18 == 0) else false) then (bif true then (p28 n 1 ⟨#[45,49]⟩ (fun y19 y20=>bif true then (bif true then (bif true then (bif true then (p20 n 2 ([.agg [.sh ([.agg [.v (.int .i64 y8),.v (.string y9)],.agg [.v (.int .i64 y10),.v (.string y11)]]:LP),.v (.string ⟨#[45,50]⟩),.v (.bool false),.v (.int .i64 0)]]:LP) ([.agg [.v (.int .i64 y19),.v (.string y20)]]:LP) ([.v (.string ⟨#[50]⟩),.v (.string ⟨#[48]⟩)]:LP) ([.v (.string ⟨#[48]⟩),.v (.string ⟨#[49]⟩)]:LP) (fun y21=>bif true then (k0 (bif true then (y21 == 0) else false)) else none)) else none) else none) else none) else none)) else none) else (bif false then none else (bif false then none else (bif false then none else (bif false then none else (bif false then none else (bif false then none else (bif false then none else (k0 false))))))))) else none)) else none) else none) else none) else none)) else none)) else none) else (bif false then none else (bif false then none else (bif false then none else (bif false then none else (bif false then none else (bif false then none else (bif false then none else (bif false then none else (bif false then none else (bif false then none else (bif false then none else (bif false then none else (bif false then none else (bif false then none else (bif false then none else (bif false then none else (k0 false)))))))))))))))))) else none)) else none) else none) else (bif false then none else (bif false then none else (bif false then none else (bif false then none else (bif false then none else (bif false then none else (bif false then none else (bif false then none else (bif false then none else (bif false then none else (bif false then none else (bif false then none else (bif false then none else (bif false then none else (bif false then none else (bif false then none else (bif false then none else (bif false then none else (bif false then none else (bif false then none else (bif false then none else (k0 false))))))))))))))))))))))) else none)) else none) else none) else (bif false then none else (bif false then none else (bif false then none else (bif false then none else (bif false then none else (bif false then none else (bif false then none else (bif false then none else (bif false then none else (bif false then none else (bif false then none else (bif false then none else (bif false then none else (bif false then none else (bif false then none else (bif false then none else (bif false then none else (bif false then none else (bif false then none else (bif false then none else (bif false then none else (bif false then none else (bif false then none else (bif false then none else (bif false then none else (bif false then none else (k0 false)))))))))))))))))))))))))))) else none) else none) else (bif false then none else (bif false then none else (bif false then none else (bif false then none else (bif false then none else (bif false then none else (bif false then none else (bif false then none else (bif false then none else (bif false then none else (bif false then none else (bif false then none else (bif false then none else (bif false then none else (bif false then none else (bif false then none else (bif false then none else (bif false then none else (bif false then none else (bif false then none else (bif false then none else (bif false then none else (bif false then none else (bif false then none else (bif false then none else (bif false then none else (bif false then none else (bif false then none else (bif false then none else (bif false then none else (k0 false)))))))))))))))))))))))))))))))) else none) else none) else none) else (bif false then none else (bif false then none else (bif false then none else (bif false then none else (bif false then none else (bif false then none else (bif false then none else (bif false then none else (bif false then none else (bif false then none else (bif false then none else (bif false then none else (bif false then none else (bif false then none else (bif false then none else (bif false then none else (bif false then none else (bif false then none else (bif false then none else (bif false then none else (bif false then none else (bif false then none else (bif false then none else (bif false then none else (bif false then none else (bif false then none else (bif false then none else (bif false then none else (bif false then none else (bif false then none else (bif false then none else (bif false then none else (bif false then none else (bif false then none else (bif false then none else (k0 false)))))))))))))))))))))))))))))))))))))))))
abbrev Uz9 (n:Nat):Orc R:=oN
abbrev UzF (n:Nat):Orc R:=oN
abbrev K11 (R:Type) (n:Nat):=JcH (R:=R) Tryz.prog (UsY n) Upx n (69,[]) (Uz9 n) (UzF n)
theorem UA7 (n:Nat):Je6 (K11 R n) (JaJ Upx (Jlk Tryz.f11)):=pO pN (by kernel_rfl)
abbrev t11:Sl (List SV):=.n
abbrev f11 (n:Nat) (K:List SV→O R):t11.T (O R):=p11 n  (fun y1=>K [vB y1])
abbrev Uyp (n:Nat):FS:=fT [] t11 (f11 n)
theorem UAD (n:Nat):FSound Tryz.prog GI 11 (Uyp n):=gd Upx n (Ukt n) Tryz.func11 (.cons (Ukt n) t11 (f11 n) (fun K=>(Jkp (c:=Jlk Tryz.f11) (by kernel_rfl) (UA7 n) K).trans (by kernel_rfl)) .nil) (by kernel_rfl)
end
end Go.Proofs.YtmgfmlhdnadglaaGreatDoor
namespace Go.Proofs.YtmgfmlhdnadglaaGreatDoor
open Go Th Go.Proofs
theorem Uuj {R:Type} (m:Nat) (k0:Bool→Option R):p11 (m + 40) k0=k0 true:=by kernel_rfl
theorem Urd {R:Type} (n:Nat) (h:40≤n) (k0:Bool→Option R):p11 n k0=k0 true:=by
 rw [show n=(n - 40) + 40 from by omega]; exact Uuj _ k0
end Go.Proofs.YtmgfmlhdnadglaaGreatDoor
set_option linter.unusedVariables false
namespace Go.Proofs.YtmgfmlhdnadglaaGreatDoor
open Go Th Go.Proofs
abbrev Ub0:List (String × DataW Unit):=[("math/bits.deBruijn32tab",Rows.laid_math_bits_deBruijn32tab),("math/bits.deBruijn64tab",Rows.laid_math_bits_deBruijn64tab),("internal/strconv.uint64pow10",Rows.laid_internal_strconv_uint64pow10),("unicode/utf8.acceptRanges",Rows.laid_unicode_utf8_acceptRanges),("strconv.ErrRange",Rows.laid_strconv_ErrRange),("strconv.ErrSyntax",Rows.laid_strconv_ErrSyntax),("unicode/utf8.first",Rows.laid_unicode_utf8_first)]
theorem UnW {W:World} (h:laidMetH Tryz.prog Ub0 W):Lib.TabIs Tryz.prog W "internal/strconv.uint64pow10" .u64 Lib.pow10Tab:=by
 rw [MakeChecks.laidMetH_plain _ _ _ (by kernel_rfl)] at h
 obtain ⟨ps,⟨_,_,_,_,_,_,_,_,_,_,⟨_,_,_,_,_,_,_,_,_,_,⟨g,t,cs,f,p,q,hg,ht,hv,hd,_,_⟩,_⟩,_⟩,_⟩:=h
 obtain rfl:=Option.some.inj ((show Tryz.prog.globalNamed "internal/strconv.uint64pow10" = some 0 by kernel_rfl).symm.trans hg)
 have e:(Rows.laid_internal_strconv_uint64pow10:DataW Unit)=Lib.tabData .u64 Lib.pow10Tab:=by kernel_rfl
 rw [e] at hd
 obtain rfl:=Option.some.inj ((show (Tryz.prog.globals[0]?).map (·.type)=some 199 by kernel_rfl).symm.trans ht)
 have hc:=Lib.cells_of_tab Tryz.underlying199 Tryz.underlying144 (by kernel_rfl) (by kernel_rfl) hd
 unfold Lib.TabIs
 rw [hv,←hc]
theorem UnX {P:Program} {W:World} {name:String} {k:IntKind} {zs:List Int} {g:Nat} (hg:P.globalNamed name=some g) (h:Lib.TabIs P W name k zs):g<W.heap.size:=by
 unfold Lib.TabIs World.var? at h
 rw [hg] at h
 simp only [Option.bind_some] at h
 split at h
 · rename_i hh
   exact (Array.getElem?_eq_some_iff.1 hh).1
 · cases h
abbrev Tab (W:World):Prop:=Lib.TabIs Tryz.prog W "internal/strconv.uint64pow10" .u64 Lib.pow10Tab
def Fp (ps:List MemPlace) (b:Nat):Prop:=b=0∨∃ x∈ps,x.block=b
theorem Uv4 {ps qs:List MemPlace} (h:∀ x∈qs,x∈ps):∀ x∈qs,Fp ps x.block:=fun x hx=>.inr ⟨x,h x hx,rfl⟩
theorem Unu {g:Nat} {fs:FS} (hf:FSound Tryz.prog GI g fs) {cargs:Array Value} {args:List PV} {W:World} (h:Tab W) (ps:List MemPlace) (hlt:∀ x∈ps,x.block<W.heap.size)
 (ha:RSs Tryz.prog (Fp ps) W (args.map SV.p) cargs.toList []) (hk:fs.run (args.map SV.p) JgY=some true) :
 Calls Tryz.prog g cargs W fun e w'=>e=.returned (.bool true)∧RowKit.Below W.heap.size W w' :=
 Jja hf W (Fp ps) (fun b hb=>by
  rcases hb with rfl | ⟨x,hx,rfl⟩
  · exact UnX (by kernel_rfl) h
  · exact hlt x hx) ⟨.inl rfl,h⟩ ha hk
theorem c3:Tryz.prog.cellsOf 3=1:=by kernel_rfl
theorem c4:Tryz.prog.cellsOf 4=1:=by kernel_rfl
theorem c9:Tryz.prog.cellsOf 9=1:=by kernel_rfl
theorem c22:Tryz.prog.cellsOf 22=1:=by kernel_rfl
theorem c24:Tryz.prog.cellsOf 24=2:=by kernel_rfl
theorem c25:Tryz.prog.cellsOf 25=1:=by kernel_rfl
theorem c33:Tryz.prog.cellsOf 33=1:=by kernel_rfl
theorem c35:Tryz.prog.cellsOf 35=5:=by kernel_rfl
theorem c66:Tryz.prog.cellsOf 66=2:=by kernel_rfl
theorem c70:Tryz.prog.cellsOf 70=4:=by kernel_rfl
section
variable {H:Type} {enc:TypeId × Value→H} {W:World} {spare:Nat→Bool} {held:Bool} {F:Nat→Prop}
abbrev Ugo:=Int × ByteArray × Unit
abbrev Ur4:=List Ugo × ByteArray × Bool × Int × Unit
abbrev UvL:=Int × List Ur4 × Unit
def termC (y:Ugo):List PV:=[.v (.int .i64 y.1)]++([.v (.string y.2.1)]++[])
def rowC (y:Ur4):List PV:=[.sh (y.1.map fun t=>.agg (termC t))]++([.v (.string y.2.1)]++([.v (.bool y.2.2.1)]++([.v (.int .i64 y.2.2.2.1)]++[])))
def sysC (y:UvL):List PV:=[.v (.int .i64 y.1)]++([.sh (y.2.1.map fun r=>.agg (rowC r))]++[])
theorem UqT {f:Field} {fs:List Field} {off:Nat} {B:Type} {ok2:B→Prop} {cells2:B→List PV} {size:Nat} (ho:f.offset=off) (ht:f.type=3) (s:Fld enc Tryz.prog W spare held F fs (off + 1) B ok2 cells2 size) :
 Fld enc Tryz.prog W spare held F (f::fs) off (Int × B) (fun y=>(Lit.int .i64 y.1).wf=true∧ok2 y.2) (fun y=>[.v (.int .i64 y.1)]++cells2 y.2) (1 + size) :=
 JkQ ho (by rw [ht]; exact c3) (by rw [ht]; exact Jln Tryz.underlying3 c3) s
theorem Utt {f:Field} {fs:List Field} {off:Nat} {B:Type} {ok2:B→Prop} {cells2:B→List PV} {size:Nat} (ho:f.offset=off) (ht:f.type=9) (s:Fld enc Tryz.prog W spare held F fs (off + 1) B ok2 cells2 size) :
 Fld enc Tryz.prog W spare held F (f::fs) off (ByteArray × B) (fun y=>y.1.size≤maxLen∧ok2 y.2) (fun y=>[.v (.string y.1)]++cells2 y.2) (1 + size) :=
 JkQ ho (by rw [ht]; exact c9) (by rw [ht]; exact Jlo Tryz.underlying9 c9) s
theorem Uts {f:Field} {fs:List Field} {off:Nat} {B:Type} {ok2:B→Prop} {cells2:B→List PV} {size:Nat} (ho:f.offset=off) (ht:f.type=4) (s:Fld enc Tryz.prog W spare held F fs (off + 1) B ok2 cells2 size) :
 Fld enc Tryz.prog W spare held F (f::fs) off (Bool × B) (fun y=>True∧ok2 y.2) (fun y=>[.v (.bool y.1)]++cells2 y.2) (1 + size) :=
 JkQ ho (by rw [ht]; exact c4) (by rw [ht]; exact Jlb Tryz.underlying4 c4) s
theorem Ur8 {t k:Nat} {f:Field} {fs:List Field} {off:Nat} {A B:Type} {ok:A→Prop} {cells:A→List PV} {ok2:B→Prop} {cells2:B→List PV} {size:Nat} (ht:f.type=t) (hc:Tryz.prog.cellsOf t=k) (r:Rd enc Tryz.prog W spare held F t A ok cells) (ho:f.offset=off) (s:Fld enc Tryz.prog W spare held F fs (off + k) B ok2 cells2 size) :
 Fld enc Tryz.prog W spare held F (f::fs) off (A × B) (fun y=>ok y.1∧ok2 y.2) (fun y=>cells y.1++cells2 y.2) (k + size) :=
 JkQ ho (by rw [ht]; exact hc) (by rw [ht]; exact r) s
theorem UrU:∃ ok,Rd enc Tryz.prog W spare held F 66 Ugo ok termC :=
 ⟨_,JkF Tryz.underlying66 c66 (UqT rfl rfl (Utt rfl rfl (Jk3 _)))⟩
theorem UiY:∃ ok,Rd enc Tryz.prog W spare held F 33 (List Ugo) ok (fun l=>[.sh (l.map fun t=>.agg (termC t))]) :=
 let ⟨ok,h⟩:=UrU
 ⟨_,JkX Tryz.underlying33 c33 (by rw [c66]; omega) (fun a=>rfl) h⟩
theorem Uu8:∃ ok,Rd enc Tryz.prog W spare held F 70 Ur4 ok rowC :=
 let ⟨ok,h⟩:=UiY
 ⟨_,JkF Tryz.underlying70 c70 (Ur8 (t:=33) rfl c33 h rfl (Utt rfl rfl (Uts rfl rfl (UqT rfl rfl (Jk3 _)))))⟩
theorem UrS:∃ ok,Rd enc Tryz.prog W spare held F 22 (List Ur4) ok (fun l=>[.sh (l.map fun t=>.agg (rowC t))]) :=
 let ⟨ok,h⟩:=Uu8
 ⟨_,JkX Tryz.underlying22 c22 (by rw [c70]; omega) (fun a=>rfl) h⟩
theorem Uu9:∃ ok,Rd enc Tryz.prog W spare held F 24 UvL ok sysC :=
 let ⟨ok,h⟩:=UrS
 ⟨_,JkF Tryz.underlying24 c24 (UqT rfl rfl (Ur8 (t:=22) rfl c22 h rfl (Jk3 _)))⟩
theorem UrT:∃ ok,Rd enc Tryz.prog W spare held F 25 (List ByteArray) ok (fun l=>[.sh (l.map fun s=>.v (.string s))]) :=
 ⟨_,JkX Tryz.underlying25 c25 (by rw [c9]; omega) (fun a=>rfl) (Jlo Tryz.underlying9 c9)⟩
def UmP (y:Ugo):TermT:=(y.1,y.2.1.data.toList)
def UvH (y:Ur4):RowT:=⟨y.1.map UmP,y.2.1.data.toList,y.2.2.1,y.2.2.2.1⟩
theorem UmQ (l:List Ugo):(l.map fun t=>PV.agg (termC t))=tms (l.map UmP):=by
 unfold tms; rw [List.map_map]; rfl
theorem Uva (l:List Ur4):(l.map fun t=>PV.agg (rowC t))=rws (l.map UvH):=by
 unfold rws
 rw [List.map_map]
 refine List.map_congr_left fun r _=>?_
 show PV.agg ([.sh (r.1.map fun t=>.agg (termC t))]++_)=rPV (UvH r)
 rw [UmQ]; rfl
theorem Upn (l:List ByteArray):(l.map fun s=>PV.v (.string s))=sl (l.map fun s=>s.data.toList):=by
 unfold sl; rw [List.map_map]; rfl
abbrev Usg:=UvL × List Ugo × List ByteArray × List ByteArray × Unit
def caseC (y:Usg):List PV:=sysC y.1++([.sh (y.2.1.map fun t=>.agg (termC t))]++([.sh (y.2.2.1.map fun s=>.v (.string s))]++([.sh (y.2.2.2.1.map fun s=>.v (.string s))]++[])))
theorem UrR:∃ ok,Rd enc Tryz.prog W spare held F 35 Usg ok caseC :=
 let ⟨_,h1⟩:=Uu9
 let ⟨_,h2⟩:=UiY
 let ⟨_,h3⟩:=UrT
 ⟨_,JkF Tryz.underlying35 c35 (Ur8 (t:=24) rfl c24 h1 rfl (Ur8 (t:=33) rfl c33 h2 rfl (Ur8 (t:=25) rfl c25 h3 rfl (Ur8 (t:=25) rfl c25 h3 rfl (Jk3 _)))))⟩
theorem Uvb {es:List PV} {v:Value} (h:RP F W (.sh es) v):es.length≤maxLen:=by
 cases h with
 | sh _ _ _ _ h4 h5 h6=>omega
theorem Um4 {cs:Array Value} {d:DataW H} {p:List MemPlace} (h:DataW.Trod enc Tryz.prog W 0 spare held 35 (.agg cs) d p) (hF:∀ x∈p,F x.block) :
 ∃ cols rows cost w mult,cost.length≤9223372036854775807∧RP F W (.agg [.v (.int .i64 cols),.sh (rws rows),.sh (tms cost),.sh (sl w),.sh (sl mult)]) (.agg cs):=by
 obtain ⟨ok,r⟩:=UrR (enc:=enc) (W:=W) (spare:=spare) (held:=held) (F:=F)
 obtain ⟨a,_,h2⟩:=Jlp r h hF
 have e:caseC a=[.v (.int .i64 a.1.1),.sh (rws (a.1.2.1.map UvH)),.sh (tms (a.2.1.map UmP)),.sh (sl (a.2.2.1.map fun s=>s.data.toList)),.sh (sl (a.2.2.2.1.map fun s=>s.data.toList))]:=by
  rw [←Uva,←UmQ,←Upn,←Upn]; rfl
 rw [e] at h2
 refine ⟨a.1.1,a.1.2.1.map UvH,a.2.1.map UmP,a.2.2.1.map fun s=>s.data.toList,a.2.2.2.1.map fun s=>s.data.toList,?_,h2⟩
 have h3:∃ v,RP F W (.sh (tms (a.2.1.map UmP))) v:=by
  cases h2 with
  | agg q _ =>
   cases q with
   | cons _ q =>
    cases q with
    | cons _ q =>
     cases q with
     | cons q _=>exact ⟨_,q⟩
 obtain ⟨v,h3⟩:=h3
 have:=Uvb h3
 rw [Ua] at this
 exact Nat.le_trans this (by decide)
end
end Go.Proofs.YtmgfmlhdnadglaaGreatDoor
set_option linter.unusedVariables false
set_option maxRecDepth 100000
namespace Go.Proofs.YtmgfmlhdnadglaaGreatDoor
open Go Th Go.Proofs
noncomputable section
variable {R:Type}
def Ugj:Ann:={ loops:=[(5,ids [2,5,6],ids [2,4,5]),(10,[(2,.id),(5,.id),(7,.own 9),(55,.id),(56,.id),(57,.id)],ids [2,4,7])],cuts:=[(3,ids [1,2],ids [4]),(24,ids [14,15,17,18,19,20],ids [4])],frz:=[],rm:=[.id] }
abbrev Uv3 (n:Nat):Env:=eC 22 (Uvt n) (eC 21 (Uvs n) (eC 20 (Uv6 n) (eC 19 (UoV n) (eC 18 (Uvr n) (eC 17 (Uv5 n) (eC 14 (Uyr n) (eC 11 (Uyp n) eN)))))))
theorem UoI (n:Nat):EnvOK Tryz.prog GI (Uv3 n):=.cons (.cons (.cons (.cons (.cons (.cons (.cons (.cons (.nil) (UAD n)) (UAF n)) (Uy6 n)) (UwS n)) (Ur n)) (Uy7 n)) (UwT n)) (UwU n)
def Ums (n:Nat) (l0:Int→LP→LP→LP→LP→ByteArray→Int→O R) (x1:Int) (x2 x3 x4 x5:LP) (x6:ByteArray) (x7:Int) (k0:Int→LP→LP→LP→LP→ByteArray→O R):O R :=
 bif (decide (x7>0)) then (bif decide (10=0) then none else (let v8:=IntKind.i64.wrap (48 + (Int.tmod x7 10)); JjZ (Utf8.encode (IntKind.i32.wrap (v8))) x6 fun s9=>bif decide (10=0) then none else (l0 x1 x2 x3 x4 x5 s9 (IntKind.i64.wrap (Int.tdiv x7 10))))) else (k0 x1 x2 x3 x4 x5 x6)
def Uf6 (n:Nat):Nat→Int→LP→LP→LP→LP→ByteArray→Int→(Int→LP→LP→LP→LP→ByteArray→O R)→O R
 | 0,_,_,_,_,_,_,_,_=>none
 | m + 1,x1,x2,x3,x4,x5,x6,x7,k0=>Ums n (fun x1 x2 x3 x4 x5 x6 x7=>Uf6 n m x1 x2 x3 x4 x5 x6 x7 k0) x1 x2 x3 x4 x5 x6 x7 k0
def Uur (n:Nat) (x1:Int) (x2 x3 x4 x5:LP) (x6:ByteArray) (x7:Int) (k0:Int→LP→LP→LP→LP→ByteArray→O R):O R:=Uf6 n n x1 x2 x3 x4 x5 x6 x7 k0
def Ufo (n:Nat) (l0:Int→LP→LP→LP→LP→ByteArray→LP→LP→Int→Int→O R) (x1:Int) (x2 x3 x4 x5:LP) (x6:ByteArray) (x7 x8:LP) (x9 x10:Int) (k0:Int→LP→LP→LP→LP→Bool→LP→O R) (k1:Int→LP→LP→LP→LP→LP→O R):O R :=
 bif (decide (x10<x9)) then (bif (inR x10 ((x8).length)) then (Jj2 ((x8).getD ((x10:Int).toNat) (.v (.bool false))) fun e11=>bif (inR x10 ((x5).length)) then (Jj2 ((x5).getD ((x10:Int).toNat) (.v (.bool false))) fun e12=>p21 n e12 x6 (fun y13 y14=>p22 n e11 y13 (fun y15 y16=>bif (y14 != 0) then (p11 n (fun y17=>k0 x1 x2 x3 x4 x5 y17 x7)) else (bif (bif false then true else (y16 != 0)) then (p11 n (fun y18=>k0 x1 x2 x3 x4 x5 y18 x7)) else (bif (Jbu ((x7).length + 1) 16) then (l0 x1 x2 x3 x4 x5 x6 (x7++([.v (.string y15)]:LP)) x8 x9 (IntKind.i64.wrap (x10 + 1))) else none))))) else none) else none) else (k1 x1 x2 x3 x4 x5 x7)
def UcF (n:Nat):Nat→Int→LP→LP→LP→LP→ByteArray→LP→LP→Int→Int→(Int→LP→LP→LP→LP→Bool→LP→O R)→(Int→LP→LP→LP→LP→LP→O R)→O R
 | 0,_,_,_,_,_,_,_,_,_,_,_,_=>none
 | m + 1,x1,x2,x3,x4,x5,x6,x7,x8,x9,x10,k0,k1=>Ufo n (fun x1 x2 x3 x4 x5 x6 x7 x8 x9 x10=>UcF n m x1 x2 x3 x4 x5 x6 x7 x8 x9 x10 k0 k1) x1 x2 x3 x4 x5 x6 x7 x8 x9 x10 k0 k1
def Umr (n:Nat) (x1:Int) (x2 x3 x4 x5:LP) (x6:ByteArray) (x7 x8:LP) (x9 x10:Int) (k0:Int→LP→LP→LP→LP→Bool→LP→O R) (k1:Int→LP→LP→LP→LP→LP→O R):O R:=UcF n n x1 x2 x3 x4 x5 x6 x7 x8 x9 x10 k0 k1
def Umq (n:Nat) (x1:Bool) (x2:Int) (x3:ByteArray) (x4:Int) (x5:ByteArray) (x6:Int) (k0:Bool→O R):O R :=
 bif (x2 == 0) then (bif (bif true then x1 else false) then (bif (bif true then (x4 == 0) else false) then (bif (bif true then (x6 == 0) else false) then (p19 n x5 x3 (fun y7=>bif (bif true then (decide (y7<0)) else false) then (p11 n (fun y8=>k0 (bif true then y8 else false))) else (k0 false))) else (k0 false)) else (k0 false)) else (k0 false)) else (k0 false)
def Urg (n:Nat) (x1 x2:Int) (x3 x4 x5 x6:LP) (k0:Bool→O R):O R :=
 Uur n x2 x3 x4 x5 x6 ⟨#[]⟩ (IntKind.i64.wrap (x1)) (fun y7 y8 y9 y10 y11 y12=>Umr n y7 y8 y9 y10 y11 y12 [] y10 ((y10).length:Int) 0 (fun y13 y14 y15 y16 y17 y18 y19=>k0 y18) (fun y20 y21 y22 y23 y24 y25=>p17 n y20 y21 y25 (fun y26 y27=>p18 n y22 ⟨#[48]⟩ y23 (fun y28 y29=>p18 n y22 ⟨#[48]⟩ y25 (fun y30 y31=>bif (y27 == 5) then (p11 n (fun y32=>k0 y32)) else (bif (bif false then true else (y29 == 5)) then (p11 n (fun y33=>k0 y33)) else (bif (bif false then true else (y31 == 5)) then (p11 n (fun y34=>k0 y34)) else (Umq n y26 y27 y28 y29 y30 y31 (fun y35=>k0 y35)))))))))
def p7 (n:Nat) (x1:Int) (x2 x3 x4 x5:LP) (x6:Int) (k0:Bool→O R):O R :=
 p14 n x1 x2 x3 x4 x5 (fun y7=>bif (!y7) then (p11 n (fun y8=>k0 y8)) else (bif (bif false then true else (x6 == 0)) then (p11 n (fun y9=>k0 y9)) else (p20 n x1 x2 x3 x4 x5 (fun y10=>bif (bif false then true else (y10 != 0)) then (p11 n (fun y11=>k0 y11)) else (Urg n x6 x1 x2 x3 x4 x5 (fun y12=>k0 y12))))))
abbrev E7 (n:Nat):Code→Fr→Kc R→O R:=evC Tryz.prog (Uv3 n) Ugj n (146,[])
noncomputable def UsL:Code:=Jj3 (Jlk Tryz.f7) [1,1]
abbrev UrY:Sl (List SV):=(.c (sP (Jlu .u8)) (.c (sBx 35 (cI (cH (cH (cH (cH .n)))))) .n))
abbrev Utr (n:Nat) (K:Kc R):UrY.T (O R):=fun x1 x2 x3 x4 x5 x6=>Urg n x1 x2 x3 x4 x5 x6 (fun y1=>xC Ugj 3 K .ret [vB y1])
noncomputable def Uos:Code:=Jj3 (Jlk Tryz.f7) [1,1,1,1,1,1,1,1,1,1,1]
abbrev UmL:Sl (List SV):=(cB (cI (cS (cI (cS (cI .n))))))
abbrev UoR (n:Nat) (K:Kc R):UmL.T (O R):=fun x1 x2 x3 x4 x5 x6=>Umq n x1 x2 x3 x4 x5 x6 (fun y1=>xC Ugj 24 K .ret [vB y1])
noncomputable def UsM:Code:=Jj3 (Jlk Tryz.f7) [1,1,1,0,1,0,0]
abbrev Ujm:Sl (List SV):=(.c (sBx 35 (cI (cH (cH (cH (cH .n)))))) (cS (cI .n)))
abbrev UqS (n m:Nat) (K:Kc R):Ujm.T (O R):=fun x1 x2 x3 x4 x5 x6 x7=>Uf6 n m x1 x2 x3 x4 x5 x6 x7 (fun y1 y2 y3 y4 y5 y6=>xL Ugj 5 K (.exit 0) [.bx 35 [vI y1,vH y2,vH y3,vH y4,vH y5],dD,vS y6])
abbrev UvN (n:Nat) (K:Kc R) (l0:Ujm.T (O R)):Ujm.T (O R):=fun x1 x2 x3 x4 x5 x6 x7=>Ums n l0 x1 x2 x3 x4 x5 x6 x7 (fun y1 y2 y3 y4 y5 y6=>xL Ugj 5 K (.exit 0) [.bx 35 [vI y1,vH y2,vH y3,vH y4,vH y5],dD,vS y6])
noncomputable def Uot:Code:=Jj3 (Jlk Tryz.f7) [1,1,1,1,1,0,1,0,0]
abbrev Uek:Sl (List SV):=(.c (sBx 35 (cI (cH (cH (cH (cH .n)))))) (cS (cO 9 (cH (cI (cI .n))))))
abbrev UlR (n m:Nat) (K:Kc R):Uek.T (O R):=fun x1 x2 x3 x4 x5 x6 x7 x8 x9 x10=>UcF n m x1 x2 x3 x4 x5 x6 x7 x8 x9 x10 (fun y1 y2 y3 y4 y5 y6 y7=>xL Ugj 10 K .ret [.bx 35 [vI y1,vH y2,vH y3,vH y4,vH y5],vB y6,.own 9 y7]) (fun y1 y2 y3 y4 y5 y6=>xL Ugj 10 K (.exit 2) [.bx 35 [vI y1,vH y2,vH y3,vH y4,vH y5],dD,.own 9 y6])
abbrev UsG (n:Nat) (K:Kc R) (l0:Uek.T (O R)):Uek.T (O R):=fun x1 x2 x3 x4 x5 x6 x7 x8 x9 x10=>Ufo n l0 x1 x2 x3 x4 x5 x6 x7 x8 x9 x10 (fun y1 y2 y3 y4 y5 y6 y7=>xL Ugj 10 K .ret [.bx 35 [vI y1,vH y2,vH y3,vH y4,vH y5],vB y6,.own 9 y7]) (fun y1 y2 y3 y4 y5 y6=>xL Ugj 10 K (.exit 2) [.bx 35 [vI y1,vH y2,vH y3,vH y4,vH y5],dD,.own 9 y6])
abbrev lo7 (n:Nat):Orc R:=oL Ugj (E7 n) n 10 Uot Uek (UlR n n) (oL Ugj (E7 n) n 5 UsM Ujm (UqS n n) oN)
abbrev cu7 (n:Nat):Orc R:=oC Ugj (E7 n) 24 Uos UmL (UoR n) (oC Ugj (E7 n) 3 UsL UrY (Utr n) oN)
abbrev K7 (R:Type) (n:Nat):=JcH (R:=R) Tryz.prog (Uv3 n) Ugj n (146,[]) (lo7 n) (cu7 n)
theorem Uxr (n:Nat):K7 R n (false,5,UsM):=JkE (lo:=lo7 n) (cu:=cu7 n) (pO pN (by kernel_rfl)) Ujm (UqS n n) (JiD (F:=UqS n) Ujm (UvN n) (fun K _ _ _ _ _ _ _=>rfl) (fun _ _=>rfl) (fun L K _ _ _ _ _ _ _=>by show _=_; kernel_rfl) n) fun _ _=>rfl
theorem UuW (n:Nat):K7 R n (false,10,Uot):=JkE (lo:=lo7 n) (cu:=cu7 n) (pO pN (by kernel_rfl)) Uek (UlR n n) (JiD (F:=UlR n) Uek (UsG n) (fun K _ _ _ _ _ _ _ _ _ _=>rfl) (fun _ _=>rfl) (fun L K _ _ _ _ _ _ _ _ _ _=>by show _=_; kernel_rfl) n) fun _ _=>rfl
theorem UuV (n:Nat):K7 R n (true,24,Uos):=JkV (lo:=lo7 n) (cu:=cu7 n) (pO pN (by kernel_rfl)) UmL (UoR n) (fun K _ _ _ _ _ _=>by show _=_; kernel_rfl) fun _ _=>rfl
theorem Uxq (n:Nat):K7 R n (true,3,UsL):=JkV (lo:=lo7 n) (cu:=cu7 n) (pO (pC (Uxr n) (pC (UuW n) (pC (UuV n) pN))) (by kernel_rfl)) UrY (Utr n) (fun K _ _ _ _ _ _=>by show _=_; kernel_rfl) fun _ _=>rfl
theorem pa7 (n:Nat):Je6 (K7 R n) (JaJ Ugj (Jlk Tryz.f7)):=pO (pC (Uxq n) pN) (by kernel_rfl)
abbrev t7:Sl (List SV):=(.c (sP (JlH (.c (Jlu .i64) (.c sSh (.c sSh (.c sSh (.c sSh .n))))))) (.c (sP (Jlu .u8)) .n))
abbrev f7 (n:Nat) (K:List SV→O R):t7.T (O R):=fun x1 x2 x3 x4 x5 x6=>p7 n x1 x2 x3 x4 x5 x6 (fun y1=>K [vB y1])
abbrev fs7 (n:Nat):FS:=fT [false,false] t7 (f7 n)
theorem ok7 (n:Nat):FSound Tryz.prog GI 7 (fs7 n):=gd Ugj n (UoI n) Tryz.func7 (.cons (UoI n) t7 (f7 n) (fun K _ _ _ _ _ _=>(Jkp (c:=Jlk Tryz.f7) (by kernel_rfl) (pa7 n) K).trans (by kernel_rfl)) .nil) (by kernel_rfl)
end
end Go.Proofs.YtmgfmlhdnadglaaGreatDoor
set_option linter.unusedVariables false
set_option linter.unusedSimpArgs false
namespace Go.Proofs.YtmgfmlhdnadglaaGreatDoor
open Go Th Go.Proofs
variable {R:Type}
theorem Ukf:∀ d:Fin 10,Utf8.encode ((48 + d.val:Nat):Int)=bs [ch d.val]:=by decide +kernel
def dgs (a:Nat):List UInt8:=if a=0 then [] else dec a
theorem Unl {a:Nat} (h:a≠0):dgs a=dgs (a / 10)++[ch (a % 10)]:=by
 unfold dgs
 rw [if_neg h]
 by_cases h1:a<10
 · rw [if_pos (by omega),Uaz h1,Nat.mod_eq_of_lt h1]; rfl
 · rw [if_neg (by omega),UeC (by omega)]
theorem Ukc (n:Nat) (x1:Int) (x2 x3 x4 x5:List PV) (K:Int→List PV→List PV→List PV→List PV→ByteArray→Option R):∀ (m a j:Nat) (s:List UInt8),a<10 ^ j→j<m→a<1000→s.length + j<1000 →
 Uf6 n m x1 x2 x3 x4 x5 (bs s) (a:Int) K=K x1 x2 x3 x4 x5 (bs (dgs a++s))
 | 0,a,j,s,_,h,_,_=>by omega
 | m + 1,a,j,s,h1,h2,h3,h4=>by
  simp only [Uf6,Ums]
  by_cases h0:a=0
  · subst h0
    simp (disch:=(first | omega | (simp only [JlD]; omega))) only [↓JlG,JlE]
    rfl
  · obtain ⟨j,rfl⟩:∃ k,j=k + 1:=by
     cases j with
     | zero=>simp at h1; omega
     | succ k=>exact ⟨k,rfl⟩
    have e1:Int.tmod (a:Int) 10=((a % 10:Nat):Int):=by rw [Int.tmod_eq_emod_of_nonneg (by omega)]; omega
    have e2:Int.tdiv (a:Int) 10=((a / 10:Nat):Int):=by rw [Int.tdiv_eq_ediv_of_nonneg (by omega)]; omega
    have e3:IntKind.i64.wrap (48 + ((a % 10:Nat):Int))=((48 + a % 10:Nat):Int):=by rw [w64 (by omega) (by omega)]; omega
    have e4:IntKind.i32.wrap ((48 + a % 10:Nat):Int)=((48 + a % 10:Nat):Int):=IntWalk.i32_in _ (by omega)
    have e5:=Ukf ⟨a % 10,by omega⟩
    dsimp only at e5
    have e6:IntKind.i64.wrap ((a / 10:Nat):Int)=((a / 10:Nat):Int):=w64 (by omega) (by omega)
    have ih:=Ukc n x1 x2 x3 x4 x5 K m (a / 10) j ([ch (a % 10)]++s) (by rw [Nat.pow_succ] at h1; omega) (by omega) (by omega) (by simp; omega)
    rw [Unl h0,List.append_assoc,←ih]
    have hg:(a:Int)>0:=by omega
    have h10:¬ (10:Nat)=0:=by decide
    have hc:([ch (a % 10)]:List UInt8).length + s.length<9223372036854775808:=by simp; omega
    rw [Jke hg,c_neg h10,e1]
    rw [e3,e4,e5,Jh hc,c_neg h10,e2,e6]
theorem Unk {a:Nat} (h:a≠0):dgs a=Lib.itoa (a:Int):=by unfold dgs; rw [if_neg h,UbZ]
theorem UiI:¬ isQ []:=fun ⟨z,_,e⟩=>UmB z e.symm
theorem Upw (n:Nat) (hn:10 ^ 400≤n) (s:List UInt8) (hs:s.length<2 ^ 17):∃ a b,∀ k0:ByteArray→Int→Option R,p22 n (bs s) (bs []) k0=k0 a b:=by
 have hN:=Ua6 hn
 obtain ⟨a,b,b1⟩:=UbR (R:=R) n (by omega) s [] (by omega) (by decide) (fun q=>UiI (UdM q.2))
 have t:=fun k0=>(Ur0 (R:=R) n hn s [] hs (by decide) (fun q=>UiI q.2) k0).2.1
 exact ⟨bs [],3,fun k0=>by simp only [p22,b1,Uak,t]⟩
noncomputable def mvL (w ray:List (List UInt8)) (B:Rat):List (List UInt8):=(w.zip ray).map fun x=>Uaf (rq x.1 + rq x.2 * B)
theorem Ujg (n:Nat) (hn:10 ^ 1000≤n) {w ray:List (List UInt8)} (hw:Udq w=true) (hr:Udq ray=true) (hl:w.length=ray.length) (hs:smS w) {B:Rat} (hB:fits B) (x1:Int) (x2 x3:List PV) (k0:Int→List PV→List PV→List PV→List PV→Bool→List PV→Option R) (k1:Int→List PV→List PV→List PV→List PV→List PV→Option R) (r:Option R)
 (hA:∀ k:Bool→Option R,p11 n k=k true) (hk:∀ x,k0 x1 x2 x3 (sl w) (sl ray) true x=r) (hend:(∀ x∈w.zip ray,fits (rq x.1 + rq x.2 * B))→k1 x1 x2 x3 (sl w) (sl ray) (sl (mvL w ray B))=r) :
 Umr n x1 x2 x3 (sl w) (sl ray) (bs (Uaf B)) [] (sl w) ((sl w).length:Int) 0 k0 k1=r:=by
 have hN:=Ua6 (Uc2 hn)
 have hL:=hs.1
 have hz:(w.zip ray).length=w.length:=by rw [List.length_zip]; omega
 unfold Umr
 refine Ucg (R:=R) (N:=w.length) (Inv:=fun i (acc:List (List UInt8))=>acc=((w.zip ray).take i).map (fun x=>Uaf (rq x.1 + rq x.2 * B))∧∀ x∈(w.zip ray).take i,fits (rq x.1 + rq x.2 * B))
  (fun m acc i=>UcF n m x1 x2 x3 (sl w) (sl ray) (bs (Uaf B)) (sl acc) (sl w) ((sl w).length:Int) (i:Int) k0 k1) (fun m acc ha=>?_) (fun m acc i hi ha=>?_) w.length n 0 [] (by omega) (by omega) ⟨rfl,fun x hx=>by cases hx⟩
 · obtain ⟨h1,h2⟩:=ha
   rw [←hz,List.take_length] at h1 h2
   have:=hend h2
   simp only [UcF,Ufo]
   simp (disch:=(first | omega | (simp only [JlD]; omega))) only [↓JlG,JlE,Uag]
   rw [h1]
   exact this
 · obtain ⟨h1,h2⟩:=ha
   have hi2:i<ray.length:=by omega
   have q1:=Upl (List.all_eq_true.1 hw _ (List.getElem_mem hi))
   have q2:=Upl (List.all_eq_true.1 hr _ (List.getElem_mem hi2))
   have hal:acc.length≤i:=by rw [h1,List.length_map,List.length_take]; omega
   have g1:∀ k,p21 n (bs ray[i]) (bs (Uaf B)) k=Ugl (rq ray[i] * B) k:=fun k=>by
    have:=Un2 (R:=R) n hn (rq ray[i]) B q2.1 hB k
    rw [←q2.2] at this
    exact this
   have hi3:i<(w.zip ray).length:=by omega
   have ez:(w.zip ray)[i]=(w[i],ray[i]):=List.getElem_zip
   simp only [UcF,Ufo]
   by_cases f1:fits (rq ray[i] * B)
   · have g1':∀ k,p21 n (bs ray[i]) (bs (Uaf B)) k=k (bs (Uaf (rq ray[i] * B))) 0:=fun k=>by rw [g1,Udn f1]
     have g2:∀ k,p22 n (bs w[i]) (bs (Uaf (rq ray[i] * B))) k=Ugl (rq w[i] + rq ray[i] * B) k:=fun k=>by
      have:=Un1 (R:=R) n hn (rq w[i]) (rq ray[i] * B) q1.1 f1 k
      rw [←q1.2] at this
      exact this
     by_cases f2:fits (rq w[i] + rq ray[i] * B)
     · have g2':∀ k,p22 n (bs w[i]) (bs (Uaf (rq ray[i] * B))) k=k (bs (Uaf (rq w[i] + rq ray[i] * B))) 0:=fun k=>by rw [g2,Udn f2]
       have ea:sl acc++[.v (.string (bs (Uaf (rq w[i] + rq ray[i] * B))))]=sl (acc++[Uaf (rq w[i] + rq ray[i] * B)]):=by unfold sl; rw [List.map_append]; rfl
       refine .inr ⟨acc++[Uaf (rq w[i] + rq ray[i] * B)],⟨?_,fun x hx=>?_⟩,?_⟩
       · rw [h1,List.take_succ_eq_append_getElem hi3,List.map_append,ez]; rfl
       · rw [List.take_succ_eq_append_getElem hi3] at hx
         rcases List.mem_append.1 hx with hx | hx
         · exact h2 x hx
         · rw [List.mem_singleton.1 hx,ez]; exact f2
       · simp (disch:=(first | omega | (simp only [JlD]; omega))) only [↓JlG,JlE,Uag,Jjh,Ua1 hi,Ua1 hi2,g1',g2',Ujh,ea,i1]
     · have g2':∀ k,p22 n (bs w[i]) (bs (Uaf (rq ray[i] * B))) k=k (bs []) 5:=fun k=>by rw [g2]; unfold Ugl; rw [if_neg f2]
       left
       simp (disch:=(first | omega | (simp only [JlD]; omega))) only [↓JlG,JlE,Uag,Jjh,Ua1 hi,Ua1 hi2,g1',g2',Ujh,Usb,hA,hk]
   · have g1':∀ k,p21 n (bs ray[i]) (bs (Uaf B)) k=k (bs []) 5:=fun k=>by rw [g1]; unfold Ugl; rw [if_neg f1]
     obtain ⟨a,b,g2⟩:=Upw (R:=R) n (Uc2 hn) w[i] (hs.2 _ (List.getElem_mem hi))
     left
     simp (disch:=(first | omega | (simp only [JlD]; omega))) only [↓JlG,JlE,Uag,Jjh,Ua1 hi,Ua1 hi2,g1',g2,Usb,hA,hk]
theorem Uub {w ray:List (List UInt8)} {B:Rat} (h:∀ x∈w.zip ray,fits (rq x.1 + rq x.2 * B)):Udq (mvL w ray B)=true:=by
 refine List.all_eq_true.2 fun s hs=>?_
 obtain ⟨x,hx,rfl⟩:=List.mem_map.1 hs
 exact Ud (h x hx)
theorem Uo2 {w ray:List (List UInt8)} {B:Rat} (hl:w.length=ray.length):(mvL w ray B).length=w.length:=by unfold mvL; rw [List.length_map,List.length_zip]; omega
theorem Uwt {w ray:List (List UInt8)} {B:Rat} (hl:w.length=ray.length) (hs:smS w) (h:∀ x∈w.zip ray,fits (rq x.1 + rq x.2 * B)):smS (mvL w ray B):=by
 refine ⟨by rw [Uo2 hl]; exact hs.1,fun s hs'=>?_⟩
 obtain ⟨x,hx,rfl⟩:=List.mem_map.1 hs'
 exact Ug7 (h x hx)
theorem Uwu {w ray:List (List UInt8)} {B:Rat} (h:∀ x∈w.zip ray,fits (rq x.1 + rq x.2 * B)):vq (mvL w ray B)=((vq w).zip (vq ray)).map fun x=>x.1 + x.2 * B:=by
 unfold vq mvL
 rw [List.map_map,List.zip_map,List.map_map]
 refine List.map_congr_left fun x hx=>?_
 exact Ug6 (h x hx)
theorem Uga {v:List Rat}:∀ {rows:List RowT} {b:Bool},Ujq v b rows=some true→b=true∧∀ r∈rows,∃ x,Uao (evS v) 0 (spL r.tm)=some x∧Upk r x=true
 | [],b,h=>by simp only [Ujq,Option.some.injEq] at h; exact ⟨h,fun r hr=>by cases hr⟩
 | r::rs,b,h=>by
  rw [Ujq] at h
  cases hx:Uao (evS v) 0 (spL r.tm) with
  | none=>rw [hx] at h; cases h
  | some x =>
   rw [hx] at h
   dsimp only at h
   obtain ⟨h1,h2⟩:=Uga h
   rw [Bool.and_eq_true] at h1
   refine ⟨h1.1,fun q hq=>?_⟩
   rcases List.mem_cons.1 hq with rfl | hq
   · exact ⟨x,hx,h1.2⟩
   · exact h2 q hq
theorem UnT {r:RowT} {x:Rat} (h:Upk r x=true):0≤x∧(r.eq=true→x=0):=by
 unfold Upk at h
 rw [Bool.or_eq_true,Bool.and_eq_true,decide_eq_true_iff,decide_eq_true_iff,Bool.not_eq_true'] at h
 rcases h with h | ⟨h,e⟩
 · have:=Uj9 h
   rw [this]
   exact ⟨Rat.le_refl,fun _=>rfl⟩
 · have:=Uj8.1 h
   exact ⟨Rat.le_of_lt this,fun q=>by rw [q] at e; cases e⟩
theorem UmZ {v:List Rat}:∀ {rows:List RowT},(∀ r∈rows,∀ z,Um3 v r=some z→Um2 r z=false)→Ujo v rows=none∨Ujo v rows=some true
 | [],_=>.inr rfl
 | r::rs,h=>by
  rw [Ujo]
  cases hx:Um3 v r with
  | none=>exact .inl rfl
  | some x =>
   dsimp only
   rw [h r (List.mem_cons_self ..) x hx,if_neg (by decide)]
   exact UmZ fun q hq=>h q (List.mem_cons_of_mem _ hq)
structure Ray (cols:Int) (rows:List RowT) (cost:List TermT) (w ray:List (List UInt8)) (yr:Rat):Prop where
 hc:UdS cols cost=true
 sw:okSV cols rows w
 sr:okSV cols rows ray
 hh:hM rows w=some true
 pos:∀ x∈vq ray,0≤x
 row:∀ r∈rows,∃ x,Uao (evS (vq ray)) 0 (spL r.tm)=some x∧Upk r x=true
 hy:Uao (evS (vq ray)) 0 (spL cost)=some yr
 neg:yr<0
theorem Uu3 {cols:Int} {rows:List RowT} {cost:List TermT} {w ray:List (List UInt8)} (hw:smS w) (hm:smS ray) (h:UrP cols rows cost w ray=0):Ugm cols rows=0∧∃ yr,Ray cols rows cost w ray yr:=by
 unfold UrP at h
 by_cases h1:Ugm cols rows=0
 · rw [if_neg (by simp [h1])] at h
   refine ⟨h1,?_⟩
   cases h2:UdS cols cost with
   | false=>rw [h2,if_pos rfl] at h; cases h
   | true =>
    rw [h2,if_neg (by decide)] at h
    cases h3:Udq w with
    | false=>rw [h3,if_pos rfl] at h; cases h
    | true =>
     rw [h3,if_neg (by decide)] at h
     cases h4:Udq ray with
     | false=>rw [h4,if_pos rfl] at h; cases h
     | true =>
      rw [h4,if_neg (by decide)] at h
      by_cases h5:(w.length:Int)=cols
      · rw [if_neg (by simp [h5])] at h
        by_cases h6:(ray.length:Int)=cols
        · rw [if_neg (by simp [h6])] at h
          cases h7:hM rows w with
          | none=>rw [h7] at h; cases h
          | some b =>
           cases b with
           | false=>rw [h7] at h; cases h
           | true =>
            rw [h7] at h
            dsimp only at h
            unfold Uu4 at h
            cases hx:Ujq (vq ray) (ray.all fun s=>geB (rq s)) rows with
            | none=>rw [hx] at h; cases h
            | some b =>
             rw [hx] at h
             dsimp only at h
             cases hy:Uao (evS (vq ray)) 0 (spL cost) with
             | none=>rw [hy] at h; cases h
             | some yr =>
              rw [hy] at h
              dsimp only at h
              cases hb:(b&&decide (UbS yr 0<0)) with
              | false=>rw [hb] at h; cases h
              | true =>
               rw [Bool.and_eq_true,decide_eq_true_iff] at hb
               rw [hb.1] at hx
               obtain ⟨r1,r2⟩:=Uga hx
               refine ⟨yr,h2,UeQ hw (Udv h1 h5 h3),UeQ hm (Udv h1 h6 h4),h7,fun x hx=>?_,r2,hy,Uey.1 hb.2⟩
               obtain ⟨s,hs,rfl⟩:=List.mem_map.1 hx
               have:=List.all_eq_true.1 r1 s hs
               unfold geB at this
               exact of_decide_eq_true this
        · rw [if_pos h6] at h; cases h
      · rw [if_pos h5] at h; cases h
 · rw [if_pos h1] at h; cases h
theorem Umw {cols:Int} {rows:List RowT} {cost:List TermT} {w ray:List (List UInt8)} {yr:Rat} (h:Ray cols rows cost w ray yr) {B:Rat} (hB:0<B) (hf:∀ x∈w.zip ray,fits (rq x.1 + rq x.2 * B)) :
 okSV cols rows (mvL w ray B)∧(hM rows (mvL w ray B)=none∨hM rows (mvL w ray B)=some true)∧∀ y z,Uao (evS (vq w)) 0 (spL cost)=some y→Uao (evS (vq (mvL w ray B))) 0 (spL cost)=some z→z<y:=by
 have hl:w.length=ray.length:=by have:=h.sw.len; have:=h.sr.len; omega
 have sm:=Uwt hl h.sw.sm hf
 have sv:okSV cols rows (mvL w ray B):=⟨h.sw.hc,h.sw.few,h.sw.hr,Uub hf,by rw [Uo2 hl]; exact h.sw.len,sm⟩
 obtain ⟨p1,p2⟩:=Uq0 h.hh
 have ev:=Uwu hf
 have hlv:(vq w).length=(vq ray).length:=by rw [Uc0,Uc0]; exact hl
 have hm:=fun f=>UfW f B (vq w) (vq ray) 0 hlv
 have hlm:((mvL w ray B).length:Int)=cols:=sv.len
 refine ⟨sv,?_,fun y z hy hz=>?_⟩
 · have hneg:((mvL w ray B).any fun s=>ltB (rq s))=false:=by
    rw [List.any_eq_false]
    intro s hs
    unfold ltB
    rw [decide_eq_true_iff]
    refine Rat.not_lt.2 ?_
    have hx:rq s∈vq (mvL w ray B):=List.mem_map.2 ⟨s,hs,rfl⟩
    rw [ev] at hx
    obtain ⟨q,hq,e⟩:=List.mem_map.1 hx
    have hq':=List.of_mem_zip hq
    rw [←e]
    have a1:=p1 _ hq'.1
    have a2:=Rat.mul_nonneg (h.pos _ hq'.2) (Rat.le_of_lt hB)
    grind
   unfold hM
   rw [hneg,if_neg (by decide)]
   refine UmZ fun r hr z hz=>?_
   have hrow:=h.sw.hr r hr
   obtain ⟨v,v1,v2⟩:=Ui6 p2 r hr
   obtain ⟨x,x1,x2⟩:=h.row r hr
   have e1:=Umz hrow (v:=vq w) (by rw [Uc0]; have:=h.sw.len; omega) v1
   have e2:=Umz hrow (v:=vq (mvL w ray B)) (by rw [Uc0]; omega) hz
   have hrow':=hrow
   unfold okR at hrow'
   rw [Bool.and_eq_true] at hrow'
   obtain ⟨o1,o2,o3⟩:=Uf1 hrow
   have e3:x=UbU (cf (spR r).1) 0 (vq ray):=by
    rw [Uif _ x1,Rat.zero_add]
    exact UhV (vq ray) (l:=spL r.tm) o1.1.1 fun t ht=>by
     have:=(o1.1.2 t ht).2.2
     have:=h.sr.len
     rw [Uc0]; omega
   rw [ev,hm] at e2
   obtain ⟨g1,g2⟩:=Unt v2
   obtain ⟨k1,k2⟩:=UnT x2
   have a2:=Rat.mul_nonneg k1 (Rat.le_of_lt hB)
   have e4:z=v + x * B:=by rw [e2,e1,e3,Rat.add_assoc]
   unfold Um2
   rw [decide_eq_false_iff_not]
   rintro (q | ⟨q,e⟩)
   · rw [e4] at q
     have:0≤v + x * B:=by grind
     exact absurd q (Rat.not_lt.2 this)
   · rw [e4,g2 e,k2 e,Rat.zero_mul,Rat.add_zero] at q
     exact absurd q (by decide)
 · have e1:=UeB h.sw.hc.2 h.hc (v:=vq w) (by rw [Uc0]; have:=h.sw.len; omega) hy
   have e2:=UeB h.sw.hc.2 h.hc (v:=vq (mvL w ray B)) (by rw [Uc0]; omega) hz
   have e3:=UeB h.sw.hc.2 h.hc (v:=vq ray) (by rw [Uc0]; have:=h.sr.len; omega) h.hy
   rw [ev,hm,←e1,←e3] at e2
   have a1:yr * B<0:=by
    have:=Rat.mul_lt_mul_of_pos_right h.neg hB
    rwa [Rat.zero_mul] at this
   rw [e2]
   grind
theorem UdL (n:Nat) (hn:10 ^ 1000≤n) (hnm:9223372036854775807<n) (cols:Int) (rows:List RowT) (cost:List TermT) (hcl:cost.length≤9223372036854775807) (w ray:List (List UInt8)) (by_:Int) (hb0:0≤by_) (hb1:by_≤255) (k:Bool→Option R) :
 p7 n cols (rws rows) (tms cost) (sl w) (sl ray) by_ k=k true:=by
 have hN:=Ua6 (Uc2 hn)
 have hA:=fun k=>Urd (R:=R) n (Nat.le_trans (by decide) hN) k
 have h1:=fun k=>UqV (R:=R) n hN hnm cols rows cost hcl w ray k
 unfold p7
 rw [h1]
 cases h3:Utu rows cost w ray with
 | false=>simp only [Uq9,Uam,hA]
 | true =>
  obtain ⟨s1,s2,s3,s4⟩:=UqW h3
  by_cases h4:by_=0
  · have e4:(by_ == 0)=true:=by rw [h4]; rfl
    simp only [Usc,Uak,e4,Uam,hA]
  · have e4:(by_ == 0)=false:=beq_eq_false_iff_ne.2 h4
    obtain ⟨B,rfl⟩:∃ B:Nat,by_=(B:Int):=⟨by_.toNat,by omega⟩
    have hB0:B≠0:=by omega
    have g1:=fun k=>Uu5 (R:=R) n hn cols rows cost w ray s1 s2 s3 s4 k
    simp only [Usc,Uak,e4,g1]
    by_cases h5:UrP cols rows cost w ray=0
    · have e5:(UrP cols rows cost w ray != 0)=false:=by rw [h5]; rfl
      obtain ⟨hs,yr,H⟩:=Uu3 s3 s4 h5
      have hl:w.length=ray.length:=by have:=H.sw.len; have:=H.sr.len; omega
      have e6:IntKind.i64.wrap (B:Int)=(B:Int):=w64 (by omega) (by omega)
      have hfB:fits ((B:Int):Rat):=UbW (Nat.lt_trans (by omega:(B:Int).natAbs<10 ^ 9) Ul0)
      have hpB:(0:Rat)<((B:Int):Rat):=by
       have:(0:Int)<(B:Int):=by omega
       exact Rat.intCast_pos.2 this
      have e7:bs (dgs B++[])=bs (Uaf ((B:Int):Rat)):=by rw [List.append_nil,Unk hB0,Ual]
      have eb:(⟨#[]⟩:ByteArray)=bs []:=rfl
      simp only [e5,Uak,Urg,e6,eb]
      unfold Uur
      rw [Ukc n cols (rws rows) (tms cost) (sl w) (sl ray) _ n B 3 [] (by omega) (by omega) (by omega) (by simp),e7]
      refine Ujg n hn H.sw.hw H.sr.hw hl s3 hfB cols (rws rows) (tms cost) _ _ (k true) hA (fun x=>rfl) (fun hf=>?_)
      obtain ⟨m1,m2,m3⟩:=Umw H hpB hf
      have ha:Uj cols rows (mvL w ray ((B:Int):Rat))=0:=Udv hs m1.len m1.hw
      have g2:=fun k=>Uiz (R:=R) n hn cols rows (mvL w ray ((B:Int):Rat)) s1 m1.sm k
      have g3:∀ k:ByteArray→Int→Option R,p18 n (tms cost) (⟨#[48]⟩:ByteArray) (sl w) k=evK k (Uao (evS (vq w)) 0 (spL cost)):=fun k=>UeA n hn H.sw.hc.2 H.hc s2 H.sw.hw H.sw.len s3 k
      have g4:∀ k:ByteArray→Int→Option R,p18 n (tms cost) (⟨#[48]⟩:ByteArray) (sl (mvL w ray ((B:Int):Rat))) k=evK k (Uao (evS (vq (mvL w ray ((B:Int):Rat)))) 0 (spL cost)):=fun k=>UeA n hn H.sw.hc.2 H.hc s2 m1.hw m1.len m1.sm k
      have hAd:∀ rows w k,Uj cols rows w=0→(UlX cols rows w k:Option R)=UmY k (hM rows w):=fun rows w k h=>by unfold UlX; rw [if_neg (by simp [h])]
      simp only [g2,hAd _ _ _ ha,g3,g4]
      have t55:((5:Int) == 5)=true:=rfl
      have t05:((0:Int) == 5)=false:=rfl
      have t00:((0:Int) == 0)=true:=rfl
      cases hy:Uao (evS (vq w)) 0 (spL cost) with
      | none =>
       rcases m2 with q | q
       · rw [q]
         cases Uao (evS (vq (mvL w ray ((B:Int):Rat)))) 0 (spL cost) <;> simp only [UmY,evK,t55,t05,Uam,Uak,hA]
       · rw [q]
         cases Uao (evS (vq (mvL w ray ((B:Int):Rat)))) 0 (spL cost) <;> simp only [UmY,evK,t55,t05,Uam,Uak,hA]
      | some y =>
       cases hz:Uao (evS (vq (mvL w ray ((B:Int):Rat)))) 0 (spL cost) with
       | none =>
        rcases m2 with q | q
        · rw [q]; simp only [UmY,evK,t55,t05,Uam,Uak,hA]
        · rw [q]; simp only [UmY,evK,t55,t05,Uam,Uak,hA]
       | some z =>
        rcases m2 with q | q
        · rw [q]; simp only [UmY,evK,t55,t05,Uam,Uak,hA]
        · have fy:fits y:=UdA _ UeP hy
          have fz:fits z:=UdA _ UeP hz
          have g5:=fun k=>Ujr (R:=R) n hn z y fz fy k
          have hlt:UbS z y=-1:=Uez (m3 y z hy hz)
          rw [q]
          simp only [UmY,evK,t55,t05,t00,Uam,Uak,Umq,g5,hlt,show decide ((-1:Int)<0)=true from rfl,hA]
    · have e5:(UrP cols rows cost w ray != 0)=true:=by simp [h5]
      simp only [e5,Uam,Uak,hA]
theorem UdC {H:Type} {enc:TypeId × Value→H} {spare:Nat→Bool} {held:Bool} (W:World) (h:Tab W) {c0:Array Value} {d0:DataW H} {q0:List MemPlace}
 (h0:DataW.Trod enc Tryz.prog W 0 spare held 35 (.agg c0) d0 q0) (hlt:∀ x∈q0,x.block<W.heap.size) (by_:Int) (wf:(Lit.int .u8 by_).wf=true) :
 Calls Tryz.prog 7 #[.agg c0,.int .u8 by_] W fun e w'=>e=.returned (.bool true)∧RowKit.Below W.heap.size W w':=by
 obtain ⟨cols,rows,cost,w,mult,hcl,r0⟩:=Um4 (F:=Fp q0) h0 (Uv4 fun x hx=>hx)
 obtain ⟨n,hn⟩:∃ n:Nat,10 ^ 1000≤n:=⟨_,Nat.le_refl _⟩
 simp only [Lit.wf,Bool.and_eq_true,decide_eq_true_iff] at wf
 have b1:IntKind.u8.min=0:=rfl
 have b2:IntKind.u8.max=255:=rfl
 rw [b1,b2] at wf
 refine Unu (ok7 n) (args:=[.agg [.v (.int .i64 cols),.sh (rws rows),.sh (tms cost),.sh (sl w),.sh (sl mult)],.v (.int .u8 by_)]) h q0 hlt (.cons (B:=[]) (.p r0) (.cons (B:=[]) (.p (.v _)) .nil)) ?_
 show p7 n cols (rws rows) (tms cost) (sl w) (sl mult) by_ _=_
 rw [UdL n hn (Nat.lt_of_lt_of_le (by decide +kernel) hn) cols rows cost hcl w mult by_ wf.1 wf.2]; rfl
end Go.Proofs.YtmgfmlhdnadglaaGreatDoor
namespace Go.Proofs.YtmgfmlhdnadglaaGreatDoor.certifyGoes
open Go.ChangeShapes Go.WideShapes Go.ChangeAt Go.RowKit
open Go.ChangeMaps (open_string shut_string)
theorem own:ownKnob Tryz.prog.godebug=none:=by kernel_rfl
theorem laidOut:laidOutB Tryz.prog=true:=by kernel_rfl
set_option maxRecDepth 100000 in
theorem lifted (os:Os) (started:os.Started) (H:Type) (enc:TypeId × Value→H) :
 ReturnsInHanded {} Tryz.checked os 7 .any (fun w args=>(Rows.certifyGoesSpec.pre enc Tryz.prog Tryz.f7 Rows.certifyGoesRow.domain false w args∧laidMetH Tryz.prog Ub0 w)∧sizedMet enc Tryz.prog Tryz.f7 (OpenSpec.ofChange Rows.certifyGoesSpec) false w args)
  (Rows.certifyGoesSpec.post enc Tryz.prog Tryz.f7 false true false false):=by
 refine returnsInHanded_of_change_and (C:=Tryz.checked) (X:=fun w _=>laidMetH Tryz.prog Ub0 w) (fun _ _ _ hh h=>h.of_heap hh) own started (by kernel_rfl) Tryz.func7
  (ChangeSpec.witness_shaped (enc:=enc) (C:=Tryz.checked) (os:=os) (X:=fun w _=>laidMetH Tryz.prog Ub0 w) false (World.laidAll Tryz.prog os Ub0) #[.agg #[.int .i64 0,.slice none 0 0,.slice none 0 0,.slice none 0 0,.slice none 0 0],.int .u8 0] 8 (World.laidAll_os _ _ _)
    (World.shaped_of_ZipB (by kernel_rfl) (by kernel_rfl)) (by kernel_rfl) (by kernel_rfl) (by kernel_rfl)
    (by rw [MakeChecks.laidMetH_plain _ _ _ (by kernel_rfl)]; exact laidMet_laidAll _ (by kernel_rfl) (by kernel_rfl))) ?_
 intro W base args ds gs before hval0 hW hcnd hsz0 hL _
 have hval:∀ (j:Nat) t v,Tryz.f7.params[j]? = some t→args[j]? = some v→Value.okWide Tryz.prog W .any base t v:=hval0
 have hW':=hW
 obtain ⟨p,q,hA0,hV,rfl,hfz,hnd⟩:=hW
 have hA:DataW.TrodAll enc Tryz.prog W 0 (fun _=>true) true Tryz.f7.params.toList args.toList ds p:=hA0
 rw [Tryz.params7] at hA hval
 obtain ⟨v0,vs0,d0,ds0,p0,q0,hargs,rfl,rfl,h0,r0⟩:=trodAll_cons hA
 obtain ⟨v1,vs1,d1,ds1,p1,q1,rfl,rfl,rfl,h1,r1⟩:=trodAll_cons r0
 obtain ⟨rfl,rfl,rfl⟩:=trodAll_nil r1
 obtain rfl:args=#[v0,v1]:=by cases args; simp_all
 obtain ⟨rfl,rfl⟩:=trodVars_none hV
 obtain ⟨cs0,rfl,_⟩:=okWide_struct Tryz.underlying35 (hval 0 35 v0 rfl rfl)
 have h0k:=h0
 obtain ⟨a1,rfl,rfl,rfl,w1⟩:=open_int Tryz.underlying5 (hval 1 5 v1 rfl rfl) h1
 have hlt:∀ x∈p0,x.block<W.heap.size:=fun x hx=>by simpa using hW'.lt x (by simpa using hx)
 have hcall:=UdC W (UnW hL) h0 hlt a1 w1
 clear hA0 hval0 hsz0
 refine hcall.mono fun e W' ⟨he,bel⟩=>?_
 subst he
 exact ⟨_,rfl,_,_,_,[],_,[],hW',trodAll_mk1 (shut_bool Tryz.underlying4 _),(trodAll_cons_mk (Below.trod laidOut (by kernel_rfl) (of_decide_eq_true (by kernel_rfl)) h0k bel (fun x hx=>hlt x (by simp [hx]))) (trodAll_cons_mk (shut_int Tryz.underlying5 w1) trodAll_mk0)),rfl,bel.frame _,fun h=>by cases h⟩
theorem over:Rows.CertifyGoesSaid :=
 OpenClaim.holds_of_wide 7 Tryz.f7 rfl rfl rfl rfl rfl rfl rfl ⟨rfl,rfl,rfl,rfl,rfl⟩ rfl rfl rfl rfl rfl (by kernel_rfl) Tryz.func7 (by kernel_rfl)
  (of_decide_eq_true (by kernel_rfl)) (by unfold Func.isWrapper; first | (rw [if_pos (by decide +kernel)]; kernel_rfl) | (rw [if_neg (by decide +kernel)]; exact ⟨rfl,rfl⟩))
  (fun os started H enc _=>lifted os started H enc)
theorem proved:Rows.CertifyGoesCardSaid :=
 Claim7.holds_tied_plain_at .later [] [.data,.data,.data,.data,.sentinel,.sentinel,.pinned] true (true, "f7700371c8b5fddb2e0cf9d5ff2e169200c13f28753ab1d3c19509a013739147") true over (fun _ h=>by cases h) (by kernel_rfl) (fun _ h=>by cases h) certifyGoes_row_tie rfl ⟨rfl,rfl⟩ (by kernel_rfl) rfl
  (fun f fn hf hfn=>by
    obtain rfl:f=7:=Option.some.inj ((show Tryz.prog.funcNamed "cellarer/cellarerlaw08.CertifyGoes" = some 7 by kernel_rfl).symm.trans hf) |>.symm
    obtain rfl:fn=Tryz.f7:=(Option.some.inj (Tryz.func7.symm.trans hfn)).symm
    exact ⟨by kernel_rfl,fun j t ht=>by
     rw [Tryz.params7] at ht
     have hm:t∈[35,5]:=by simpa using Array.mem_of_getElem? ht
     have hall:([35,5].all fun u=>!Tryz.prog.wantsStandIn u)=true:=by kernel_rfl
     exact (show Tryz.prog.wantsStandIn t=false by simpa using List.all_eq_true.1 hall t hm)⟩)
  (by kernel_rfl)
end Go.Proofs.YtmgfmlhdnadglaaGreatDoor.certifyGoes
namespace Go.Proofs.YtmgfmlhdnadglaaGreatDoor
theorem certifyGoes_holds:Rows.CertifyGoesCardSaid:=certifyGoes.proved
end Go.Proofs.YtmgfmlhdnadglaaGreatDoor
