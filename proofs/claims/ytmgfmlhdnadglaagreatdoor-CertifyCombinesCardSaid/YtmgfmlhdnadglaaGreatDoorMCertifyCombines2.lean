/- Proved: part 6 of the proof that the law CertifyCombines returns true at all its arguments (no further conditions). -/
import Derived.Test.YtmgfmlhdnadglaaGreatDoorMCertifyCombines1
import Derived.Test.YtmgfmlhdnadglaaGreatDoorMCertifyCombines0
set_option linter.unusedVariables false
set_option linter.unusedSimpArgs false
namespace Go.Proofs.YtmgfmlhdnadglaaGreatDoor
open Go Th Go.Proofs
variable {R:Type}
abbrev SpR:=List SpT × Rat
open Classical in
noncomputable def tmO (q:Rat) (r:SpR):Option SpR:=if fits (r.2 * q) then (scO q r.1).map fun x=>(x,r.2 * q) else none
open Classical in
noncomputable def plO (a b:SpR):Option SpR:=if fits (a.2 + b.2) then (Uem a.1 b.1).map fun x=>(x,a.2 + b.2) else none
open Classical in
noncomputable def UfB (q:Rat) (r s:SpR):Option SpR:=if q=0 then some s else (tmO q r).bind fun x=>plO s x
noncomputable def Uiv:List (SpR × Rat)→SpR→Option SpR
 | [],s=>some s
 | x::t,s=>(UfB x.2 x.1 s).bind (Uiv t)
def okF (cols:Int) (r:SpR):Prop:=okS cols r.1∧fits r.2
abbrev DnR:=List Rat × Rat
def same (s:SpR) (d:DnR):Prop:=s.2=d.2∧∀ i,d.1.getD i 0=cf s.1 i
def UaM (d:DnR):Prop:=(∀ x∈d.1,fits x)∧fits d.2
def scD (q:Rat) (d:DnR):DnR:=(d.1.map (· * q),d.2 * q)
def adD (a b:DnR):DnR:=((List.range (max a.1.length b.1.length)).map fun i=>a.1.getD i 0 + b.1.getD i 0,a.2 + b.2)
open Classical in
noncomputable def Ua5 (q:Rat) (r s:DnR):Option DnR:=if q=0 then some s else if UaM (scD q r) then (if UaM (adD s (scD q r)) then some (adD s (scD q r)) else none) else none
noncomputable def UgP:List (DnR × Rat)→DnR→Option DnR
 | [],s=>some s
 | x::t,s=>(Ua5 x.2 x.1 s).bind (UgP t)
theorem UbH {d:DnR}:UaM d↔(∀ i,fits (d.1.getD i 0))∧fits d.2:=by
 unfold UaM
 refine and_congr_left fun _=>⟨fun h i=>?_,fun h x hx=>?_⟩
 · by_cases hi:i<d.1.length
   · rw [List.getD_eq_getElem?_getD,List.getElem?_eq_getElem hi]; exact h _ (List.getElem_mem hi)
   · rw [List.getD_eq_getElem?_getD,List.getElem?_eq_none (by omega)]; exact UfJ
 · obtain ⟨i,hi,rfl⟩:=List.getElem_of_mem hx
   have:=h i
   rwa [List.getD_eq_getElem?_getD,List.getElem?_eq_getElem hi] at this
theorem UeW (q:Rat) (d:DnR) (i:Nat):(scD q d).1.getD i 0=d.1.getD i 0 * q:=by
 show (d.1.map (· * q)).getD i 0=_
 simp only [List.getD_eq_getElem?_getD,List.getElem?_map]
 cases d.1[i]? <;> simp [Rat.zero_mul]
theorem UgC (a b:DnR) (i:Nat):(adD a b).1.getD i 0=a.1.getD i 0 + b.1.getD i 0:=by
 show ((List.range (max a.1.length b.1.length)).map _).getD i 0=_
 by_cases hi:i<max a.1.length b.1.length
 · rw [List.getD_eq_getElem?_getD,List.getElem?_map,List.getElem?_range hi]; rfl
 · rw [List.getD_eq_getElem?_getD,List.getElem?_eq_none (by simp; omega)]
   simp only [List.getD_eq_getElem?_getD]
   rw [List.getElem?_eq_none (by omega),List.getElem?_eq_none (by omega)]
   show (0:Rat)=0 + 0
   rw [Rat.add_zero]
theorem UzJ {cols:Int} {q:Rat} (h0:q≠0) {r x:SpR} (h:okF cols r) (he:tmO q r=some x):okF cols x∧x.2=r.2 * q∧∀ i,cf x.1 i=cf r.1 i * q:=by
 unfold tmO at he
 split at he
 · rename_i hf
   obtain ⟨y,e,rfl⟩:=Option.map_eq_some_iff.1 he
   obtain ⟨e1,e2⟩:=UHy h0 h.1 e
   exact ⟨⟨e1,hf⟩,rfl,e2⟩
 · cases he
theorem UC3 {cols:Int} {a b x:SpR} (ha:okF cols a) (hb:okF cols b) (he:plO a b=some x):okF cols x∧x.2=a.2 + b.2∧∀ i,cf x.1 i=cf a.1 i + cf b.1 i:=by
 unfold plO at he
 split at he
 · rename_i hf
   obtain ⟨y,e,rfl⟩:=Option.map_eq_some_iff.1 he
   obtain ⟨e1,e2,e3⟩:=Umt _ (Nat.le_refl _) ha.1.1 hb.1.1 ha.1.2 hb.1.2 e
   exact ⟨⟨⟨e1,e2⟩,hf⟩,rfl,e3⟩
 · cases he
theorem Usy {cols:Int} {q:Rat} {r:SpR} (h:okF cols r):tmO q r=none↔¬ (fits (r.2 * q)∧∀ i,fits (cf r.1 i * q)):=by
 unfold tmO
 split
 · rename_i hf
   rw [Option.map_eq_none_iff,UzC h.1.1]
   exact ⟨fun ⟨i,hi⟩ q=>hi (q.2 i),fun q=>Classical.byContradiction fun hn=>q ⟨hf,fun i=>Classical.byContradiction fun hi=>hn ⟨i,hi⟩⟩⟩
 · rename_i hf
   exact ⟨fun _ q=>hf q.1,fun _=>rfl⟩
theorem Ur8 {cols:Int} {a b:SpR} (ha:okF cols a) (hb:okF cols b):plO a b=none↔¬ (fits (a.2 + b.2)∧∀ i,fits (cf a.1 i + cf b.1 i)):=by
 unfold plO
 split
 · rename_i hf
   rw [Option.map_eq_none_iff,Uew _ (Nat.le_refl _) ha.1.1 hb.1.1 ha.1.2 hb.1.2]
   exact ⟨fun ⟨i,hi⟩ q=>hi (q.2 i),fun q=>Classical.byContradiction fun hn=>q ⟨hf,fun i=>Classical.byContradiction fun hi=>hn ⟨i,hi⟩⟩⟩
 · rename_i hf
   exact ⟨fun _ q=>hf q.1,fun _=>rfl⟩
theorem Usi {cols:Int} {q:Rat} {r s:SpR} {rd sd:DnR} (hr:okF cols r) (hs:okF cols s) (er:same r rd) (es:same s sd) :
 (UfB q r s=none∧Ua5 q rd sd=none)∨∃ x xd,UfB q r s=some x∧Ua5 q rd sd=some xd∧okF cols x∧same x xd:=by
 unfold UfB Ua5
 by_cases h0:q=0
 · rw [if_pos h0,if_pos h0]; exact .inr ⟨s,sd,rfl,rfl,hs,es⟩
 rw [if_neg h0,if_neg h0]
 have k1:UaM (scD q rd)↔(fits (r.2 * q)∧∀ i,fits (cf r.1 i * q)):=by
  rw [UbH,and_comm,show (scD q rd).2=rd.2 * q from rfl,←er.1]
  refine and_congr_right fun _=>forall_congr' fun i=>?_
  rw [UeW,er.2 i]
 cases h1:tmO q r with
 | none =>
  have:=(Usy hr).1 h1
  rw [if_neg (fun q=>this (k1.1 q))]
  exact .inl ⟨rfl,rfl⟩
 | some x =>
  have hx:UaM (scD q rd):=Classical.byContradiction fun hn=>by
   have:=(Usy hr).2 (fun q=>hn (k1.2 q))
   rw [h1] at this; cases this
  rw [if_pos hx]
  obtain ⟨e1,e2,e3⟩:=UzJ h0 hr h1
  have k2:UaM (adD sd (scD q rd))↔(fits (s.2 + x.2)∧∀ i,fits (cf s.1 i + cf x.1 i)):=by
   rw [UbH,and_comm,show (adD sd (scD q rd)).2=sd.2 + rd.2 * q from rfl,←es.1,←er.1,e2]
   refine and_congr_right fun _=>forall_congr' fun i=>?_
   rw [UgC,UeW,er.2 i,es.2 i,e3 i]
  rw [Option.bind_some]
  cases h2:plO s x with
  | none =>
   have:=(Ur8 hs e1).1 h2
   rw [if_neg (fun q=>this (k2.1 q))]
   exact .inl ⟨rfl,rfl⟩
  | some y =>
   have hy:UaM (adD sd (scD q rd)):=Classical.byContradiction fun hn=>by
    have:=(Ur8 hs e1).2 (fun q=>hn (k2.2 q))
    rw [h2] at this; cases this
   rw [if_pos hy]
   obtain ⟨g1,g2,g3⟩:=UC3 hs e1 h2
   refine .inr ⟨y,_,rfl,rfl,g1,?_,fun i=>?_⟩
   · rw [g2,e2,es.1,er.1]; rfl
   · rw [UgC,UeW,er.2 i,es.2 i,g3 i,e3 i]
theorem Uiw {cols:Int}:∀ {l:List (SpR × Rat)} {ld:List (DnR × Rat)} {s:SpR} {sd:DnR},l.length=ld.length→(∀ i (h:i<l.length) (h':i<ld.length),okF cols l[i].1∧same l[i].1 ld[i].1∧l[i].2=ld[i].2) →
 okF cols s→same s sd→(Uiv l s=none∧UgP ld sd=none)∨∃ x xd,Uiv l s=some x∧UgP ld sd=some xd∧okF cols x∧same x xd
 | [],[],s,sd,_,_,hs,es=>.inr ⟨s,sd,rfl,rfl,hs,es⟩
 | [],_::_,_,_,hl,_,_,_=>by simp at hl
 | _::_,[],_,_,hl,_,_,_=>by simp at hl
 | x::l,y::ld,s,sd,hl,h,hs,es=>by
  obtain ⟨a1,a2,a3⟩:=h 0 (by simp) (by simp)
  simp only [List.getElem_cons_zero] at a1 a2 a3
  rw [Uiv,UgP,←a3]
  rcases Usi (q:=x.2) a1 hs a2 es with ⟨e1,e2⟩ | ⟨z,zd,e1,e2,e3,e4⟩
  · rw [e1,e2]; exact .inl ⟨rfl,rfl⟩
  · rw [e1,e2,Option.bind_some,Option.bind_some]
    refine Uiw (by simpa using hl) (fun i h1 h2=>?_) e3 e4
    have:=h (i + 1) (by simp; omega) (by simp; omega)
    simpa using this
def UaH {α σ:Type} (step:σ→α→Option σ):σ→List α→Option σ
 | s,[]=>some s
 | s,a::l=>(step s a).bind fun s'=>UaH step s' l
def UzW {σ:Type} (kerr:Option R) (kend:σ→Option R):Option σ→Option R
 | none=>kerr
 | some s=>kend s
theorem Udc {α σ:Type} {l:List α} {step:σ→α→Option σ} {kerr:Option R} {kend:σ→Option R} {Inv:Nat→σ→Prop} (L:Nat→σ→Nat→Option R)
 (hend:∀ m s,Inv l.length s→L (m + 1) s l.length=kend s)
 (hinv:∀ s s' i (h:i<l.length),Inv i s→step s l[i]=some s'→Inv (i + 1) s')
 (hstep:∀ m s i (h:i<l.length),Inv i s→L (m + 1) s i=UzW kerr (fun s'=>L m s' (i + 1)) (step s l[i])) :
 ∀ (d m i:Nat) (s:σ),d + i=l.length→d<m→Inv i s→L m s i=UzW kerr kend (UaH step s (l.drop i))
 | 0,m + 1,i,s,hd,hm,hs=>by
  have:i=l.length:=by omega
  subst this
  rw [hend m s hs,List.drop_length]; rfl
 | d + 1,m + 1,i,s,hd,hm,hs=>by
  have hi:i<l.length:=by omega
  rw [hstep m s i hi hs,Ua0 hi]
  show _=UzW kerr kend ((step s l[i]).bind fun s'=>UaH step s' (l.drop (i + 1)))
  cases h:step s l[i] with
  | none=>rfl
  | some s'=>exact Udc L hend hinv hstep d m (i + 1) s' (by omega) (by omega) (hinv s s' i hi hs h)
theorem Ufb {α σ:Type} {step:σ→α→Option σ} {P:α→Prop} {Inv:σ→Prop} (hstep:∀ s s' a,P a→Inv s→step s a=some s'→Inv s'):∀ {l:List α} {s s':σ},(∀ a∈l,P a)→Inv s→UaH step s l=some s'→Inv s'
 | [],s,s',_,hs,h=>by simp only [UaH,Option.some.injEq] at h; rwa [←h]
 | a::l,s,s',hl,hs,h=>by
  obtain ⟨x,e1,e2⟩:=Option.bind_eq_some_iff.1 h
  exact Ufb hstep (fun y hy=>hl y (List.mem_cons_of_mem _ hy)) (hstep s x a (hl a (List.mem_cons_self ..)) hs e1) e2
open Classical in
noncomputable def rq (s:List UInt8):Rat:=if h:isQ s then Classical.choose h else 0
theorem UtT {s:List UInt8} (h:qb s=true):fits (rq s)∧s=Uag (rq s):=by
 have h':=UDQ.1 h
 unfold rq
 rw [dif_pos h']
 exact Classical.choose_spec h'
theorem UzB {q:Rat} (h:fits q):rq (Uag q)=q:=(UhU (UtT (Ueu h)).2).symm
noncomputable def spL (l:List TermT):List SpT:=l.map fun t=>(t.1.toNat,rq t.2)
noncomputable def spR (r:RowT):SpR:=(spL r.tm,rq r.c)
theorem UD0 {cols:Int} {l:List SpT} (h:okN cols l):spL (vt l)=l:=by
 unfold spL vt
 rw [List.map_map]
 conv=>rhs; rw [←List.map_id l]
 refine List.map_congr_left fun t ht=>?_
 simp only [Function.comp,id_eq]
 rw [UzB (h t ht).2.1]
 rfl
theorem UCE {cols:Int} {l:List TermT} (h:okT cols (-1) l=true):okS cols (spL l)∧l=vt (spL l):=by
 obtain ⟨l',e1,e2,e3⟩:=Urr (by omega) h
 subst e1
 rw [UD0 e3]
 exact ⟨⟨e2,e3⟩,rfl⟩
theorem UiE {cols:Int} {r:RowT} (h:okR cols r=true):okF cols (spR r)∧r.tm=vt (spR r).1∧r.c=Uag (spR r).2:=by
 unfold okR at h
 rw [Bool.and_eq_true] at h
 obtain ⟨e1,e2⟩:=UCE h.1
 obtain ⟨f1,f2⟩:=UtT h.2
 exact ⟨⟨e1,f1⟩,e2,f2⟩
open Classical in
noncomputable def rdT (d:List Rat) (t:SpT):Option (List Rat):=if fits (d.getD t.1 0 + t.2) then some (d.set t.1 (d.getD t.1 0 + t.2)) else none
theorem Ug6 (d:List Rat) (k i:Nat) (y:Rat) (h:k<d.length):(d.set k y).getD i 0=if k=i then y else d.getD i 0:=by
 simp only [List.getD_eq_getElem?_getD]
 rw [List.getElem?_set]
 by_cases hi:k=i
 · subst hi; rw [if_pos rfl,if_pos rfl,if_pos h]; rfl
 · rw [if_neg hi,if_neg hi]
theorem UDU {l:List SpT} {d d':List Rat} (h:UaH rdT d l=some d'):d'.length=d.length:=by
 refine Ufb (step:=rdT) (P:=fun _=>True) (Inv:=fun x=>x.length=d.length) (fun s s' a _ hs he=>?_) (fun _ _=>trivial) rfl h
 unfold rdT at he
 split at he
 · simp only [Option.some.injEq] at he
   rw [←he,List.length_set,hs]
 · cases he
theorem UDV {cols:Int}:∀ {l:List SpT} {last:Int} {d:List Rat},asc last l→okN cols l→(∀ i:Nat,last<(i:Int)→d.getD i 0=0)→(∀ t∈l,t.1<d.length) →
 ∃ d',UaH rdT d l=some d'∧∀ i,d'.getD i 0=d.getD i 0 + cf l i
 | [],last,d,_,_,_,_=>⟨d,rfl,fun i=>by rw [cf,Rat.add_zero]⟩
 | t::l,last,d,h1,h2,h3,h4=>by
  have ht:=h4 t (List.mem_cons_self ..)
  have hf:=(h2 t (List.mem_cons_self ..)).2.1
  have h0:d.getD t.1 0=0:=h3 t.1 h1.1
  have hg:=fun i=>Ug6 d t.1 i (d.getD t.1 0 + t.2) ht
  obtain ⟨d',e1,e2⟩:=UDV (d:=d.set t.1 (d.getD t.1 0 + t.2)) h1.2 (fun x hx=>h2 x (List.mem_cons_of_mem _ hx))
   (fun i hi=>by
     have:=h1.1
     rw [hg,if_neg (by omega),h3 i (by omega)])
   (fun x hx=>by rw [List.length_set]; exact h4 x (List.mem_cons_of_mem _ hx))
  refine ⟨d',?_,fun i=>?_⟩
  · rw [UaH,rdT,if_pos (by rw [h0,Rat.zero_add]; exact hf)]
    exact e1
  · rw [e2 i,hg i,Ua8]
    by_cases hi:t.1=i
    · subst hi
      rw [if_pos rfl,if_pos rfl,UaO h1.2 (by omega),Rat.add_zero]
    · rw [if_neg hi,if_neg hi]
noncomputable def wrD:Nat→List Rat→List SpT
 | _,[]=>[]
 | k,x::d=>if x=0 then wrD (k + 1) d else (k,x)::wrD (k + 1) d
theorem UmT:∀ (d:List Rat) (k:Nat) (a:Int),a<(k:Int)→asc a (wrD k d)
 | [],k,a,h=>trivial
 | x::d,k,a,h=>by
  rw [wrD]
  split
  · exact UmT d (k + 1) a (by omega)
  · exact ⟨h,UmT d (k + 1) (k:Int) (by omega)⟩
theorem UD8:∀ (d:List Rat) (k i:Nat),cf (wrD k d) (k + i)=d.getD i 0
 | [],k,i=>rfl
 | x::d,k,0=>by
  rw [wrD]
  split
  · rename_i h0
    rw [UaO (UmT d (k + 1) (k:Int) (by omega)) (by omega),←h0]; rfl
  · rw [Ua8,if_pos (by omega)]; rfl
 | x::d,k,i + 1=>by
  have ih:=UD8 d (k + 1) i
  rw [show k + 1 + i=k + (i + 1) from by omega] at ih
  rw [wrD]
  split
  · rw [ih]; rfl
  · rw [Ua8,if_neg (by omega),ih]; rfl
theorem UD9 {cols:Int}:∀ (d:List Rat) (k:Nat),(∀ x∈d,fits x)→((k + d.length:Nat):Int)≤cols→okN cols (wrD k d)
 | [],k,_,_=>by intro t h; cases h
 | x::d,k,h,hc=>by
  rw [List.length_cons] at hc
  have ih:=UD9 d (k + 1) (fun y hy=>h y (List.mem_cons_of_mem _ hy)) (by omega:((k + 1 + d.length:Nat):Int)≤cols)
  rw [wrD]
  split
  · exact ih
  · rename_i h0
    intro t ht
    rcases List.mem_cons.1 ht with rfl | ht
    · exact ⟨h0,h x (List.mem_cons_self ..),by show ((k:Nat):Int)<cols; omega⟩
    · exact ih t ht
theorem UE:∀ (d:List Rat) (k:Nat),(∀ x∈d,fits x)→okN ((k + d.length:Nat):Int) (wrD k d):=fun d k h=>UD9 d k h (Int.le_refl _)
theorem Ug8 {a b:Int} (h:a≤b) {l:List SpT} (hl:okN a l):okN b l:=fun t ht=>⟨(hl t ht).1,(hl t ht).2.1,by have:=(hl t ht).2.2; omega⟩
theorem UzL {cols:Int} {s:SpR} {d:DnR} (hs:okF cols s) (hd:∀ x∈d.1,fits x) (h:same s d):wrD 0 d.1=s.1:=by
 have h1:=UE d.1 0 hd
 refine UvZ (cols:=max cols ((0 + d.1.length:Nat):Int)) (last:=-1) (UmT d.1 0 (-1) (by omega)) hs.1.1 (Ug8 (by omega) h1) (Ug8 (by omega) hs.1.2) fun i=>?_
 have:=UD8 d.1 0 i
 rw [Nat.zero_add] at this
 rw [this,h.2 i]
end Go.Proofs.YtmgfmlhdnadglaaGreatDoor
set_option linter.unusedVariables false
set_option maxRecDepth 100000
namespace Go.Proofs.YtmgfmlhdnadglaaGreatDoor
open Go Th Go.Proofs
noncomputable section
variable {R:Type}
def Uwn:Ann:={ loops:=[],cuts:=[],frz:=[],rm:=[.id,.id] }
abbrev UBd (n:Nat):Env:=eC 58 (UCf n) eN
theorem UpE (n:Nat):EnvOK Tryz.prog GI (UBd n):=.cons (.nil) (UED n)
def p62 (n:Nat) (x1:Bool) (x2 x3:LP) (x4:Bool) (x5 x6:LP) (k0:Bool→LP→LP→Int→O R):O R :=
 p58 n x2 x5 (fun y7=>p58 n x3 x6 (fun y8=>k0 (!(x1 == x4)) y7 y8 0))
abbrev ULA (n:Nat):Orc R:=oN
abbrev UKV (n:Nat):Orc R:=oN
abbrev K62 (R:Type) (n:Nat):=JcH (R:=R) Tryz.prog (UBd n) Uwn n (22,[]) (ULA n) (UKV n)
theorem UNc (n:Nat):Je6 (K62 R n) (JaJ Uwn (Jll Tryz.f62)):=pO pN (by kernel_rfl)
abbrev t62:Sl (List SV):=(.c (sP (JlI (.c Jlf (.c sSh (.c sSh .n))))) (.c (sP (JlI (.c Jlf (.c sSh (.c sSh .n))))) .n))
abbrev f62 (n:Nat) (K:List SV→O R):t62.T (O R):=fun x1 x2 x3 x4 x5 x6=>p62 n x1 x2 x3 x4 x5 x6 (fun y1 y2 y3 y4=>K [.p (.agg [.v (.bool y1),.sh y2,.sh y3]),vI y4])
abbrev UJf (n:Nat):FS:=fT [false,false] t62 (f62 n)
theorem UMj (n:Nat):FSound Tryz.prog GI 62 (UJf n):=gd Uwn n (UpE n) Tryz.func62 (.cons (UpE n) t62 (f62 n) (fun K _ _ _ _ _ _=>(Jkq (c:=Jll Tryz.f62) (by kernel_rfl) (UNc n) K).trans (by kernel_rfl)) .nil) (by kernel_rfl)
def Uwp:Ann:={ loops:=[],cuts:=[],frz:=[],rm:=[.id] }
abbrev UBf (n:Nat):Env:=eC 104 (UBK n) (eC 103 (UBJ n) (eC 58 (UCf n) (eC 57 (UEq n) eN)))
theorem UpG (n:Nat):EnvOK Tryz.prog GI (UBf n):=.cons (.cons (.cons (.cons (.nil) (UGE n)) (UED n)) (UF6 n)) (UF7 n)
def p64 (n:Nat) (x1:Bool) (x2 x3:LP) (x4:Bool) (x5 x6:LP) (k0:Bool→LP→LP→O R):O R :=
 p58 n x2 x6 (fun y7=>p58 n x5 x3 (fun y8=>p58 n x3 x6 (fun y9=>bif (x1 == x4) then (UEF n y7 y8 (fun y10=>k0 x1 y10 y9)) else (p57 n y7 y8 (fun y11=>bif (decide (y11<0)) then (UCG n y8 y7 (fun y12=>k0 x4 y12 y9)) else (UCG n y7 y8 (fun y13=>k0 x1 y13 y9)))))))
abbrev ULC (n:Nat):Orc R:=oN
abbrev UKX (n:Nat):Orc R:=oN
abbrev K64 (R:Type) (n:Nat):=JcH (R:=R) Tryz.prog (UBf n) Uwp n (53,[]) (ULC n) (UKX n)
theorem UNe (n:Nat):Je6 (K64 R n) (JaJ Uwp (Jll Tryz.f64)):=pO pN (by kernel_rfl)
abbrev t64:Sl (List SV):=(.c (sP (JlI (.c Jlf (.c sSh (.c sSh .n))))) (.c (sP (JlI (.c Jlf (.c sSh (.c sSh .n))))) .n))
abbrev f64 (n:Nat) (K:List SV→O R):t64.T (O R):=fun x1 x2 x3 x4 x5 x6=>p64 n x1 x2 x3 x4 x5 x6 (fun y1 y2 y3=>K [.p (.agg [.v (.bool y1),.sh y2,.sh y3])])
abbrev UJh (n:Nat):FS:=fT [false,false] t64 (f64 n)
theorem UMl (n:Nat):FSound Tryz.prog GI 64 (UJh n):=gd Uwp n (UpG n) Tryz.func64 (.cons (UpG n) t64 (f64 n) (fun K _ _ _ _ _ _=>(Jkq (c:=Jll Tryz.f64) (by kernel_rfl) (UNe n) K).trans (by kernel_rfl)) .nil) (by kernel_rfl)
def Uwo:Ann:={ loops:=[],cuts:=[],frz:=[],rm:=[.id,.id] }
abbrev UBe (n:Nat):Env:=eC 64 (UJh n) eN
theorem UpF (n:Nat):EnvOK Tryz.prog GI (UBe n):=.cons (.nil) (UMl n)
def p63 (n:Nat) (x1:Bool) (x2 x3:LP) (x4:Bool) (x5 x6:LP) (k0:Bool→LP→LP→Int→O R):O R :=
 p64 n x1 x2 x3 x4 x5 x6 (fun y7 y8 y9=>k0 y7 y8 y9 0)
abbrev ULB (n:Nat):Orc R:=oN
abbrev UKW (n:Nat):Orc R:=oN
abbrev K63 (R:Type) (n:Nat):=JcH (R:=R) Tryz.prog (UBe n) Uwo n (9,[]) (ULB n) (UKW n)
theorem UNd (n:Nat):Je6 (K63 R n) (JaJ Uwo (Jll Tryz.f63)):=pO pN (by kernel_rfl)
abbrev t63:Sl (List SV):=(.c (sP (JlI (.c Jlf (.c sSh (.c sSh .n))))) (.c (sP (JlI (.c Jlf (.c sSh (.c sSh .n))))) .n))
abbrev f63 (n:Nat) (K:List SV→O R):t63.T (O R):=fun x1 x2 x3 x4 x5 x6=>p63 n x1 x2 x3 x4 x5 x6 (fun y1 y2 y3 y4=>K [.p (.agg [.v (.bool y1),.sh y2,.sh y3]),vI y4])
abbrev UJg (n:Nat):FS:=fT [false,false] t63 (f63 n)
theorem UMk (n:Nat):FSound Tryz.prog GI 63 (UJg n):=gd Uwo n (UpF n) Tryz.func63 (.cons (UpF n) t63 (f63 n) (fun K _ _ _ _ _ _=>(Jkq (c:=Jll Tryz.f63) (by kernel_rfl) (UNd n) K).trans (by kernel_rfl)) .nil) (by kernel_rfl)
def Uir:Ann:={ loops:=[],cuts:=[(5,ids [2,8,10],ids [6,7])],frz:=[],rm:=[.id,.id] }
abbrev UxQ (n:Nat):Env:=eC 79 (UFy n) (eC 63 (UJg n) (eC 62 (UJf n) (eC 56 (UCe n) eN)))
theorem Uji (n:Nat):EnvOK Tryz.prog GI (UxQ n):=.cons (.cons (.cons (.cons (.nil) (UEC n)) (UMj n)) (UMk n)) (UJ3 n)
def Ur0 (n:Nat) (x1:Bool) (x2 x3:LP) (x4:Bool) (x5 x6:LP) (k0:ByteArray→Int→O R):O R :=
 p62 n x1 x2 x3 x4 x5 x6 (fun y7 y8 y9 y10=>bif (y10 != 0) then (k0 ⟨#[]⟩ y10) else (p79 n y7 y8 y9 (fun y11 y12=>k0 y11 y12)))
def p61 (n:Nat) (x1 x2:ByteArray) (k0:ByteArray→Int→O R):O R :=
 p56 n x1 (fun y3 y4 y5 y6=>p56 n x2 (fun y7 y8 y9 y10=>bif (!y6) then (k0 ⟨#[]⟩ 3) else (bif (bif false then true else (!y10)) then (k0 ⟨#[]⟩ 3) else (Ur0 n y3 y4 y5 y7 y8 y9 (fun y11 y12=>k0 y11 y12)))))
def UhD (n:Nat) (x1:Bool) (x2 x3:LP) (x4:Bool) (x5 x6:LP) (k0:ByteArray→Int→O R):O R :=
 p63 n x1 x2 x3 x4 x5 x6 (fun y7 y8 y9 y10=>bif (y10 != 0) then (k0 ⟨#[]⟩ y10) else (p79 n y7 y8 y9 (fun y11 y12=>k0 y11 y12)))
def Utn (n:Nat) (x1 x2:ByteArray) (k0:ByteArray→Int→O R):O R :=
 p56 n x1 (fun y3 y4 y5 y6=>p56 n x2 (fun y7 y8 y9 y10=>bif (!y6) then (k0 ⟨#[]⟩ 3) else (bif (bif false then true else (!y10)) then (k0 ⟨#[]⟩ 3) else (UhD n y3 y4 y5 y7 y8 y9 (fun y11 y12=>k0 y11 y12)))))
abbrev E61 (n:Nat):Code→Fr→Kc R→O R:=evC Tryz.prog (UxQ n) Uir n (44,[])
noncomputable def Uoq:Code:=Jj4 (Jll Tryz.f61) [1,1,1,1]
abbrev UkD:Sl (List SV):=(.c (sP (sFn 62)) (.c (sBx 99 (cB (cH (cH .n)))) (.c (sBx 99 (cB (cH (cH .n)))) .n)))
abbrev UkE:Sl (List SV):=(.c (sP (sFn 63)) (.c (sBx 99 (cB (cH (cH .n)))) (.c (sBx 99 (cB (cH (cH .n)))) .n)))
abbrev UqU (n:Nat) (K:Kc R):UkD.T (O R):=fun x1 x2 x3 x4 x5 x6=>Ur0 n x1 x2 x3 x4 x5 x6 (fun y1 y2=>xC Uir 5 K .ret [vS y1,vI y2])
abbrev UqV (n:Nat) (K:Kc R):UkE.T (O R):=fun x1 x2 x3 x4 x5 x6=>UhD n x1 x2 x3 x4 x5 x6 (fun y1 y2=>xC Uir 5 K .ret [vS y1,vI y2])
abbrev UF2 (n:Nat):Orc R:=oN
abbrev UFh (n:Nat):Orc R:=fun i vs K=>JfK (Nat.beq i 5) (Jjg (UkD.ap vs (UqU n K)) (Jjg (UkE.ap vs (UqV n K)) (Jki Uir 5 (E61 n Uoq) vs K))) (oN i vs K)
abbrev K61 (R:Type) (n:Nat):=JcH (R:=R) Tryz.prog (UxQ n) Uir n (44,[]) (UF2 n) (UFh n)
theorem Ur6 (n:Nat):Je6 (K61 R n) (JaJ Uir Uoq):=pO pN (by kernel_rfl)
theorem UDz (n:Nat):K61 R n (true,5,Uoq):=JkW (lo:=UF2 n) (cu:=UFh n) (Ur6 n) UkD (UqU n) (fun K _ _ _ _ _ _=>by show _=_; kernel_rfl) (JkW (lo:=UF2 n) (cu:=UFh n) (Ur6 n) UkE (UqV n) (fun K _ _ _ _ _ _=>by show _=_; kernel_rfl) fun _ _=>rfl)
theorem UKb (n:Nat):Je6 (K61 R n) (JaJ Uir (Jll Tryz.f61)):=pO (pC (UDz n) pN) (by kernel_rfl)
abbrev UH6:Sl (List SV):=(cS (cS (.c (sP (sFn 62)) .n)))
abbrev UIO (n:Nat) (K:List SV→O R):UH6.T (O R):=fun x1 x2=>p61 n x1 x2 (fun y1 y2=>K [vS y1,vI y2])
abbrev UH7:Sl (List SV):=(cS (cS (.c (sP (sFn 63)) .n)))
abbrev UIP (n:Nat) (K:List SV→O R):UH7.T (O R):=fun x1 x2=>Utn n x1 x2 (fun y1 y2=>K [vS y1,vI y2])
abbrev UFt (n:Nat):FS:={ om:=[false,false,false],run:=fun args K=>Jjg (UH6.ap args (UIO n K)) (Jjg (UH7.ap args (UIP n K)) none) }
theorem UJY (n:Nat):FSound Tryz.prog GI 61 (UFt n):=gd Uir n (Uji n) Tryz.func61 (.cons (Uji n) UH6 (UIO n) (fun K _ _=>(Jkq (c:=Jll Tryz.f61) (by kernel_rfl) (UKb n) K).trans (by kernel_rfl)) (.cons (Uji n) UH7 (UIP n) (fun K _ _=>(Jkq (c:=Jll Tryz.f61) (by kernel_rfl) (UKb n) K).trans (by kernel_rfl)) .nil)) (by kernel_rfl)
def Uwy:Ann:={ loops:=[],cuts:=[],frz:=[],rm:=[.id] }
abbrev UBo (n:Nat):Env:=eN
theorem UpU (n:Nat):EnvOK Tryz.prog GI (UBo n):=.nil
def p78 (n:Nat) (x1:Bool) (x2 x3:LP) (k0:Bool→LP→LP→O R):O R :=
 bif (!x1) then (k0 (bif true then (decide (((x2).length:Int)>0)) else false) x2 x3) else (k0 false x2 x3)
abbrev ULL (n:Nat):Orc R:=oN
abbrev UK6 (n:Nat):Orc R:=oN
abbrev K78 (R:Type) (n:Nat):=JcH (R:=R) Tryz.prog (UBo n) Uwy n (14,[]) (ULL n) (UK6 n)
theorem UNs (n:Nat):Je6 (K78 R n) (JaJ Uwy (Jll Tryz.f78)):=pO pN (by kernel_rfl)
abbrev t78:Sl (List SV):=(.c (sP (JlI (.c Jlf (.c sSh (.c sSh .n))))) .n)
abbrev f78 (n:Nat) (K:List SV→O R):t78.T (O R):=fun x1 x2 x3=>p78 n x1 x2 x3 (fun y1 y2 y3=>K [.p (.agg [.v (.bool y1),.sh y2,.sh y3])])
abbrev UJo (n:Nat):FS:=fT [false] t78 (f78 n)
theorem UMs (n:Nat):FSound Tryz.prog GI 78 (UJo n):=gd Uwy n (UpU n) Tryz.func78 (.cons (UpU n) t78 (f78 n) (fun K _ _ _=>(Jkq (c:=Jll Tryz.f78) (by kernel_rfl) (UNs n) K).trans (by kernel_rfl)) .nil) (by kernel_rfl)
def Uwc:Ann:={ loops:=[],cuts:=[],frz:=[],rm:=[.id,.id] }
abbrev UA3 (n:Nat):Env:=eC 61 (UFt n) (eC 60 (UFs n) (eC 54 (UEp n) eN))
theorem Upb (n:Nat):EnvOK Tryz.prog GI (UA3 n):=.cons (.cons (.cons (.nil) (UGD n)) (UJX n)) (UJY n)
def p22 (n:Nat) (x1 x2:ByteArray) (k0:ByteArray→Int→O R):O R :=
 p54 n x1 x2 (fun y3 y4 y5=>bif y5 then (bif (JkT (IntKind.i64.wrap (y3 + y4))) then (k0 (JiB (IntKind.i64.wrap (y3 + y4))) 0) else none) else (Utn n x1 x2 (fun y6 y7=>k0 y6 y7)))
abbrev ULp (n:Nat):Orc R:=oN
abbrev UKK (n:Nat):Orc R:=oN
abbrev K22 (R:Type) (n:Nat):=JcH (R:=R) Tryz.prog (UA3 n) Uwc n (26,[]) (ULp n) (UKK n)
theorem UMK (n:Nat):Je6 (K22 R n) (JaJ Uwc (Jll Tryz.f22)):=pO pN (by kernel_rfl)
abbrev t22:Sl (List SV):=(cS (cS .n))
abbrev f22 (n:Nat) (K:List SV→O R):t22.T (O R):=fun x1 x2=>p22 n x1 x2 (fun y1 y2=>K [vS y1,vI y2])
abbrev UFm (n:Nat):FS:=fT [false,false] t22 (f22 n)
theorem UJR (n:Nat):FSound Tryz.prog GI 22 (UFm n):=gd Uwc n (Upb n) Tryz.func22 (.cons (Upb n) t22 (f22 n) (fun K _ _=>(Jkq (c:=Jll Tryz.f22) (by kernel_rfl) (UMK n) K).trans (by kernel_rfl)) .nil) (by kernel_rfl)
def Uwb:Ann:={ loops:=[],cuts:=[],frz:=[],rm:=[.id,.id] }
abbrev UA2 (n:Nat):Env:=eC 61 (UFt n) (eC 60 (UFs n) (eC 54 (UEp n) eN))
theorem Upa (n:Nat):EnvOK Tryz.prog GI (UA2 n):=.cons (.cons (.cons (.nil) (UGD n)) (UJX n)) (UJY n)
def p21 (n:Nat) (x1 x2:ByteArray) (k0:ByteArray→Int→O R):O R :=
 p54 n x1 x2 (fun y3 y4 y5=>bif y5 then (bif (JkT (IntKind.i64.wrap (y3 * y4))) then (k0 (JiB (IntKind.i64.wrap (y3 * y4))) 0) else none) else (p61 n x1 x2 (fun y6 y7=>k0 y6 y7)))
abbrev ULo (n:Nat):Orc R:=oN
abbrev UKJ (n:Nat):Orc R:=oN
abbrev K21 (R:Type) (n:Nat):=JcH (R:=R) Tryz.prog (UA2 n) Uwb n (26,[]) (ULo n) (UKJ n)
theorem UMJ (n:Nat):Je6 (K21 R n) (JaJ Uwb (Jll Tryz.f21)):=pO pN (by kernel_rfl)
abbrev t21:Sl (List SV):=(cS (cS .n))
abbrev f21 (n:Nat) (K:List SV→O R):t21.T (O R):=fun x1 x2=>p21 n x1 x2 (fun y1 y2=>K [vS y1,vI y2])
abbrev UFl (n:Nat):FS:=fT [false,false] t21 (f21 n)
theorem UJQ (n:Nat):FSound Tryz.prog GI 21 (UFl n):=gd Uwb n (Upa n) Tryz.func21 (.cons (Upa n) t21 (f21 n) (fun K _ _=>(Jkq (c:=Jll Tryz.f21) (by kernel_rfl) (UMJ n) K).trans (by kernel_rfl)) .nil) (by kernel_rfl)
def Uwf:Ann:={ loops:=[],cuts:=[],frz:=[],rm:=[.id] }
abbrev UA6 (n:Nat):Env:=eC 79 (UFy n) (eC 78 (UJo n) (eC 56 (UCe n) eN))
theorem Upn (n:Nat):EnvOK Tryz.prog GI (UA6 n):=.cons (.cons (.cons (.nil) (UEC n)) (UMs n)) (UJ3 n)
def p37 (n:Nat) (x1:ByteArray) (k0:ByteArray→O R):O R :=
 p56 n x1 (fun y2 y3 y4 y5=>bif (!y5) then (k0 ⟨#[]⟩) else (p78 n y2 y3 y4 (fun y6 y7 y8=>p79 n y6 y7 y8 (fun y9 y10=>k0 y9))))
abbrev ULs (n:Nat):Orc R:=oN
abbrev UKN (n:Nat):Orc R:=oN
abbrev K37 (R:Type) (n:Nat):=JcH (R:=R) Tryz.prog (UA6 n) Uwf n (21,[]) (ULs n) (UKN n)
theorem UMW (n:Nat):Je6 (K37 R n) (JaJ Uwf (Jll Tryz.f37)):=pO pN (by kernel_rfl)
abbrev t37:Sl (List SV):=(cS .n)
abbrev f37 (n:Nat) (K:List SV→O R):t37.T (O R):=fun x1=>p37 n x1 (fun y1=>K [vS y1])
abbrev UI5 (n:Nat):FS:=fT [false] t37 (f37 n)
theorem UL9 (n:Nat):FSound Tryz.prog GI 37 (UI5 n):=gd Uwf n (Upn n) Tryz.func37 (.cons (Upn n) t37 (f37 n) (fun K _=>(Jkq (c:=Jll Tryz.f37) (by kernel_rfl) (UMW n) K).trans (by kernel_rfl)) .nil) (by kernel_rfl)
end
end Go.Proofs.YtmgfmlhdnadglaaGreatDoor
set_option linter.unusedVariables false
set_option linter.unusedSimpArgs false
namespace Go.Proofs.YtmgfmlhdnadglaaGreatDoor
open Go Th Go.Proofs
variable {R:Type}
def Und (q:Rat) (k0:ByteArray→Int→Option R):Option R:=if fits q then k0 (bs (Uag q)) 0 else k0 (bs []) 5
theorem UiX {a b i j:Nat} (ha:(toL 1000000000 a).length≤i) (hb:(toL 1000000000 b).length≤j):(toL 1000000000 (a * b)).length≤i + j:=by
 rw [Uah hB2] at *
 rw [Nat.pow_add]
 exact Nat.mul_lt_mul_of_lt_of_lt ha hb
theorem UD5 {a b i:Nat} (ha:(toL 1000000000 a).length≤i) (hb:(toL 1000000000 b).length≤i):(toL 1000000000 (a + b)).length≤i + 1:=by
 rw [Uah hB2] at *
 rw [Nat.pow_succ]; omega
theorem Usx {a b i:Nat} (h:a≤b) (hb:(toL 1000000000 b).length≤i):(toL 1000000000 a).length≤i:=UbI hb h
theorem Uyp {a b i j:Nat} (ha:a<10 ^ i) (hb:b<10 ^ j):a * b<10 ^ (i + j):=by
 rw [Nat.pow_add]; exact Nat.mul_lt_mul_of_lt_of_lt ha hb
theorem Url {a b:Nat} (ha:a<10 ^ 400) (hb:b<10 ^ 400):a * b<10 ^ 800:=by
 have h:=Uyp ha hb
 have e:400 + 400=800:=rfl
 rw [e] at h; exact h
theorem UD2 (n:Nat) (hn:2 ^ 20≤n) (neg neg2:Bool) (a b c d:Nat) (ha:(toL 1000000000 a).length≤100) (hb:(toL 1000000000 b).length≤100) (hc:(toL 1000000000 c).length≤100) (hd:(toL 1000000000 d).length≤100) :
 ∃ (ng:Bool) (e:Nat),(∀ k0:Bool→List PV→List PV→Option R,p64 n neg (NN a) (NN b) neg2 (NN c) (NN d) k0=k0 ng (NN e) (NN (b * d)))∧zs ng e=zs neg a * d + zs neg2 c * b∧(toL 1000000000 e).length≤201:=by
 have l1:=UiX ha hd
 have l2:=UiX hc hb
 have m1:=fun k0=>Ubz (R:=R) n a d (by omega) (by omega) (by omega) k0
 have m2:=fun k0=>Ubz (R:=R) n c b (by omega) (by omega) (by omega) k0
 have m3:=fun k0=>Ubz (R:=R) n b d (by omega) (by omega) (by omega) k0
 have z1:zs neg a * (d:Int)=zs neg (a * d):=by cases neg <;> simp [zs,Int.neg_mul]
 have z2:zs neg2 c * (b:Int)=zs neg2 (c * b):=by cases neg2 <;> simp [zs,Int.neg_mul]
 rw [z1,z2]
 by_cases hs:neg=neg2
 · subst hs
   have p1:=fun k0=>UyB (R:=R) n (a * d) (c * b) (by omega) (by omega) (by omega) (by omega) k0
   refine ⟨neg,a * d + c * b,fun k0=>?_,?_,UD5 l1 l2⟩
   · unfold p64
     have e:(neg == neg)=true:=by simp
     simp only [m1,m2,m3,e,UaL,p1]
   · generalize a * d=x
     generalize c * b=y
     cases neg
     · simp only [zs,Bool.false_eq_true,if_false]; omega
     · simp only [zs,if_true]; omega
 · have e:(neg == neg2)=false:=by simpa using hs
   have hneg:neg2=!neg:=by cases neg <;> cases neg2 <;> simp_all
   have c1:=fun k0=>UuK (R:=R) n (a * d) (c * b) (by omega) (by omega) (by omega) k0
   by_cases hlt:a * d<c * b
   · have p1:=fun k0=>Umq (R:=R) n (c * b) (a * d) (by omega) (by omega) (by omega) k0
     have e2:decide (UfF (a * d) (c * b)<0)=true:=by rw [show UfF (a * d) (c * b)=-1 from by unfold UfF; rw [if_pos hlt]]; rfl
     refine ⟨neg2,c * b - a * d,fun k0=>?_,?_,Usx (Nat.sub_le _ _) (Nat.le_trans l2 (by omega))⟩
     · unfold p64
       simp only [m1,m2,m3,e,Uam,c1,e2,UaL,p1]
     · rw [hneg]
       generalize a * d=x at *
       generalize c * b=y at *
       cases neg
       · simp only [zs,Bool.not_false,if_true,Bool.false_eq_true,if_false]; omega
       · simp only [zs,Bool.not_true,if_true,Bool.false_eq_true,if_false]; omega
   · have p1:=fun k0=>Umq (R:=R) n (a * d) (c * b) (by omega) (by omega) (by omega) k0
     have e2:decide (UfF (a * d) (c * b)<0)=false:=by
      apply decide_eq_false
      unfold UfF; rw [if_neg hlt]; split <;> omega
     refine ⟨neg,a * d - c * b,fun k0=>?_,?_,Usx (Nat.sub_le _ _) (Nat.le_trans l1 (by omega))⟩
     · unfold p64
       simp only [m1,m2,m3,e,Uam,c1,e2,p1]
     · rw [hneg]
       generalize a * d=x at *
       generalize c * b=y at *
       cases neg
       · simp only [zs,Bool.not_false,if_true,Bool.false_eq_true,if_false]; omega
       · simp only [zs,Bool.not_true,if_true,Bool.false_eq_true,if_false]; omega
theorem Uvr (p q:Rat):mkRat (p.num * q.den + q.num * p.den) (p.den * q.den)=p + q:=by
 rw [←Rat.mkRat_add_mkRat _ _ p.den_nz q.den_nz,Rat.mkRat_self,Rat.mkRat_self]
theorem Uvs (p q:Rat):mkRat (p.num * q.num) (p.den * q.den)=p * q:=by
 rw [←Rat.mkRat_mul_mkRat,Rat.mkRat_self,Rat.mkRat_self]
theorem n20 {n:Nat} (hn:10 ^ 1000≤n):2 ^ 20<n:=Nat.lt_of_lt_of_le (by decide +kernel) hn
theorem Ubb {n:Nat} (hn:10 ^ 1000≤n):10 ^ 400≤n:=Nat.le_trans (by decide +kernel) hn
theorem UEB {n a b:Nat} (hn:10 ^ 1000≤n) (ha:a<10 ^ 400) (hb:b<10 ^ 400):a * b<n:=Nat.lt_of_lt_of_le (Url ha hb) (Nat.le_trans (by decide +kernel) hn)
theorem Uv1 (n:Nat) (hn:10 ^ 1000≤n) (ng:Bool) (e f:Nat) (hf:f≠0) (he:(toL 1000000000 e).length≤300) (hfl:(toL 1000000000 f).length≤300) (hfn:f<n) (q:Rat) (hq:mkRat (zs ng e) f=q) (k0:ByteArray→Int→Option R):p79 n ng (NN e) (NN f) k0=Und q k0:=by
 have h20:=n20 hn
 rw [Unc n ng e f hf (by omega) (by omega) h20 hfn,hq]; rfl
theorem UsA (n:Nat) (hn:10 ^ 1000≤n) (p q:Rat) (hp:fits p) (hq:fits q) (k0:ByteArray→Int→Option R):Utn n (bs (Uag p)) (bs (Uag q)) k0=Und (p + q) k0:=by
 have h20:=n20 hn
 have r1:=fun k0=>Ufy (R:=R) n (Ubb hn) p hp k0
 have r2:=fun k0=>Ufy (R:=R) n (Ubb hn) q hq k0
 have m1:=Ua9 hp.1
 have m2:=Ua9 hp.2
 have m3:=Ua9 hq.1
 have m4:=Ua9 hq.2
 obtain ⟨ng,e,s1,s2,s3⟩:=UD2 (R:=R) n (by omega) (sg p.num) (sg q.num) p.num.natAbs p.den q.num.natAbs q.den (by omega) (by omega) (by omega) (by omega)
 rw [show zs (sg p.num) p.num.natAbs=p.num from Ueg _,show zs (sg q.num) q.num.natAbs=q.num from Ueg _] at s2
 have t:=fun k0=>Uv1 (R:=R) n hn ng e (p.den * q.den) (Nat.mul_ne_zero p.den_nz q.den_nz) (by omega) (Nat.le_trans (UiX m2 m4) (by omega)) (UEB hn hp.2 hq.2) (p + q) (by rw [s2,Uvr]) k0
 have e0:((0:Int) != 0)=false:=rfl
 simp only [Utn,UhD,p63,r1,r2,s1,t,e0,Bool.not_true,Uam]
theorem UEa (x y:Int):zs (!(sg x == sg y)) (x.natAbs * y.natAbs)=x * y:=by
 have hx:=Ueg x
 have hy:=Ueg y
 generalize hsx:decide (x<0)=sx at *
 generalize hsy:decide (y<0)=sy at *
 have e1:sg x=sx:=hsx
 have e2:sg y=sy:=hsy
 rw [e1,e2]
 conv=>rhs; rw [←hx,←hy]
 generalize x.natAbs=a
 generalize y.natAbs=b
 cases sx <;> cases sy <;> simp [zs,Int.neg_mul,Int.mul_neg]
theorem UsB (n:Nat) (hn:10 ^ 1000≤n) (p q:Rat) (hp:fits p) (hq:fits q) (k0:ByteArray→Int→Option R):p61 n (bs (Uag p)) (bs (Uag q)) k0=Und (p * q) k0:=by
 have h20:=n20 hn
 have r1:=fun k0=>Ufy (R:=R) n (Ubb hn) p hp k0
 have r2:=fun k0=>Ufy (R:=R) n (Ubb hn) q hq k0
 have m1:=Ua9 hp.1
 have m2:=Ua9 hp.2
 have m3:=Ua9 hq.1
 have m4:=Ua9 hq.2
 have s1:=fun k0=>Ubz (R:=R) n p.num.natAbs q.num.natAbs (by omega) (by omega) (by omega) k0
 have s2:=fun k0=>Ubz (R:=R) n p.den q.den (by omega) (by omega) (by omega) k0
 have t:=fun k0=>Uv1 (R:=R) n hn (!(sg p.num == sg q.num)) (p.num.natAbs * q.num.natAbs) (p.den * q.den) (Nat.mul_ne_zero p.den_nz q.den_nz) (Nat.le_trans (UiX m1 m3) (by omega)) (Nat.le_trans (UiX m2 m4) (by omega)) (UEB hn hp.2 hq.2) (p * q) (by rw [UEa,Uvs]) k0
 have e0:((0:Int) != 0)=false:=rfl
 simp only [p61,Ur0,p62,r1,r2,s1,s2,t,e0,Bool.not_true,Uam]
def UbR (s:List UInt8):Prop:=∃ v:Int,v.natAbs<10 ^ 9∧s=Lib.itoa v
theorem UiM (n:Nat) (hn:20≤n) (s:List UInt8) (hs:s.length<2 ^ 40):∃ a d,(∀ k0:Int→Bool→Option R,p95 n (bs s) k0=k0 a d)∧(¬ UbR s→d=false):=by
 by_cases h:UbR s
 · obtain ⟨v,h1,rfl⟩:=h
   exact ⟨v,true,fun k0=>UeT n hn v h1 k0,fun h=>absurd ⟨v,h1,rfl⟩ h⟩
 · exact ⟨0,false,fun k0=>UiN n hn s hs h k0,fun _=>rfl⟩
theorem UnF (n:Nat) (hn:20≤n) (v w:Int) (hv:v.natAbs<10 ^ 9) (hw:w.natAbs<10 ^ 9) (k0:Int→Int→Bool→Option R):p54 n (bs (Lib.itoa v)) (bs (Lib.itoa w)) k0=k0 v w true:=by
 have q1:=fun k0=>UeT (R:=R) n hn v hv k0
 have q2:=fun k0=>UeT (R:=R) n hn w hw k0
 simp only [p54,q1,q2,UaL]
theorem UkM (n:Nat) (hn:20≤n) (s t:List UInt8) (hs:s.length<2 ^ 40) (ht:t.length<2 ^ 40) (h:¬ (UbR s∧UbR t)):∃ a b,∀ k0:Int→Int→Bool→Option R,p54 n (bs s) (bs t) k0=k0 a b false:=by
 obtain ⟨a,d,q1,f1⟩:=UiM (R:=R) n hn s hs
 obtain ⟨b,e,q2,f2⟩:=UiM (R:=R) n hn t ht
 cases d with
 | false=>exact ⟨a,b,fun k0=>by simp only [p54,q1,q2,Uam]⟩
 | true =>
  have hS:UbR s:=Classical.byContradiction fun h=>by have:=f1 h; cases this
  have hT:¬ UbR t:=fun hT=>h ⟨hS,hT⟩
  have e0:=f2 hT
  subst e0
  exact ⟨a,b,fun k0=>by simp only [p54,q1,q2,UaL]⟩
theorem Umn (x:Int):JiB x=bs (Lib.itoa x):=rfl
theorem UmK (v:Int) (h:v.natAbs<10 ^ 400) (k0:ByteArray→Int→Option R):Und (v:Rat) k0=k0 (bs (Lib.itoa v)) 0:=by
 unfold Und
 rw [if_pos (Ug4 h),UaI]
theorem Uda {p:Rat} (h:UbR (Uag p)):∃ v:Int,v.natAbs<10 ^ 9∧p=(v:Rat):=by
 obtain ⟨v,h1,h2⟩:=h
 exact ⟨v,h1,UhU (h2.trans (UaI v))⟩
theorem Uvk {x:Int} (h1:-9223372036854775808≤x) (h2:x<9223372036854775808):JkT x=true:=by
 unfold JkT; simp; omega
theorem Ut2 (n:Nat) (hn:10 ^ 1000≤n) (p q:Rat) (hp:fits p) (hq:fits q) (k0:ByteArray→Int→Option R):p22 n (bs (Uag p)) (bs (Uag q)) k0=Und (p + q) k0:=by
 have h20:=n20 hn
 have lp:=Ubt hp
 have lq:=Ubt hq
 by_cases hb:UbR (Uag p)∧UbR (Uag q)
 · obtain ⟨v,hv,rfl⟩:=Uda hb.1
   obtain ⟨w,hw,rfl⟩:=Uda hb.2
   have b1:=fun k0=>UnF (R:=R) n (by omega) v w hv hw k0
   rw [←Rat.intCast_add,UmK _ (Nat.lt_of_le_of_lt (by omega:(v + w).natAbs≤2000000000) (by decide +kernel)),←UaI,←UaI]
   have e1:IntKind.i64.wrap (v + w)=v + w:=w64 (by omega) (by omega)
   have e2:JkT (v + w)=true:=Uvk (by omega) (by omega)
   simp only [p22,b1,UaL,e1,e2,Umn]
 · obtain ⟨a,b,b1⟩:=UkM (R:=R) n (by omega) (Uag p) (Uag q) (by omega) (by omega) hb
   have t:=fun k0=>UsA (R:=R) n hn p q hp hq k0
   simp only [p22,b1,Uam,t]
theorem UAa (n:Nat) (hn:10 ^ 1000≤n) (p q:Rat) (hp:fits p) (hq:fits q) (k0:ByteArray→Int→Option R):p21 n (bs (Uag p)) (bs (Uag q)) k0=Und (p * q) k0:=by
 have h20:=n20 hn
 have lp:=Ubt hp
 have lq:=Ubt hq
 by_cases hb:UbR (Uag p)∧UbR (Uag q)
 · obtain ⟨v,hv,rfl⟩:=Uda hb.1
   obtain ⟨w,hw,rfl⟩:=Uda hb.2
   have b1:=fun k0=>UnF (R:=R) n (by omega) v w hv hw k0
   have hvw:(v * w).natAbs≤10 ^ 9 * 10 ^ 9:=by
    rw [Int.natAbs_mul]; exact Nat.mul_le_mul (Nat.le_of_lt hv) (Nat.le_of_lt hw)
   rw [←Rat.intCast_mul,UmK _ (Nat.lt_of_le_of_lt hvw (by decide +kernel)),←UaI,←UaI]
   generalize hx:v * w=x at *
   have e1:IntKind.i64.wrap x=x:=w64 (by omega) (by omega)
   have e2:JkT x=true:=Uvk (by omega) (by omega)
   simp only [p21,b1,UaL,hx,e1,e2,Umn]
 · obtain ⟨a,b,b1⟩:=UkM (R:=R) n (by omega) (Uag p) (Uag q) (by omega) (by omega) hb
   have t:=fun k0=>UsB (R:=R) n hn p q hp hq k0
   simp only [p21,b1,Uam,t]
theorem UeU {q:Rat} (h:fits q) (k0:ByteArray→Int→Option R):Und q k0=k0 (bs (Uag q)) 0:=by unfold Und; rw [if_pos h]
end Go.Proofs.YtmgfmlhdnadglaaGreatDoor
set_option linter.unusedVariables false
set_option maxRecDepth 100000
namespace Go.Proofs.YtmgfmlhdnadglaaGreatDoor
open Go Th Go.Proofs
noncomputable section
variable {R:Type}
def Uwz:Ann:={ loops:=[],cuts:=[],frz:=[],rm:=[.id] }
abbrev UBp (n:Nat):Env:=eN
theorem UpW (n:Nat):EnvOK Tryz.prog GI (UBp n):=.nil
def p80 (n:Nat) (x1:Int) (k0:Bool→O R):O R :=
 bif (decide (x1≥0)) then (k0 (bif true then (decide (x1<2048)) else false)) else (k0 false)
abbrev ULM (n:Nat):Orc R:=oN
abbrev UK7 (n:Nat):Orc R:=oN
abbrev K80 (R:Type) (n:Nat):=JcH (R:=R) Tryz.prog (UBp n) Uwz n (9,[]) (ULM n) (UK7 n)
theorem UNu (n:Nat):Je6 (K80 R n) (JaJ Uwz (Jll Tryz.f80)):=pO pN (by kernel_rfl)
abbrev t80:Sl (List SV):=(cI .n)
abbrev f80 (n:Nat) (K:List SV→O R):t80.T (O R):=fun x1=>p80 n x1 (fun y1=>K [vB y1])
abbrev UFz (n:Nat):FS:=fT [false] t80 (f80 n)
theorem UJ4 (n:Nat):FSound Tryz.prog GI 80 (UFz n):=gd Uwz n (UpW n) Tryz.func80 (.cons (UpW n) t80 (f80 n) (fun K _=>(Jkq (c:=Jll Tryz.f80) (by kernel_rfl) (UNu n) K).trans (by kernel_rfl)) .nil) (by kernel_rfl)
def Ubj:Ann:={ loops:=[(4,ids [1,15,16,17],ids [1,2]),(10,ids [1,27,28,29],ids [1,2]),(17,ids [7,39,40,41],ids [2])],cuts:=[],frz:=[],rm:=[.id] }
abbrev UxL (n:Nat):Env:=eC 80 (UFz n) (eC 53 (Uyd n) eN)
theorem Upw (n:Nat):EnvOK Tryz.prog GI (UxL n):=.cons (.cons (.nil) (Uz1 n)) (UJ4 n)
def Uhy (n:Nat) (l0:LP→ByteArray→LP→Int→Int→O R) (x1:LP) (x2:ByteArray) (x3:LP) (x4 x5:Int) (k0:LP→ByteArray→Int→O R) (k1:LP→ByteArray→O R):O R :=
 bif (decide (x5<x4)) then (bif (inR x5 ((x3).length)) then (Jh2 ((x3).getD ((x5:Int).toNat) (.v (.bool false))) fun a6=>JdT a6 fun h7 t8=>Jj .i64 h7 fun e9=>JdT t8 fun h10 t11=>Jj3 h10 fun e12=>Ji2 t11 (p53 n e12 (fun y13=>bif (!y13) then (k0 x1 x2 3) else (l0 x1 x2 x3 x4 (IntKind.i64.wrap (x5 + 1)))))) else none) else (k1 x1 x2)
def Udz (n:Nat):Nat→LP→ByteArray→LP→Int→Int→(LP→ByteArray→Int→O R)→(LP→ByteArray→O R)→O R
 | 0,_,_,_,_,_,_,_=>none
 | m + 1,x1,x2,x3,x4,x5,k0,k1=>Uhy n (fun x1 x2 x3 x4 x5=>Udz n m x1 x2 x3 x4 x5 k0 k1) x1 x2 x3 x4 x5 k0 k1
def UvL (n:Nat) (x1:LP) (x2:ByteArray) (x3:LP) (x4 x5:Int) (k0:LP→ByteArray→Int→O R) (k1:LP→ByteArray→O R):O R:=Udz n n x1 x2 x3 x4 x5 k0 k1
def UeQ (n:Nat) (l0:LP→ByteArray→LP→Int→Int→O R) (x1:LP) (x2:ByteArray) (x3:LP) (x4 x5:Int) (k0:LP→ByteArray→Int→O R) (k1:LP→ByteArray→O R):O R :=
 bif (decide (x5<x4)) then (bif (inR x5 ((x3).length)) then (Jh2 ((x3).getD ((x5:Int).toNat) (.v (.bool false))) fun a6=>JdT a6 fun h7 t8=>Jj .i64 h7 fun e9=>JdT t8 fun h10 t11=>Jj3 h10 fun e12=>Ji2 t11 (p80 n e9 (fun y13=>bif (!y13) then (k0 x1 x2 2) else (l0 x1 x2 x3 x4 (IntKind.i64.wrap (x5 + 1)))))) else none) else (k1 x1 x2)
def Ucb (n:Nat):Nat→LP→ByteArray→LP→Int→Int→(LP→ByteArray→Int→O R)→(LP→ByteArray→O R)→O R
 | 0,_,_,_,_,_,_,_=>none
 | m + 1,x1,x2,x3,x4,x5,k0,k1=>UeQ n (fun x1 x2 x3 x4 x5=>Ucb n m x1 x2 x3 x4 x5 k0 k1) x1 x2 x3 x4 x5 k0 k1
def Uj3 (n:Nat) (x1:LP) (x2:ByteArray) (x3:LP) (x4 x5:Int) (k0:LP→ByteArray→Int→O R) (k1:LP→ByteArray→O R):O R:=Ucb n n x1 x2 x3 x4 x5 k0 k1
def UeR (n:Nat) (l0:Int→LP→Int→Int→O R) (x1:Int) (x2:LP) (x3 x4:Int) (k0:Int→O R) (k1:O R):O R :=
 bif (decide (x4<x3)) then (bif (inR x4 ((x2).length)) then (Jh2 ((x2).getD ((x4:Int).toNat) (.v (.bool false))) fun a5=>JdT a5 fun h6 t7=>Jj .i64 h6 fun e8=>JdT t7 fun h9 t10=>Jj3 h9 fun e11=>Ji2 t10 (bif (eqS e11 (⟨#[48]⟩:ByteArray)) then (k0 3) else (bif (bif false then true else (decide (e8≤x1))) then (k0 3) else (l0 e8 x2 x3 (IntKind.i64.wrap (x4 + 1)))))) else none) else (k1)
def Ucc (n:Nat):Nat→Int→LP→Int→Int→(Int→O R)→(O R)→O R
 | 0,_,_,_,_,_,_=>none
 | m + 1,x1,x2,x3,x4,k0,k1=>UeR n (fun x1 x2 x3 x4=>Ucc n m x1 x2 x3 x4 k0 k1) x1 x2 x3 x4 k0 k1
def Uft (n:Nat) (x1:Int) (x2:LP) (x3 x4:Int) (k0:Int→O R) (k1:O R):O R:=Ucc n n x1 x2 x3 x4 k0 k1
def p52 (n:Nat) (x1:LP) (x2:ByteArray) (k0:Int→O R):O R :=
 p53 n x2 (fun y3=>bif (!y3) then (k0 3) else (UvL n x1 x2 x1 ((x1).length:Int) 0 (fun y4 y5 y6=>k0 y6) (fun y7 y8=>Uj3 n y7 y8 y7 ((y7).length:Int) 0 (fun y9 y10 y11=>k0 y11) (fun y12 y13=>Uft n (-1) y12 ((y12).length:Int) 0 (fun y14=>k0 y14) (k0 0)))))
abbrev E52 (n:Nat):Code→Fr→Kc R→O R:=evC Tryz.prog (UxL n) Ubj n (57,[])
noncomputable def Uup:Code:=Jj4 (Jll Tryz.f52) [1,1,0,1,0,0]
abbrev Ugk:Sl (List SV):=(.c (sBx 43 (cH (cS .n))) (cH (cI (cI .n))))
abbrev UqN (n m:Nat) (K:Kc R):Ugk.T (O R):=fun x1 x2 x3 x4 x5=>Udz n m x1 x2 x3 x4 x5 (fun y1 y2 y3=>xL Ubj 4 K .ret [.bx 43 [vH y1,vS y2],vI y3]) (fun y1 y2=>xL Ubj 4 K (.exit 0) [.bx 43 [vH y1,vS y2],dD])
abbrev UAq (n:Nat) (K:Kc R) (l0:Ugk.T (O R)):Ugk.T (O R):=fun x1 x2 x3 x4 x5=>Uhy n l0 x1 x2 x3 x4 x5 (fun y1 y2 y3=>xL Ubj 4 K .ret [.bx 43 [vH y1,vS y2],vI y3]) (fun y1 y2=>xL Ubj 4 K (.exit 0) [.bx 43 [vH y1,vS y2],dD])
noncomputable def Uon:Code:=Jj4 (Jll Tryz.f52) [1,1,1,0,1,0,0]
abbrev Uea:Sl (List SV):=(.c (sBx 43 (cH (cS .n))) (cH (cI (cI .n))))
abbrev UjH (n m:Nat) (K:Kc R):Uea.T (O R):=fun x1 x2 x3 x4 x5=>Ucb n m x1 x2 x3 x4 x5 (fun y1 y2 y3=>xL Ubj 10 K .ret [.bx 43 [vH y1,vS y2],vI y3]) (fun y1 y2=>xL Ubj 10 K (.exit 2) [.bx 43 [vH y1,vS y2],dD])
abbrev Uxc (n:Nat) (K:Kc R) (l0:Uea.T (O R)):Uea.T (O R):=fun x1 x2 x3 x4 x5=>UeQ n l0 x1 x2 x3 x4 x5 (fun y1 y2 y3=>xL Ubj 10 K .ret [.bx 43 [vH y1,vS y2],vI y3]) (fun y1 y2=>xL Ubj 10 K (.exit 2) [.bx 43 [vH y1,vS y2],dD])
noncomputable def Uoo:Code:=Jj4 (Jll Tryz.f52) [1,1,1,1,1,0,1,0,0]
abbrev Ueb:Sl (List SV):=(cI (cH (cI (cI .n))))
abbrev UjI (n m:Nat) (K:Kc R):Ueb.T (O R):=fun x1 x2 x3 x4=>Ucc n m x1 x2 x3 x4 (fun y1=>xL Ubj 17 K .ret [vI y1]) (xL Ubj 17 K (.exit 4) [dD])
abbrev Uxd (n:Nat) (K:Kc R) (l0:Ueb.T (O R)):Ueb.T (O R):=fun x1 x2 x3 x4=>UeR n l0 x1 x2 x3 x4 (fun y1=>xL Ubj 17 K .ret [vI y1]) (xL Ubj 17 K (.exit 4) [dD])
abbrev UEz (n:Nat):Orc R:=oL Ubj (E52 n) n 17 Uoo Ueb (UjI n n) (oL Ubj (E52 n) n 10 Uon Uea (UjH n n) (oL Ubj (E52 n) n 4 Uup Ugk (UqN n n) oN))
abbrev UEl (n:Nat):Orc R:=oN
abbrev K52 (R:Type) (n:Nat):=JcH (R:=R) Tryz.prog (UxL n) Ubj n (57,[]) (UEz n) (UEl n)
theorem UDt (n:Nat):K52 R n (false,4,Uup):=JkF (lo:=UEz n) (cu:=UEl n) (pO pN (by kernel_rfl)) Ugk (UqN n n) (JiE (F:=UqN n) Ugk (UAq n) (fun K _ _ _ _ _=>rfl) (fun _ _=>rfl) (fun L K _ _ _ _ _=>by show _=_; kernel_rfl) n) fun _ _=>rfl
theorem Uzl (n:Nat):K52 R n (false,10,Uon):=JkF (lo:=UEz n) (cu:=UEl n) (pO pN (by kernel_rfl)) Uea (UjH n n) (JiE (F:=UjH n) Uea (Uxc n) (fun K _ _ _ _ _=>rfl) (fun _ _=>rfl) (fun L K _ _ _ _ _=>by show _=_; kernel_rfl) n) fun _ _=>rfl
theorem Uzm (n:Nat):K52 R n (false,17,Uoo):=JkF (lo:=UEz n) (cu:=UEl n) (pO pN (by kernel_rfl)) Ueb (UjI n n) (JiE (F:=UjI n) Ueb (Uxd n) (fun K _ _ _ _=>rfl) (fun _ _=>rfl) (fun L K _ _ _ _=>by show _=_; kernel_rfl) n) fun _ _=>rfl
theorem UM5 (n:Nat):Je6 (K52 R n) (JaJ Ubj (Jll Tryz.f52)):=pO (pC (UDt n) (pC (Uzl n) (pC (Uzm n) pN))) (by kernel_rfl)
abbrev t52:Sl (List SV):=(.c (sP (JlI (.c sSh (.c Jly .n)))) .n)
abbrev f52 (n:Nat) (K:List SV→O R):t52.T (O R):=fun x1 x2=>p52 n x1 x2 (fun y1=>K [vI y1])
abbrev UzX (n:Nat):FS:=fT [false] t52 (f52 n)
theorem UCD (n:Nat):FSound Tryz.prog GI 52 (UzX n):=gd Ubj n (Upw n) Tryz.func52 (.cons (Upw n) t52 (f52 n) (fun K _ _=>(Jkq (c:=Jll Tryz.f52) (by kernel_rfl) (UM5 n) K).trans (by kernel_rfl)) .nil) (by kernel_rfl)
def UgN:Ann:={ loops:=[(2,ids [0,1,7,8,9],ids [1,4])],cuts:=[],frz:=[],rm:=[.id] }
abbrev UxV (n:Nat):Env:=eC 52 (UzX n) eN
theorem UpS (n:Nat):EnvOK Tryz.prog GI (UxV n):=.cons (.nil) (UCD n)
def Ur1 (n:Nat) (l0:Int→LP→LP→Int→Int→O R) (x1:Int) (x2 x3:LP) (x4 x5:Int) (k0:LP→Bool→O R) (k1:LP→O R):O R :=
 bif (decide (x5<x4)) then (bif (inR x5 ((x3).length)) then (Jh2 ((x3).getD ((x5:Int).toNat) (.v (.bool false))) fun a6=>JdT a6 fun h7 t8=>Jj .i64 h7 fun e9=>JdT t8 fun h10 t11=>Jj3 h10 fun e12=>Ji2 t11 (bif (decide (e9≥x1)) then (k0 x2 false) else (l0 x1 x2 x3 x4 (IntKind.i64.wrap (x5 + 1))))) else none) else (k1 x2)
def Uj6 (n:Nat):Nat→Int→LP→LP→Int→Int→(LP→Bool→O R)→(LP→O R)→O R
 | 0,_,_,_,_,_,_,_=>none
 | m + 1,x1,x2,x3,x4,x5,k0,k1=>Ur1 n (fun x1 x2 x3 x4 x5=>Uj6 n m x1 x2 x3 x4 x5 k0 k1) x1 x2 x3 x4 x5 k0 k1
def UCZ (n:Nat) (x1:Int) (x2 x3:LP) (x4 x5:Int) (k0:LP→Bool→O R) (k1:LP→O R):O R:=Uj6 n n x1 x2 x3 x4 x5 k0 k1
def p76 (n:Nat) (x1:Int) (x2:LP) (k0:Bool→O R):O R :=
 UCZ n x1 x2 x2 ((x2).length:Int) 0 (fun y3 y4=>k0 y4) (fun y5=>p52 n y5 ⟨#[48]⟩ (fun y6=>k0 (y6 == 0)))
abbrev E76 (n:Nat):Code→Fr→Kc R→O R:=evC Tryz.prog (UxV n) UgN n (22,[])
noncomputable def Uuz:Code:=Jj4 (Jll Tryz.f76) [1,0,1,0,0]
abbrev Ugu:Sl (List SV):=(cI (cH (cH (cI (cI .n)))))
abbrev Uq0 (n m:Nat) (K:Kc R):Ugu.T (O R):=fun x1 x2 x3 x4 x5=>Uj6 n m x1 x2 x3 x4 x5 (fun y1 y2=>xL UgN 2 K .ret [vH y1,vB y2]) (fun y1=>xL UgN 2 K (.exit 0) [vH y1,dD])
abbrev UAA (n:Nat) (K:Kc R) (l0:Ugu.T (O R)):Ugu.T (O R):=fun x1 x2 x3 x4 x5=>Ur1 n l0 x1 x2 x3 x4 x5 (fun y1 y2=>xL UgN 2 K .ret [vH y1,vB y2]) (fun y1=>xL UgN 2 K (.exit 0) [vH y1,dD])
abbrev UJM (n:Nat):Orc R:=oL UgN (E76 n) n 2 Uuz Ugu (Uq0 n n) oN
abbrev UIE (n:Nat):Orc R:=oN
abbrev K76 (R:Type) (n:Nat):=JcH (R:=R) Tryz.prog (UxV n) UgN n (22,[]) (UJM n) (UIE n)
theorem UDE (n:Nat):K76 R n (false,2,Uuz):=JkF (lo:=UJM n) (cu:=UIE n) (pO pN (by kernel_rfl)) Ugu (Uq0 n n) (JiE (F:=Uq0 n) Ugu (UAA n) (fun K _ _ _ _ _=>rfl) (fun _ _=>rfl) (fun L K _ _ _ _ _=>by show _=_; kernel_rfl) n) fun _ _=>rfl
theorem UNq (n:Nat):Je6 (K76 R n) (JaJ UgN (Jll Tryz.f76)):=pO (pC (UDE n) pN) (by kernel_rfl)
abbrev t76:Sl (List SV):=(cI (cH .n))
abbrev f76 (n:Nat) (K:List SV→O R):t76.T (O R):=fun x1 x2=>p76 n x1 x2 (fun y1=>K [vB y1])
abbrev UJn (n:Nat):FS:=fT [false,false] t76 (f76 n)
theorem UMr (n:Nat):FSound Tryz.prog GI 76 (UJn n):=gd UgN n (UpS n) Tryz.func76 (.cons (UpS n) t76 (f76 n) (fun K _ _=>(Jkq (c:=Jll Tryz.f76) (by kernel_rfl) (UNq n) K).trans (by kernel_rfl)) .nil) (by kernel_rfl)
def UcI:Ann:={ loops:=[(8,[(1,.id),(4,.id),(8,.cs [some 66,none]),(30,.id),(31,.id),(32,.id)],ids [4,5,8])],cuts:=[],frz:=[1000015,1000025,1000028,1000045],rm:=[.id,.id] }
abbrev UoM (n:Nat):Env:=eC 21 (UFl n) eN
theorem Ulw (n:Nat):EnvOK Tryz.prog GI (UoM n):=.cons (.nil) (UJQ n)
def UeE (n:Nat) (l0:ByteArray→ByteArray→LP→ByteArray→LP→Int→Int→O R) (x1 x2:ByteArray) (x3:LP) (x4:ByteArray) (x5:LP) (x6 x7:Int) (k0:ByteArray→Int→LP→ByteArray→O R) (k1:ByteArray→LP→ByteArray→O R):O R :=
 bif (decide (x7<x6)) then (bif (inR x7 ((x5).length)) then (Jh2 ((x5).getD ((x7:Int).toNat) (.v (.bool false))) fun a8=>JdT a8 fun h9 t10=>Jj .i64 h9 fun e11=>JdT t10 fun h12 t13=>Jj3 h12 fun e14=>Ji2 t13 (p21 n e14 x1 (fun y15 y16=>bif (y16 != 0) then (k0 ByteArray.empty y16 x3 x4) else (bif (Jbu ((x3).length + 1) 24) then (l0 x1 x2 (x3++([.agg [.v (.int .i64 e11),.v (.string y15)]]:LP)) x4 x5 x6 (IntKind.i64.wrap (x7 + 1))) else none)))) else none) else (k1 x2 x3 x4)
def Ub0 (n:Nat):Nat→ByteArray→ByteArray→LP→ByteArray→LP→Int→Int→(ByteArray→Int→LP→ByteArray→O R)→(ByteArray→LP→ByteArray→O R)→O R
 | 0,_,_,_,_,_,_,_,_,_=>none
 | m + 1,x1,x2,x3,x4,x5,x6,x7,k0,k1=>UeE n (fun x1 x2 x3 x4 x5 x6 x7=>Ub0 n m x1 x2 x3 x4 x5 x6 x7 k0 k1) x1 x2 x3 x4 x5 x6 x7 k0 k1
def UrB (n:Nat) (x1 x2:ByteArray) (x3:LP) (x4:ByteArray) (x5:LP) (x6 x7:Int) (k0:ByteArray→Int→LP→ByteArray→O R) (k1:ByteArray→LP→ByteArray→O R):O R:=Ub0 n n x1 x2 x3 x4 x5 x6 x7 k0 k1
def UEI (n:Nat) (x1:LP) (x2 x3:ByteArray) (k0:LP→ByteArray→Int→O R):O R :=
 bif (eqS x3 (⟨#[48]⟩:ByteArray)) then (k0 [] ⟨#[48]⟩ 0) else (p21 n x2 x3 (fun y4 y5=>bif (y5 != 0) then (k0 [] ByteArray.empty y5) else (UrB n x3 ByteArray.empty [] y4 x1 ((x1).length:Int) 0 (fun y6 y7 y8 y9=>k0 [] y6 y7) (fun y10 y11 y12=>k0 y11 y12 0))))
abbrev UKh (n:Nat):Code→Fr→Kc R→O R:=evC Tryz.prog (UoM n) UcI n (58,[])
noncomputable def UnR:Code:=Jj4 (Jll Tryz.f113) [1,1,1,1,1,0,1,0,0]
abbrev UdV:Sl (List SV):=(cS (.c (sBx 43 (.c sNl (cS .n))) (.c (sBx 43 (cO 66 (cS .n))) (cH (cI (cI .n))))))
abbrev Ujr (n m:Nat) (K:Kc R):UdV.T (O R):=fun x1 x2 x3 x4 x5 x6 x7=>Ub0 n m x1 x2 x3 x4 x5 x6 x7 (fun y1 y2 y3 y4=>xL UcI 8 K .ret [.bx 43 [.nl,vS y1],vI y2,.bx 43 [.own 66 y3,vS y4]]) (fun y1 y2 y3=>xL UcI 8 K (.exit 0) [.bx 43 [.nl,vS y1],dD,.bx 43 [.own 66 y2,vS y3]])
abbrev UwS (n:Nat) (K:Kc R) (l0:UdV.T (O R)):UdV.T (O R):=fun x1 x2 x3 x4 x5 x6 x7=>UeE n l0 x1 x2 x3 x4 x5 x6 x7 (fun y1 y2 y3 y4=>xL UcI 8 K .ret [.bx 43 [.nl,vS y1],vI y2,.bx 43 [.own 66 y3,vS y4]]) (fun y1 y2 y3=>xL UcI 8 K (.exit 0) [.bx 43 [.nl,vS y1],dD,.bx 43 [.own 66 y2,vS y3]])
abbrev UCm (n:Nat):Orc R:=oL UcI (UKh n) n 8 UnR UdV (Ujr n n) oN
abbrev UAP (n:Nat):Orc R:=oN
abbrev UIh (R:Type) (n:Nat):=JcH (R:=R) Tryz.prog (UoM n) UcI n (58,[]) (UCm n) (UAP n)
theorem UyN (n:Nat):UIh R n (false,8,UnR):=JkF (lo:=UCm n) (cu:=UAP n) (pO pN (by kernel_rfl)) UdV (Ujr n n) (JiE (F:=Ujr n) UdV (UwS n) (fun K _ _ _ _ _ _ _=>rfl) (fun _ _=>rfl) (fun L K _ _ _ _ _ _ _=>by show _=_; kernel_rfl) n) fun _ _=>rfl
theorem UG4 (n:Nat):Je6 (UIh R n) (JaJ UcI (Jll Tryz.f113)):=pO (pC (UyN n) pN) (by kernel_rfl)
abbrev UHJ:Sl (List SV):=(.c (sP (JlI (.c sSh (.c Jly .n)))) (cS .n))
abbrev f113 (n:Nat) (K:List SV→O R):UHJ.T (O R):=fun x1 x2 x3=>UEI n x1 x2 x3 (fun y1 y2 y3=>K [.p (.agg [.sh y1,.v (.string y2)]),vI y3])
abbrev UBR (n:Nat):FS:=fT [false,false] UHJ (f113 n)
theorem UGd (n:Nat):FSound Tryz.prog GI 113 (UBR n):=gd UcI n (Ulw n) Tryz.func113 (.cons (Ulw n) UHJ (f113 n) (fun K _ _ _=>(Jkq (c:=Jll Tryz.f113) (by kernel_rfl) (UG4 n) K).trans (by kernel_rfl)) .nil) (by kernel_rfl)
def Uwv:Ann:={ loops:=[],cuts:=[],frz:=[],rm:=[.id,.id] }
abbrev UBl (n:Nat):Env:=eC 113 (UBR n) (eC 53 (Uyd n) (eC 52 (UzX n) eN))
theorem UpQ (n:Nat):EnvOK Tryz.prog GI (UBl n):=.cons (.cons (.cons (.nil) (UCD n)) (Uz1 n)) (UGd n)
def p74 (n:Nat) (x1:LP) (x2 x3:ByteArray) (k0:LP→ByteArray→Int→O R):O R :=
 p52 n x1 x2 (fun y4=>bif (y4 != 0) then (k0 [] ByteArray.empty 3) else (p53 n x3 (fun y5=>bif (bif false then true else (!y5)) then (k0 [] ByteArray.empty 3) else (UEI n x1 x2 x3 (fun y6 y7 y8=>k0 y6 y7 y8)))))
abbrev ULI (n:Nat):Orc R:=oN
abbrev UK3 (n:Nat):Orc R:=oN
abbrev K74 (R:Type) (n:Nat):=JcH (R:=R) Tryz.prog (UBl n) Uwv n (20,[]) (ULI n) (UK3 n)
theorem UNo (n:Nat):Je6 (K74 R n) (JaJ Uwv (Jll Tryz.f74)):=pO pN (by kernel_rfl)
abbrev t74:Sl (List SV):=(.c (sP (JlI (.c sSh (.c Jly .n)))) (cS .n))
abbrev f74 (n:Nat) (K:List SV→O R):t74.T (O R):=fun x1 x2 x3=>p74 n x1 x2 x3 (fun y1 y2 y3=>K [.p (.agg [.sh y1,.v (.string y2)]),vI y3])
abbrev UJl (n:Nat):FS:=fT [false,false] t74 (f74 n)
theorem UMp (n:Nat):FSound Tryz.prog GI 74 (UJl n):=gd Uwv n (UpQ n) Tryz.func74 (.cons (UpQ n) t74 (f74 n) (fun K _ _ _=>(Jkq (c:=Jll Tryz.f74) (by kernel_rfl) (UNo n) K).trans (by kernel_rfl)) .nil) (by kernel_rfl)
def Uav:Ann:={ loops:=[(6,[(2,.id),(3,.id),(4,.id),(8,.cs [some 66,none]),(9,.id),(10,.id)],ids [4,5,8])],cuts:=[(12,ids [2,3,4,8,9,10],ids [2,3,4,5,8,9,10]),(14,ids [2,3,4,8,9,10],ids [2,3,4,5,8,9,10]),(15,ids [2,3,4,8,9,10,78],ids [2,3,4,5,8,9,10]),(18,ids [2,3,4,8,9,10,118],ids [2,3,4,5,8,9,10])],frz:=[1000023,1000026,1000057],rm:=[.id,.id] }
abbrev UoN (n:Nat):Env:=eC 22 (UFm n) eN
theorem Ulx (n:Nat):EnvOK Tryz.prog GI (UoN n):=.cons (.nil) (UJR n)
def Ub1 (n:Nat) (x1:LP) (x2:ByteArray) (x3:LP) (x4 x5:ByteArray) (x6:LP) (x7:ByteArray) (x8 x9:Int) (k0:LP→ByteArray→LP→ByteArray→ByteArray→LP→ByteArray→Int→Int→O R):O R :=
 k0 x1 x2 x3 x4 x5 x6 x7 (IntKind.i64.wrap (x8 + 1)) (IntKind.i64.wrap (x9 + 1))
def Ua6 (n:Nat) (x1:LP) (x2:ByteArray) (x3:LP) (x4 x5:ByteArray) (x6:LP) (x7:ByteArray) (x8 x9:Int) (x10:Bool) (k0:LP→ByteArray→LP→ByteArray→ByteArray→LP→ByteArray→Int→Int→O R) (k1:LP→ByteArray→LP→ByteArray→ByteArray→Int→LP→ByteArray→Int→Int→O R):O R :=
 bif x10 then (bif (inR x9 ((x3).length)) then (Jh2 ((x3).getD ((x9:Int).toNat) (.v (.bool false))) fun a11=>JdT a11 fun h12 t13=>Jj .i64 h12 fun e14=>JdT t13 fun h15 t16=>Jj3 h15 fun e17=>Ji2 t16 (bif (Jbu ((x6).length + 1) 24) then (k0 x1 x2 x3 x4 x5 (x6++([.agg [.v (.int .i64 e14),.v (.string e17)]]:LP)) x7 x8 (IntKind.i64.wrap (x9 + 1))) else none)) else none) else (bif (inR x8 ((x1).length)) then (Jh2 ((x1).getD ((x8:Int).toNat) (.v (.bool false))) fun a18=>JdT a18 fun h19 t20=>Jj .i64 h19 fun e21=>JdT t20 fun h22 t23=>Jj3 h22 fun e24=>Ji2 t23 (bif (inR x9 ((x3).length)) then (Jh2 ((x3).getD ((x9:Int).toNat) (.v (.bool false))) fun a25=>JdT a25 fun h26 t27=>Jj .i64 h26 fun e28=>JdT t27 fun h29 t30=>Jj3 h29 fun e31=>Ji2 t30 (p22 n e24 e31 (fun y32 y33=>bif (y33 != 0) then (k1 x1 x2 x3 x4 ByteArray.empty y33 x6 x7 x8 x9) else (bif (!eqS y32 (⟨#[48]⟩:ByteArray)) then (bif (inR x8 ((x1).length)) then (Jh2 ((x1).getD ((x8:Int).toNat) (.v (.bool false))) fun a34=>JdT a34 fun h35 t36=>Jj .i64 h35 fun e37=>JdT t36 fun h38 t39=>Jj3 h38 fun e40=>Ji2 t39 (bif (Jbu ((x6).length + 1) 24) then (Ub1 n x1 x2 x3 x4 x5 (x6++([.agg [.v (.int .i64 e37),.v (.string y32)]]:LP)) x7 x8 x9 (fun y41 y42 y43 y44 y45 y46 y47 y48 y49=>k0 y41 y42 y43 y44 y45 y46 y47 y48 y49)) else none)) else none) else (Ub1 n x1 x2 x3 x4 x5 x6 x7 x8 x9 (fun y50 y51 y52 y53 y54 y55 y56 y57 y58=>k0 y50 y51 y52 y53 y54 y55 y56 y57 y58)))))) else none)) else none)
def Uaz (n:Nat) (x1:LP) (x2:ByteArray) (x3:LP) (x4 x5:ByteArray) (x6:LP) (x7:ByteArray) (x8 x9:Int) (x10:Bool) (k0:LP→ByteArray→LP→ByteArray→ByteArray→LP→ByteArray→Int→Int→O R) (k1:LP→ByteArray→LP→ByteArray→ByteArray→Int→LP→ByteArray→Int→Int→O R):O R :=
 bif x10 then (bif (inR x8 ((x1).length)) then (Jh2 ((x1).getD ((x8:Int).toNat) (.v (.bool false))) fun a11=>JdT a11 fun h12 t13=>Jj .i64 h12 fun e14=>JdT t13 fun h15 t16=>Jj3 h15 fun e17=>Ji2 t16 (bif (Jbu ((x6).length + 1) 24) then (k0 x1 x2 x3 x4 x5 (x6++([.agg [.v (.int .i64 e14),.v (.string e17)]]:LP)) x7 (IntKind.i64.wrap (x8 + 1)) x9) else none)) else none) else (bif (x8 == ((x1).length:Int)) then (Ua6 n x1 x2 x3 x4 x5 x6 x7 x8 x9 true (fun y18 y19 y20 y21 y22 y23 y24 y25 y26=>k0 y18 y19 y20 y21 y22 y23 y24 y25 y26) (fun y27 y28 y29 y30 y31 y32 y33 y34 y35 y36=>k1 y27 y28 y29 y30 y31 y32 y33 y34 y35 y36)) else (bif (inR x9 ((x3).length)) then (Jh2 ((x3).getD ((x9:Int).toNat) (.v (.bool false))) fun a37=>JdT a37 fun h38 t39=>Jj .i64 h38 fun e40=>JdT t39 fun h41 t42=>Jj3 h41 fun e43=>Ji2 t42 (bif (inR x8 ((x1).length)) then (Jh2 ((x1).getD ((x8:Int).toNat) (.v (.bool false))) fun a44=>JdT a44 fun h45 t46=>Jj .i64 h45 fun e47=>JdT t46 fun h48 t49=>Jj3 h48 fun e50=>Ji2 t49 (Ua6 n x1 x2 x3 x4 x5 x6 x7 x8 x9 (bif false then true else (decide (e40<e47))) (fun y51 y52 y53 y54 y55 y56 y57 y58 y59=>k0 y51 y52 y53 y54 y55 y56 y57 y58 y59) (fun y60 y61 y62 y63 y64 y65 y66 y67 y68 y69=>k1 y60 y61 y62 y63 y64 y65 y66 y67 y68 y69))) else none)) else none))
def UaG (n:Nat) (x1:LP) (x2:ByteArray) (x3:LP) (x4 x5:ByteArray) (x6:LP) (x7:ByteArray) (x8 x9:Int) (k0:LP→ByteArray→LP→ByteArray→ByteArray→LP→ByteArray→Int→Int→O R) (k1:LP→ByteArray→LP→ByteArray→ByteArray→Int→LP→ByteArray→Int→Int→O R):O R :=
 bif (x9 == ((x3).length:Int)) then (Uaz n x1 x2 x3 x4 x5 x6 x7 x8 x9 true (fun y10 y11 y12 y13 y14 y15 y16 y17 y18=>k0 y10 y11 y12 y13 y14 y15 y16 y17 y18) (fun y19 y20 y21 y22 y23 y24 y25 y26 y27 y28=>k1 y19 y20 y21 y22 y23 y24 y25 y26 y27 y28)) else (bif (decide (x8<((x1).length:Int))) then (bif (inR x8 ((x1).length)) then (Jh2 ((x1).getD ((x8:Int).toNat) (.v (.bool false))) fun a29=>JdT a29 fun h30 t31=>Jj .i64 h30 fun e32=>JdT t31 fun h33 t34=>Jj3 h33 fun e35=>Ji2 t34 (bif (inR x9 ((x3).length)) then (Jh2 ((x3).getD ((x9:Int).toNat) (.v (.bool false))) fun a36=>JdT a36 fun h37 t38=>Jj .i64 h37 fun e39=>JdT t38 fun h40 t41=>Jj3 h40 fun e42=>Ji2 t41 (Uaz n x1 x2 x3 x4 x5 x6 x7 x8 x9 (bif false then true else (bif true then (decide (e32<e39)) else false)) (fun y43 y44 y45 y46 y47 y48 y49 y50 y51=>k0 y43 y44 y45 y46 y47 y48 y49 y50 y51) (fun y52 y53 y54 y55 y56 y57 y58 y59 y60 y61=>k1 y52 y53 y54 y55 y56 y57 y58 y59 y60 y61))) else none)) else none) else (Uaz n x1 x2 x3 x4 x5 x6 x7 x8 x9 false (fun y62 y63 y64 y65 y66 y67 y68 y69 y70=>k0 y62 y63 y64 y65 y66 y67 y68 y69 y70) (fun y71 y72 y73 y74 y75 y76 y77 y78 y79 y80=>k1 y71 y72 y73 y74 y75 y76 y77 y78 y79 y80)))
def Uhc (n:Nat) (l0:LP→ByteArray→LP→ByteArray→ByteArray→LP→ByteArray→Int→Int→O R) (x1:LP) (x2:ByteArray) (x3:LP) (x4 x5:ByteArray) (x6:LP) (x7:ByteArray) (x8 x9:Int) (k0:ByteArray→Int→LP→ByteArray→O R) (k1:ByteArray→LP→ByteArray→O R):O R :=
 bif (decide (x8<((x1).length:Int))) then (UaG n x1 x2 x3 x4 x5 x6 x7 x8 x9 (fun y10 y11 y12 y13 y14 y15 y16 y17 y18=>l0 y10 y11 y12 y13 y14 y15 y16 y17 y18) (fun y19 y20 y21 y22 y23 y24 y25 y26 y27 y28=>k0 y23 y24 y25 y26)) else (bif (bif false then true else (decide (x9<((x3).length:Int)))) then (UaG n x1 x2 x3 x4 x5 x6 x7 x8 x9 (fun y29 y30 y31 y32 y33 y34 y35 y36 y37=>l0 y29 y30 y31 y32 y33 y34 y35 y36 y37) (fun y38 y39 y40 y41 y42 y43 y44 y45 y46 y47=>k0 y42 y43 y44 y45)) else (k1 x5 x6 x7))
def UcZ (n:Nat):Nat→LP→ByteArray→LP→ByteArray→ByteArray→LP→ByteArray→Int→Int→(ByteArray→Int→LP→ByteArray→O R)→(ByteArray→LP→ByteArray→O R)→O R
 | 0,_,_,_,_,_,_,_,_,_,_,_=>none
 | m + 1,x1,x2,x3,x4,x5,x6,x7,x8,x9,k0,k1=>Uhc n (fun x1 x2 x3 x4 x5 x6 x7 x8 x9=>UcZ n m x1 x2 x3 x4 x5 x6 x7 x8 x9 k0 k1) x1 x2 x3 x4 x5 x6 x7 x8 x9 k0 k1
def UrC (n:Nat) (x1:LP) (x2:ByteArray) (x3:LP) (x4 x5:ByteArray) (x6:LP) (x7:ByteArray) (x8 x9:Int) (k0:ByteArray→Int→LP→ByteArray→O R) (k1:ByteArray→LP→ByteArray→O R):O R:=UcZ n n x1 x2 x3 x4 x5 x6 x7 x8 x9 k0 k1
def UEJ (n:Nat) (x1:LP) (x2:ByteArray) (x3:LP) (x4:ByteArray) (k0:LP→ByteArray→Int→O R):O R :=
 p22 n x2 x4 (fun y5 y6=>bif (y6 != 0) then (k0 [] ByteArray.empty y6) else (UrC n x1 x2 x3 x4 ByteArray.empty [] y5 0 0 (fun y7 y8 y9 y10=>k0 [] y7 y8) (fun y11 y12 y13=>k0 y12 y13 0)))
abbrev Uz8 (n:Nat):Code→Fr→Kc R→O R:=evC Tryz.prog (UoN n) Uav n (152,[])
noncomputable def UkR:Code:=Jj4 (Jll Tryz.f114) [1,1,1,1,1,0,0,0,1,0,0,1,1,1,1,1,1,1]
abbrev Uh2:Sl (List SV):=(.c (sBx 43 (cH (cS .n))) (.c (sBx 43 (cH (cS .n))) (.c (sBx 43 (.c sNl (cS .n))) (.c (sBx 43 (cO 66 (cS .n))) (cI (cI .n))))))
abbrev Ul1 (n:Nat) (K:Kc R):Uh2.T (O R):=fun x1 x2 x3 x4 x5 x6 x7 x8 x9=>Ub1 n x1 x2 x3 x4 x5 x6 x7 x8 x9 (fun y1 y2 y3 y4 y5 y6 y7 y8 y9=>xC Uav 12 K .normal [.bx 43 [vH y1,vS y2],.bx 43 [vH y3,vS y4],.bx 43 [.nl,vS y5],dD,.bx 43 [.own 66 y6,vS y7],vI y8,vI y9])
noncomputable def UkS:Code:=Jj4 (Jll Tryz.f114) [1,1,1,1,1,0,0,0,1]
abbrev Uh3:Sl (List SV):=(.c (sBx 43 (cH (cS .n))) (.c (sBx 43 (cH (cS .n))) (.c (sBx 43 (.c sNl (cS .n))) (.c (sBx 43 (cO 66 (cS .n))) (cI (cI .n))))))
abbrev Ul2 (n:Nat) (K:Kc R):Uh3.T (O R):=fun x1 x2 x3 x4 x5 x6 x7 x8 x9=>UaG n x1 x2 x3 x4 x5 x6 x7 x8 x9 (fun y1 y2 y3 y4 y5 y6 y7 y8 y9=>xC Uav 14 K .normal [.bx 43 [vH y1,vS y2],.bx 43 [vH y3,vS y4],.bx 43 [.nl,vS y5],dD,.bx 43 [.own 66 y6,vS y7],vI y8,vI y9]) (fun y1 y2 y3 y4 y5 y6 y7 y8 y9 y10=>xC Uav 14 K .ret [.bx 43 [vH y1,vS y2],.bx 43 [vH y3,vS y4],.bx 43 [.nl,vS y5],vI y6,.bx 43 [.own 66 y7,vS y8],vI y9,vI y10])
noncomputable def UkT:Code:=Jj4 (Jll Tryz.f114) [1,1,1,1,1,0,0,0,1,0,0,1]
abbrev Uh4:Sl (List SV):=(.c (sBx 43 (cH (cS .n))) (.c (sBx 43 (cH (cS .n))) (.c (sBx 43 (.c sNl (cS .n))) (.c (sBx 43 (cO 66 (cS .n))) (cI (cI (cB .n)))))))
abbrev Ul3 (n:Nat) (K:Kc R):Uh4.T (O R):=fun x1 x2 x3 x4 x5 x6 x7 x8 x9 x10=>Uaz n x1 x2 x3 x4 x5 x6 x7 x8 x9 x10 (fun y1 y2 y3 y4 y5 y6 y7 y8 y9=>xC Uav 15 K .normal [.bx 43 [vH y1,vS y2],.bx 43 [vH y3,vS y4],.bx 43 [.nl,vS y5],dD,.bx 43 [.own 66 y6,vS y7],vI y8,vI y9]) (fun y1 y2 y3 y4 y5 y6 y7 y8 y9 y10=>xC Uav 15 K .ret [.bx 43 [vH y1,vS y2],.bx 43 [vH y3,vS y4],.bx 43 [.nl,vS y5],vI y6,.bx 43 [.own 66 y7,vS y8],vI y9,vI y10])
noncomputable def UkU:Code:=Jj4 (Jll Tryz.f114) [1,1,1,1,1,0,0,0,1,0,0,1,1,1]
abbrev Uh5:Sl (List SV):=(.c (sBx 43 (cH (cS .n))) (.c (sBx 43 (cH (cS .n))) (.c (sBx 43 (.c sNl (cS .n))) (.c (sBx 43 (cO 66 (cS .n))) (cI (cI (cB .n)))))))
abbrev Ul4 (n:Nat) (K:Kc R):Uh5.T (O R):=fun x1 x2 x3 x4 x5 x6 x7 x8 x9 x10=>Ua6 n x1 x2 x3 x4 x5 x6 x7 x8 x9 x10 (fun y1 y2 y3 y4 y5 y6 y7 y8 y9=>xC Uav 18 K .normal [.bx 43 [vH y1,vS y2],.bx 43 [vH y3,vS y4],.bx 43 [.nl,vS y5],dD,.bx 43 [.own 66 y6,vS y7],vI y8,vI y9]) (fun y1 y2 y3 y4 y5 y6 y7 y8 y9 y10=>xC Uav 18 K .ret [.bx 43 [vH y1,vS y2],.bx 43 [vH y3,vS y4],.bx 43 [.nl,vS y5],vI y6,.bx 43 [.own 66 y7,vS y8],vI y9,vI y10])
noncomputable def UnS:Code:=Jj4 (Jll Tryz.f114) [1,1,1,1,1,0,0,0]
abbrev UdW:Sl (List SV):=(.c (sBx 43 (cH (cS .n))) (.c (sBx 43 (cH (cS .n))) (.c (sBx 43 (.c sNl (cS .n))) (.c (sBx 43 (cO 66 (cS .n))) (cI (cI .n))))))
abbrev Ujs (n m:Nat) (K:Kc R):UdW.T (O R):=fun x1 x2 x3 x4 x5 x6 x7 x8 x9=>UcZ n m x1 x2 x3 x4 x5 x6 x7 x8 x9 (fun y1 y2 y3 y4=>xL Uav 6 K .ret [.bx 43 [.nl,vS y1],vI y2,.bx 43 [.own 66 y3,vS y4]]) (fun y1 y2 y3=>xL Uav 6 K (.exit 0) [.bx 43 [.nl,vS y1],dD,.bx 43 [.own 66 y2,vS y3]])
abbrev UwT (n:Nat) (K:Kc R) (l0:UdW.T (O R)):UdW.T (O R):=fun x1 x2 x3 x4 x5 x6 x7 x8 x9=>Uhc n l0 x1 x2 x3 x4 x5 x6 x7 x8 x9 (fun y1 y2 y3 y4=>xL Uav 6 K .ret [.bx 43 [.nl,vS y1],vI y2,.bx 43 [.own 66 y3,vS y4]]) (fun y1 y2 y3=>xL Uav 6 K (.exit 0) [.bx 43 [.nl,vS y1],dD,.bx 43 [.own 66 y2,vS y3]])
abbrev Um5 (n:Nat):Orc R:=oL Uav (Uz8 n) n 6 UnS UdW (Ujs n n) oN
abbrev Um0 (n:Nat):Orc R:=oC Uav (Uz8 n) 18 UkU Uh5 (Ul4 n) (oC Uav (Uz8 n) 15 UkT Uh4 (Ul3 n) (oC Uav (Uz8 n) 14 UkS Uh3 (Ul2 n) (oC Uav (Uz8 n) 12 UkR Uh2 (Ul1 n) oN)))
abbrev UzN (R:Type) (n:Nat):=JcH (R:=R) Tryz.prog (UoN n) Uav n (152,[]) (Um5 n) (Um0 n)
theorem Utu (n:Nat):UzN R n (true,12,UkR):=JkW (lo:=Um5 n) (cu:=Um0 n) (pO pN (by kernel_rfl)) Uh2 (Ul1 n) (fun K _ _ _ _ _ _ _ _ _=>by show _=_; kernel_rfl) fun _ _=>rfl
theorem Utx (n:Nat):UzN R n (true,18,UkU):=JkW (lo:=Um5 n) (cu:=Um0 n) (pO (pC (Utu n) pN) (by kernel_rfl)) Uh5 (Ul4 n) (fun K _ _ _ _ _ _ _ _ _ _=>by show _=_; kernel_rfl) fun _ _=>rfl
theorem Utw (n:Nat):UzN R n (true,15,UkT):=JkW (lo:=Um5 n) (cu:=Um0 n) (pO (pC (Utx n) pN) (by kernel_rfl)) Uh4 (Ul3 n) (fun K _ _ _ _ _ _ _ _ _ _=>by show _=_; kernel_rfl) fun _ _=>rfl
theorem Utv (n:Nat):UzN R n (true,14,UkS):=JkW (lo:=Um5 n) (cu:=Um0 n) (pO (pC (Utw n) pN) (by kernel_rfl)) Uh3 (Ul2 n) (fun K _ _ _ _ _ _ _ _ _=>by show _=_; kernel_rfl) fun _ _=>rfl
theorem UyO (n:Nat):UzN R n (false,6,UnS):=JkF (lo:=Um5 n) (cu:=Um0 n) (pO (pC (Utv n) pN) (by kernel_rfl)) UdW (Ujs n n) (JiE (F:=Ujs n) UdW (UwT n) (fun K _ _ _ _ _ _ _ _ _=>rfl) (fun _ _=>rfl) (fun L K _ _ _ _ _ _ _ _ _=>by show _=_; kernel_rfl) n) fun _ _=>rfl
theorem UG5 (n:Nat):Je6 (UzN R n) (JaJ Uav (Jll Tryz.f114)):=pO (pC (UyO n) pN) (by kernel_rfl)
abbrev UHK:Sl (List SV):=(.c (sP (JlI (.c sSh (.c Jly .n)))) (.c (sP (JlI (.c sSh (.c Jly .n)))) .n))
abbrev f114 (n:Nat) (K:List SV→O R):UHK.T (O R):=fun x1 x2 x3 x4=>UEJ n x1 x2 x3 x4 (fun y1 y2 y3=>K [.p (.agg [.sh y1,.v (.string y2)]),vI y3])
abbrev UBS (n:Nat):FS:=fT [false,false] UHK (f114 n)
theorem UGe (n:Nat):FSound Tryz.prog GI 114 (UBS n):=gd Uav n (Ulx n) Tryz.func114 (.cons (Ulx n) UHK (f114 n) (fun K _ _ _ _=>(Jkq (c:=Jll Tryz.f114) (by kernel_rfl) (UG5 n) K).trans (by kernel_rfl)) .nil) (by kernel_rfl)
def Uww:Ann:={ loops:=[],cuts:=[],frz:=[],rm:=[.id,.id] }
abbrev UBm (n:Nat):Env:=eC 114 (UBS n) (eC 52 (UzX n) eN)
theorem UpR (n:Nat):EnvOK Tryz.prog GI (UBm n):=.cons (.cons (.nil) (UCD n)) (UGe n)
def p75 (n:Nat) (x1:LP) (x2:ByteArray) (x3:LP) (x4:ByteArray) (k0:LP→ByteArray→Int→O R):O R :=
 p52 n x1 x2 (fun y5=>bif (y5 != 0) then (k0 [] ByteArray.empty 3) else (p52 n x3 x4 (fun y6=>bif (bif false then true else (y6 != 0)) then (k0 [] ByteArray.empty 3) else (UEJ n x1 x2 x3 x4 (fun y7 y8 y9=>k0 y7 y8 y9)))))
abbrev ULJ (n:Nat):Orc R:=oN
abbrev UK4 (n:Nat):Orc R:=oN
abbrev K75 (R:Type) (n:Nat):=JcH (R:=R) Tryz.prog (UBm n) Uww n (20,[]) (ULJ n) (UK4 n)
theorem UNp (n:Nat):Je6 (K75 R n) (JaJ Uww (Jll Tryz.f75)):=pO pN (by kernel_rfl)
abbrev t75:Sl (List SV):=(.c (sP (JlI (.c sSh (.c Jly .n)))) (.c (sP (JlI (.c sSh (.c Jly .n)))) .n))
abbrev f75 (n:Nat) (K:List SV→O R):t75.T (O R):=fun x1 x2 x3 x4=>p75 n x1 x2 x3 x4 (fun y1 y2 y3=>K [.p (.agg [.sh y1,.v (.string y2)]),vI y3])
abbrev UJm (n:Nat):FS:=fT [false,false] t75 (f75 n)
theorem UMq (n:Nat):FSound Tryz.prog GI 75 (UJm n):=gd Uww n (UpR n) Tryz.func75 (.cons (UpR n) t75 (f75 n) (fun K _ _ _ _=>(Jkq (c:=Jll Tryz.f75) (by kernel_rfl) (UNp n) K).trans (by kernel_rfl)) .nil) (by kernel_rfl)
end
end Go.Proofs.YtmgfmlhdnadglaaGreatDoor
set_option linter.unusedVariables false
set_option linter.unusedSimpArgs false
namespace Go.Proofs.YtmgfmlhdnadglaaGreatDoor
open Go Th Go.Proofs
variable {R:Type}
noncomputable def aQ (l:List TermT):Bool:=l.all fun t=>qb t.2
def inC (c:Int):Bool:=decide (0≤c)&&decide (c<2048)
def aC (l:List TermT):Bool:=l.all fun t=>inC t.1
def aO:Int→List TermT→Bool
 | _,[]=>true
 | last,t::r=>if t.2=[48] then false else if t.1≤last then false else aO t.1 r
noncomputable def UEv (l:List TermT) (c:List UInt8):Int:=if qb c=true then (if aQ l=true then (if aC l=true then (if aO (-1) l=true then 0 else 3) else 2) else 3) else 3
theorem Uff:∀ {l:List TermT} {last:Int},-1≤last→(okT 2048 last l=true↔(aQ l=true∧aC l=true∧aO last l=true))
 | [],last,_=>by simp [okT,aQ,aC,aO]
 | t::l,last,h=>by
  have ih:=fun (h':-1≤t.1)=>Uff (l:=l) (last:=t.1) h'
  simp only [okT,aQ,aC,aO,List.all_cons,Bool.and_eq_true] at ih ⊢
  by_cases h1:t.1≤last
  · simp [h1]
  · have h1':=ih (by omega)
    have e0:inC t.1=decide (t.1<2048):=by
     unfold inC
     rw [decide_eq_true (by omega:0≤t.1),Bool.true_and]
    by_cases h2:t.1≥2048
    · have e1:inC t.1=false:=by rw [e0]; simp; omega
      simp [h1,h2,e1]
    · have e1:inC t.1=true:=by rw [e0]; simp; omega
      by_cases h3:t.2=[48]
      · simp [h1,h2,h3]
      · rw [if_neg h1,if_neg h2,if_neg h3,if_neg h3,if_neg h1,Bool.and_eq_true,h1',e1]
        grind
theorem UCi {l:List TermT} {c:List UInt8}:UEv l c=0↔(okT 2048 (-1) l=true∧qb c=true):=by
 rw [Uff (by omega)]
 unfold UEv
 cases qb c <;> cases aQ l <;> cases aC l <;> cases aO (-1) l <;> simp
theorem UC0 (n:Nat) (x:Int) (k0:Bool→Option R):p80 n x k0=k0 (inC x):=by
 unfold p80 inC
 by_cases h:x≥0
 · have e:decide (x≥0)=true:=decide_eq_true h
   rw [e]; rfl
 · have e:decide (x≥0)=false:=decide_eq_false h
   rw [e]; rfl
theorem Uxj (n:Nat) (l:List TermT) (hn:l.length<n) (hl:l.length<2 ^ 17) (k0:Int→Option R) (k1:Option R):Uft n (-1) (tms l) ((tms l).length:Int) 0 k0 k1=if aO (-1) l=true then k1 else k0 3:=by
 unfold Uft
 have key:∀ (r:List TermT) (last:Int),UvY (fun (s:Int) (t:TermT) K=>if t.2=[48] then k0 3 else if t.1≤s then k0 3 else K t.1) (fun _=>k1) last r=if aO last r=true then k1 else k0 3:=by
  intro r
  induction r with
  | nil=>intro last; rfl
  | cons t r ih =>
   intro last
   simp only [UvY,aO]
   by_cases h1:t.2=[48]
   · simp [h1]
   · by_cases h2:t.1≤last
     · simp [h1,h2]
     · simp [h1,h2,ih]
 have h:=UfA (R:=R) (l:=l) (step:=fun (s:Int) (t:TermT) K=>if t.2=[48] then k0 3 else if t.1≤s then k0 3 else K t.1) (kend:=fun _=>k1)
  (fun m s i=>Ucc n m s (tms l) ((tms l).length:Int) (i:Int) k0 k1)
  (fun m s=>by simp only [Ucc,UeR]; simp (disch:=(first | omega | (simp only [JlE]; omega))) only [↓JlH,JlF,Ua])
  (fun m s i hi=>by
    simp only [Ucc,UeR]
    by_cases h1:(l[i]).2=[48]
    · simp (disch:=(first | omega | (simp only [JlE]; omega))) only [↓JlH,JlF,Ua,Jji,Uar hi,i1,Uja h1]
    · by_cases h2:(l[i]).1≤s
      · simp (disch:=(first | omega | (simp only [JlE]; omega))) only [↓JlH,JlF,Ua,Jji,Uar hi,i1,Uis h1]
      · simp (disch:=(first | omega | (simp only [JlE]; omega))) only [↓JlH,JlF,Ua,Jji,Uar hi,i1,Uis h1]) l.length n 0 (-1) (by omega) (by omega)
 rw [List.drop_zero,key] at h
 exact h
theorem UsT (n:Nat) (hn:10 ^ 400≤n) (l:List TermT) (c:List UInt8) (hl:smT l) (hc:c.length<2 ^ 17) (k0:Int→Option R):p52 n (tms l) (bs c) k0=k0 (UEv l c):=by
 have hN:=UaC hn
 have hL:=hl.1
 have e3:=Uxj (R:=R) n l (by omega) hL k0 (k0 0)
 have h4:=Uau (R:=R) (l:=l) (ok:=fun t=>qb t.2) (kbad:=k0 3) (kend:=if aC l=true then (if aO (-1) l=true then k0 0 else k0 3) else k0 2)
  (fun m i=>Udz n m (tms l) (bs c) (tms l) ((tms l).length:Int) (i:Int) (fun y4 y5 y6=>k0 y6) (fun y7 y8=>Uj3 n y7 y8 y7 ((y7).length:Int) 0 (fun y9 y10 y11=>k0 y11) (fun y12 y13=>Uft n (-1) y12 ((y12).length:Int) 0 (fun y14=>k0 y14) (k0 0))))
  (fun m=>by
    have h10:=Uau (R:=R) (l:=l) (ok:=fun t=>inC t.1) (kbad:=k0 2) (kend:=if aO (-1) l=true then k0 0 else k0 3)
     (fun m i=>Ucb n m (tms l) (bs c) (tms l) ((tms l).length:Int) (i:Int) (fun y9 y10 y11=>k0 y11) (fun y12 y13=>Uft n (-1) y12 ((y12).length:Int) 0 (fun y14=>k0 y14) (k0 0)))
     (fun m=>by
       simp only [Ucb,UeQ]
       simp (disch:=(first | omega | (simp only [JlE]; omega))) only [↓JlH,JlF,Ua]
       rw [Ua] at e3
       exact e3)
     (fun m i hi=>by
       have hv:=fun k=>UC0 (R:=R) n (l[i]).1 k
       simp only [Ucb,UeQ]
       simp (disch:=(first | omega | (simp only [JlE]; omega))) only [↓JlH,JlF,Ua,Jji,Uar hi,i1,hv]
       cases inC (l[i]).1 <;> rfl) l.length n 0 (by omega) (by omega)
    rw [List.drop_zero] at h10
    simp only [Udz,Uhy]
    unfold Uj3
    simp (disch:=(first | omega | (simp only [JlE]; omega))) only [↓JlH,JlF,Ua]
    rw [Ua] at h10
    exact h10)
  (fun m i hi=>by
    have hv:=fun k=>Uef (R:=R) n hn (l[i]).2 (hl.2 _ (List.getElem_mem hi)) k
    simp only [Udz,Uhy]
    simp (disch:=(first | omega | (simp only [JlE]; omega))) only [↓JlH,JlF,Ua,Jji,Uar hi,i1,hv]
    cases qb (l[i]).2 <;> rfl) l.length n 0 (by omega) (by omega)
 rw [List.drop_zero] at h4
 unfold p52
 rw [Uef n hn c hc]
 unfold UEv UvL
 cases qb c with
 | false=>rfl
 | true =>
  refine Eq.trans h4 ?_
  unfold aQ
  cases (l.all fun t=>qb t.2) <;> cases aC l <;> cases aO (-1) l <;> rfl
theorem UhV {q:Rat} (h:fits q):(Uag q).length<2 ^ 17:=Nat.lt_of_le_of_lt (Ubt h) (by decide)
theorem UD7 {cols:Int} {l:List SpT} (h:okN cols l) (hl:l.length<2 ^ 17):smT (vt l):=by
 refine ⟨by rw [Uas]; exact hl,fun t ht=>?_⟩
 unfold vt at ht
 obtain ⟨x,hx,rfl⟩:=List.mem_map.1 ht
 exact UhV (h x hx).2.1
theorem UnC {cols:Int}:∀ {l:List SpT} {a:Int},asc a l→okN cols l→a<cols→(l.length:Int)≤cols - a - 1
 | [],a,_,_,h=>by simp only [List.length_nil]; omega
 | t::l,a,h1,h2,h=>by
  have h3:=(h2 t (List.mem_cons_self ..)).2.2
  have:=UnC h1.2 (fun x hx=>h2 x (List.mem_cons_of_mem _ hx)) h3
  have:=h1.1
  rw [List.length_cons]
  omega
theorem UbK {l:List SpT} (h:okS 2048 l):l.length≤2048:=by
 have:=UnC h.1 h.2 (by decide)
 omega
theorem Ue8 (n:Nat) (hn:10 ^ 400≤n) {r:SpR} (hr:okF 2048 r) (k0:Int→Option R):p52 n (tms (vt r.1)) (bs (Uag r.2)) k0=k0 0:=by
 have:=UbK hr.1
 rw [UsT n hn (vt r.1) (Uag r.2) (UD7 hr.1.2 (by omega)) (UhV hr.2),UCi.2 ⟨Urs hr.1.1 hr.1.2,Ueu hr.2⟩]
end Go.Proofs.YtmgfmlhdnadglaaGreatDoor
set_option linter.unusedVariables false
set_option maxRecDepth 100000
namespace Go.Proofs.YtmgfmlhdnadglaaGreatDoor
open Go Th Go.Proofs
noncomputable section
variable {R:Type}
def UgG:Ann:={ loops:=[(3,ids [1,2,4,6,13,14],ids [4,5,6])],cuts:=[],frz:=[],rm:=[.id,.id] }
abbrev UxD (n:Nat):Env:=eC 75 (UJm n) (eC 74 (UJl n) eN)
theorem Upj (n:Nat):EnvOK Tryz.prog GI (UxD n):=.cons (.cons (.nil) (UMp n)) (UMq n)
def Uhs (n:Nat) (l0:LP→Int→LP→ByteArray→LP→ByteArray→Int→Int→O R) (x1:LP) (x2:Int) (x3:LP) (x4:ByteArray) (x5:LP) (x6:ByteArray) (x7 x8:Int) (k0:LP→ByteArray→Int→LP→ByteArray→O R) (k1:ByteArray→LP→ByteArray→O R):O R :=
 bif (decide (x8<x7)) then (bif (inR x8 ((x1).length)) then (Jj3 ((x1).getD ((x8:Int).toNat) (.v (.bool false))) fun e9=>bif (eqS e9 (⟨#[48]⟩:ByteArray)) then (l0 x1 x2 x3 x4 x5 x6 x7 (IntKind.i64.wrap (x8 + 1))) else (bif (inR x8 ((x3).length)) then (Jh2 ((x3).getD ((x8:Int).toNat) (.v (.bool false))) fun a10=>JdT a10 fun h11 t12=>Jkr h11 fun e13=>JdT t12 fun h14 t15=>Jj3 h14 fun e16=>JdT t15 fun h17 t18=>Jj2 h17 fun e19=>JdT t18 fun h20 t21=>Jj .i64 h20 fun e22=>Ji2 t21 (bif (inR x8 ((x3).length)) then (Jh2 ((x3).getD ((x8:Int).toNat) (.v (.bool false))) fun a23=>JdT a23 fun h24 t25=>Jkr h24 fun e26=>JdT t25 fun h27 t28=>Jj3 h27 fun e29=>JdT t28 fun h30 t31=>Jj2 h30 fun e32=>JdT t31 fun h33 t34=>Jj .i64 h33 fun e35=>Ji2 t34 (bif (inR x8 ((x1).length)) then (Jj3 ((x1).getD ((x8:Int).toNat) (.v (.bool false))) fun e36=>p74 n e13 e29 e36 (fun y37 y38 y39=>bif (y39 != 0) then (k0 [] ByteArray.empty y39 x5 x6) else (p75 n x5 x6 y37 y38 (fun y40 y41 y42=>bif (y42 != 0) then (k0 [] ByteArray.empty y42 y40 y41) else (l0 x1 x2 x3 x4 y40 y41 x7 (IntKind.i64.wrap (x8 + 1))))))) else none)) else none)) else none)) else none) else (k1 x4 x5 x6)
def Udu (n:Nat):Nat→LP→Int→LP→ByteArray→LP→ByteArray→Int→Int→(LP→ByteArray→Int→LP→ByteArray→O R)→(ByteArray→LP→ByteArray→O R)→O R
 | 0,_,_,_,_,_,_,_,_,_,_=>none
 | m + 1,x1,x2,x3,x4,x5,x6,x7,x8,k0,k1=>Uhs n (fun x1 x2 x3 x4 x5 x6 x7 x8=>Udu n m x1 x2 x3 x4 x5 x6 x7 x8 k0 k1) x1 x2 x3 x4 x5 x6 x7 x8 k0 k1
def UvF (n:Nat) (x1:LP) (x2:Int) (x3:LP) (x4:ByteArray) (x5:LP) (x6:ByteArray) (x7 x8:Int) (k0:LP→ByteArray→Int→LP→ByteArray→O R) (k1:ByteArray→LP→ByteArray→O R):O R:=Udu n n x1 x2 x3 x4 x5 x6 x7 x8 k0 k1
def p30 (n:Nat) (x1:Int) (x2 x3:LP) (k0:LP→ByteArray→Int→O R):O R :=
 UvF n x3 x1 x2 ByteArray.empty [] ⟨#[48]⟩ ((x2).length:Int) 0 (fun y4 y5 y6 y7 y8=>k0 y4 y5 y6) (fun y9 y10 y11=>k0 y10 y11 0)
abbrev E30 (n:Nat):Code→Fr→Kc R→O R:=evC Tryz.prog (UxD n) UgG n (59,[])
noncomputable def Uuf:Code:=Jj4 (Jll Tryz.f30) [1,1,0,1,0,0]
abbrev Ugd:Sl (List SV):=(cH (.c (sBx 24 (cI (cH .n))) (.c (sBx 43 (.c sNl (cS .n))) (.c (sBx 43 (cH (cS .n))) (cI (cI .n))))))
abbrev UqD (n m:Nat) (K:Kc R):Ugd.T (O R):=fun x1 x2 x3 x4 x5 x6 x7 x8=>Udu n m x1 x2 x3 x4 x5 x6 x7 x8 (fun y1 y2 y3 y4 y5=>xL UgG 3 K .ret [.bx 43 [vH y1,vS y2],vI y3,.bx 43 [vH y4,vS y5]]) (fun y1 y2 y3=>xL UgG 3 K (.exit 0) [.bx 43 [.nl,vS y1],dD,.bx 43 [vH y2,vS y3]])
abbrev UAj (n:Nat) (K:Kc R) (l0:Ugd.T (O R)):Ugd.T (O R):=fun x1 x2 x3 x4 x5 x6 x7 x8=>Uhs n l0 x1 x2 x3 x4 x5 x6 x7 x8 (fun y1 y2 y3 y4 y5=>xL UgG 3 K .ret [.bx 43 [vH y1,vS y2],vI y3,.bx 43 [vH y4,vS y5]]) (fun y1 y2 y3=>xL UgG 3 K (.exit 0) [.bx 43 [.nl,vS y1],dD,.bx 43 [vH y2,vS y3]])
abbrev UJB (n:Nat):Orc R:=oL UgG (E30 n) n 3 Uuf Ugd (UqD n n) oN
abbrev UIt (n:Nat):Orc R:=oN
abbrev K30 (R:Type) (n:Nat):=JcH (R:=R) Tryz.prog (UxD n) UgG n (59,[]) (UJB n) (UIt n)
theorem UDh (n:Nat):K30 R n (false,3,Uuf):=JkF (lo:=UJB n) (cu:=UIt n) (pO pN (by kernel_rfl)) Ugd (UqD n n) (JiE (F:=UqD n) Ugd (UAj n) (fun K _ _ _ _ _ _ _ _=>rfl) (fun _ _=>rfl) (fun L K _ _ _ _ _ _ _ _=>by show _=_; kernel_rfl) n) fun _ _=>rfl
theorem UMS (n:Nat):Je6 (K30 R n) (JaJ UgG (Jll Tryz.f30)):=pO (pC (UDh n) pN) (by kernel_rfl)
abbrev t30:Sl (List SV):=(.c (sP (JlI (.c (Jlv .i64) (.c sSh .n)))) (cH .n))
abbrev f30 (n:Nat) (K:List SV→O R):t30.T (O R):=fun x1 x2 x3=>p30 n x1 x2 x3 (fun y1 y2 y3=>K [.p (.agg [.sh y1,.v (.string y2)]),vI y3])
abbrev UEn (n:Nat):FS:=fT [false,false] t30 (f30 n)
theorem UGB (n:Nat):FSound Tryz.prog GI 30 (UEn n):=gd UgG n (Upj n) Tryz.func30 (.cons (Upj n) t30 (f30 n) (fun K _ _ _=>(Jkq (c:=Jll Tryz.f30) (by kernel_rfl) (UMS n) K).trans (by kernel_rfl)) .nil) (by kernel_rfl)
def UmW:Ann:={ loops:=[],cuts:=[(3,ids [1,2,4],ids [4,5])],frz:=[],rm:=[.id,.id] }
abbrev Uxy (n:Nat):Env:=eC 66 (UFu n) (eC 65 (UEr n) (eC 30 (UEn n) eN))
theorem Upc (n:Nat):EnvOK Tryz.prog GI (Uxy n):=.cons (.cons (.cons (.nil) (UGB n)) (UGF n)) (UJZ n)
def UmB (n:Nat) (x1:LP) (x2:Int) (x3:LP) (x4:ByteArray) (k0:LP→ByteArray→Int→O R):O R :=
 bif (((x1).length:Int) != ((x3).length:Int)) then (k0 [] ByteArray.empty 6) else (p30 n x2 x3 x1 (fun y5 y6 y7=>k0 y5 y6 y7))
def p23 (n:Nat) (x1:Int) (x2 x3:LP) (k0:LP→ByteArray→Int→O R):O R :=
 p65 n x1 x2 (fun y4=>bif (y4 != 0) then (k0 [] ByteArray.empty 3) else (p66 n x3 (fun y5=>bif (bif false then true else (!y5)) then (k0 [] ByteArray.empty 3) else (UmB n x3 x1 x2 ByteArray.empty (fun y6 y7 y8=>k0 y6 y7 y8)))))
abbrev E23 (n:Nat):Code→Fr→Kc R→O R:=evC Tryz.prog (Uxy n) UmW n (27,[])
noncomputable def Ut7:Code:=Jj4 (Jll Tryz.f23) [1,1]
abbrev Usk:Sl (List SV):=(cH (.c (sBx 24 (cI (cH .n))) (.c (sBx 43 (.c sNl (cS .n))) .n)))
abbrev Uu6 (n:Nat) (K:Kc R):Usk.T (O R):=fun x1 x2 x3 x4=>UmB n x1 x2 x3 x4 (fun y1 y2 y3=>xC UmW 3 K .ret [.bx 43 [vH y1,vS y2],vI y3])
abbrev UJy (n:Nat):Orc R:=oN
abbrev UIq (n:Nat):Orc R:=oC UmW (E23 n) 3 Ut7 Usk (Uu6 n) oN
abbrev K23 (R:Type) (n:Nat):=JcH (R:=R) Tryz.prog (Uxy n) UmW n (27,[]) (UJy n) (UIq n)
theorem UC7 (n:Nat):K23 R n (true,3,Ut7):=JkW (lo:=UJy n) (cu:=UIq n) (pO pN (by kernel_rfl)) Usk (Uu6 n) (fun K _ _ _ _=>by show _=_; kernel_rfl) fun _ _=>rfl
theorem UML (n:Nat):Je6 (K23 R n) (JaJ UmW (Jll Tryz.f23)):=pO (pC (UC7 n) pN) (by kernel_rfl)
abbrev t23:Sl (List SV):=(.c (sP (JlI (.c (Jlv .i64) (.c sSh .n)))) (cH .n))
abbrev f23 (n:Nat) (K:List SV→O R):t23.T (O R):=fun x1 x2 x3=>p23 n x1 x2 x3 (fun y1 y2 y3=>K [.p (.agg [.sh y1,.v (.string y2)]),vI y3])
abbrev UFn (n:Nat):FS:=fT [false,false] t23 (f23 n)
theorem UJS (n:Nat):FSound Tryz.prog GI 23 (UFn n):=gd UmW n (Upc n) Tryz.func23 (.cons (Upc n) t23 (f23 n) (fun K _ _ _=>(Jkq (c:=Jll Tryz.f23) (by kernel_rfl) (UML n) K).trans (by kernel_rfl)) .nil) (by kernel_rfl)
def UgH:Ann:={ loops:=[(2,ids [1,2,8,9],ids [4])],cuts:=[],frz:=[],rm:=[.id] }
abbrev UxE (n:Nat):Env:=eC 19 (Uyc n) eN
theorem Upk (n:Nat):EnvOK Tryz.prog GI (UxE n):=.cons (.nil) (Uz0 n)
def UrQ (n:Nat) (l0:LP→Int→LP→Int→Int→O R) (x1:LP) (x2:Int) (x3:LP) (x4 x5:Int) (k0:Bool→O R) (k1:O R):O R :=
 bif (decide (x5<x4)) then (bif (inR x5 ((x3).length)) then (Jh2 ((x3).getD ((x5:Int).toNat) (.v (.bool false))) fun a6=>JdT a6 fun h7 t8=>Jkr h7 fun e9=>JdT t8 fun h10 t11=>Jj3 h10 fun e12=>JdT t11 fun h13 t14=>Jj2 h13 fun e15=>JdT t14 fun h16 t17=>Jj .i64 h16 fun e18=>Ji2 t17 (bif (!e15) then (bif (inR x5 ((x1).length)) then (Jj3 ((x1).getD ((x5:Int).toNat) (.v (.bool false))) fun e19=>p19 n e19 ⟨#[48]⟩ (fun y20=>bif (bif true then (decide (y20<0)) else false) then (k0 false) else (l0 x1 x2 x3 x4 (IntKind.i64.wrap (x5 + 1))))) else none) else (l0 x1 x2 x3 x4 (IntKind.i64.wrap (x5 + 1))))) else none) else (k1)
def UjX (n:Nat):Nat→LP→Int→LP→Int→Int→(Bool→O R)→(O R)→O R
 | 0,_,_,_,_,_,_,_=>none
 | m + 1,x1,x2,x3,x4,x5,k0,k1=>UrQ n (fun x1 x2 x3 x4 x5=>UjX n m x1 x2 x3 x4 x5 k0 k1) x1 x2 x3 x4 x5 k0 k1
def UCQ (n:Nat) (x1:LP) (x2:Int) (x3:LP) (x4 x5:Int) (k0:Bool→O R) (k1:O R):O R:=UjX n n x1 x2 x3 x4 x5 k0 k1
def p31 (n:Nat) (x1:Int) (x2 x3:LP) (k0:Bool→O R):O R :=
 UCQ n x3 x1 x2 ((x2).length:Int) 0 (fun y4=>k0 y4) (k0 true)
abbrev E31 (n:Nat):Code→Fr→Kc R→O R:=evC Tryz.prog (UxE n) UgH n (28,[])
noncomputable def Uug:Code:=Jj4 (Jll Tryz.f31) [1,0,1,0,0]
abbrev Uge:Sl (List SV):=(cH (.c (sBx 24 (cI (cH .n))) (cI (cI .n))))
abbrev UqE (n m:Nat) (K:Kc R):Uge.T (O R):=fun x1 x2 x3 x4 x5=>UjX n m x1 x2 x3 x4 x5 (fun y1=>xL UgH 2 K .ret [vB y1]) (xL UgH 2 K (.exit 0) [dD])
abbrev UAk (n:Nat) (K:Kc R) (l0:Uge.T (O R)):Uge.T (O R):=fun x1 x2 x3 x4 x5=>UrQ n l0 x1 x2 x3 x4 x5 (fun y1=>xL UgH 2 K .ret [vB y1]) (xL UgH 2 K (.exit 0) [dD])
abbrev UJC (n:Nat):Orc R:=oL UgH (E31 n) n 2 Uug Uge (UqE n n) oN
abbrev UIu (n:Nat):Orc R:=oN
abbrev K31 (R:Type) (n:Nat):=JcH (R:=R) Tryz.prog (UxE n) UgH n (28,[]) (UJC n) (UIu n)
theorem UDi (n:Nat):K31 R n (false,2,Uug):=JkF (lo:=UJC n) (cu:=UIu n) (pO pN (by kernel_rfl)) Uge (UqE n n) (JiE (F:=UqE n) Uge (UAk n) (fun K _ _ _ _ _=>rfl) (fun _ _=>rfl) (fun L K _ _ _ _ _=>by show _=_; kernel_rfl) n) fun _ _=>rfl
theorem UMT (n:Nat):Je6 (K31 R n) (JaJ UgH (Jll Tryz.f31)):=pO (pC (UDi n) pN) (by kernel_rfl)
abbrev t31:Sl (List SV):=(.c (sP (JlI (.c (Jlv .i64) (.c sSh .n)))) (cH .n))
abbrev f31 (n:Nat) (K:List SV→O R):t31.T (O R):=fun x1 x2 x3=>p31 n x1 x2 x3 (fun y1=>K [vB y1])
abbrev UFp (n:Nat):FS:=fT [false,false] t31 (f31 n)
theorem UJU (n:Nat):FSound Tryz.prog GI 31 (UFp n):=gd UgH n (Upk n) Tryz.func31 (.cons (Upk n) t31 (f31 n) (fun K _ _ _=>(Jkq (c:=Jll Tryz.f31) (by kernel_rfl) (UMT n) K).trans (by kernel_rfl)) .nil) (by kernel_rfl)
end
end Go.Proofs.YtmgfmlhdnadglaaGreatDoor
set_option linter.unusedVariables false
set_option linter.unusedSimpArgs false
namespace Go.Proofs.YtmgfmlhdnadglaaGreatDoor
open Go Th Go.Proofs
variable {R:Type}
theorem UF3:((5:Int) != 0)=true:=rfl
theorem Uro:((0:Int) != 0)=false:=rfl
theorem UaQ {l:List SpT} {i:Nat} {d:PV} (h:i<l.length) (K:Int→ByteArray→Option R) :
 (Jh2 ((tms (vt l)).getD i d) fun a=>JdT a fun h1 t1=>Jj .i64 h1 fun e1=>JdT t1 fun h2 t2=>Jj3 h2 fun e2=>Ji2 t2 (K e1 e2))=K ((l[i]).1:Int) (bs (Uag (l[i]).2)):=by
 rw [Uar (by rw [Uas]; exact h),UD6]
theorem Udd (acc:List SpT) (k:Nat) (y:Rat):tms (vt acc)++[.agg [.v (.int .i64 (k:Int)),.v (.string (bs (Uag y)))]]=tms (vt (acc++[(k,y)])):=by
 unfold tms vt
 rw [List.map_append,List.map_append]; rfl
theorem ULh (q:Rat):eqS (bs (Uag q)) (⟨#[48]⟩:ByteArray)=decide (q=0):=by
 rw [e48,Bool.eq_iff_iff,decide_eq_true_iff,decide_eq_true_iff,Uei]
noncomputable def UsE (k0:List PV→ByteArray→Int→Option R):Option SpR→Option R
 | none=>k0 [] (bs []) 5
 | some x=>k0 (tms (vt x.1)) (bs (Uag x.2)) 0
open Classical in
noncomputable def scS (q:Rat) (acc:List SpT) (t:SpT):Option (List SpT):=if fits (t.2 * q) then some (acc++[(t.1,t.2 * q)]) else none
theorem Usf (q:Rat):∀ (l acc:List SpT),UaH (scS q) acc l=(scO q l).map (acc++·)
 | [],acc=>by simp [UaH,scO]
 | t::l,acc=>by
  rw [UaH,scS]
  by_cases h:fits (t.2 * q)
  · rw [if_pos h,Option.bind_some,Usf q l]
    unfold scO
    by_cases h2:∀ x∈l,fits (x.2 * q)
    · rw [if_pos h2,if_pos (by intro x hx; rcases List.mem_cons.1 hx with rfl | hx; exact h; exact h2 x hx)]
      simp
    · rw [if_neg h2,if_neg (fun h3=>h2 fun x hx=>h3 x (List.mem_cons_of_mem _ hx))]; rfl
  · rw [if_neg h]
    unfold scO
    rw [if_neg (fun h3=>h (h3 t (List.mem_cons_self ..)))]; rfl
theorem Urc (n:Nat) (hn:10 ^ 1000≤n) {r:SpR} (hr:okF 2048 r) {q:Rat} (hq:fits q) (h0:q≠0) (k0:List PV→ByteArray→Int→Option R) :
 UEI n (tms (vt r.1)) (bs (Uag r.2)) (bs (Uag q)) k0=UsE k0 (tmO q r):=by
 have hN:=UaC (Ubb hn)
 have hL:=UbK hr.1
 have hm:=fun (t:Rat) (ht:fits t) k=>UAa (R:=R) n hn t q ht hq k
 unfold UEI
 rw [ULh,decide_eq_false h0,Uam,hm r.2 hr.2]
 unfold tmO
 by_cases hf:fits (r.2 * q)
 · rw [UeU hf,if_pos hf,Uro,Uam]
   have h:=Udc (R:=R) (l:=r.1) (step:=scS q) (kerr:=k0 [] (bs []) 5) (kend:=fun acc=>k0 (tms (vt acc)) (bs (Uag (r.2 * q))) 0) (Inv:=fun i acc=>acc.length=i)
    (fun m acc i=>Ub0 n m (bs (Uag q)) ByteArray.empty (tms (vt acc)) (bs (Uag (r.2 * q))) (tms (vt r.1)) ((tms (vt r.1)).length:Int) (i:Int) (fun y6 y7 y8 y9=>k0 [] y6 y7) (fun y10 y11 y12=>k0 y11 y12 0))
    (fun m acc ha=>by simp only [Ub0,UeE]; simp (disch:=(first | omega | (simp only [JlE]; omega))) only [↓JlH,JlF,Ua,Uas])
    (fun acc acc' i hi ha he=>by
      unfold scS at he
      split at he
      · simp only [Option.some.injEq] at he
        rw [←he,List.length_append,ha]; rfl
      · cases he)
    (fun m acc i hi ha=>by
      have hv:=hm (r.1[i]).2 (hr.1.2 _ (List.getElem_mem hi)).2.1
      simp only [Ub0,UeE]
      unfold scS
      by_cases h1:fits ((r.1[i]).2 * q)
      · have hv':∀ k,p21 n (bs (Uag (r.1[i]).2)) (bs (Uag q)) k=k (bs (Uag ((r.1[i]).2 * q))) 0:=fun k=>by rw [hv,UeU h1]
        rw [if_pos h1]
        simp (disch:=(first | omega | (simp only [JlE]; omega))) only [↓JlH,JlF,Ua,Uas,Jji,UaQ hi,i1,hv',Uro,Udd]
        rfl
      · have hv':∀ k,p21 n (bs (Uag (r.1[i]).2)) (bs (Uag q)) k=k (bs []) 5:=fun k=>by rw [hv]; unfold Und; rw [if_neg h1]
        rw [if_neg h1]
        simp (disch:=(first | omega | (simp only [JlE]; omega))) only [↓JlH,JlF,Ua,Uas,Jji,UaQ hi,i1,hv',UF3]
        rfl) r.1.length n 0 [] (by omega) (by omega) rfl
   rw [List.drop_zero,Usf] at h
   unfold UrB
   refine Eq.trans h ?_
   cases scO q r.1 <;> rfl
 · unfold Und
   rw [if_neg hf,if_neg hf]; rfl
theorem Urb (n:Nat) (hn:10 ^ 1000≤n) {r:SpR} (hr:okF 2048 r) {q:Rat} (hq:fits q) (h0:q≠0) (k0:List PV→ByteArray→Int→Option R) :
 p74 n (tms (vt r.1)) (bs (Uag r.2)) (bs (Uag q)) k0=UsE k0 (tmO q r):=by
 have hN:=UaC (Ubb hn)
 unfold p74
 rw [Ue8 n (Ubb hn) hr,Uro,Uam,Uef n (Ubb hn) _ (UhV hq),Ueu hq]
 exact Urc n hn hr hq h0 k0
theorem UaE (n:Nat) (hn:10 ^ 1000≤n) {a b:List SpT} (ha:okS 2048 a) (hb:okS 2048 b) (x2 x4 x7:ByteArray) (k0:List PV→ByteArray→Int→Option R) (k1:ByteArray→List PV→ByteArray→Option R) :
 ∀ (d m i k:Nat) (acc:List SpT),a.length - i + (b.length - k)=d→i≤a.length→k≤b.length→d<m→acc.length≤i + k →
  UcZ n m (tms (vt a)) x2 (tms (vt b)) x4 (bs []) (tms (vt acc)) x7 (i:Int) (k:Int) (fun y7 y8 y9 y10=>k0 [] y7 y8) k1 =
   match Uem (a.drop i) (b.drop k) with
   | none=>k0 [] (bs []) 5
   | some r=>k1 (bs []) (tms (vt (acc++r))) x7
 | d,0,i,k,acc,hd,hi,hk,hm,hl=>by omega
 | d,m + 1,i,k,acc,hd,hi,hk,hm,hl=>by
  have la:=UbK ha
  have lb:=UbK hb
  have hN:=UaC (Ubb hn)
  simp only [UcZ,Uhc]
  by_cases hi':i<a.length
  · have hda:=Ua0 hi'
    by_cases hk':k<b.length
    · have hdb:=Ua0 hk'
      have e1:((k:Int) == (b.length:Int))=false:=by simp; omega
      have e2:((i:Int) == (a.length:Int))=false:=by simp; omega
      by_cases hlt:(a[i]).1<(b[k]).1
      · have ih:=UaE n hn ha hb x2 x4 x7 k0 k1 (d - 1) m (i + 1) k (acc++[((a[i]).1,(a[i]).2)]) (by omega) (by omega) hk (by omega) (by simp; omega)
        simp (disch:=(first | omega | (simp only [JlE]; omega))) only [↓JlH,JlF,UaG,Uaz,Ua,Uas,e1,Jji,UaQ hi',UaQ hk',Udd,i1]
        rw [ih,hda,hdb,Uem,if_pos hlt]
        cases Uem (a.drop (i + 1)) (b[k]::b.drop (k + 1)) <;> simp
      · by_cases hgt:(b[k]).1<(a[i]).1
        · have ih:=UaE n hn ha hb x2 x4 x7 k0 k1 (d - 1) m i (k + 1) (acc++[((b[k]).1,(b[k]).2)]) (by omega) hi (by omega) (by omega) (by simp; omega)
          simp (disch:=(first | omega | (simp only [JlE]; omega))) only [↓JlH,JlF,UaG,Uaz,Ua6,Ua,Uas,e1,e2,Jji,UaQ hi',UaQ hk',Udd,i1]
          rw [ih,hda,hdb,Uem,if_neg hlt,if_pos hgt]
          cases Uem (a[i]::a.drop (i + 1)) (b.drop (k + 1)) <;> simp
        · have hv:=Ut2 (R:=R) n hn (a[i]).2 (b[k]).2 (ha.2 _ (List.getElem_mem hi')).2.1 (hb.2 _ (List.getElem_mem hk')).2.1
          rw [hda,hdb,Uem,if_neg hlt,if_neg hgt]
          by_cases hf:fits ((a[i]).2 + (b[k]).2)
          · have hv':∀ kk,p22 n (bs (Uag (a[i]).2)) (bs (Uag (b[k]).2)) kk=kk (bs (Uag ((a[i]).2 + (b[k]).2))) 0:=fun kk=>by rw [hv,UeU hf]
            rw [if_pos hf]
            by_cases hz:(a[i]).2 + (b[k]).2=0
            · have ih:=UaE n hn ha hb x2 x4 x7 k0 k1 (d - 2) m (i + 1) (k + 1) acc (by omega) (by omega) (by omega) (by omega) (by omega)
              have e3:=Uja (Uei.2 hz)
              simp (disch:=(first | omega | (simp only [JlE]; omega))) only [↓JlH,JlF,UaG,Uaz,Ua6,Ub1,Ua,Uas,e1,e2,Jji,UaQ hi',UaQ hk',Udd,i1,hv',Uro,e3]
              rw [ih]
              cases Uem (a.drop (i + 1)) (b.drop (k + 1)) <;> simp
            · have ih:=UaE n hn ha hb x2 x4 x7 k0 k1 (d - 2) m (i + 1) (k + 1) (acc++[((a[i]).1,(a[i]).2 + (b[k]).2)]) (by omega) (by omega) (by omega) (by omega) (by simp; omega)
              have e3:=Uis (fun q=>hz (Uei.1 q))
              simp (disch:=(first | omega | (simp only [JlE]; omega))) only [↓JlH,JlF,UaG,Uaz,Ua6,Ub1,Ua,Uas,e1,e2,Jji,UaQ hi',UaQ hk',Udd,i1,hv',Uro,e3]
              rw [ih]
              cases Uem (a.drop (i + 1)) (b.drop (k + 1)) <;> simp
          · have hv':∀ kk,p22 n (bs (Uag (a[i]).2)) (bs (Uag (b[k]).2)) kk=kk (bs []) 5:=fun kk=>by rw [hv]; unfold Und; rw [if_neg hf]
            rw [if_neg hf]
            simp (disch:=(first | omega | (simp only [JlE]; omega))) only [↓JlH,JlF,UaG,Uaz,Ua6,Ub1,Ua,Uas,e1,e2,Jji,UaQ hi',UaQ hk',Udd,i1,hv',UF3]
    · have hk'':k=b.length:=by omega
      have e1:((k:Int) == (b.length:Int))=true:=by simp; omega
      have ih:=UaE n hn ha hb x2 x4 x7 k0 k1 (d - 1) m (i + 1) k (acc++[((a[i]).1,(a[i]).2)]) (by omega) (by omega) hk (by omega) (by simp; omega)
      simp (disch:=(first | omega | (simp only [JlE]; omega))) only [↓JlH,JlF,UaG,Uaz,Ua,Uas,e1,Jji,UaQ hi',Udd,i1]
      rw [ih,hda,List.drop_eq_nil_of_le (by omega:b.length≤k),Urm,Urm]
      simp only [List.append_assoc,List.singleton_append]
  · have hi'':i=a.length:=by omega
    have e2:((i:Int) == (a.length:Int))=true:=by simp; omega
    rw [List.drop_eq_nil_of_le (by omega:a.length≤i)]
    by_cases hk':k<b.length
    · have hdb:=Ua0 hk'
      have e1:((k:Int) == (b.length:Int))=false:=by simp; omega
      have ih:=UaE n hn ha hb x2 x4 x7 k0 k1 (d - 1) m i (k + 1) (acc++[((b[k]).1,(b[k]).2)]) (by omega) hi (by omega) (by omega) (by simp; omega)
      rw [List.drop_eq_nil_of_le (by omega:a.length≤i)] at ih
      simp (disch:=(first | omega | (simp only [JlE]; omega))) only [↓JlH,JlF,UaG,Uaz,Ua6,Ua,Uas,e1,e2,Jji,UaQ hk',Udd,i1]
      rw [ih,hdb]
      simp only [Uem,List.append_assoc,List.singleton_append]
    · simp (disch:=(first | omega | (simp only [JlE]; omega))) only [↓JlH,JlF,Ua,Uas]
      rw [List.drop_eq_nil_of_le (by omega:b.length≤k)]
      simp [Uem,JfF]
theorem Us7 (n:Nat) (hn:10 ^ 1000≤n) {a b:SpR} (ha:okF 2048 a) (hb:okF 2048 b) (k0:List PV→ByteArray→Int→Option R) :
 UEJ n (tms (vt a.1)) (bs (Uag a.2)) (tms (vt b.1)) (bs (Uag b.2)) k0=UsE k0 (plO a b):=by
 have hN:=UaC (Ubb hn)
 have la:=UbK ha.1
 have lb:=UbK hb.1
 unfold UEJ
 rw [Ut2 n hn a.2 b.2 ha.2 hb.2]
 unfold plO
 by_cases hf:fits (a.2 + b.2)
 · rw [UeU hf,if_pos hf,Uro,Uam]
   unfold UrC
   refine Eq.trans (UaE n hn ha.1 hb.1 _ _ _ k0 _ (a.1.length + b.1.length) n 0 0 [] (by omega) (by omega) (by omega) (by omega) (by simp)) ?_
   rw [List.drop_zero,List.drop_zero]
   cases Uem a.1 b.1 <;> rfl
 · unfold Und
   rw [if_neg hf,if_neg hf]; rfl
theorem Ux3 (n:Nat) (hn:10 ^ 1000≤n) {a b:SpR} (ha:okF 2048 a) (hb:okF 2048 b) (k0:List PV→ByteArray→Int→Option R) :
 p75 n (tms (vt a.1)) (bs (Uag a.2)) (tms (vt b.1)) (bs (Uag b.2)) k0=UsE k0 (plO a b):=by
 unfold p75
 rw [Ue8 n (Ubb hn) ha,Uro,Uam,Ue8 n (Ubb hn) hb]
 exact Us7 n hn ha hb k0
end Go.Proofs.YtmgfmlhdnadglaaGreatDoor
set_option linter.unusedVariables false
set_option maxRecDepth 100000
namespace Go.Proofs.YtmgfmlhdnadglaaGreatDoor
open Go Th Go.Proofs
noncomputable section
variable {R:Type}
def Ucl:Ann:={ loops:=[(4,ids [1,2,17,18,19],ids [1,2,4,5]),(14,ids [1,9,47,48,49],ids [4,5,9])],cuts:=[(12,ids [1,2],ids [4,5])],frz:=[],rm:=[.id,.id] }
abbrev Uxw (n:Nat):Env:=eC 53 (Uyd n) (eC 52 (UzX n) (eC 22 (UFm n) (eC 21 (UFl n) eN)))
theorem Uo8 (n:Nat):EnvOK Tryz.prog GI (Uxw n):=.cons (.cons (.cons (.cons (.nil) (UJQ n)) (UJR n)) (UCD n)) (Uz1 n)
def UrN (n:Nat) (l0:LP→LP→ByteArray→LP→Int→Int→O R) (x1 x2:LP) (x3:ByteArray) (x4:LP) (x5 x6:Int) (k0:LP→LP→ByteArray→ByteArray→Int→O R) (k1:LP→LP→ByteArray→O R):O R :=
 bif (decide (x6<x5)) then (bif (inR x6 ((x4).length)) then (Jj3 ((x4).getD ((x6:Int).toNat) (.v (.bool false))) fun e7=>p53 n e7 (fun y8=>bif (!y8) then (k0 x1 x2 x3 ⟨#[]⟩ 3) else (l0 x1 x2 x3 x4 x5 (IntKind.i64.wrap (x6 + 1))))) else none) else (k1 x1 x2 x3)
def UjV (n:Nat):Nat→LP→LP→ByteArray→LP→Int→Int→(LP→LP→ByteArray→ByteArray→Int→O R)→(LP→LP→ByteArray→O R)→O R
 | 0,_,_,_,_,_,_,_,_=>none
 | m + 1,x1,x2,x3,x4,x5,x6,k0,k1=>UrN n (fun x1 x2 x3 x4 x5 x6=>UjV n m x1 x2 x3 x4 x5 x6 k0 k1) x1 x2 x3 x4 x5 x6 k0 k1
def UCO (n:Nat) (x1 x2:LP) (x3:ByteArray) (x4:LP) (x5 x6:Int) (k0:LP→LP→ByteArray→ByteArray→Int→O R) (k1:LP→LP→ByteArray→O R):O R:=UjV n n x1 x2 x3 x4 x5 x6 k0 k1
def UmA (n:Nat) (l0:LP→ByteArray→LP→Int→Int→O R) (x1:LP) (x2:ByteArray) (x3:LP) (x4 x5:Int) (k0:ByteArray→Int→ByteArray→O R) (k1:ByteArray→O R):O R :=
 bif (decide (x5<x4)) then (bif (inR x5 ((x3).length)) then (Jh2 ((x3).getD ((x5:Int).toNat) (.v (.bool false))) fun a6=>JdT a6 fun h7 t8=>Jj .i64 h7 fun e9=>JdT t8 fun h10 t11=>Jj3 h10 fun e12=>Ji2 t11 (bif (inR e9 ((x1).length)) then (Jj3 ((x1).getD ((e9:Int).toNat) (.v (.bool false))) fun e13=>p21 n e12 e13 (fun y14 y15=>bif (y15 != 0) then (k0 ⟨#[]⟩ y15 x2) else (p22 n x2 y14 (fun y16 y17=>bif (y17 != 0) then (k0 ⟨#[]⟩ y17 y16) else (l0 x1 y16 x3 x4 (IntKind.i64.wrap (x5 + 1))))))) else none)) else none) else (k1 x2)
def Uhn (n:Nat):Nat→LP→ByteArray→LP→Int→Int→(ByteArray→Int→ByteArray→O R)→(ByteArray→O R)→O R
 | 0,_,_,_,_,_,_,_=>none
 | m + 1,x1,x2,x3,x4,x5,k0,k1=>UmA n (fun x1 x2 x3 x4 x5=>Uhn n m x1 x2 x3 x4 x5 k0 k1) x1 x2 x3 x4 x5 k0 k1
def Uyy (n:Nat) (x1:LP) (x2:ByteArray) (x3:LP) (x4 x5:Int) (k0:ByteArray→Int→ByteArray→O R) (k1:ByteArray→O R):O R:=Uhn n n x1 x2 x3 x4 x5 k0 k1
def UjU (n:Nat) (x1 x2:LP) (x3:ByteArray) (k0:ByteArray→Int→O R):O R :=
 Uyy n x1 x3 x2 ((x2).length:Int) 0 (fun y4 y5 y6=>k0 y4 y5) (fun y7=>k0 y7 0)
def p18 (n:Nat) (x1:LP) (x2:ByteArray) (x3:LP) (k0:ByteArray→Int→O R):O R :=
 p52 n x1 x2 (fun y4=>bif (y4 != 0) then (k0 ⟨#[]⟩ 3) else (UCO n x3 x1 x2 x3 ((x3).length:Int) 0 (fun y5 y6 y7 y8 y9=>k0 y8 y9) (fun y10 y11 y12=>bif (decide (((y11).length:Int)>0)) then (let v13:=IntKind.i64.wrap (((y11).length:Int) - 1); bif (inR v13 ((y11).length)) then (Jh2 ((y11).getD ((v13:Int).toNat) (.v (.bool false))) fun a14=>JdT a14 fun h15 t16=>Jj .i64 h15 fun e17=>JdT t16 fun h18 t19=>Jj3 h18 fun e20=>Ji2 t19 (bif (bif true then (decide (e17≥((y10).length:Int))) else false) then (k0 ⟨#[]⟩ 2) else (UjU n y10 y11 y12 (fun y21 y22=>k0 y21 y22)))) else none) else (UjU n y10 y11 y12 (fun y23 y24=>k0 y23 y24)))))
abbrev E18 (n:Nat):Code→Fr→Kc R→O R:=evC Tryz.prog (Uxw n) Ucl n (78,[])
noncomputable def Uog:Code:=Jj4 (Jll Tryz.f18) [1,1,1,1]
abbrev Ukv:Sl (List SV):=(cH (.c (sBx 43 (cH (cS .n))) .n))
abbrev Uqt (n:Nat) (K:Kc R):Ukv.T (O R):=fun x1 x2 x3=>UjU n x1 x2 x3 (fun y1 y2=>xC Ucl 12 K .ret [vS y1,vI y2])
noncomputable def Ut5:Code:=Jj4 (Jll Tryz.f18) [1,1,0,1,0,0]
abbrev Uf8:Sl (List SV):=(cH (.c (sBx 43 (cH (cS .n))) (cH (cI (cI .n)))))
abbrev Uqu (n m:Nat) (K:Kc R):Uf8.T (O R):=fun x1 x2 x3 x4 x5 x6=>UjV n m x1 x2 x3 x4 x5 x6 (fun y1 y2 y3 y4 y5=>xL Ucl 4 K .ret [vH y1,.bx 43 [vH y2,vS y3],vS y4,vI y5]) (fun y1 y2 y3=>xL Ucl 4 K (.exit 0) [vH y1,.bx 43 [vH y2,vS y3],dD,dD])
abbrev UAd (n:Nat) (K:Kc R) (l0:Uf8.T (O R)):Uf8.T (O R):=fun x1 x2 x3 x4 x5 x6=>UrN n l0 x1 x2 x3 x4 x5 x6 (fun y1 y2 y3 y4 y5=>xL Ucl 4 K .ret [vH y1,.bx 43 [vH y2,vS y3],vS y4,vI y5]) (fun y1 y2 y3=>xL Ucl 4 K (.exit 0) [vH y1,.bx 43 [vH y2,vS y3],dD,dD])
noncomputable def Uoh:Code:=Jj4 (Jll Tryz.f18) [1,1,1,1,1,0,1,0,0]
abbrev Ud8:Sl (List SV):=(cH (cS (cH (cI (cI .n)))))
abbrev UjE (n m:Nat) (K:Kc R):Ud8.T (O R):=fun x1 x2 x3 x4 x5=>Uhn n m x1 x2 x3 x4 x5 (fun y1 y2 y3=>xL Ucl 14 K .ret [vS y1,vI y2,vS y3]) (fun y1=>xL Ucl 14 K (.exit 2) [dD,dD,vS y1])
abbrev Uw5 (n:Nat) (K:Kc R) (l0:Ud8.T (O R)):Ud8.T (O R):=fun x1 x2 x3 x4 x5=>UmA n l0 x1 x2 x3 x4 x5 (fun y1 y2 y3=>xL Ucl 14 K .ret [vS y1,vI y2,vS y3]) (fun y1=>xL Ucl 14 K (.exit 2) [dD,dD,vS y1])
abbrev UEw (n:Nat):Orc R:=oL Ucl (E18 n) n 14 Uoh Ud8 (UjE n n) (oL Ucl (E18 n) n 4 Ut5 Uf8 (Uqu n n) oN)
abbrev UEi (n:Nat):Orc R:=oC Ucl (E18 n) 12 Uog Ukv (Uqt n) oN
abbrev K18 (R:Type) (n:Nat):=JcH (R:=R) Tryz.prog (Uxw n) Ucl n (78,[]) (UEw n) (UEi n)
theorem UC5 (n:Nat):K18 R n (false,4,Ut5):=JkF (lo:=UEw n) (cu:=UEi n) (pO pN (by kernel_rfl)) Uf8 (Uqu n n) (JiE (F:=Uqu n) Uf8 (UAd n) (fun K _ _ _ _ _ _=>rfl) (fun _ _=>rfl) (fun L K _ _ _ _ _ _=>by show _=_; kernel_rfl) n) fun _ _=>rfl
theorem Uze (n:Nat):K18 R n (false,14,Uoh):=JkF (lo:=UEw n) (cu:=UEi n) (pO pN (by kernel_rfl)) Ud8 (UjE n n) (JiE (F:=UjE n) Ud8 (Uw5 n) (fun K _ _ _ _ _=>rfl) (fun _ _=>rfl) (fun L K _ _ _ _ _=>by show _=_; kernel_rfl) n) fun _ _=>rfl
theorem Uzd (n:Nat):K18 R n (true,12,Uog):=JkW (lo:=UEw n) (cu:=UEi n) (pO (pC (Uze n) pN) (by kernel_rfl)) Ukv (Uqt n) (fun K _ _ _=>by show _=_; kernel_rfl) fun _ _=>rfl
theorem UMG (n:Nat):Je6 (K18 R n) (JaJ Ucl (Jll Tryz.f18)):=pO (pC (UC5 n) (pC (Uzd n) pN)) (by kernel_rfl)
abbrev t18:Sl (List SV):=(.c (sP (JlI (.c sSh (.c Jly .n)))) (cH .n))
abbrev f18 (n:Nat) (K:List SV→O R):t18.T (O R):=fun x1 x2 x3=>p18 n x1 x2 x3 (fun y1 y2=>K [vS y1,vI y2])
abbrev UFk (n:Nat):FS:=fT [false,false] t18 (f18 n)
theorem UJP (n:Nat):FSound Tryz.prog GI 18 (UFk n):=gd Ucl n (Uo8 n) Tryz.func18 (.cons (Uo8 n) t18 (f18 n) (fun K _ _ _=>(Jkq (c:=Jll Tryz.f18) (by kernel_rfl) (UMG n) K).trans (by kernel_rfl)) .nil) (by kernel_rfl)
def UgK:Ann:={ loops:=[(2,ids [1,12,13,14],ids [4,5])],cuts:=[],frz:=[],rm:=[.id,.id] }
abbrev UxK (n:Nat):Env:=eC 19 (Uyc n) (eC 18 (UFk n) eN)
theorem Upv (n:Nat):EnvOK Tryz.prog GI (UxK n):=.cons (.cons (.nil) (UJP n)) (Uz0 n)
def UrX (n:Nat) (l0:LP→LP→Int→Int→O R) (x1 x2:LP) (x3 x4:Int) (k0:Int→Int→O R) (k1:O R):O R :=
 bif (decide (x4<x3)) then (bif (inR x4 ((x2).length)) then (Jh2 ((x2).getD ((x4:Int).toNat) (.v (.bool false))) fun a5=>JdT a5 fun h6 t7=>Jkr h6 fun e8=>JdT t7 fun h9 t10=>Jj3 h9 fun e11=>JdT t10 fun h12 t13=>Jj2 h12 fun e14=>JdT t13 fun h15 t16=>Jj .i64 h15 fun e17=>Ji2 t16 (p18 n e8 e11 x1 (fun y18 y19=>bif (y19 != 0) then (k0 0 y19) else (p19 n y18 ⟨#[48]⟩ (fun y20=>bif (decide (y20<0)) then (k0 x4 0) else (bif (decide (y20>0)) then (bif (bif false then true else (bif true then e14 else false)) then (k0 x4 0) else (l0 x1 x2 x3 (IntKind.i64.wrap (x4 + 1)))) else (l0 x1 x2 x3 (IntKind.i64.wrap (x4 + 1))))))))) else none) else (k1)
def Uj2 (n:Nat):Nat→LP→LP→Int→Int→(Int→Int→O R)→(O R)→O R
 | 0,_,_,_,_,_,_=>none
 | m + 1,x1,x2,x3,x4,k0,k1=>UrX n (fun x1 x2 x3 x4=>Uj2 n m x1 x2 x3 x4 k0 k1) x1 x2 x3 x4 k0 k1
def UCW (n:Nat) (x1 x2:LP) (x3 x4:Int) (k0:Int→Int→O R) (k1:O R):O R:=Uj2 n n x1 x2 x3 x4 k0 k1
def p51 (n:Nat) (x1:Int) (x2 x3:LP) (k0:Int→Int→O R):O R :=
 UCW n x3 x2 ((x2).length:Int) 0 (fun y4 y5=>k0 y4 y5) (k0 (-1) 0)
abbrev E51 (n:Nat):Code→Fr→Kc R→O R:=evC Tryz.prog (UxK n) UgK n (46,[])
noncomputable def Uuo:Code:=Jj4 (Jll Tryz.f51) [1,0,1,0,0]
abbrev Ugj:Sl (List SV):=(cH (cH (cI (cI .n))))
abbrev UqM (n m:Nat) (K:Kc R):Ugj.T (O R):=fun x1 x2 x3 x4=>Uj2 n m x1 x2 x3 x4 (fun y1 y2=>xL UgK 2 K .ret [vI y1,vI y2]) (xL UgK 2 K (.exit 0) [dD,dD])
abbrev UAp (n:Nat) (K:Kc R) (l0:Ugj.T (O R)):Ugj.T (O R):=fun x1 x2 x3 x4=>UrX n l0 x1 x2 x3 x4 (fun y1 y2=>xL UgK 2 K .ret [vI y1,vI y2]) (xL UgK 2 K (.exit 0) [dD,dD])
abbrev UJF (n:Nat):Orc R:=oL UgK (E51 n) n 2 Uuo Ugj (UqM n n) oN
abbrev UIx (n:Nat):Orc R:=oN
abbrev K51 (R:Type) (n:Nat):=JcH (R:=R) Tryz.prog (UxK n) UgK n (46,[]) (UJF n) (UIx n)
theorem UDs (n:Nat):K51 R n (false,2,Uuo):=JkF (lo:=UJF n) (cu:=UIx n) (pO pN (by kernel_rfl)) Ugj (UqM n n) (JiE (F:=UqM n) Ugj (UAp n) (fun K _ _ _ _=>rfl) (fun _ _=>rfl) (fun L K _ _ _ _=>by show _=_; kernel_rfl) n) fun _ _=>rfl
theorem UM4 (n:Nat):Je6 (K51 R n) (JaJ UgK (Jll Tryz.f51)):=pO (pC (UDs n) pN) (by kernel_rfl)
abbrev t51:Sl (List SV):=(.c (sP (JlI (.c (Jlv .i64) (.c sSh .n)))) (cH .n))
abbrev f51 (n:Nat) (K:List SV→O R):t51.T (O R):=fun x1 x2 x3=>p51 n x1 x2 x3 (fun y1 y2=>K [vI y1,vI y2])
abbrev UJc (n:Nat):FS:=fT [false,false] t51 (f51 n)
theorem UMg (n:Nat):FSound Tryz.prog GI 51 (UJc n):=gd UgK n (Upv n) Tryz.func51 (.cons (Upv n) t51 (f51 n) (fun K _ _ _=>(Jkq (c:=Jll Tryz.f51) (by kernel_rfl) (UM4 n) K).trans (by kernel_rfl)) .nil) (by kernel_rfl)
def Uw:Ann:={ loops:=[],cuts:=[],frz:=[],rm:=[.id,.id] }
abbrev UA0 (n:Nat):Env:=eC 51 (UJc n) (eC 49 (UFr n) (eC 48 (UJa n) eN))
theorem Uo7 (n:Nat):EnvOK Tryz.prog GI (UA0 n):=.cons (.cons (.cons (.nil) (UMe n)) (UJW n)) (UMg n)
def p17 (n:Nat) (x1:Int) (x2 x3:LP) (k0:Bool→Int→O R):O R :=
 p48 n x1 x2 x3 (fun y4=>bif (y4 != 0) then (k0 false y4) else (UCV n x3 (fun y5=>bif y5 then (k0 false 0) else (p51 n x1 x2 x3 (fun y6 y7=>bif (y7 == 0) then (k0 (bif true then (decide (y6<0)) else false) y7) else (k0 false y7))))))
abbrev ULm (n:Nat):Orc R:=oN
abbrev UKH (n:Nat):Orc R:=oN
abbrev K17 (R:Type) (n:Nat):=JcH (R:=R) Tryz.prog (UA0 n) Uw n (30,[]) (ULm n) (UKH n)
theorem UMF (n:Nat):Je6 (K17 R n) (JaJ Uw (Jll Tryz.f17)):=pO pN (by kernel_rfl)
abbrev t17:Sl (List SV):=(.c (sP (JlI (.c (Jlv .i64) (.c sSh .n)))) (cH .n))
abbrev f17 (n:Nat) (K:List SV→O R):t17.T (O R):=fun x1 x2 x3=>p17 n x1 x2 x3 (fun y1 y2=>K [vB y1,vI y2])
abbrev UIX (n:Nat):FS:=fT [false,false] t17 (f17 n)
theorem UL1 (n:Nat):FSound Tryz.prog GI 17 (UIX n):=gd Uw n (Uo7 n) Tryz.func17 (.cons (Uo7 n) t17 (f17 n) (fun K _ _ _=>(Jkq (c:=Jll Tryz.f17) (by kernel_rfl) (UMF n) K).trans (by kernel_rfl)) .nil) (by kernel_rfl)
def UgF:Ann:={ loops:=[(5,ids [0,1,4,18,19,20],ids [0,1,2,3,4])],cuts:=[],frz:=[],rm:=[.id,.id] }
abbrev UxC (n:Nat):Env:=eC 31 (UFp n) (eC 30 (UEn n) (eC 19 (Uyc n) eN))
theorem Upi (n:Nat):EnvOK Tryz.prog GI (UxC n):=.cons (.cons (.cons (.nil) (Uz0 n)) (UGB n)) (UJU n)
def UrP (n:Nat) (l0:Int→LP→LP→LP→ByteArray→LP→Int→Int→O R) (x1:Int) (x2 x3 x4:LP) (x5:ByteArray) (x6:LP) (x7 x8:Int) (k0:Int→LP→LP→Bool→Int→LP→ByteArray→O R) (k1:Int→LP→LP→LP→ByteArray→O R):O R :=
 bif (decide (x8<x7)) then (bif (inR x8 ((x6).length)) then (Jh2 ((x6).getD ((x8:Int).toNat) (.v (.bool false))) fun a9=>JdT a9 fun h10 t11=>Jj .i64 h10 fun e12=>JdT t11 fun h13 t14=>Jj3 h13 fun e15=>Ji2 t14 (p19 n e15 ⟨#[48]⟩ (fun y16=>bif (decide (y16>0)) then (k0 x1 x2 x3 false 0 x4 x5) else (l0 x1 x2 x3 x4 x5 x6 x7 (IntKind.i64.wrap (x8 + 1)))))) else none) else (k1 x1 x2 x3 x4 x5)
def UjW (n:Nat):Nat→Int→LP→LP→LP→ByteArray→LP→Int→Int→(Int→LP→LP→Bool→Int→LP→ByteArray→O R)→(Int→LP→LP→LP→ByteArray→O R)→O R
 | 0,_,_,_,_,_,_,_,_,_,_=>none
 | m + 1,x1,x2,x3,x4,x5,x6,x7,x8,k0,k1=>UrP n (fun x1 x2 x3 x4 x5 x6 x7 x8=>UjW n m x1 x2 x3 x4 x5 x6 x7 x8 k0 k1) x1 x2 x3 x4 x5 x6 x7 x8 k0 k1
def UCP (n:Nat) (x1:Int) (x2 x3 x4:LP) (x5:ByteArray) (x6:LP) (x7 x8:Int) (k0:Int→LP→LP→Bool→Int→LP→ByteArray→O R) (k1:Int→LP→LP→LP→ByteArray→O R):O R:=UjW n n x1 x2 x3 x4 x5 x6 x7 x8 k0 k1
def p29 (n:Nat) (x1:Int) (x2 x3:LP) (k0:Bool→Int→O R):O R :=
 p30 n x1 x2 x3 (fun y4 y5 y6=>bif (y6 != 0) then (k0 false y6) else (UCP n x1 x2 x3 y4 y5 y4 ((y4).length:Int) 0 (fun y7 y8 y9 y10 y11 y12 y13=>k0 y10 y11) (fun y14 y15 y16 y17 y18=>p31 n y14 y15 y16 (fun y19=>bif y19 then (p19 n y18 ⟨#[48]⟩ (fun y20=>k0 (bif true then (decide (y20<0)) else false) 0)) else (k0 false 0)))))
abbrev E29 (n:Nat):Code→Fr→Kc R→O R:=evC Tryz.prog (UxC n) UgF n (38,[])
noncomputable def Uue:Code:=Jj4 (Jll Tryz.f29) [1,1,1,0,1,0,0]
abbrev Ugc:Sl (List SV):=(.c (sP (sFb (.c (Jlv .i64) (.c sSh .n)))) (.c (sP (sFb (.c sSh .n))) (.c (sBx 43 (cH (cS .n))) (cH (cI (cI .n))))))
abbrev UqC (n m:Nat) (K:Kc R):Ugc.T (O R):=fun x1 x2 x3 x4 x5 x6 x7 x8=>UjW n m x1 x2 x3 x4 x5 x6 x7 x8 (fun y1 y2 y3 y4 y5 y6 y7=>xL UgF 5 K .ret [.p (.fb [.v (.int .i64 y1),.sh y2]),.p (.fb [.sh y3]),vB y4,vI y5,.bx 43 [vH y6,vS y7]]) (fun y1 y2 y3 y4 y5=>xL UgF 5 K (.exit 0) [.p (.fb [.v (.int .i64 y1),.sh y2]),.p (.fb [.sh y3]),dD,dD,.bx 43 [vH y4,vS y5]])
abbrev UAi (n:Nat) (K:Kc R) (l0:Ugc.T (O R)):Ugc.T (O R):=fun x1 x2 x3 x4 x5 x6 x7 x8=>UrP n l0 x1 x2 x3 x4 x5 x6 x7 x8 (fun y1 y2 y3 y4 y5 y6 y7=>xL UgF 5 K .ret [.p (.fb [.v (.int .i64 y1),.sh y2]),.p (.fb [.sh y3]),vB y4,vI y5,.bx 43 [vH y6,vS y7]]) (fun y1 y2 y3 y4 y5=>xL UgF 5 K (.exit 0) [.p (.fb [.v (.int .i64 y1),.sh y2]),.p (.fb [.sh y3]),dD,dD,.bx 43 [vH y4,vS y5]])
abbrev UJA (n:Nat):Orc R:=oL UgF (E29 n) n 5 Uue Ugc (UqC n n) oN
abbrev UIs (n:Nat):Orc R:=oN
abbrev K29 (R:Type) (n:Nat):=JcH (R:=R) Tryz.prog (UxC n) UgF n (38,[]) (UJA n) (UIs n)
theorem UDg (n:Nat):K29 R n (false,5,Uue):=JkF (lo:=UJA n) (cu:=UIs n) (pO pN (by kernel_rfl)) Ugc (UqC n n) (JiE (F:=UqC n) Ugc (UAi n) (fun K _ _ _ _ _ _ _ _=>rfl) (fun _ _=>rfl) (fun L K _ _ _ _ _ _ _ _=>by show _=_; kernel_rfl) n) fun _ _=>rfl
theorem UMR (n:Nat):Je6 (K29 R n) (JaJ UgF (Jll Tryz.f29)):=pO (pC (UDg n) pN) (by kernel_rfl)
abbrev t29:Sl (List SV):=(.c (sP (sFb (.c (Jlv .i64) (.c sSh .n)))) (.c (sP (sFb (.c sSh .n))) .n))
abbrev f29 (n:Nat) (K:List SV→O R):t29.T (O R):=fun x1 x2 x3=>p29 n x1 x2 x3 (fun y1 y2=>K [vB y1,vI y2])
abbrev UI3 (n:Nat):FS:=fT [false,false] t29 (f29 n)
theorem UL7 (n:Nat):FSound Tryz.prog GI 29 (UI3 n):=gd UgF n (Upi n) Tryz.func29 (.cons (Upi n) t29 (f29 n) (fun K _ _ _=>(Jkq (c:=Jll Tryz.f29) (by kernel_rfl) (UMR n) K).trans (by kernel_rfl)) .nil) (by kernel_rfl)
def Uwe:Ann:={ loops:=[],cuts:=[],frz:=[],rm:=[.id,.id] }
abbrev UA5 (n:Nat):Env:=eC 18 (UFk n) eN
theorem Upm (n:Nat):EnvOK Tryz.prog GI (UA5 n):=.cons (.nil) (UJP n)
def p36 (n:Nat) (x1 x2:LP) (k0:ByteArray→Int→O R):O R :=
 p18 n x1 ⟨#[48]⟩ x2 (fun y3 y4=>k0 y3 y4)
abbrev ULr (n:Nat):Orc R:=oN
abbrev UKM (n:Nat):Orc R:=oN
abbrev K36 (R:Type) (n:Nat):=JcH (R:=R) Tryz.prog (UA5 n) Uwe n (12,[]) (ULr n) (UKM n)
theorem UMV (n:Nat):Je6 (K36 R n) (JaJ Uwe (Jll Tryz.f36)):=pO pN (by kernel_rfl)
abbrev t36:Sl (List SV):=(cH (cH .n))
abbrev f36 (n:Nat) (K:List SV→O R):t36.T (O R):=fun x1 x2=>p36 n x1 x2 (fun y1 y2=>K [vS y1,vI y2])
abbrev UFq (n:Nat):FS:=fT [false,false] t36 (f36 n)
theorem UJV (n:Nat):FSound Tryz.prog GI 36 (UFq n):=gd Uwe n (Upm n) Tryz.func36 (.cons (Upm n) t36 (f36 n) (fun K _ _=>(Jkq (c:=Jll Tryz.f36) (by kernel_rfl) (UMV n) K).trans (by kernel_rfl)) .nil) (by kernel_rfl)
def Uns:Ann:={ loops:=[],cuts:=[],frz:=[],rm:=[.id] }
abbrev UuT (n:Nat):Env:=eN
theorem UlB (n:Nat):EnvOK Tryz.prog GI (UuT n):=.nil
def UGL (n:Nat) (x1:Int) (x2:ByteArray) (x3:Int) (k0:Int→O R):O R :=
 k0 (IntKind.i64.wrap (x1 - x3))
abbrev UFM (n:Nat):Orc R:=oN
abbrev UE2 (n:Nat):Orc R:=oN
abbrev UKt (R:Type) (n:Nat):=JcH (R:=R) Tryz.prog (UuT n) Uns n (9,[]) (UFM n) (UE2 n)
theorem UG9 (n:Nat):Je6 (UKt R n) (JaJ Uns (Jll Tryz.f118)):=pO pN (by kernel_rfl)
abbrev UHM:Sl (List SV):=(.c (sP (JlI (.c (Jlv .i64) (.c Jly .n)))) (cI .n))
abbrev f118 (n:Nat) (K:List SV→O R):UHM.T (O R):=fun x1 x2 x3=>UGL n x1 x2 x3 (fun y1=>K [vI y1])
abbrev UBV (n:Nat):FS:=fT [false,false] UHM (f118 n)
theorem UGh (n:Nat):FSound Tryz.prog GI 118 (UBV n):=gd Uns n (UlB n) Tryz.func118 (.cons (UlB n) UHM (f118 n) (fun K _ _ _=>(Jkq (c:=Jll Tryz.f118) (by kernel_rfl) (UG9 n) K).trans (by kernel_rfl)) .nil) (by kernel_rfl)
def Ue1:Ann:={ loops:=[(3,ids [0,1,2,8,9,10],ids [0,1,2,6,7,8,9])],cuts:=[],frz:=[],rm:=[.id,.id] }
abbrev UoP (n:Nat):Env:=eC 118 (UBV n) eN
theorem UlA (n:Nat):EnvOK Tryz.prog GI (UoP n):=.cons (.nil) (UGh n)
def Umw (n:Nat) (l0:LP→Int→Int→Int→Int→O R) (x1:LP) (x2 x3 x4 x5:Int) (k0:LP→Int→Int→Int→O R):O R :=
 bif (decide (x4<x5)) then (let v6:=IntKind.u64.wrap (IntKind.i64.wrap (x4 + x5)); bif decide ((1:Int)<0) then none else (let v7:=Int.fdiv v6 (2 ^ (min ((1:Int)).toNat IntKind.u64.bits)); bif (inR (IntKind.i64.wrap (v7)) ((x1).length)) then (Jh2 ((x1).getD ((IntKind.i64.wrap (v7):Int).toNat) (.v (.bool false))) fun a8=>JdT a8 fun h9 t10=>Jj .i64 h9 fun e11=>JdT t10 fun h12 t13=>Jj3 h12 fun e14=>Ji2 t13 (UGL n e11 e14 x2 (fun y15=>bif (decide (y15<0)) then (let v16:=IntKind.i64.wrap ((IntKind.i64.wrap (v7)) + 1); l0 x1 x2 x3 v16 x5) else (l0 x1 x2 x3 x4 (IntKind.i64.wrap (v7)))))) else none)) else (k0 x1 x2 x3 x4)
def Uhj (n:Nat):Nat→LP→Int→Int→Int→Int→(LP→Int→Int→Int→O R)→O R
 | 0,_,_,_,_,_,_=>none
 | m + 1,x1,x2,x3,x4,x5,k0=>Umw n (fun x1 x2 x3 x4 x5=>Uhj n m x1 x2 x3 x4 x5 k0) x1 x2 x3 x4 x5 k0
def Uys (n:Nat) (x1:LP) (x2 x3 x4 x5:Int) (k0:LP→Int→Int→Int→O R):O R:=Uhj n n x1 x2 x3 x4 x5 k0
def UK (n:Nat) (x1:LP) (x2:Int) (k0:Int→Bool→O R):O R :=
 Uys n x1 x2 ((x1).length:Int) 0 ((x1).length:Int) (fun y3 y4 y5 y6=>bif (decide (y6<y5)) then (bif (inR y6 ((y3).length)) then (Jh2 ((y3).getD ((y6:Int).toNat) (.v (.bool false))) fun a7=>JdT a7 fun h8 t9=>Jj .i64 h8 fun e10=>JdT t9 fun h11 t12=>Jj3 h11 fun e13=>Ji2 t12 (UGL n e10 e13 y4 (fun y14=>k0 y6 (bif true then (y14 == 0) else false)))) else none) else (k0 y6 false))
abbrev UKi (n:Nat):Code→Fr→Kc R→O R:=evC Tryz.prog (UoP n) Ue1 n (49,[])
noncomputable def UnZ:Code:=Jj4 (Jll Tryz.f117) [1,1,1,0,0,0]
abbrev UdX:Sl (List SV):=(cH (cI (.c (sP (sFn 118)) (cI (cI (cI .n))))))
abbrev Ujt (n m:Nat) (K:Kc R):UdX.T (O R):=fun x1 x2 x3 x4 x5=>Uhj n m x1 x2 x3 x4 x5 (fun y1 y2 y3 y4=>xL Ue1 3 K (.exit 0) [vH y1,vI y2,.p (.v (.func (.func 118) #[] #[])),dD,dD,vI y3,vI y4])
abbrev UwU (n:Nat) (K:Kc R) (l0:UdX.T (O R)):UdX.T (O R):=fun x1 x2 x3 x4 x5=>Umw n l0 x1 x2 x3 x4 x5 (fun y1 y2 y3 y4=>xL Ue1 3 K (.exit 0) [vH y1,vI y2,.p (.v (.func (.func 118) #[] #[])),dD,dD,vI y3,vI y4])
abbrev UCn (n:Nat):Orc R:=oL Ue1 (UKi n) n 3 UnZ UdX (Ujt n n) oN
abbrev UAQ (n:Nat):Orc R:=oN
abbrev UIi (R:Type) (n:Nat):=JcH (R:=R) Tryz.prog (UoP n) Ue1 n (49,[]) (UCn n) (UAQ n)
theorem UyW (n:Nat):UIi R n (false,3,UnZ):=JkF (lo:=UCn n) (cu:=UAQ n) (pO pN (by kernel_rfl)) UdX (Ujt n n) (JiE (F:=Ujt n) UdX (UwU n) (fun K _ _ _ _ _=>rfl) (fun _ _=>rfl) (fun L K _ _ _ _ _=>by show _=_; kernel_rfl) n) fun _ _=>rfl
theorem UG8 (n:Nat):Je6 (UIi R n) (JaJ Ue1 (Jll Tryz.f117)):=pO (pC (UyW n) pN) (by kernel_rfl)
abbrev t117:Sl (List SV):=(cH (cI (.c (sP (sFn 118)) .n)))
abbrev f117 (n:Nat) (K:List SV→O R):t117.T (O R):=fun x1 x2=>UK n x1 x2 (fun y1 y2=>K [vI y1,vB y2])
abbrev UBU (n:Nat):FS:=fT [false,false,false] t117 (f117 n)
theorem UGg (n:Nat):FSound Tryz.prog GI 117 (UBU n):=gd Ue1 n (UlA n) Tryz.func117 (.cons (UlA n) t117 (f117 n) (fun K _ _=>(Jkq (c:=Jll Tryz.f117) (by kernel_rfl) (UG8 n) K).trans (by kernel_rfl)) .nil) (by kernel_rfl)
def UwA:Ann:={ loops:=[],cuts:=[],frz:=[],rm:=[.id,.id] }
abbrev UBq (n:Nat):Env:=eC 117 (UBU n) eN
theorem UpX (n:Nat):EnvOK Tryz.prog GI (UBq n):=.cons (.nil) (UGg n)
def p81 (n:Nat) (x1:LP) (x2:ByteArray) (x3:Int) (k0:Int→Bool→O R):O R :=
 UK n x1 x3 (fun y4 y5=>k0 y4 y5)
abbrev ULN (n:Nat):Orc R:=oN
abbrev UK8 (n:Nat):Orc R:=oN
abbrev K81 (R:Type) (n:Nat):=JcH (R:=R) Tryz.prog (UBq n) UwA n (12,[]) (ULN n) (UK8 n)
theorem UNv (n:Nat):Je6 (K81 R n) (JaJ UwA (Jll Tryz.f81)):=pO pN (by kernel_rfl)
abbrev t81:Sl (List SV):=(.c (sP (JlI (.c sSh (.c Jly .n)))) (cI .n))
abbrev f81 (n:Nat) (K:List SV→O R):t81.T (O R):=fun x1 x2 x3=>p81 n x1 x2 x3 (fun y1 y2=>K [vI y1,vB y2])
abbrev UJp (n:Nat):FS:=fT [false,false] t81 (f81 n)
theorem UMt (n:Nat):FSound Tryz.prog GI 81 (UJp n):=gd UwA n (UpX n) Tryz.func81 (.cons (UpX n) t81 (f81 n) (fun K _ _ _=>(Jkq (c:=Jll Tryz.f81) (by kernel_rfl) (UNv n) K).trans (by kernel_rfl)) .nil) (by kernel_rfl)
def UmX:Ann:={ loops:=[],cuts:=[(3,ids [1,2],ids [4])],frz:=[],rm:=[.id] }
abbrev UxG (n:Nat):Env:=eC 81 (UJp n) (eC 80 (UFz n) (eC 52 (UzX n) eN))
theorem Upo (n:Nat):EnvOK Tryz.prog GI (UxG n):=.cons (.cons (.cons (.nil) (UCD n)) (UJ4 n)) (UMt n)
def UvH (n:Nat) (x1:Int) (x2:LP) (x3:ByteArray) (k0:ByteArray→O R):O R :=
 p81 n x2 x3 x1 (fun y4 y5=>bif y5 then (bif (inR y4 ((x2).length)) then (Jh2 ((x2).getD ((y4:Int).toNat) (.v (.bool false))) fun a6=>JdT a6 fun h7 t8=>Jj .i64 h7 fun e9=>JdT t8 fun h10 t11=>Jj3 h10 fun e12=>Ji2 t11 (k0 e12)) else none) else (k0 ⟨#[48]⟩))
def p38 (n:Nat) (x1:LP) (x2:ByteArray) (x3:Int) (k0:ByteArray→O R):O R :=
 p52 n x1 x2 (fun y4=>bif (y4 != 0) then (k0 ⟨#[48]⟩) else (p80 n x3 (fun y5=>bif (bif false then true else (!y5)) then (k0 ⟨#[48]⟩) else (UvH n x3 x1 x2 (fun y6=>k0 y6)))))
abbrev E38 (n:Nat):Code→Fr→Kc R→O R:=evC Tryz.prog (UxG n) UmX n (28,[])
noncomputable def Uuj:Code:=Jj4 (Jll Tryz.f38) [1,1]
abbrev Usp:Sl (List SV):=(cI (.c (sBx 43 (cH (cS .n))) .n))
abbrev Uva (n:Nat) (K:Kc R):Usp.T (O R):=fun x1 x2 x3=>UvH n x1 x2 x3 (fun y1=>xC UmX 3 K .ret [vS y1])
abbrev UJD (n:Nat):Orc R:=oN
abbrev UIv (n:Nat):Orc R:=oC UmX (E38 n) 3 Uuj Usp (Uva n) oN
abbrev K38 (R:Type) (n:Nat):=JcH (R:=R) Tryz.prog (UxG n) UmX n (28,[]) (UJD n) (UIv n)
theorem UDn (n:Nat):K38 R n (true,3,Uuj):=JkW (lo:=UJD n) (cu:=UIv n) (pO pN (by kernel_rfl)) Usp (Uva n) (fun K _ _ _=>by show _=_; kernel_rfl) fun _ _=>rfl
theorem UMX (n:Nat):Je6 (K38 R n) (JaJ UmX (Jll Tryz.f38)):=pO (pC (UDn n) pN) (by kernel_rfl)
abbrev t38:Sl (List SV):=(.c (sP (JlI (.c sSh (.c Jly .n)))) (cI .n))
abbrev f38 (n:Nat) (K:List SV→O R):t38.T (O R):=fun x1 x2 x3=>p38 n x1 x2 x3 (fun y1=>K [vS y1])
abbrev UI6 (n:Nat):FS:=fT [false,false] t38 (f38 n)
theorem UM (n:Nat):FSound Tryz.prog GI 38 (UI6 n):=gd UmX n (Upo n) Tryz.func38 (.cons (Upo n) t38 (f38 n) (fun K _ _ _=>(Jkq (c:=Jll Tryz.f38) (by kernel_rfl) (UMX n) K).trans (by kernel_rfl)) .nil) (by kernel_rfl)
def UgI:Ann:={ loops:=[(9,ids [2,6,9,40,41],ids [4,5,9])],cuts:=[(8,ids [0,2,6,9],ids [4,5])],frz:=[],rm:=[.id,.id] }
abbrev UxF (n:Nat):Env:=eC 38 (UI6 n) (eC 37 (UI5 n) (eC 36 (UFq n) (eC 31 (UFp n) (eC 30 (UEn n) (eC 19 (Uyc n) eN)))))
theorem Upl (n:Nat):EnvOK Tryz.prog GI (UxF n):=.cons (.cons (.cons (.cons (.cons (.cons (.nil) (Uz0 n)) (UGB n)) (UJU n)) (UJV n)) (UL9 n)) (UM n)
def UrV (n:Nat) (l0:LP→LP→ByteArray→Bool→Int→Int→O R) (x1 x2:LP) (x3:ByteArray) (x4:Bool) (x5 x6:Int) (k0:Bool→O R):O R :=
 bif (decide (x6<x5)) then (bif x4 then (bif true then (bif true then (p38 n x2 x3 x6 (fun y7=>bif true then (bif true then (bif true then (bif true then (p38 n x1 ⟨#[48]⟩ x6 (fun y8=>bif true then (p19 n y7 y8 (fun y9=>bif true then (l0 x1 x2 x3 (bif true then (decide (y9≤0)) else false) x5 (IntKind.i64.wrap (x6 + 1))) else none)) else none)) else none) else none) else none) else none)) else none) else none) else (bif false then none else (bif false then none else (bif false then none else (bif false then none else (bif false then none else (bif false then none else (bif false then none else (bif false then none else (bif false then none else (l0 x1 x2 x3 false x5 (IntKind.i64.wrap (x6 + 1))))))))))))) else (k0 x4)
def Uj1 (n:Nat):Nat→LP→LP→ByteArray→Bool→Int→Int→(Bool→O R)→O R
 | 0,_,_,_,_,_,_,_=>none
 | m + 1,x1,x2,x3,x4,x5,x6,k0=>UrV n (fun x1 x2 x3 x4 x5 x6=>Uj1 n m x1 x2 x3 x4 x5 x6 k0) x1 x2 x3 x4 x5 x6 k0
def UCU (n:Nat) (x1 x2:LP) (x3:ByteArray) (x4:Bool) (x5 x6:Int) (k0:Bool→O R):O R:=Uj1 n n x1 x2 x3 x4 x5 x6 k0
def UrU (n:Nat) (x1:Int) (x2 x3 x4:LP) (x5:ByteArray) (x6:Bool) (k0:Bool→Int→O R):O R :=
 UCU n x3 x4 x5 x6 x1 0 (fun y7=>k0 y7 0)
def p35 (n:Nat) (x1:Int) (x2 x3 x4 x5:LP) (k0:Bool→Int→O R):O R :=
 p30 n x1 x2 x3 (fun y6 y7 y8=>bif (y8 != 0) then (k0 false y8) else (p36 n x4 x5 (fun y9 y10=>bif (y10 != 0) then (k0 false y10) else (p31 n x1 x2 x3 (fun y11=>bif y11 then (bif true then (bif true then (bif true then (p37 n y7 (fun y12=>bif true then (UrU n x1 x2 x4 y6 y7 (bif true then eqS y9 y12 else false) (fun y13 y14=>k0 y13 y14)) else none)) else none) else none) else none) else (bif false then none else (bif false then none else (bif false then none else (bif false then none else (bif false then none else (UrU n x1 x2 x4 y6 y7 false (fun y15 y16=>k0 y15 y16))))))))))))
abbrev E35 (n:Nat):Code→Fr→Kc R→O R:=evC Tryz.prog (UxF n) UgI n (58,[])
noncomputable def Uuh:Code:=Jj4 (Jll Tryz.f35) [1,1,1,1,1,1]
abbrev Uso:Sl (List SV):=(.c (sP (sFb (.c (Jlv .i64) (.c sSh .n)))) (.c (sP (sFb (.c sSh .n))) (.c (sBx 43 (cH (cS .n))) (cB .n))))
abbrev Uv (n:Nat) (K:Kc R):Uso.T (O R):=fun x1 x2 x3 x4 x5 x6=>UrU n x1 x2 x3 x4 x5 x6 (fun y1 y2=>xC UgI 8 K .ret [vB y1,vI y2])
noncomputable def Uui:Code:=Jj4 (Jll Tryz.f35) [1,1,1,1,1,1,0,1,0,0]
abbrev Ugf:Sl (List SV):=(.c (sP (sFb (.c sSh .n))) (.c (sBx 43 (cH (cS .n))) (cB (cI (cI .n)))))
abbrev UqI (n m:Nat) (K:Kc R):Ugf.T (O R):=fun x1 x2 x3 x4 x5 x6=>Uj1 n m x1 x2 x3 x4 x5 x6 (fun y1=>xL UgI 9 K (.exit 0) [dD,dD,vB y1])
abbrev UAl (n:Nat) (K:Kc R) (l0:Ugf.T (O R)):Ugf.T (O R):=fun x1 x2 x3 x4 x5 x6=>UrV n l0 x1 x2 x3 x4 x5 x6 (fun y1=>xL UgI 9 K (.exit 0) [dD,dD,vB y1])
abbrev UFY (n:Nat):Orc R:=oL UgI (E35 n) n 9 Uui Ugf (UqI n n) oN
abbrev UFd (n:Nat):Orc R:=oC UgI (E35 n) 8 Uuh Uso (Uv n) oN
abbrev K35 (R:Type) (n:Nat):=JcH (R:=R) Tryz.prog (UxF n) UgI n (58,[]) (UFY n) (UFd n)
theorem UDm (n:Nat):K35 R n (false,9,Uui):=JkF (lo:=UFY n) (cu:=UFd n) (pO pN (by kernel_rfl)) Ugf (UqI n n) (JiE (F:=UqI n) Ugf (UAl n) (fun K _ _ _ _ _ _=>rfl) (fun _ _=>rfl) (fun L K _ _ _ _ _ _=>by show _=_; kernel_rfl) n) fun _ _=>rfl
theorem UDl (n:Nat):K35 R n (true,8,Uuh):=JkW (lo:=UFY n) (cu:=UFd n) (pO (pC (UDm n) pN) (by kernel_rfl)) Uso (Uv n) (fun K _ _ _ _ _ _=>by show _=_; kernel_rfl) fun _ _=>rfl
theorem UMU (n:Nat):Je6 (K35 R n) (JaJ UgI (Jll Tryz.f35)):=pO (pC (UDl n) pN) (by kernel_rfl)
abbrev t35:Sl (List SV):=(.c (sP (sFb (.c (Jlv .i64) (.c sSh .n)))) (.c (sP (sFb (.c sSh .n))) (.c (sP (sFb (.c sSh .n))) (.c (sP (sFb (.c sSh .n))) .n))))
abbrev f35 (n:Nat) (K:List SV→O R):t35.T (O R):=fun x1 x2 x3 x4 x5=>p35 n x1 x2 x3 x4 x5 (fun y1 y2=>K [vB y1,vI y2])
abbrev UI4 (n:Nat):FS:=fT [false,false,false,false] t35 (f35 n)
theorem UL8 (n:Nat):FSound Tryz.prog GI 35 (UI4 n):=gd UgI n (Upl n) Tryz.func35 (.cons (Upl n) t35 (f35 n) (fun K _ _ _ _ _=>(Jkq (c:=Jll Tryz.f35) (by kernel_rfl) (UMU n) K).trans (by kernel_rfl)) .nil) (by kernel_rfl)
def Uel:Ann:={ loops:=[(3,ids [0,1,2,5,15,16,17],ids [0,1,2,3,4,5]),(8,ids [0,2,5,29,30,31],ids [0,2,3,4,5])],cuts:=[],frz:=[],rm:=[.id,.id] }
abbrev UxP (n:Nat):Env:=eC 36 (UFq n) (eC 19 (Uyc n) eN)
theorem UpD (n:Nat):EnvOK Tryz.prog GI (UxP n):=.cons (.cons (.nil) (Uz0 n)) (UJV n)
def UrY (n:Nat) (l0:LP→Int→LP→LP→Bool→LP→Int→Int→O R) (x1:LP) (x2:Int) (x3 x4:LP) (x5:Bool) (x6:LP) (x7 x8:Int) (k0:LP→Int→LP→LP→Bool→O R):O R :=
 bif (decide (x8<x7)) then (bif (inR x8 ((x6).length)) then (Jj3 ((x6).getD ((x8:Int).toNat) (.v (.bool false))) fun e9=>bif x5 then (bif true then (p19 n e9 ⟨#[48]⟩ (fun y10=>bif true then (l0 x1 x2 x3 x4 (bif true then (decide (y10≥0)) else false) x6 x7 (IntKind.i64.wrap (x8 + 1))) else none)) else none) else (bif false then none else (bif false then none else (bif false then none else (l0 x1 x2 x3 x4 false x6 x7 (IntKind.i64.wrap (x8 + 1))))))) else none) else (k0 x1 x2 x3 x4 x5)
def Uj4 (n:Nat):Nat→LP→Int→LP→LP→Bool→LP→Int→Int→(LP→Int→LP→LP→Bool→O R)→O R
 | 0,_,_,_,_,_,_,_,_,_=>none
 | m + 1,x1,x2,x3,x4,x5,x6,x7,x8,k0=>UrY n (fun x1 x2 x3 x4 x5 x6 x7 x8=>Uj4 n m x1 x2 x3 x4 x5 x6 x7 x8 k0) x1 x2 x3 x4 x5 x6 x7 x8 k0
def UCX (n:Nat) (x1:LP) (x2:Int) (x3 x4:LP) (x5:Bool) (x6:LP) (x7 x8:Int) (k0:LP→Int→LP→LP→Bool→O R):O R:=Uj4 n n x1 x2 x3 x4 x5 x6 x7 x8 k0
def UrZ (n:Nat) (l0:LP→LP→Bool→LP→Int→Int→O R) (x1 x2:LP) (x3:Bool) (x4:LP) (x5 x6:Int) (k0:LP→LP→Bool→Int→Bool→O R) (k1:LP→LP→Bool→O R):O R :=
 bif (decide (x6<x5)) then (bif (inR x6 ((x4).length)) then (Jh2 ((x4).getD ((x6:Int).toNat) (.v (.bool false))) fun a7=>JdT a7 fun h8 t9=>Jkr h8 fun e10=>JdT t9 fun h11 t12=>Jj3 h11 fun e13=>JdT t12 fun h14 t15=>Jj2 h14 fun e16=>JdT t15 fun h17 t18=>Jj .i64 h17 fun e19=>Ji2 t18 (p36 n e10 x1 (fun y20 y21=>bif (y21 != 0) then (k0 x1 x2 false y21 x3) else (p19 n y20 ⟨#[48]⟩ (fun y22=>bif x3 then (bif true then (bif true then (bif (y22 == 0) then (bif true then (bif true then (bif true then (bif true then (bif true then (l0 x1 x2 true x4 x5 (IntKind.i64.wrap (x6 + 1))) else none) else none) else none) else none) else none) else (bif false then none else (bif false then none else (bif (decide (y22>0)) then (bif true then (bif true then (bif false then none else (bif true then (l0 x1 x2 (bif true then (bif false then true else (bif true then (!e16) else false)) else false) x4 x5 (IntKind.i64.wrap (x6 + 1))) else none)) else none) else none) else (bif false then none else (bif false then none else (bif false then none else (bif false then none else (bif true then (l0 x1 x2 false x4 x5 (IntKind.i64.wrap (x6 + 1))) else none))))))))) else none) else none) else (bif false then none else (bif false then none else (bif false then none else (bif false then none else (l0 x1 x2 false x4 x5 (IntKind.i64.wrap (x6 + 1)))))))))))) else none) else (k1 x1 x2 x3)
def Uj5 (n:Nat):Nat→LP→LP→Bool→LP→Int→Int→(LP→LP→Bool→Int→Bool→O R)→(LP→LP→Bool→O R)→O R
 | 0,_,_,_,_,_,_,_,_=>none
 | m + 1,x1,x2,x3,x4,x5,x6,k0,k1=>UrZ n (fun x1 x2 x3 x4 x5 x6=>Uj5 n m x1 x2 x3 x4 x5 x6 k0 k1) x1 x2 x3 x4 x5 x6 k0 k1
def UCY (n:Nat) (x1 x2:LP) (x3:Bool) (x4:LP) (x5 x6:Int) (k0:LP→LP→Bool→Int→Bool→O R) (k1:LP→LP→Bool→O R):O R:=Uj5 n n x1 x2 x3 x4 x5 x6 k0 k1
def p59 (n:Nat) (x1:LP) (x2:Int) (x3 x4:LP) (k0:Bool→Int→O R):O R :=
 UCX n x1 x2 x3 x4 true x1 ((x1).length:Int) 0 (fun y5 y6 y7 y8 y9=>UCY n y5 y8 y9 y7 ((y7).length:Int) 0 (fun y10 y11 y12 y13 y14=>k0 y12 y13) (fun y15 y16 y17=>p36 n y16 y15 (fun y18 y19=>bif y17 then (bif true then (p19 n y18 ⟨#[48]⟩ (fun y20=>bif true then (k0 (bif true then (decide (y20<0)) else false) y19) else none)) else none) else (bif false then none else (bif false then none else (bif false then none else (k0 false y19)))))))
abbrev E59 (n:Nat):Code→Fr→Kc R→O R:=evC Tryz.prog (UxP n) Uel n (75,[])
noncomputable def Uut:Code:=Jj4 (Jll Tryz.f59) [1,1,0,1,0,0]
abbrev Ugo:Sl (List SV):=(.c (sP (sFb (.c sSh .n))) (.c (sP (sFb (.c (Jlv .i64) (.c sSh .n)))) (.c (sP (sFb (.c sSh .n))) (cB (cH (cI (cI .n)))))))
abbrev UqS (n m:Nat) (K:Kc R):Ugo.T (O R):=fun x1 x2 x3 x4 x5 x6 x7 x8=>Uj4 n m x1 x2 x3 x4 x5 x6 x7 x8 (fun y1 y2 y3 y4 y5=>xL Uel 3 K (.exit 0) [.p (.fb [.sh y1]),.p (.fb [.v (.int .i64 y2),.sh y3]),.p (.fb [.sh y4]),dD,dD,vB y5])
abbrev UAu (n:Nat) (K:Kc R) (l0:Ugo.T (O R)):Ugo.T (O R):=fun x1 x2 x3 x4 x5 x6 x7 x8=>UrY n l0 x1 x2 x3 x4 x5 x6 x7 x8 (fun y1 y2 y3 y4 y5=>xL Uel 3 K (.exit 0) [.p (.fb [.sh y1]),.p (.fb [.v (.int .i64 y2),.sh y3]),.p (.fb [.sh y4]),dD,dD,vB y5])
noncomputable def Uuu:Code:=Jj4 (Jll Tryz.f59) [1,1,1,0,1,0,0]
abbrev Ugp:Sl (List SV):=(.c (sP (sFb (.c sSh .n))) (.c (sP (sFb (.c sSh .n))) (cB (cH (cI (cI .n))))))
abbrev UqT (n m:Nat) (K:Kc R):Ugp.T (O R):=fun x1 x2 x3 x4 x5 x6=>Uj5 n m x1 x2 x3 x4 x5 x6 (fun y1 y2 y3 y4 y5=>xL Uel 8 K .ret [.p (.fb [.sh y1]),.p (.fb [.sh y2]),vB y3,vI y4,vB y5]) (fun y1 y2 y3=>xL Uel 8 K (.exit 2) [.p (.fb [.sh y1]),.p (.fb [.sh y2]),dD,dD,vB y3])
abbrev UAv (n:Nat) (K:Kc R) (l0:Ugp.T (O R)):Ugp.T (O R):=fun x1 x2 x3 x4 x5 x6=>UrZ n l0 x1 x2 x3 x4 x5 x6 (fun y1 y2 y3 y4 y5=>xL Uel 8 K .ret [.p (.fb [.sh y1]),.p (.fb [.sh y2]),vB y3,vI y4,vB y5]) (fun y1 y2 y3=>xL Uel 8 K (.exit 2) [.p (.fb [.sh y1]),.p (.fb [.sh y2]),dD,dD,vB y3])
abbrev UF1 (n:Nat):Orc R:=oL Uel (E59 n) n 8 Uuu Ugp (UqT n n) (oL Uel (E59 n) n 3 Uut Ugo (UqS n n) oN)
abbrev UFg (n:Nat):Orc R:=oN
abbrev K59 (R:Type) (n:Nat):=JcH (R:=R) Tryz.prog (UxP n) Uel n (75,[]) (UF1 n) (UFg n)
theorem UDx (n:Nat):K59 R n (false,3,Uut):=JkF (lo:=UF1 n) (cu:=UFg n) (pO pN (by kernel_rfl)) Ugo (UqS n n) (JiE (F:=UqS n) Ugo (UAu n) (fun K _ _ _ _ _ _ _ _=>rfl) (fun _ _=>rfl) (fun L K _ _ _ _ _ _ _ _=>by show _=_; kernel_rfl) n) fun _ _=>rfl
theorem UDy (n:Nat):K59 R n (false,8,Uuu):=JkF (lo:=UF1 n) (cu:=UFg n) (pO pN (by kernel_rfl)) Ugp (UqT n n) (JiE (F:=UqT n) Ugp (UAv n) (fun K _ _ _ _ _ _=>rfl) (fun _ _=>rfl) (fun L K _ _ _ _ _ _=>by show _=_; kernel_rfl) n) fun _ _=>rfl
theorem UNb (n:Nat):Je6 (K59 R n) (JaJ Uel (Jll Tryz.f59)):=pO (pC (UDx n) (pC (UDy n) pN)) (by kernel_rfl)
abbrev t59:Sl (List SV):=(.c (sP (sFb (.c sSh .n))) (.c (sP (sFb (.c (Jlv .i64) (.c sSh .n)))) (.c (sP (sFb (.c sSh .n))) .n)))
abbrev f59 (n:Nat) (K:List SV→O R):t59.T (O R):=fun x1 x2 x3 x4=>p59 n x1 x2 x3 x4 (fun y1 y2=>K [vB y1,vI y2])
abbrev UJe (n:Nat):FS:=fT [false,false,false] t59 (f59 n)
theorem UMi (n:Nat):FSound Tryz.prog GI 59 (UJe n):=gd Uel n (UpD n) Tryz.func59 (.cons (UpD n) t59 (f59 n) (fun K _ _ _ _=>(Jkq (c:=Jll Tryz.f59) (by kernel_rfl) (UNb n) K).trans (by kernel_rfl)) .nil) (by kernel_rfl)
def Uad:Ann:={ loops:=[(4,ids [1,31,32,33],ids [1,2]),(10,ids [1,42,43,44],ids [1,2])],cuts:=[(3,ids [1],ids [2]),(17,ids [1],ids [2]),(23,ids [1],ids [2])],frz:=[],rm:=[.id] }
abbrev UgR (n:Nat):Env:=eC 76 (UJn n) (eC 66 (UFu n) (eC 65 (UEr n) (eC 59 (UJe n) (eC 35 (UI4 n) (eC 29 (UI3 n) (eC 17 (UIX n) eN))))))
theorem UgS (n:Nat):EnvOK Tryz.prog GI (UgR n):=.cons (.cons (.cons (.cons (.cons (.cons (.cons (.nil) (UL1 n)) (UL7 n)) (UL8 n)) (UMi n)) (UGF n)) (UJZ n)) (UMr n)
def UrT (n:Nat) (l0:Int→LP→LP→LP→LP→Bool→Int→LP→LP→LP→Int→Int→O R) (x1:Int) (x2 x3 x4 x5:LP) (x6:Bool) (x7:Int) (x8 x9 x10:LP) (x11 x12:Int) (k0:Int→LP→LP→LP→LP→Bool→Int→LP→LP→Int→O R) (k1:Int→LP→LP→LP→LP→Bool→Int→LP→LP→O R):O R :=
 bif (decide (x12<x11)) then (bif (inR x12 ((x10).length)) then (Jkr ((x10).getD ((x12:Int).toNat) (.v (.bool false))) fun e13=>p66 n e13 (fun y14=>bif (!y14) then (k0 x1 x2 x3 x4 x5 x6 x7 x8 x9 3) else (l0 x1 x2 x3 x4 x5 x6 x7 x8 x9 x10 x11 (IntKind.i64.wrap (x12 + 1))))) else none) else (k1 x1 x2 x3 x4 x5 x6 x7 x8 x9)
def Uj0 (n:Nat):Nat→Int→LP→LP→LP→LP→Bool→Int→LP→LP→LP→Int→Int→(Int→LP→LP→LP→LP→Bool→Int→LP→LP→Int→O R)→(Int→LP→LP→LP→LP→Bool→Int→LP→LP→O R)→O R
 | 0,_,_,_,_,_,_,_,_,_,_,_,_,_,_=>none
 | m + 1,x1,x2,x3,x4,x5,x6,x7,x8,x9,x10,x11,x12,k0,k1=>UrT n (fun x1 x2 x3 x4 x5 x6 x7 x8 x9 x10 x11 x12=>Uj0 n m x1 x2 x3 x4 x5 x6 x7 x8 x9 x10 x11 x12 k0 k1) x1 x2 x3 x4 x5 x6 x7 x8 x9 x10 x11 x12 k0 k1
def UCR (n:Nat) (x1:Int) (x2 x3 x4 x5:LP) (x6:Bool) (x7:Int) (x8 x9 x10:LP) (x11 x12:Int) (k0:Int→LP→LP→LP→LP→Bool→Int→LP→LP→Int→O R) (k1:Int→LP→LP→LP→LP→Bool→Int→LP→LP→O R):O R:=Uj0 n n x1 x2 x3 x4 x5 x6 x7 x8 x9 x10 x11 x12 k0 k1
def UmF (n:Nat) (l0:Int→LP→LP→LP→LP→Bool→Int→LP→LP→LP→Int→Int→O R) (x1:Int) (x2 x3 x4 x5:LP) (x6:Bool) (x7:Int) (x8 x9 x10:LP) (x11 x12:Int) (k0:Int→LP→LP→LP→LP→Bool→Int→LP→LP→Int→O R) (k1:Int→LP→LP→LP→LP→Bool→Int→LP→LP→O R):O R :=
 bif (decide (x12<x11)) then (bif (inR x12 ((x10).length)) then (Jkr ((x10).getD ((x12:Int).toNat) (.v (.bool false))) fun e13=>bif (((e13).length:Int) != x1) then (k0 x1 x2 x3 x4 x5 x6 x7 x8 x9 6) else (l0 x1 x2 x3 x4 x5 x6 x7 x8 x9 x10 x11 (IntKind.i64.wrap (x12 + 1)))) else none) else (k1 x1 x2 x3 x4 x5 x6 x7 x8 x9)
def Uht (n:Nat):Nat→Int→LP→LP→LP→LP→Bool→Int→LP→LP→LP→Int→Int→(Int→LP→LP→LP→LP→Bool→Int→LP→LP→Int→O R)→(Int→LP→LP→LP→LP→Bool→Int→LP→LP→O R)→O R
 | 0,_,_,_,_,_,_,_,_,_,_,_,_,_,_=>none
 | m + 1,x1,x2,x3,x4,x5,x6,x7,x8,x9,x10,x11,x12,k0,k1=>UmF n (fun x1 x2 x3 x4 x5 x6 x7 x8 x9 x10 x11 x12=>Uht n m x1 x2 x3 x4 x5 x6 x7 x8 x9 x10 x11 x12 k0 k1) x1 x2 x3 x4 x5 x6 x7 x8 x9 x10 x11 x12 k0 k1
def Uyz (n:Nat) (x1:Int) (x2 x3 x4 x5:LP) (x6:Bool) (x7:Int) (x8 x9 x10:LP) (x11 x12:Int) (k0:Int→LP→LP→LP→LP→Bool→Int→LP→LP→Int→O R) (k1:Int→LP→LP→LP→LP→Bool→Int→LP→LP→O R):O R:=Uht n n x1 x2 x3 x4 x5 x6 x7 x8 x9 x10 x11 x12 k0 k1
def UjZ (n:Nat) (x1:Int) (x2 x3 x4 x5:LP) (x6:Bool) (x7:Int) (x8 x9:LP) (k0:Int→O R):O R :=
 p29 n x7 x8 x9 (fun y10 y11=>bif (y11 != 0) then (k0 y11) else (bif (!y10) then (k0 16) else (k0 0)))
def UjY (n:Nat) (x1:Int) (x2 x3 x4 x5:LP) (x6:Bool) (x7:Int) (x8 x9:LP) (k0:Int→O R):O R :=
 bif (decide (((x4).length:Int)>0)) then (bif (inR 0 ((x4).length)) then (Jkr ((x4).getD ((0:Int).toNat) (.v (.bool false))) fun e10=>p17 n x1 x2 e10 (fun y11 y12=>bif (y12 != 0) then (k0 y12) else (bif (!y11) then (k0 15) else (UjZ n x1 x2 x3 x4 x5 x6 x7 x8 x9 (fun y13=>k0 y13))))) else none) else (UjZ n x1 x2 x3 x4 x5 x6 x7 x8 x9 (fun y14=>k0 y14))
def UvG (n:Nat) (x1:Int) (x2 x3 x4 x5:LP) (x6:Bool) (x7:Int) (x8 x9:LP) (k0:Int→O R):O R :=
 UCR n x1 x2 x3 x4 x5 x6 x7 x8 x9 x4 ((x4).length:Int) 0 (fun y10 y11 y12 y13 y14 y15 y16 y17 y18 y19=>k0 y19) (fun y20 y21 y22 y23 y24 y25 y26 y27 y28=>Uyz n y20 y21 y22 y23 y24 y25 y26 y27 y28 y23 ((y23).length:Int) 0 (fun y29 y30 y31 y32 y33 y34 y35 y36 y37 y38=>k0 y38) (fun y39 y40 y41 y42 y43 y44 y45 y46 y47=>bif y44 then (bif (bif true then (((y43).length:Int) != ((y40).length:Int)) else false) then (k0 6) else (UjY n y39 y40 y41 y42 y43 y44 y45 y46 y47 (fun y48=>k0 y48))) else (UjY n y39 y40 y41 y42 y43 y44 y45 y46 y47 (fun y49=>k0 y49))))
def p32 (n:Nat) (x1:Int) (x2 x3 x4 x5:LP) (x6:Bool) (x7:Int) (x8 x9:LP) (k0:Int→O R):O R :=
 p65 n x1 x2 (fun y10=>bif (y10 != 0) then (k0 3) else (p76 n x1 x3 (fun y11=>bif (bif false then true else (!y11)) then (k0 3) else (p66 n x5 (fun y12=>bif (bif false then true else (!y12)) then (k0 3) else (UvG n x1 x2 x3 x4 x5 x6 x7 x8 x9 (fun y13=>k0 y13)))))))
def UiG (n:Nat) (l0:Int→LP→LP→LP→LP→Bool→Int→LP→LP→LP→LP→LP→Int→Int→O R) (x1:Int) (x2 x3 x4 x5:LP) (x6:Bool) (x7:Int) (x8 x9 x10 x11 x12:LP) (x13 x14:Int) (k0:Int→LP→LP→LP→LP→Bool→Int→LP→LP→LP→LP→Int→O R) (k1:Int→LP→LP→LP→LP→Bool→Int→LP→LP→LP→LP→O R):O R :=
 bif (decide (x14<x13)) then (bif (inR x14 ((x12).length)) then (Jkr ((x12).getD ((x14:Int).toNat) (.v (.bool false))) fun e15=>p66 n e15 (fun y16=>bif (!y16) then (k0 x1 x2 x3 x4 x5 x6 x7 x8 x9 x10 x11 3) else (l0 x1 x2 x3 x4 x5 x6 x7 x8 x9 x10 x11 x12 x13 (IntKind.i64.wrap (x14 + 1))))) else none) else (k1 x1 x2 x3 x4 x5 x6 x7 x8 x9 x10 x11)
def Ufr (n:Nat):Nat→Int→LP→LP→LP→LP→Bool→Int→LP→LP→LP→LP→LP→Int→Int→(Int→LP→LP→LP→LP→Bool→Int→LP→LP→LP→LP→Int→O R)→(Int→LP→LP→LP→LP→Bool→Int→LP→LP→LP→LP→O R)→O R
 | 0,_,_,_,_,_,_,_,_,_,_,_,_,_,_,_,_=>none
 | m + 1,x1,x2,x3,x4,x5,x6,x7,x8,x9,x10,x11,x12,x13,x14,k0,k1=>UiG n (fun x1 x2 x3 x4 x5 x6 x7 x8 x9 x10 x11 x12 x13 x14=>Ufr n m x1 x2 x3 x4 x5 x6 x7 x8 x9 x10 x11 x12 x13 x14 k0 k1) x1 x2 x3 x4 x5 x6 x7 x8 x9 x10 x11 x12 x13 x14 k0 k1
def Utl (n:Nat) (x1:Int) (x2 x3 x4 x5:LP) (x6:Bool) (x7:Int) (x8 x9 x10 x11 x12:LP) (x13 x14:Int) (k0:Int→LP→LP→LP→LP→Bool→Int→LP→LP→LP→LP→Int→O R) (k1:Int→LP→LP→LP→LP→Bool→Int→LP→LP→LP→LP→O R):O R:=Ufr n n x1 x2 x3 x4 x5 x6 x7 x8 x9 x10 x11 x12 x13 x14 k0 k1
def UfV (n:Nat) (l0:Int→LP→LP→LP→LP→Bool→Int→LP→LP→LP→LP→LP→Int→Int→O R) (x1:Int) (x2 x3 x4 x5:LP) (x6:Bool) (x7:Int) (x8 x9 x10 x11 x12:LP) (x13 x14:Int) (k0:Int→LP→LP→LP→LP→Bool→Int→LP→LP→LP→LP→Int→O R) (k1:Int→LP→LP→LP→LP→Bool→Int→LP→LP→LP→LP→O R):O R :=
 bif (decide (x14<x13)) then (bif (inR x14 ((x12).length)) then (Jkr ((x12).getD ((x14:Int).toNat) (.v (.bool false))) fun e15=>bif (((e15).length:Int) != x1) then (k0 x1 x2 x3 x4 x5 x6 x7 x8 x9 x10 x11 6) else (l0 x1 x2 x3 x4 x5 x6 x7 x8 x9 x10 x11 x12 x13 (IntKind.i64.wrap (x14 + 1)))) else none) else (k1 x1 x2 x3 x4 x5 x6 x7 x8 x9 x10 x11)
def Udv (n:Nat):Nat→Int→LP→LP→LP→LP→Bool→Int→LP→LP→LP→LP→LP→Int→Int→(Int→LP→LP→LP→LP→Bool→Int→LP→LP→LP→LP→Int→O R)→(Int→LP→LP→LP→LP→Bool→Int→LP→LP→LP→LP→O R)→O R
 | 0,_,_,_,_,_,_,_,_,_,_,_,_,_,_,_,_=>none
 | m + 1,x1,x2,x3,x4,x5,x6,x7,x8,x9,x10,x11,x12,x13,x14,k0,k1=>UfV n (fun x1 x2 x3 x4 x5 x6 x7 x8 x9 x10 x11 x12 x13 x14=>Udv n m x1 x2 x3 x4 x5 x6 x7 x8 x9 x10 x11 x12 x13 x14 k0 k1) x1 x2 x3 x4 x5 x6 x7 x8 x9 x10 x11 x12 x13 x14 k0 k1
def UrR (n:Nat) (x1:Int) (x2 x3 x4 x5:LP) (x6:Bool) (x7:Int) (x8 x9 x10 x11 x12:LP) (x13 x14:Int) (k0:Int→LP→LP→LP→LP→Bool→Int→LP→LP→LP→LP→Int→O R) (k1:Int→LP→LP→LP→LP→Bool→Int→LP→LP→LP→LP→O R):O R:=Udv n n x1 x2 x3 x4 x5 x6 x7 x8 x9 x10 x11 x12 x13 x14 k0 k1
def Ufp (n:Nat) (x1:Int) (x2 x3 x4 x5:LP) (x6:Bool) (x7:Int) (x8 x9 x10 x11:LP) (k0:Int→O R):O R :=
 p35 n x7 x8 x9 x10 x11 (fun y12 y13=>bif (y13 != 0) then (k0 y13) else (bif (!y12) then (k0 16) else (k0 0)))
def Ufn (n:Nat) (x1:Int) (x2 x3 x4 x5:LP) (x6:Bool) (x7:Int) (x8 x9 x10 x11:LP) (k0:Int→O R):O R :=
 bif (decide (((x4).length:Int)>0)) then (bif (inR 0 ((x4).length)) then (Jkr ((x4).getD ((0:Int).toNat) (.v (.bool false))) fun e12=>p17 n x1 x2 e12 (fun y13 y14=>bif (y14 != 0) then (k0 y14) else (bif (!y13) then (k0 15) else (Ufp n x1 x2 x3 x4 x5 x6 x7 x8 x9 x10 x11 (fun y15=>k0 y15))))) else none) else (Ufp n x1 x2 x3 x4 x5 x6 x7 x8 x9 x10 x11 (fun y16=>k0 y16))
def UmD (n:Nat) (x1:Int) (x2 x3 x4 x5:LP) (x6:Bool) (x7:Int) (x8 x9 x10 x11:LP) (k0:Int→O R):O R :=
 Utl n x1 x2 x3 x4 x5 x6 x7 x8 x9 x10 x11 x4 ((x4).length:Int) 0 (fun y12 y13 y14 y15 y16 y17 y18 y19 y20 y21 y22 y23=>k0 y23) (fun y24 y25 y26 y27 y28 y29 y30 y31 y32 y33 y34=>UrR n y24 y25 y26 y27 y28 y29 y30 y31 y32 y33 y34 y27 ((y27).length:Int) 0 (fun y35 y36 y37 y38 y39 y40 y41 y42 y43 y44 y45 y46=>k0 y46) (fun y47 y48 y49 y50 y51 y52 y53 y54 y55 y56 y57=>bif y52 then (bif (bif true then (((y51).length:Int) != ((y48).length:Int)) else false) then (k0 6) else (Ufn n y47 y48 y49 y50 y51 y52 y53 y54 y55 y56 y57 (fun y58=>k0 y58))) else (Ufn n y47 y48 y49 y50 y51 y52 y53 y54 y55 y56 y57 (fun y59=>k0 y59))))
def UCS (n:Nat) (x1:Int) (x2 x3 x4 x5:LP) (x6:Bool) (x7:Int) (x8 x9 x10 x11:LP) (k0:Int→O R):O R :=
 p65 n x1 x2 (fun y12=>bif (y12 != 0) then (k0 3) else (p76 n x1 x3 (fun y13=>bif (bif false then true else (!y13)) then (k0 3) else (p66 n x5 (fun y14=>bif (bif false then true else (!y14)) then (k0 3) else (UmD n x1 x2 x3 x4 x5 x6 x7 x8 x9 x10 x11 (fun y15=>k0 y15)))))))
def UiH (n:Nat) (l0:Int→LP→LP→LP→LP→Bool→LP→Int→LP→LP→LP→Int→Int→O R) (x1:Int) (x2 x3 x4 x5:LP) (x6:Bool) (x7:LP) (x8:Int) (x9 x10 x11:LP) (x12 x13:Int) (k0:Int→LP→LP→LP→LP→Bool→LP→Int→LP→LP→Int→O R) (k1:Int→LP→LP→LP→LP→Bool→LP→Int→LP→LP→O R):O R :=
 bif (decide (x13<x12)) then (bif (inR x13 ((x11).length)) then (Jkr ((x11).getD ((x13:Int).toNat) (.v (.bool false))) fun e14=>p66 n e14 (fun y15=>bif (!y15) then (k0 x1 x2 x3 x4 x5 x6 x7 x8 x9 x10 3) else (l0 x1 x2 x3 x4 x5 x6 x7 x8 x9 x10 x11 x12 (IntKind.i64.wrap (x13 + 1))))) else none) else (k1 x1 x2 x3 x4 x5 x6 x7 x8 x9 x10)
def Ufs (n:Nat):Nat→Int→LP→LP→LP→LP→Bool→LP→Int→LP→LP→LP→Int→Int→(Int→LP→LP→LP→LP→Bool→LP→Int→LP→LP→Int→O R)→(Int→LP→LP→LP→LP→Bool→LP→Int→LP→LP→O R)→O R
 | 0,_,_,_,_,_,_,_,_,_,_,_,_,_,_,_=>none
 | m + 1,x1,x2,x3,x4,x5,x6,x7,x8,x9,x10,x11,x12,x13,k0,k1=>UiH n (fun x1 x2 x3 x4 x5 x6 x7 x8 x9 x10 x11 x12 x13=>Ufs n m x1 x2 x3 x4 x5 x6 x7 x8 x9 x10 x11 x12 x13 k0 k1) x1 x2 x3 x4 x5 x6 x7 x8 x9 x10 x11 x12 x13 k0 k1
def Utm (n:Nat) (x1:Int) (x2 x3 x4 x5:LP) (x6:Bool) (x7:LP) (x8:Int) (x9 x10 x11:LP) (x12 x13:Int) (k0:Int→LP→LP→LP→LP→Bool→LP→Int→LP→LP→Int→O R) (k1:Int→LP→LP→LP→LP→Bool→LP→Int→LP→LP→O R):O R:=Ufs n n x1 x2 x3 x4 x5 x6 x7 x8 x9 x10 x11 x12 x13 k0 k1
def UfW (n:Nat) (l0:Int→LP→LP→LP→LP→Bool→LP→Int→LP→LP→LP→Int→Int→O R) (x1:Int) (x2 x3 x4 x5:LP) (x6:Bool) (x7:LP) (x8:Int) (x9 x10 x11:LP) (x12 x13:Int) (k0:Int→LP→LP→LP→LP→Bool→LP→Int→LP→LP→Int→O R) (k1:Int→LP→LP→LP→LP→Bool→LP→Int→LP→LP→O R):O R :=
 bif (decide (x13<x12)) then (bif (inR x13 ((x11).length)) then (Jkr ((x11).getD ((x13:Int).toNat) (.v (.bool false))) fun e14=>bif (((e14).length:Int) != x1) then (k0 x1 x2 x3 x4 x5 x6 x7 x8 x9 x10 6) else (l0 x1 x2 x3 x4 x5 x6 x7 x8 x9 x10 x11 x12 (IntKind.i64.wrap (x13 + 1)))) else none) else (k1 x1 x2 x3 x4 x5 x6 x7 x8 x9 x10)
def Udw (n:Nat):Nat→Int→LP→LP→LP→LP→Bool→LP→Int→LP→LP→LP→Int→Int→(Int→LP→LP→LP→LP→Bool→LP→Int→LP→LP→Int→O R)→(Int→LP→LP→LP→LP→Bool→LP→Int→LP→LP→O R)→O R
 | 0,_,_,_,_,_,_,_,_,_,_,_,_,_,_,_=>none
 | m + 1,x1,x2,x3,x4,x5,x6,x7,x8,x9,x10,x11,x12,x13,k0,k1=>UfW n (fun x1 x2 x3 x4 x5 x6 x7 x8 x9 x10 x11 x12 x13=>Udw n m x1 x2 x3 x4 x5 x6 x7 x8 x9 x10 x11 x12 x13 k0 k1) x1 x2 x3 x4 x5 x6 x7 x8 x9 x10 x11 x12 x13 k0 k1
def UrS (n:Nat) (x1:Int) (x2 x3 x4 x5:LP) (x6:Bool) (x7:LP) (x8:Int) (x9 x10 x11:LP) (x12 x13:Int) (k0:Int→LP→LP→LP→LP→Bool→LP→Int→LP→LP→Int→O R) (k1:Int→LP→LP→LP→LP→Bool→LP→Int→LP→LP→O R):O R:=Udw n n x1 x2 x3 x4 x5 x6 x7 x8 x9 x10 x11 x12 x13 k0 k1
def Ufq (n:Nat) (x1:Int) (x2 x3 x4 x5:LP) (x6:Bool) (x7:LP) (x8:Int) (x9 x10:LP) (k0:Int→O R):O R :=
 p59 n x7 x8 x9 x10 (fun y11 y12=>bif (y12 != 0) then (k0 y12) else (bif (!y11) then (k0 16) else (k0 0)))
def Ufo (n:Nat) (x1:Int) (x2 x3 x4 x5:LP) (x6:Bool) (x7:LP) (x8:Int) (x9 x10:LP) (k0:Int→O R):O R :=
 bif (decide (((x4).length:Int)>0)) then (bif (inR 0 ((x4).length)) then (Jkr ((x4).getD ((0:Int).toNat) (.v (.bool false))) fun e11=>p17 n x1 x2 e11 (fun y12 y13=>bif (y13 != 0) then (k0 y13) else (bif (!y12) then (k0 15) else (Ufq n x1 x2 x3 x4 x5 x6 x7 x8 x9 x10 (fun y14=>k0 y14))))) else none) else (Ufq n x1 x2 x3 x4 x5 x6 x7 x8 x9 x10 (fun y15=>k0 y15))
def UmE (n:Nat) (x1:Int) (x2 x3 x4 x5:LP) (x6:Bool) (x7:LP) (x8:Int) (x9 x10:LP) (k0:Int→O R):O R :=
 Utm n x1 x2 x3 x4 x5 x6 x7 x8 x9 x10 x4 ((x4).length:Int) 0 (fun y11 y12 y13 y14 y15 y16 y17 y18 y19 y20 y21=>k0 y21) (fun y22 y23 y24 y25 y26 y27 y28 y29 y30 y31=>UrS n y22 y23 y24 y25 y26 y27 y28 y29 y30 y31 y25 ((y25).length:Int) 0 (fun y32 y33 y34 y35 y36 y37 y38 y39 y40 y41 y42=>k0 y42) (fun y43 y44 y45 y46 y47 y48 y49 y50 y51 y52=>bif y48 then (bif (bif true then (((y47).length:Int) != ((y44).length:Int)) else false) then (k0 6) else (Ufo n y43 y44 y45 y46 y47 y48 y49 y50 y51 y52 (fun y53=>k0 y53))) else (Ufo n y43 y44 y45 y46 y47 y48 y49 y50 y51 y52 (fun y54=>k0 y54))))
def UCT (n:Nat) (x1:Int) (x2 x3 x4 x5:LP) (x6:Bool) (x7:LP) (x8:Int) (x9 x10:LP) (k0:Int→O R):O R :=
 p65 n x1 x2 (fun y11=>bif (y11 != 0) then (k0 3) else (p76 n x1 x3 (fun y12=>bif (bif false then true else (!y12)) then (k0 3) else (p66 n x5 (fun y13=>bif (bif false then true else (!y13)) then (k0 3) else (UmE n x1 x2 x3 x4 x5 x6 x7 x8 x9 x10 (fun y14=>k0 y14)))))))
abbrev E32 (n:Nat):Code→Fr→Kc R→O R:=evC Tryz.prog (UgR n) Uad n (97,[])
noncomputable def Uok:Code:=Jj4 (Jll Tryz.f32) [1,1]
abbrev Ukz:Sl (List SV):=(.c (sBx 74 (cI (cH (cH (cH (cH (cB (.c (sP (JlJ 29 (.c (sFb (.c (Jlv .i64) (.c sSh .n))) (.c (sFb (.c sSh .n)) .n)))) .n)))))))) .n)
abbrev UkA:Sl (List SV):=(.c (sBx 74 (cI (cH (cH (cH (cH (cB (.c (sP (JlJ 35 (.c (sFb (.c (Jlv .i64) (.c sSh .n))) (.c (sFb (.c sSh .n)) (.c (sFb (.c sSh .n)) (.c (sFb (.c sSh .n)) .n)))))) .n)))))))) .n)
abbrev UkB:Sl (List SV):=(.c (sBx 74 (cI (cH (cH (cH (cH (cB (.c (sP (JlJ 59 (.c (sFb (.c sSh .n)) (.c (sFb (.c (Jlv .i64) (.c sSh .n))) (.c (sFb (.c sSh .n)) .n))))) .n)))))))) .n)
abbrev UqF (n:Nat) (K:Kc R):Ukz.T (O R):=fun x1 x2 x3 x4 x5 x6 x7 x8 x9=>UvG n x1 x2 x3 x4 x5 x6 x7 x8 x9 (fun y1=>xC Uad 3 K .ret [vI y1])
abbrev UqG (n:Nat) (K:Kc R):UkA.T (O R):=fun x1 x2 x3 x4 x5 x6 x7 x8 x9 x10 x11=>UmD n x1 x2 x3 x4 x5 x6 x7 x8 x9 x10 x11 (fun y1=>xC Uad 3 K .ret [vI y1])
abbrev UqH (n:Nat) (K:Kc R):UkB.T (O R):=fun x1 x2 x3 x4 x5 x6 x7 x8 x9 x10=>UmE n x1 x2 x3 x4 x5 x6 x7 x8 x9 x10 (fun y1=>xC Uad 3 K .ret [vI y1])
noncomputable def Ujb:Code:=Jj4 (Jll Tryz.f32) [1,1,1,1,1]
abbrev Uif:Sl (List SV):=(.c (sBx 74 (cI (cH (cH (cH (cH (cB (.c (sP (JlJ 29 (.c (sFb (.c (Jlv .i64) (.c sSh .n))) (.c (sFb (.c sSh .n)) .n)))) .n)))))))) .n)
abbrev Uig:Sl (List SV):=(.c (sBx 74 (cI (cH (cH (cH (cH (cB (.c (sP (JlJ 35 (.c (sFb (.c (Jlv .i64) (.c sSh .n))) (.c (sFb (.c sSh .n)) (.c (sFb (.c sSh .n)) (.c (sFb (.c sSh .n)) .n)))))) .n)))))))) .n)
abbrev Uih:Sl (List SV):=(.c (sBx 74 (cI (cH (cH (cH (cH (cB (.c (sP (JlJ 59 (.c (sFb (.c sSh .n)) (.c (sFb (.c (Jlv .i64) (.c sSh .n))) (.c (sFb (.c sSh .n)) .n))))) .n)))))))) .n)
abbrev Ume (n:Nat) (K:Kc R):Uif.T (O R):=fun x1 x2 x3 x4 x5 x6 x7 x8 x9=>UjY n x1 x2 x3 x4 x5 x6 x7 x8 x9 (fun y1=>xC Uad 17 K .ret [vI y1])
abbrev Umf (n:Nat) (K:Kc R):Uig.T (O R):=fun x1 x2 x3 x4 x5 x6 x7 x8 x9 x10 x11=>Ufn n x1 x2 x3 x4 x5 x6 x7 x8 x9 x10 x11 (fun y1=>xC Uad 17 K .ret [vI y1])
abbrev Umg (n:Nat) (K:Kc R):Uih.T (O R):=fun x1 x2 x3 x4 x5 x6 x7 x8 x9 x10=>Ufo n x1 x2 x3 x4 x5 x6 x7 x8 x9 x10 (fun y1=>xC Uad 17 K .ret [vI y1])
noncomputable def Ujc:Code:=Jj4 (Jll Tryz.f32) [1,1,1,1,1,1]
abbrev Uii:Sl (List SV):=(.c (sBx 74 (cI (cH (cH (cH (cH (cB (.c (sP (JlJ 29 (.c (sFb (.c (Jlv .i64) (.c sSh .n))) (.c (sFb (.c sSh .n)) .n)))) .n)))))))) .n)
abbrev Uij:Sl (List SV):=(.c (sBx 74 (cI (cH (cH (cH (cH (cB (.c (sP (JlJ 35 (.c (sFb (.c (Jlv .i64) (.c sSh .n))) (.c (sFb (.c sSh .n)) (.c (sFb (.c sSh .n)) (.c (sFb (.c sSh .n)) .n)))))) .n)))))))) .n)
abbrev Uik:Sl (List SV):=(.c (sBx 74 (cI (cH (cH (cH (cH (cB (.c (sP (JlJ 59 (.c (sFb (.c sSh .n)) (.c (sFb (.c (Jlv .i64) (.c sSh .n))) (.c (sFb (.c sSh .n)) .n))))) .n)))))))) .n)
abbrev Umh (n:Nat) (K:Kc R):Uii.T (O R):=fun x1 x2 x3 x4 x5 x6 x7 x8 x9=>UjZ n x1 x2 x3 x4 x5 x6 x7 x8 x9 (fun y1=>xC Uad 23 K .ret [vI y1])
abbrev Umi (n:Nat) (K:Kc R):Uij.T (O R):=fun x1 x2 x3 x4 x5 x6 x7 x8 x9 x10 x11=>Ufp n x1 x2 x3 x4 x5 x6 x7 x8 x9 x10 x11 (fun y1=>xC Uad 23 K .ret [vI y1])
abbrev Umj (n:Nat) (K:Kc R):Uik.T (O R):=fun x1 x2 x3 x4 x5 x6 x7 x8 x9 x10=>Ufq n x1 x2 x3 x4 x5 x6 x7 x8 x9 x10 (fun y1=>xC Uad 23 K .ret [vI y1])
noncomputable def UfN:Code:=Jj4 (Jll Tryz.f32) [1,1,0,1,0,0]
abbrev UcA:Sl (List SV):=(.c (sBx 74 (cI (cH (cH (cH (cH (cB (.c (sP (JlJ 29 (.c (sFb (.c (Jlv .i64) (.c sSh .n))) (.c (sFb (.c sSh .n)) .n)))) .n)))))))) (cH (cI (cI .n))))
abbrev UcB:Sl (List SV):=(.c (sBx 74 (cI (cH (cH (cH (cH (cB (.c (sP (JlJ 35 (.c (sFb (.c (Jlv .i64) (.c sSh .n))) (.c (sFb (.c sSh .n)) (.c (sFb (.c sSh .n)) (.c (sFb (.c sSh .n)) .n)))))) .n)))))))) (cH (cI (cI .n))))
abbrev UcC:Sl (List SV):=(.c (sBx 74 (cI (cH (cH (cH (cH (cB (.c (sP (JlJ 59 (.c (sFb (.c sSh .n)) (.c (sFb (.c (Jlv .i64) (.c sSh .n))) (.c (sFb (.c sSh .n)) .n))))) .n)))))))) (cH (cI (cI .n))))
abbrev UgZ (n m:Nat) (K:Kc R):UcA.T (O R):=fun x1 x2 x3 x4 x5 x6 x7 x8 x9 x10 x11 x12=>Uj0 n m x1 x2 x3 x4 x5 x6 x7 x8 x9 x10 x11 x12 (fun y1 y2 y3 y4 y5 y6 y7 y8 y9 y10=>xL Uad 4 K .ret [.bx 74 [vI y1,vH y2,vH y3,vH y4,vH y5,vB y6,.p (.clo 29 [.fb [.v (.int .i64 y7),.sh y8],.fb [.sh y9]])],vI y10]) (fun y1 y2 y3 y4 y5 y6 y7 y8 y9=>xL Uad 4 K (.exit 0) [.bx 74 [vI y1,vH y2,vH y3,vH y4,vH y5,vB y6,.p (.clo 29 [.fb [.v (.int .i64 y7),.sh y8],.fb [.sh y9]])],dD])
abbrev Uw8 (n:Nat) (K:Kc R) (l0:UcA.T (O R)):UcA.T (O R):=fun x1 x2 x3 x4 x5 x6 x7 x8 x9 x10 x11 x12=>UrT n l0 x1 x2 x3 x4 x5 x6 x7 x8 x9 x10 x11 x12 (fun y1 y2 y3 y4 y5 y6 y7 y8 y9 y10=>xL Uad 4 K .ret [.bx 74 [vI y1,vH y2,vH y3,vH y4,vH y5,vB y6,.p (.clo 29 [.fb [.v (.int .i64 y7),.sh y8],.fb [.sh y9]])],vI y10]) (fun y1 y2 y3 y4 y5 y6 y7 y8 y9=>xL Uad 4 K (.exit 0) [.bx 74 [vI y1,vH y2,vH y3,vH y4,vH y5,vB y6,.p (.clo 29 [.fb [.v (.int .i64 y7),.sh y8],.fb [.sh y9]])],dD])
abbrev Ug0 (n m:Nat) (K:Kc R):UcB.T (O R):=fun x1 x2 x3 x4 x5 x6 x7 x8 x9 x10 x11 x12 x13 x14=>Ufr n m x1 x2 x3 x4 x5 x6 x7 x8 x9 x10 x11 x12 x13 x14 (fun y1 y2 y3 y4 y5 y6 y7 y8 y9 y10 y11 y12=>xL Uad 4 K .ret [.bx 74 [vI y1,vH y2,vH y3,vH y4,vH y5,vB y6,.p (.clo 35 [.fb [.v (.int .i64 y7),.sh y8],.fb [.sh y9],.fb [.sh y10],.fb [.sh y11]])],vI y12]) (fun y1 y2 y3 y4 y5 y6 y7 y8 y9 y10 y11=>xL Uad 4 K (.exit 0) [.bx 74 [vI y1,vH y2,vH y3,vH y4,vH y5,vB y6,.p (.clo 35 [.fb [.v (.int .i64 y7),.sh y8],.fb [.sh y9],.fb [.sh y10],.fb [.sh y11]])],dD])
abbrev Uw9 (n:Nat) (K:Kc R) (l0:UcB.T (O R)):UcB.T (O R):=fun x1 x2 x3 x4 x5 x6 x7 x8 x9 x10 x11 x12 x13 x14=>UiG n l0 x1 x2 x3 x4 x5 x6 x7 x8 x9 x10 x11 x12 x13 x14 (fun y1 y2 y3 y4 y5 y6 y7 y8 y9 y10 y11 y12=>xL Uad 4 K .ret [.bx 74 [vI y1,vH y2,vH y3,vH y4,vH y5,vB y6,.p (.clo 35 [.fb [.v (.int .i64 y7),.sh y8],.fb [.sh y9],.fb [.sh y10],.fb [.sh y11]])],vI y12]) (fun y1 y2 y3 y4 y5 y6 y7 y8 y9 y10 y11=>xL Uad 4 K (.exit 0) [.bx 74 [vI y1,vH y2,vH y3,vH y4,vH y5,vB y6,.p (.clo 35 [.fb [.v (.int .i64 y7),.sh y8],.fb [.sh y9],.fb [.sh y10],.fb [.sh y11]])],dD])
abbrev Ug1 (n m:Nat) (K:Kc R):UcC.T (O R):=fun x1 x2 x3 x4 x5 x6 x7 x8 x9 x10 x11 x12 x13=>Ufs n m x1 x2 x3 x4 x5 x6 x7 x8 x9 x10 x11 x12 x13 (fun y1 y2 y3 y4 y5 y6 y7 y8 y9 y10 y11=>xL Uad 4 K .ret [.bx 74 [vI y1,vH y2,vH y3,vH y4,vH y5,vB y6,.p (.clo 59 [.fb [.sh y7],.fb [.v (.int .i64 y8),.sh y9],.fb [.sh y10]])],vI y11]) (fun y1 y2 y3 y4 y5 y6 y7 y8 y9 y10=>xL Uad 4 K (.exit 0) [.bx 74 [vI y1,vH y2,vH y3,vH y4,vH y5,vB y6,.p (.clo 59 [.fb [.sh y7],.fb [.v (.int .i64 y8),.sh y9],.fb [.sh y10]])],dD])
abbrev Ux (n:Nat) (K:Kc R) (l0:UcC.T (O R)):UcC.T (O R):=fun x1 x2 x3 x4 x5 x6 x7 x8 x9 x10 x11 x12 x13=>UiH n l0 x1 x2 x3 x4 x5 x6 x7 x8 x9 x10 x11 x12 x13 (fun y1 y2 y3 y4 y5 y6 y7 y8 y9 y10 y11=>xL Uad 4 K .ret [.bx 74 [vI y1,vH y2,vH y3,vH y4,vH y5,vB y6,.p (.clo 59 [.fb [.sh y7],.fb [.v (.int .i64 y8),.sh y9],.fb [.sh y10]])],vI y11]) (fun y1 y2 y3 y4 y5 y6 y7 y8 y9 y10=>xL Uad 4 K (.exit 0) [.bx 74 [vI y1,vH y2,vH y3,vH y4,vH y5,vB y6,.p (.clo 59 [.fb [.sh y7],.fb [.v (.int .i64 y8),.sh y9],.fb [.sh y10]])],dD])
noncomputable def Udi:Code:=Jj4 (Jll Tryz.f32) [1,1,1,0,1,0,0]
abbrev Ubw:Sl (List SV):=(.c (sBx 74 (cI (cH (cH (cH (cH (cB (.c (sP (JlJ 29 (.c (sFb (.c (Jlv .i64) (.c sSh .n))) (.c (sFb (.c sSh .n)) .n)))) .n)))))))) (cH (cI (cI .n))))
abbrev Ubx:Sl (List SV):=(.c (sBx 74 (cI (cH (cH (cH (cH (cB (.c (sP (JlJ 35 (.c (sFb (.c (Jlv .i64) (.c sSh .n))) (.c (sFb (.c sSh .n)) (.c (sFb (.c sSh .n)) (.c (sFb (.c sSh .n)) .n)))))) .n)))))))) (cH (cI (cI .n))))
abbrev Uby:Sl (List SV):=(.c (sBx 74 (cI (cH (cH (cH (cH (cB (.c (sP (JlJ 59 (.c (sFb (.c sSh .n)) (.c (sFb (.c (Jlv .i64) (.c sSh .n))) (.c (sFb (.c sSh .n)) .n))))) .n)))))))) (cH (cI (cI .n))))
abbrev Uep (n m:Nat) (K:Kc R):Ubw.T (O R):=fun x1 x2 x3 x4 x5 x6 x7 x8 x9 x10 x11 x12=>Uht n m x1 x2 x3 x4 x5 x6 x7 x8 x9 x10 x11 x12 (fun y1 y2 y3 y4 y5 y6 y7 y8 y9 y10=>xL Uad 10 K .ret [.bx 74 [vI y1,vH y2,vH y3,vH y4,vH y5,vB y6,.p (.clo 29 [.fb [.v (.int .i64 y7),.sh y8],.fb [.sh y9]])],vI y10]) (fun y1 y2 y3 y4 y5 y6 y7 y8 y9=>xL Uad 10 K (.exit 2) [.bx 74 [vI y1,vH y2,vH y3,vH y4,vH y5,vB y6,.p (.clo 29 [.fb [.v (.int .i64 y7),.sh y8],.fb [.sh y9]])],dD])
abbrev UsQ (n:Nat) (K:Kc R) (l0:Ubw.T (O R)):Ubw.T (O R):=fun x1 x2 x3 x4 x5 x6 x7 x8 x9 x10 x11 x12=>UmF n l0 x1 x2 x3 x4 x5 x6 x7 x8 x9 x10 x11 x12 (fun y1 y2 y3 y4 y5 y6 y7 y8 y9 y10=>xL Uad 10 K .ret [.bx 74 [vI y1,vH y2,vH y3,vH y4,vH y5,vB y6,.p (.clo 29 [.fb [.v (.int .i64 y7),.sh y8],.fb [.sh y9]])],vI y10]) (fun y1 y2 y3 y4 y5 y6 y7 y8 y9=>xL Uad 10 K (.exit 2) [.bx 74 [vI y1,vH y2,vH y3,vH y4,vH y5,vB y6,.p (.clo 29 [.fb [.v (.int .i64 y7),.sh y8],.fb [.sh y9]])],dD])
abbrev Ueq (n m:Nat) (K:Kc R):Ubx.T (O R):=fun x1 x2 x3 x4 x5 x6 x7 x8 x9 x10 x11 x12 x13 x14=>Udv n m x1 x2 x3 x4 x5 x6 x7 x8 x9 x10 x11 x12 x13 x14 (fun y1 y2 y3 y4 y5 y6 y7 y8 y9 y10 y11 y12=>xL Uad 10 K .ret [.bx 74 [vI y1,vH y2,vH y3,vH y4,vH y5,vB y6,.p (.clo 35 [.fb [.v (.int .i64 y7),.sh y8],.fb [.sh y9],.fb [.sh y10],.fb [.sh y11]])],vI y12]) (fun y1 y2 y3 y4 y5 y6 y7 y8 y9 y10 y11=>xL Uad 10 K (.exit 2) [.bx 74 [vI y1,vH y2,vH y3,vH y4,vH y5,vB y6,.p (.clo 35 [.fb [.v (.int .i64 y7),.sh y8],.fb [.sh y9],.fb [.sh y10],.fb [.sh y11]])],dD])
abbrev UsR (n:Nat) (K:Kc R) (l0:Ubx.T (O R)):Ubx.T (O R):=fun x1 x2 x3 x4 x5 x6 x7 x8 x9 x10 x11 x12 x13 x14=>UfV n l0 x1 x2 x3 x4 x5 x6 x7 x8 x9 x10 x11 x12 x13 x14 (fun y1 y2 y3 y4 y5 y6 y7 y8 y9 y10 y11 y12=>xL Uad 10 K .ret [.bx 74 [vI y1,vH y2,vH y3,vH y4,vH y5,vB y6,.p (.clo 35 [.fb [.v (.int .i64 y7),.sh y8],.fb [.sh y9],.fb [.sh y10],.fb [.sh y11]])],vI y12]) (fun y1 y2 y3 y4 y5 y6 y7 y8 y9 y10 y11=>xL Uad 10 K (.exit 2) [.bx 74 [vI y1,vH y2,vH y3,vH y4,vH y5,vB y6,.p (.clo 35 [.fb [.v (.int .i64 y7),.sh y8],.fb [.sh y9],.fb [.sh y10],.fb [.sh y11]])],dD])
abbrev Uer (n m:Nat) (K:Kc R):Uby.T (O R):=fun x1 x2 x3 x4 x5 x6 x7 x8 x9 x10 x11 x12 x13=>Udw n m x1 x2 x3 x4 x5 x6 x7 x8 x9 x10 x11 x12 x13 (fun y1 y2 y3 y4 y5 y6 y7 y8 y9 y10 y11=>xL Uad 10 K .ret [.bx 74 [vI y1,vH y2,vH y3,vH y4,vH y5,vB y6,.p (.clo 59 [.fb [.sh y7],.fb [.v (.int .i64 y8),.sh y9],.fb [.sh y10]])],vI y11]) (fun y1 y2 y3 y4 y5 y6 y7 y8 y9 y10=>xL Uad 10 K (.exit 2) [.bx 74 [vI y1,vH y2,vH y3,vH y4,vH y5,vB y6,.p (.clo 59 [.fb [.sh y7],.fb [.v (.int .i64 y8),.sh y9],.fb [.sh y10]])],dD])
abbrev UsS (n:Nat) (K:Kc R) (l0:Uby.T (O R)):Uby.T (O R):=fun x1 x2 x3 x4 x5 x6 x7 x8 x9 x10 x11 x12 x13=>UfW n l0 x1 x2 x3 x4 x5 x6 x7 x8 x9 x10 x11 x12 x13 (fun y1 y2 y3 y4 y5 y6 y7 y8 y9 y10 y11=>xL Uad 10 K .ret [.bx 74 [vI y1,vH y2,vH y3,vH y4,vH y5,vB y6,.p (.clo 59 [.fb [.sh y7],.fb [.v (.int .i64 y8),.sh y9],.fb [.sh y10]])],vI y11]) (fun y1 y2 y3 y4 y5 y6 y7 y8 y9 y10=>xL Uad 10 K (.exit 2) [.bx 74 [vI y1,vH y2,vH y3,vH y4,vH y5,vB y6,.p (.clo 59 [.fb [.sh y7],.fb [.v (.int .i64 y8),.sh y9],.fb [.sh y10]])],dD])
abbrev UfH (n:Nat):Orc R:=fun i vs K=>JfK (Nat.beq i 10) (Jjg (Ubw.ap vs (Uep n n K)) (Jjg (Ubx.ap vs (Ueq n n K)) (Jjg (Uby.ap vs (Uer n n K)) (JcB Uad 10 (E32 n Udi) n vs K)))) ((fun i vs K=>JfK (Nat.beq i 4) (Jjg (UcA.ap vs (UgZ n n K)) (Jjg (UcB.ap vs (Ug0 n n K)) (Jjg (UcC.ap vs (Ug1 n n K)) (JcB Uad 4 (E32 n UfN) n vs K)))) (oN i vs K)) i vs K)
abbrev UfG (n:Nat):Orc R:=fun i vs K=>JfK (Nat.beq i 23) (Jjg (Uii.ap vs (Umh n K)) (Jjg (Uij.ap vs (Umi n K)) (Jjg (Uik.ap vs (Umj n K)) (Jki Uad 23 (E32 n Ujc) vs K)))) ((fun i vs K=>JfK (Nat.beq i 17) (Jjg (Uif.ap vs (Ume n K)) (Jjg (Uig.ap vs (Umf n K)) (Jjg (Uih.ap vs (Umg n K)) (Jki Uad 17 (E32 n Ujb) vs K)))) ((fun i vs K=>JfK (Nat.beq i 3) (Jjg (Ukz.ap vs (UqF n K)) (Jjg (UkA.ap vs (UqG n K)) (Jjg (UkB.ap vs (UqH n K)) (Jki Uad 3 (E32 n Uok) vs K)))) (oN i vs K)) i vs K)) i vs K)
abbrev K32 (R:Type) (n:Nat):=JcH (R:=R) Tryz.prog (UgR n) Uad n (97,[]) (UfH n) (UfG n)
theorem Uk (n:Nat):Je6 (K32 R n) (JaJ Uad UfN):=pO pN (by kernel_rfl)
theorem Uxq (n:Nat):∀ m (K:Kc R),UcA.all (fun vs r=>JcB Uad 4 (JcU Tryz.prog (UgR n) Uad (97,[]) (UfH n) (UfG n) UfN) m vs K=r) (UgZ n m K):=JiE (F:=UgZ n) UcA (Uw8 n) (fun K _ _ _ _ _ _ _ _ _ _ _ _=>rfl) (fun _ _=>rfl) (fun L K _ _ _ _ _ _ _ _ _ _ _ _=>by show _=_; kernel_rfl)
theorem Uxr (n:Nat):∀ m (K:Kc R),UcB.all (fun vs r=>JcB Uad 4 (JcU Tryz.prog (UgR n) Uad (97,[]) (UfH n) (UfG n) UfN) m vs K=r) (Ug0 n m K):=JiE (F:=Ug0 n) UcB (Uw9 n) (fun K _ _ _ _ _ _ _ _ _ _ _ _ _ _=>rfl) (fun _ _=>rfl) (fun L K _ _ _ _ _ _ _ _ _ _ _ _ _ _=>by show _=_; kernel_rfl)
theorem Uxs (n:Nat):∀ m (K:Kc R),UcC.all (fun vs r=>JcB Uad 4 (JcU Tryz.prog (UgR n) Uad (97,[]) (UfH n) (UfG n) UfN) m vs K=r) (Ug1 n m K):=JiE (F:=Ug1 n) UcC (Ux n) (fun K _ _ _ _ _ _ _ _ _ _ _ _ _=>rfl) (fun _ _=>rfl) (fun L K _ _ _ _ _ _ _ _ _ _ _ _ _=>by show _=_; kernel_rfl)
theorem UDk (n:Nat):K32 R n (false,4,UfN):=JkF (lo:=UfH n) (cu:=UfG n) (Uk n) UcA (UgZ n n) (Uxq n n) (JkF (lo:=UfH n) (cu:=UfG n) (Uk n) UcB (Ug0 n n) (Uxr n n) (JkF (lo:=UfH n) (cu:=UfG n) (Uk n) UcC (Ug1 n n) (Uxs n n) fun _ _=>rfl))
theorem UhQ (n:Nat):Je6 (K32 R n) (JaJ Uad Udi):=pO pN (by kernel_rfl)
theorem Us1 (n:Nat):∀ m (K:Kc R),Ubw.all (fun vs r=>JcB Uad 10 (JcU Tryz.prog (UgR n) Uad (97,[]) (UfH n) (UfG n) Udi) m vs K=r) (Uep n m K):=JiE (F:=Uep n) Ubw (UsQ n) (fun K _ _ _ _ _ _ _ _ _ _ _ _=>rfl) (fun _ _=>rfl) (fun L K _ _ _ _ _ _ _ _ _ _ _ _=>by show _=_; kernel_rfl)
theorem Us2 (n:Nat):∀ m (K:Kc R),Ubx.all (fun vs r=>JcB Uad 10 (JcU Tryz.prog (UgR n) Uad (97,[]) (UfH n) (UfG n) Udi) m vs K=r) (Ueq n m K):=JiE (F:=Ueq n) Ubx (UsR n) (fun K _ _ _ _ _ _ _ _ _ _ _ _ _ _=>rfl) (fun _ _=>rfl) (fun L K _ _ _ _ _ _ _ _ _ _ _ _ _ _=>by show _=_; kernel_rfl)
theorem Us3 (n:Nat):∀ m (K:Kc R),Uby.all (fun vs r=>JcB Uad 10 (JcU Tryz.prog (UgR n) Uad (97,[]) (UfH n) (UfG n) Udi) m vs K=r) (Uer n m K):=JiE (F:=Uer n) Uby (UsS n) (fun K _ _ _ _ _ _ _ _ _ _ _ _ _=>rfl) (fun _ _=>rfl) (fun L K _ _ _ _ _ _ _ _ _ _ _ _ _=>by show _=_; kernel_rfl)
theorem Uzi (n:Nat):K32 R n (false,10,Udi):=JkF (lo:=UfH n) (cu:=UfG n) (UhQ n) Ubw (Uep n n) (Us1 n n) (JkF (lo:=UfH n) (cu:=UfG n) (UhQ n) Ubx (Ueq n n) (Us2 n n) (JkF (lo:=UfH n) (cu:=UfG n) (UhQ n) Uby (Uer n n) (Us3 n n) fun _ _=>rfl))
theorem UhP (n:Nat):Je6 (K32 R n) (JaJ Uad Ujc):=pO pN (by kernel_rfl)
theorem Uzh (n:Nat):K32 R n (true,23,Ujc):=JkW (lo:=UfH n) (cu:=UfG n) (UhP n) Uii (Umh n) (fun K _ _ _ _ _ _ _ _ _=>by show _=_; kernel_rfl) (JkW (lo:=UfH n) (cu:=UfG n) (UhP n) Uij (Umi n) (fun K _ _ _ _ _ _ _ _ _ _ _=>by show _=_; kernel_rfl) (JkW (lo:=UfH n) (cu:=UfG n) (UhP n) Uik (Umj n) (fun K _ _ _ _ _ _ _ _ _ _=>by show _=_; kernel_rfl) fun _ _=>rfl))
theorem UhO (n:Nat):Je6 (K32 R n) (JaJ Uad Ujb):=pO (pC (Uzh n) pN) (by kernel_rfl)
theorem Uzg (n:Nat):K32 R n (true,17,Ujb):=JkW (lo:=UfH n) (cu:=UfG n) (UhO n) Uif (Ume n) (fun K _ _ _ _ _ _ _ _ _=>by show _=_; kernel_rfl) (JkW (lo:=UfH n) (cu:=UfG n) (UhO n) Uig (Umf n) (fun K _ _ _ _ _ _ _ _ _ _ _=>by show _=_; kernel_rfl) (JkW (lo:=UfH n) (cu:=UfG n) (UhO n) Uih (Umg n) (fun K _ _ _ _ _ _ _ _ _ _=>by show _=_; kernel_rfl) fun _ _=>rfl))
theorem Uj9 (n:Nat):Je6 (K32 R n) (JaJ Uad Uok):=pO (pC (UDk n) (pC (Uzi n) (pC (Uzg n) pN))) (by kernel_rfl)
theorem UDj (n:Nat):K32 R n (true,3,Uok):=JkW (lo:=UfH n) (cu:=UfG n) (Uj9 n) Ukz (UqF n) (fun K _ _ _ _ _ _ _ _ _=>by show _=_; kernel_rfl) (JkW (lo:=UfH n) (cu:=UfG n) (Uj9 n) UkA (UqG n) (fun K _ _ _ _ _ _ _ _ _ _ _=>by show _=_; kernel_rfl) (JkW (lo:=UfH n) (cu:=UfG n) (Uj9 n) UkB (UqH n) (fun K _ _ _ _ _ _ _ _ _ _=>by show _=_; kernel_rfl) fun _ _=>rfl))
theorem UHt (n:Nat):Je6 (K32 R n) (JaJ Uad (Jll Tryz.f32)):=pO (pC (UDj n) pN) (by kernel_rfl)
abbrev UH1:Sl (List SV):=(.c (sP (JlI (.c (Jlv .i64) (.c sSh (.c sSh (.c sSh (.c sSh (.c Jlf (.c (JlJ 29 (.c (sFb (.c (Jlv .i64) (.c sSh .n))) (.c (sFb (.c sSh .n)) .n))) .n))))))))) .n)
abbrev UIJ (n:Nat) (K:List SV→O R):UH1.T (O R):=fun x1 x2 x3 x4 x5 x6 x7 x8 x9=>p32 n x1 x2 x3 x4 x5 x6 x7 x8 x9 (fun y1=>K [vI y1])
abbrev UH2:Sl (List SV):=(.c (sP (JlI (.c (Jlv .i64) (.c sSh (.c sSh (.c sSh (.c sSh (.c Jlf (.c (JlJ 35 (.c (sFb (.c (Jlv .i64) (.c sSh .n))) (.c (sFb (.c sSh .n)) (.c (sFb (.c sSh .n)) (.c (sFb (.c sSh .n)) .n))))) .n))))))))) .n)
abbrev UIK (n:Nat) (K:List SV→O R):UH2.T (O R):=fun x1 x2 x3 x4 x5 x6 x7 x8 x9 x10 x11=>UCS n x1 x2 x3 x4 x5 x6 x7 x8 x9 x10 x11 (fun y1=>K [vI y1])
abbrev UH3:Sl (List SV):=(.c (sP (JlI (.c (Jlv .i64) (.c sSh (.c sSh (.c sSh (.c sSh (.c Jlf (.c (JlJ 59 (.c (sFb (.c sSh .n)) (.c (sFb (.c (Jlv .i64) (.c sSh .n))) (.c (sFb (.c sSh .n)) .n)))) .n))))))))) .n)
abbrev UIL (n:Nat) (K:List SV→O R):UH3.T (O R):=fun x1 x2 x3 x4 x5 x6 x7 x8 x9 x10=>UCT n x1 x2 x3 x4 x5 x6 x7 x8 x9 x10 (fun y1=>K [vI y1])
abbrev UEo (n:Nat):FS:={ om:=[false],run:=fun args K=>Jjg (UH1.ap args (UIJ n K)) (Jjg (UH2.ap args (UIK n K)) (Jjg (UH3.ap args (UIL n K)) none)) }
theorem UGC (n:Nat):FSound Tryz.prog GI 32 (UEo n):=gd Uad n (UgS n) Tryz.func32 (.cons (UgS n) UH1 (UIJ n) (fun K _ _ _ _ _ _ _ _ _=>(Jkq (c:=Jll Tryz.f32) (by kernel_rfl) (UHt n) K).trans (by kernel_rfl)) (.cons (UgS n) UH2 (UIK n) (fun K _ _ _ _ _ _ _ _ _ _ _=>(Jkq (c:=Jll Tryz.f32) (by kernel_rfl) (UHt n) K).trans (by kernel_rfl)) (.cons (UgS n) UH3 (UIL n) (fun K _ _ _ _ _ _ _ _ _ _=>(Jkq (c:=Jll Tryz.f32) (by kernel_rfl) (UHt n) K).trans (by kernel_rfl)) .nil))) (by kernel_rfl)
def Uv8:Ann:={ loops:=[],cuts:=[],frz:=[],rm:=[.id] }
abbrev UAY (n:Nat):Env:=eC 32 (UEo n) eN
theorem Uo5 (n:Nat):EnvOK Tryz.prog GI (UAY n):=.cons (.nil) (UGC n)
def p12 (n:Nat) (x1:Int) (x2 x3:LP) (k0:Int→O R):O R :=
 p32 n x1 x2 [] [] x3 true x1 x2 x3 (fun y4=>k0 y4)
abbrev ULk (n:Nat):Orc R:=oN
abbrev UKF (n:Nat):Orc R:=oN
abbrev K12 (R:Type) (n:Nat):=JcH (R:=R) Tryz.prog (UAY n) Uv8 n (10,[]) (ULk n) (UKF n)
theorem UMD (n:Nat):Je6 (K12 R n) (JaJ Uv8 (Jll Tryz.f12)):=pO pN (by kernel_rfl)
abbrev t12:Sl (List SV):=(.c (sP (JlI (.c (Jlv .i64) (.c sSh .n)))) (cH .n))
abbrev f12 (n:Nat) (K:List SV→O R):t12.T (O R):=fun x1 x2 x3=>p12 n x1 x2 x3 (fun y1=>K [vI y1])
abbrev UIV (n:Nat):FS:=fT [false,false] t12 (f12 n)
theorem ULZ (n:Nat):FSound Tryz.prog GI 12 (UIV n):=gd Uv8 n (Uo5 n) Tryz.func12 (.cons (Uo5 n) t12 (f12 n) (fun K _ _ _=>(Jkq (c:=Jll Tryz.f12) (by kernel_rfl) (UMD n) K).trans (by kernel_rfl)) .nil) (by kernel_rfl)
end
end Go.Proofs.YtmgfmlhdnadglaaGreatDoor
set_option linter.unusedVariables false
set_option linter.unusedSimpArgs false
namespace Go.Proofs.YtmgfmlhdnadglaaGreatDoor
open Go Th Go.Proofs
variable {R:Type}
structure okRM (cols:Int) (rows:List RowT) (mult:List (List UInt8)):Prop where
 hc:cols≤2048
 few:rows.length≤2048
 len:mult.length=rows.length
 hr:∀ r∈rows,okR cols r=true
 hm:∀ m∈mult,qb m=true
noncomputable def zsR (rows:List RowT) (mult:List (List UInt8)):List (SpR × Rat):=(rows.zip mult).map fun x=>(spR x.1,rq x.2)
theorem Uex {a b:Int} (h:a≤b) {r:SpR} (hr:okF a r):okF b r:=⟨⟨hr.1.1,Ug8 h hr.1.2⟩,hr.2⟩
theorem UsD:∀ {cols:Int},okF cols ([],0):=fun {cols}=>⟨⟨trivial,fun t ht=>(by cases ht)⟩,UfJ⟩
theorem Ufc {α β σ:Type} (f:α→β) (step:σ→β→Option σ):∀ (l:List α) (s:σ),UaH (fun s a=>step s (f a)) s l=UaH step s (l.map f)
 | [],s=>rfl
 | a::l,s=>by
  rw [List.map_cons,UaH,UaH]
  congr 1
  funext s'
  exact Ufc f step l s'
theorem UfQ:∀ (l:List (SpR × Rat)) (s:SpR),Uiv l s=UaH (fun s x=>UfB x.2 x.1 s) s l
 | [],s=>rfl
 | x::l,s=>by
  rw [Uiv,UaH]
  congr 1
  funext s'
  exact UfQ l s'
theorem UzE {cols:Int} {q:Rat} {r s x:SpR} (hr:okF cols r) (hs:okF cols s) (he:UfB q r s=some x):okF cols x:=by
 unfold UfB at he
 by_cases h0:q=0
 · rw [if_pos h0,Option.some.injEq] at he; rwa [←he]
 · rw [if_neg h0] at he
   obtain ⟨w,f1,f2⟩:=Option.bind_eq_some_iff.1 he
   exact (UC3 hs (UzJ h0 hr f1).1 f2).1
theorem UmZ (n:Nat) (hn:10 ^ 1000≤n) (cols:Int) (rows:List RowT) (mult:List (List UInt8)) (h:okRM cols rows mult) (k0:List PV→ByteArray→Int→Option R) :
 p30 n cols (rws rows) (sl mult) k0=UsE k0 (Uiv (zsR rows mult) ([],0)):=by
 have hN:=UaC (Ubb hn)
 have hlen:(rows.zip mult).length=rows.length:=by rw [List.length_zip,h.len]; omega
 have hf:=h.few
 have hl:=h.len
 unfold p30 UvF
 have H:=Udc (R:=R) (l:=rows.zip mult) (step:=fun s x=>UfB (rq x.2) (spR x.1) s) (kerr:=k0 [] (bs []) 5) (kend:=fun s=>k0 (tms (vt s.1)) (bs (Uag s.2)) 0) (Inv:=fun i s=>okF 2048 s)
  (fun m s i=>Udu n m (sl mult) cols (rws rows) ByteArray.empty (tms (vt s.1)) (bs (Uag s.2)) ((rws rows).length:Int) (i:Int) (fun y4 y5 y6 y7 y8=>k0 y4 y5 y6) (fun y9 y10 y11=>k0 y10 y11 0))
  (fun m s hs=>by
    simp only [Udu,Uhs]
    rw [hlen]
    simp (disch:=(first | omega | (simp only [JlE]; omega))) only [↓JlH,JlF,Uaf])
  (fun s s' i hi hs he=>by
    have hr:=h.hr _ (List.of_mem_zip (List.getElem_mem hi)).1
    exact UzE (Uex h.hc (UiE hr).1) hs he)
  (fun m s i hi hs=>by
    have hi1:i<rows.length:=by omega
    have hi2:i<mult.length:=by omega
    have e0:(rows.zip mult)[i]=(rows[i],mult[i]):=List.getElem_zip
    rw [e0]
    have hr:=h.hr rows[i] (List.getElem_mem hi1)
    have hq:=h.hm mult[i] (List.getElem_mem hi2)
    obtain ⟨o1,o2,o3⟩:=UiE hr
    obtain ⟨m1,m2⟩:=UtT hq
    have o1':=Uex h.hc o1
    simp only [Udu,Uhs]
    show _=UzW _ _ (UfB (rq mult[i]) (spR rows[i]) s)
    unfold UfB
    by_cases h0:rq mult[i]=0
    · have e3:(mult[i] == [48])=true:=Uja (by rw [m2,h0,Unf])
      rw [if_pos h0]
      simp (disch:=(first | omega | (simp only [JlE]; omega))) only [↓JlH,JlF,Uaf,Uaw,Jji,UfL hi2,i1,e3]
      rfl
    · have e3:(mult[i] == [48])=false:=Uis (by rw [m2]; exact fun q=>h0 (Uei.1 q))
      have g1:∀ k:List PV→ByteArray→Int→Option R,p74 n (tms (rows[i]).tm) (bs (rows[i]).c) (bs mult[i]) k=UsE k (tmO (rq mult[i]) (spR rows[i])):=fun k=>by
       rw [o2,o3,m2]
       have:=Urb (R:=R) n hn o1' m1 h0 k
       rw [←m2,←o2,←o3] at this ⊢
       exact this
      rw [if_neg h0]
      simp (disch:=(first | omega | (simp only [JlE]; omega))) only [↓JlH,JlF,Uaf,Uaw,Jji,UfL hi2,UbP hi1,i1,e3,g1]
      cases h1:tmO (rq mult[i]) (spR rows[i]) with
      | none=>rfl
      | some x =>
       have hx:=(UzJ h0 o1' h1).1
       have g2:∀ k:List PV→ByteArray→Int→Option R,p75 n (tms (vt s.1)) (bs (Uag s.2)) (tms (vt x.1)) (bs (Uag x.2)) k=UsE k (plO s x):=fun k=>Ux3 n hn hs hx k
       simp only [UsE,Uro,Uam,g2,Option.bind_some]
       cases plO s x <;> rfl) rows.length n 0 ([],0) (by omega) (by omega) UsD
 rw [List.drop_zero,Ufc (fun x:RowT × List UInt8=>(spR x.1,rq x.2)) (fun s x=>UfB x.2 x.1 s),←UfQ] at H
 have e48:(⟨#[48]⟩:ByteArray)=bs (Uag 0):=by rw [Unf]; rfl
 rw [e48]
 refine Eq.trans H ?_
 unfold zsR
 cases Uiv ((rows.zip mult).map fun x=>(spR x.1,rq x.2)) ([],0) <;> rfl
theorem UzF {cols:Int} {rows:List RowT} (h:UsF cols rows=0):0≤cols∧cols≤2048∧rows.length≤2048∧∀ r∈rows,okR cols r=true:=by
 unfold UsF at h
 by_cases h1:cols<0
 · rw [if_pos h1] at h; cases h
 rw [if_neg h1] at h
 by_cases h2:cols>2048
 · rw [if_pos h2] at h; cases h
 rw [if_neg h2] at h
 by_cases h3:rows.length>2048
 · rw [if_pos h3] at h; cases h
 rw [if_neg h3] at h
 cases h4:rows.all (okR cols) with
 | false=>rw [h4] at h; cases h
 | true=>exact ⟨by omega,by omega,by omega,fun r hr=>List.all_eq_true.1 h4 r hr⟩
theorem Uyr {cols:Int} {rows:List RowT} {mult:List (List UInt8)} (h:UsF cols rows=0) (hm:UzQ mult=true) (hl:mult.length=rows.length):okRM cols rows mult:=by
 obtain ⟨a,b,c,d⟩:=UzF h
 exact ⟨b,c,hl,d,fun m hm'=>List.all_eq_true.1 hm m hm'⟩
end Go.Proofs.YtmgfmlhdnadglaaGreatDoor
set_option linter.unusedVariables false
set_option maxRecDepth 100000
namespace Go.Proofs.YtmgfmlhdnadglaaGreatDoor
open Go Th Go.Proofs
noncomputable section
variable {R:Type}
abbrev t45:Sl (List SV):=(.c (sP (JlI (.c Jlf (.c sSh (.c Jlf (.c sSh .n)))))) .n)
def Unr:Ann:={ loops:=[],cuts:=[],frz:=[],rm:=[.id] }
abbrev UuS (n:Nat):Env:=eN
theorem Ulu (n:Nat):EnvOK Tryz.prog GI (UuS n):=.nil
def UEH (n:Nat) (x1:Bool) (x2:LP) (k0:Bool→O R):O R :=
 k0 (decide (((x2).length:Int)>400))
abbrev UFL (n:Nat):Orc R:=oN
abbrev UE1 (n:Nat):Orc R:=oN
abbrev UKs (R:Type) (n:Nat):=JcH (R:=R) Tryz.prog (UuS n) Unr n (7,[]) (UFL n) (UE1 n)
theorem UG2 (n:Nat):Je6 (UKs R n) (JaJ Unr (Jll Tryz.f111)):=pO pN (by kernel_rfl)
abbrev UHH:Sl (List SV):=(.c (sP (JlI (.c Jlf (.c sSh .n)))) .n)
abbrev f111 (n:Nat) (K:List SV→O R):UHH.T (O R):=fun x1 x2=>UEH n x1 x2 (fun y1=>K [vB y1])
abbrev UBP (n:Nat):FS:=fT [false] UHH (f111 n)
theorem UGb (n:Nat):FSound Tryz.prog GI 111 (UBP n):=gd Unr n (Ulu n) Tryz.func111 (.cons (Ulu n) UHH (f111 n) (fun K _ _=>(Jkq (c:=Jll Tryz.f111) (by kernel_rfl) (UG2 n) K).trans (by kernel_rfl)) .nil) (by kernel_rfl)
def Uws:Ann:={ loops:=[],cuts:=[],frz:=[],rm:=[.id] }
abbrev UBi (n:Nat):Env:=eC 111 (UBP n) eN
theorem UpN (n:Nat):EnvOK Tryz.prog GI (UBi n):=.cons (.nil) (UGb n)
def p71 (n:Nat) (x1:Bool) (x2:LP) (x3:Bool) (x4:LP) (k0:Bool→O R):O R :=
 UEH n x1 x2 (fun y5=>bif y5 then (k0 true) else (UEH n x3 x4 (fun y6=>k0 (bif false then true else y6))))
abbrev ULF (n:Nat):Orc R:=oN
abbrev UK0 (n:Nat):Orc R:=oN
abbrev K71 (R:Type) (n:Nat):=JcH (R:=R) Tryz.prog (UBi n) Uws n (11,[]) (ULF n) (UK0 n)
theorem UNl (n:Nat):Je6 (K71 R n) (JaJ Uws (Jll Tryz.f71)):=pO pN (by kernel_rfl)
abbrev t71:Sl (List SV):=(.c (sP (JlI (.c Jlf (.c sSh (.c Jlf (.c sSh .n)))))) .n)
abbrev f71 (n:Nat) (K:List SV→O R):t71.T (O R):=fun x1 x2 x3 x4=>p71 n x1 x2 x3 x4 (fun y1=>K [vB y1])
abbrev UFw (n:Nat):FS:=fT [false] t71 (f71 n)
theorem UJ1 (n:Nat):FSound Tryz.prog GI 71 (UFw n):=gd Uws n (UpN n) Tryz.func71 (.cons (UpN n) t71 (f71 n) (fun K _ _ _ _=>(Jkq (c:=Jll Tryz.f71) (by kernel_rfl) (UNl n) K).trans (by kernel_rfl)) .nil) (by kernel_rfl)
def UwE:Ann:={ loops:=[],cuts:=[],frz:=[],rm:=[.id] }
abbrev UBu (n:Nat):Env:=eC 124 (Ux8 n) (eC 123 (Ura n) (eC 89 (UEu n) eN))
theorem Up3 (n:Nat):EnvOK Tryz.prog GI (UBu n):=.cons (.cons (.cons (.nil) (UGI n)) (Utj n)) (UCy n)
def p91 (n:Nat) (x1:Bool) (x2:LP) (x3:Bool) (x4:LP) (x5:Bool) (x6:LP) (x7:Bool) (x8:LP) (k0:Bool→LP→Bool→LP→O R):O R :=
 p89 n x1 x2 x7 x8 (fun y9 y10=>p89 n x5 x6 x3 x4 (fun y11 y12=>UCJ n y9 y10 y11 y12 (fun y13 y14=>p89 n x3 x4 x7 x8 (fun y15 y16=>Uvx n y13 y14 y15 y16 (fun y17 y18 y19 y20=>k0 y17 y18 y19 y20)))))
abbrev ULR (n:Nat):Orc R:=oN
abbrev ULb (n:Nat):Orc R:=oN
abbrev K91 (R:Type) (n:Nat):=JcH (R:=R) Tryz.prog (UBu n) UwE n (22,[]) (ULR n) (ULb n)
theorem UNB (n:Nat):Je6 (K91 R n) (JaJ UwE (Jll Tryz.f91)):=pO pN (by kernel_rfl)
abbrev t91:Sl (List SV):=(.c (sP (JlI (.c Jlf (.c sSh (.c Jlf (.c sSh .n)))))) (.c (sP (JlI (.c Jlf (.c sSh (.c Jlf (.c sSh .n)))))) .n))
abbrev f91 (n:Nat) (K:List SV→O R):t91.T (O R):=fun x1 x2 x3 x4 x5 x6 x7 x8=>p91 n x1 x2 x3 x4 x5 x6 x7 x8 (fun y1 y2 y3 y4=>K [.p (.agg [.v (.bool y1),.sh y2,.v (.bool y3),.sh y4])])
abbrev UFB (n:Nat):FS:=fT [false,false] t91 (f91 n)
theorem UJ6 (n:Nat):FSound Tryz.prog GI 91 (UFB n):=gd UwE n (Up3 n) Tryz.func91 (.cons (Up3 n) t91 (f91 n) (fun K _ _ _ _ _ _ _ _=>(Jkq (c:=Jll Tryz.f91) (by kernel_rfl) (UNB n) K).trans (by kernel_rfl)) .nil) (by kernel_rfl)
def Unp:Ann:={ loops:=[],cuts:=[],frz:=[],rm:=[.id] }
abbrev UuQ (n:Nat):Env:=eC 123 (Ura n) (eC 89 (UEu n) eN)
theorem Ulr (n:Nat):EnvOK Tryz.prog GI (UuQ n):=.cons (.cons (.nil) (UGI n)) (Utj n)
def Uz2 (n:Nat) (x1:Bool) (x2:LP) (x3:Bool) (x4:LP) (x5:Bool) (x6:LP) (x7:Bool) (x8:LP) (k0:Bool→LP→Bool→LP→O R):O R :=
 p89 n x1 x2 x5 x6 (fun y9 y10=>p89 n x3 x4 x7 x8 (fun y11 y12=>Uvx n y9 y10 y11 y12 (fun y13 y14 y15 y16=>k0 y13 y14 y15 y16)))
abbrev UFJ (n:Nat):Orc R:=oN
abbrev UEZ (n:Nat):Orc R:=oN
abbrev UKq (R:Type) (n:Nat):=JcH (R:=R) Tryz.prog (UuQ n) Unp n (16,[]) (UFJ n) (UEZ n)
theorem UGZ (n:Nat):Je6 (UKq R n) (JaJ Unp (Jll Tryz.f108)):=pO pN (by kernel_rfl)
abbrev UHF:Sl (List SV):=(.c (sP (JlI (.c Jlf (.c sSh (.c Jlf (.c sSh .n)))))) (.c (sP (JlI (.c Jlf (.c sSh (.c Jlf (.c sSh .n)))))) .n))
abbrev f108 (n:Nat) (K:List SV→O R):UHF.T (O R):=fun x1 x2 x3 x4 x5 x6 x7 x8=>Uz2 n x1 x2 x3 x4 x5 x6 x7 x8 (fun y1 y2 y3 y4=>K [.p (.agg [.v (.bool y1),.sh y2,.v (.bool y3),.sh y4])])
abbrev UBO (n:Nat):FS:=fT [false,false] UHF (f108 n)
theorem UGa (n:Nat):FSound Tryz.prog GI 108 (UBO n):=gd Unp n (Ulr n) Tryz.func108 (.cons (Ulr n) UHF (f108 n) (fun K _ _ _ _ _ _ _ _=>(Jkq (c:=Jll Tryz.f108) (by kernel_rfl) (UGZ n) K).trans (by kernel_rfl)) .nil) (by kernel_rfl)
abbrev t44:Sl (List SV):=(.c (sP (JlI (.c Jlf (.c sSh (.c Jlf (.c sSh .n)))))) (.c (sP (JlI (.c Jlf (.c sSh (.c Jlf (.c sSh .n)))))) .n))
def Uwt:Ann:={ loops:=[],cuts:=[],frz:=[],rm:=[.id] }
abbrev UBj (n:Nat):Env:=eC 77 (UEs n) eN
theorem UpO (n:Nat):EnvOK Tryz.prog GI (UBj n):=.cons (.nil) (UGG n)
def p72 (n:Nat) (x1:Bool) (x2:LP) (x3:Bool) (x4:LP) (k0:Bool→O R):O R :=
 p77 n x1 x2 (fun y5=>k0 y5)
abbrev ULG (n:Nat):Orc R:=oN
abbrev UK1 (n:Nat):Orc R:=oN
abbrev K72 (R:Type) (n:Nat):=JcH (R:=R) Tryz.prog (UBj n) Uwt n (6,[]) (ULG n) (UK1 n)
theorem UNm (n:Nat):Je6 (K72 R n) (JaJ Uwt (Jll Tryz.f72)):=pO pN (by kernel_rfl)
abbrev t72:Sl (List SV):=(.c (sP (JlI (.c Jlf (.c sSh (.c Jlf (.c sSh .n)))))) .n)
abbrev f72 (n:Nat) (K:List SV→O R):t72.T (O R):=fun x1 x2 x3 x4=>p72 n x1 x2 x3 x4 (fun y1=>K [vB y1])
abbrev UJk (n:Nat):FS:=fT [false] t72 (f72 n)
theorem UMo (n:Nat):FSound Tryz.prog GI 72 (UJk n):=gd Uwt n (UpO n) Tryz.func72 (.cons (UpO n) t72 (f72 n) (fun K _ _ _ _=>(Jkq (c:=Jll Tryz.f72) (by kernel_rfl) (UNm n) K).trans (by kernel_rfl)) .nil) (by kernel_rfl)
end
end Go.Proofs.YtmgfmlhdnadglaaGreatDoor
set_option linter.unusedVariables false
set_option linter.unusedSimpArgs false
namespace Go.Proofs.YtmgfmlhdnadglaaGreatDoor
open Go Th Go.Proofs
variable {R:Type}
theorem Ucr {q:Rat}:fits q↔ll q.num.natAbs≤400∧ll q.den≤400:=by
 unfold fits; rw [Udn,Udn]
theorem UmV (p q:Rat):Rat.divInt (p.num * q.den + q.num * p.den) ((p.den * q.den:Nat):Int)=p + q:=by rw [Rat.divInt_ofNat,Uvr]
theorem Um8 (p q:Rat):Rat.divInt (p.num * q.num) ((p.den * q.den:Nat):Int)=p * q:=by rw [Rat.divInt_ofNat,Uvs]
theorem UjL {x y:Int} {i j:Nat} (hx:ll x.natAbs≤i) (hy:ll y.natAbs≤j):ll (x * y).natAbs≤i + j:=by
 rw [Int.natAbs_mul]
 exact Nat.le_trans (Ump _ _) (Nat.add_le_add hx hy)
theorem Uyj {x y:Int} {i:Nat} (hx:ll x.natAbs≤i) (hy:ll y.natAbs≤i):ll (x + y).natAbs≤i + 1 :=
 Nat.le_trans (Ua1 (Int.natAbs_add_le x y)) (Uvo hx hy)
theorem Ub (a:Nat):ll ((a:Int)).natAbs=ll a:=by rw [Int.natAbs_natCast]
section
variable (n:Nat) (hn:10 ^ 1000≤n) (p q:Rat) (hp:fits p) (hq:fits q)
include hp hq
include hn
theorem Ufx (k0:Bool→List PV→Bool→List PV→Option R):p91 n (sg p.num) (II p.num.natAbs) false (II p.den) (sg q.num) (II q.num.natAbs) false (II q.den) k0=k0 (sg (p + q).num) (II (p + q).num.natAbs) false (II (p + q).den):=by
 obtain ⟨a1,a2⟩:=Ucr.1 hp
 obtain ⟨b1,b2⟩:=Ucr.1 hq
 have hN:=UaC (Ubb hn)
 have hw:((p.den * q.den:Nat):Int)≠0:=by have:=Nat.mul_ne_zero p.den_nz q.den_nz; omega
 have m1:=fun k=>UdN (R:=R) n p.num (q.den:Int) (by omega) (by rw [Ub]; omega) hN k
 have m2:=fun k=>UdN (R:=R) n q.num (p.den:Int) (by omega) (by rw [Ub]; omega) hN k
 have m3:=fun k=>UdN (R:=R) n (p.den:Int) (q.den:Int) (by rw [Ub]; omega) (by rw [Ub]; omega) hN k
 have l1:ll (p.num * (q.den:Int)).natAbs≤800:=UjL a1 (by rw [Ub]; exact b2)
 have l2:ll (q.num * (p.den:Int)).natAbs≤800:=UjL b1 (by rw [Ub]; exact a2)
 have l3:=Uyj l1 l2
 have l4:ll ((p.den * q.den:Nat):Int).natAbs≤800:=by rw [Ub]; exact Nat.le_trans (Ump _ _) (by omega)
 have m4:=fun k=>Us (R:=R) n (p.num * (q.den:Int)) (q.num * (p.den:Int)) (by omega) (by omega) hN k
 have m5:=fun k=>Urp (R:=R) n (p.num * (q.den:Int) + q.num * (p.den:Int)) ((p.den * q.den:Nat):Int) hw (by omega) (by omega) hN (by rw [Int.natAbs_natCast]; exact UEB hn hp.2 hq.2) k
 rw [UmV] at m5
 have e:(p.den:Int) * (q.den:Int)=((p.den * q.den:Nat):Int):=by rw [Int.natCast_mul]
 rw [e] at m3
 simp only [UbQ,Int.natAbs_natCast] at m1 m2 m3 m5
 simp only [p91,m1,m2,m3,m4,m5]
theorem UiS (k0:Bool→List PV→Bool→List PV→Option R):Uz2 n (sg p.num) (II p.num.natAbs) false (II p.den) (sg q.num) (II q.num.natAbs) false (II q.den) k0=k0 (sg (p * q).num) (II (p * q).num.natAbs) false (II (p * q).den):=by
 obtain ⟨a1,a2⟩:=Ucr.1 hp
 obtain ⟨b1,b2⟩:=Ucr.1 hq
 have hN:=UaC (Ubb hn)
 have hw:((p.den * q.den:Nat):Int)≠0:=by have:=Nat.mul_ne_zero p.den_nz q.den_nz; omega
 have m1:=fun k=>UdN (R:=R) n p.num q.num (by omega) (by omega) hN k
 have m3:=fun k=>UdN (R:=R) n (p.den:Int) (q.den:Int) (by rw [Ub]; omega) (by rw [Ub]; omega) hN k
 have l1:ll (p.num * q.num).natAbs≤800:=UjL a1 b1
 have l4:ll ((p.den * q.den:Nat):Int).natAbs≤800:=by rw [Ub]; exact Nat.le_trans (Ump _ _) (by omega)
 have m5:=fun k=>Urp (R:=R) n (p.num * q.num) ((p.den * q.den:Nat):Int) hw (by omega) (by omega) hN (by rw [Int.natAbs_natCast]; exact UEB hn hp.2 hq.2) k
 rw [Um8] at m5
 have e:(p.den:Int) * (q.den:Int)=((p.den * q.den:Nat):Int):=by rw [Int.natCast_mul]
 rw [e] at m3
 simp only [UbQ,Int.natAbs_natCast] at m1 m3 m5
 simp only [Uz2,m1,m3,m5]
end
end Go.Proofs.YtmgfmlhdnadglaaGreatDoor
set_option linter.unusedVariables false
set_option maxRecDepth 100000
namespace Go.Proofs.YtmgfmlhdnadglaaGreatDoor
open Go Th Go.Proofs
noncomputable section
variable {R:Type}
def Ue5:Ann:={ loops:=[(3,[(1,.id),(5,.own 66),(6,.id)],ids [1,2,3,4,5])],cuts:=[(4,ids [1,5,6],ids [1,2,3,4,5,6])],frz:=[],rm:=[.sh,.id,.id] }
abbrev Uxz (n:Nat):Env:=eC 73 (UFx n) (eC 72 (UJk n) (eC 71 (UFw n) eN))
theorem Upe (n:Nat):EnvOK Tryz.prog GI (Uxz n):=.cons (.cons (.cons (.nil) (UJ1 n)) (UMo n)) (UJ2 n)
def UfU (n:Nat) (x1:LP) (x2:Bool) (x3:LP) (x4:Bool) (x5 x6:LP) (x7:Int) (k0:LP→Bool→LP→Bool→LP→LP→Int→O R):O R :=
 k0 x1 x2 x3 x4 x5 x6 (IntKind.i64.wrap (x7 + 1))
def Udr (n:Nat) (l0:LP→Bool→LP→Bool→LP→LP→Int→O R) (x1:LP) (x2:Bool) (x3:LP) (x4:Bool) (x5 x6:LP) (x7:Int) (k0:LP→Bool→LP→Bool→LP→ByteArray→Int→LP→O R) (k1:LP→Bool→LP→Bool→LP→LP→O R):O R :=
 bif (decide (x7<((x1).length:Int))) then (bif (inR x7 ((x1).length)) then (Jh2 ((x1).getD ((x7:Int).toNat) (.v (.bool false))) fun a8=>JdT a8 fun h9 t10=>Jj2 h9 fun e11=>JdT t10 fun h12 t13=>Jkr h12 fun e14=>JdT t13 fun h15 t16=>Jj2 h15 fun e17=>JdT t16 fun h18 t19=>Jkr h18 fun e20=>Ji2 t19 (p71 n e11 e14 e17 e20 (fun y21=>bif y21 then (k0 x1 x2 x3 x4 x5 ⟨#[]⟩ 5 x6) else (bif (inR x7 ((x1).length)) then (Jh2 ((x1).getD ((x7:Int).toNat) (.v (.bool false))) fun a22=>JdT a22 fun h23 t24=>Jj2 h23 fun e25=>JdT t24 fun h26 t27=>Jkr h26 fun e28=>JdT t27 fun h29 t30=>Jj2 h29 fun e31=>JdT t30 fun h32 t33=>Jkr h32 fun e34=>Ji2 t33 (p72 n e25 e28 e31 e34 (fun y35=>bif (!y35) then (bif (inR x7 ((x1).length)) then (Jh2 ((x1).getD ((x7:Int).toNat) (.v (.bool false))) fun a36=>JdT a36 fun h37 t38=>Jj2 h37 fun e39=>JdT t38 fun h40 t41=>Jkr h40 fun e42=>JdT t41 fun h43 t44=>Jj2 h43 fun e45=>JdT t44 fun h46 t47=>Jkr h46 fun e48=>Ji2 t47 (p73 n e39 e42 e45 e48 (fun y49=>bif (Jbu ((x6).length + 1) 24) then (UfU n x1 x2 x3 x4 x5 (x6++([.agg [.v (.int .i64 x7),.v (.string y49)]]:LP)) x7 (fun y50 y51 y52 y53 y54 y55 y56=>l0 y50 y51 y52 y53 y54 y55 y56)) else none))) else none) else (UfU n x1 x2 x3 x4 x5 x6 x7 (fun y57 y58 y59 y60 y61 y62 y63=>l0 y57 y58 y59 y60 y61 y62 y63))))) else none)))) else none) else (k1 x1 x2 x3 x4 x5 x6)
def UbO (n:Nat):Nat→LP→Bool→LP→Bool→LP→LP→Int→(LP→Bool→LP→Bool→LP→ByteArray→Int→LP→O R)→(LP→Bool→LP→Bool→LP→LP→O R)→O R
 | 0,_,_,_,_,_,_,_,_,_=>none
 | m + 1,x1,x2,x3,x4,x5,x6,x7,k0,k1=>Udr n (fun x1 x2 x3 x4 x5 x6 x7=>UbO n m x1 x2 x3 x4 x5 x6 x7 k0 k1) x1 x2 x3 x4 x5 x6 x7 k0 k1
def UvB (n:Nat) (x1:LP) (x2:Bool) (x3:LP) (x4:Bool) (x5 x6:LP) (x7:Int) (k0:LP→Bool→LP→Bool→LP→ByteArray→Int→LP→O R) (k1:LP→Bool→LP→Bool→LP→LP→O R):O R:=UbO n n x1 x2 x3 x4 x5 x6 x7 k0 k1
def p25 (n:Nat) (x1:LP) (x2:Bool) (x3:LP) (x4:Bool) (x5:LP) (k0:LP→ByteArray→Int→O R):O R :=
 UvB n x1 x2 x3 x4 x5 [] 0 (fun y6 y7 y8 y9 y10 y11 y12 y13=>k0 [] y11 y12) (fun y14 y15 y16 y17 y18 y19=>p71 n y15 y16 y17 y18 (fun y20=>bif y20 then (k0 [] ⟨#[]⟩ 5) else (p73 n y15 y16 y17 y18 (fun y21=>k0 y19 y21 0))))
abbrev E25 (n:Nat):Code→Fr→Kc R→O R:=evC Tryz.prog (Uxz n) Ue5 n (45,[])
noncomputable def Ut9:Code:=Jj4 (Jll Tryz.f25) [1,1,0,1,0,0,1,1]
abbrev Usm:Sl (List SV):=(.c (sBx 59 (cH (cB (cH (cB (cH .n)))))) (cO 66 (cI .n)))
abbrev Uu8 (n:Nat) (K:Kc R):Usm.T (O R):=fun x1 x2 x3 x4 x5 x6 x7=>UfU n x1 x2 x3 x4 x5 x6 x7 (fun y1 y2 y3 y4 y5 y6 y7=>xC Ue5 4 K .normal [.bx 59 [vH y1,vB y2,vH y3,vB y4,vH y5],dD,dD,dD,.own 66 y6,vI y7])
noncomputable def Uu:Code:=Jj4 (Jll Tryz.f25) [1,1,0,1,0,0]
abbrev Uf9:Sl (List SV):=(.c (sBx 59 (cH (cB (cH (cB (cH .n)))))) (cO 66 (cI .n)))
abbrev Uqy (n m:Nat) (K:Kc R):Uf9.T (O R):=fun x1 x2 x3 x4 x5 x6 x7=>UbO n m x1 x2 x3 x4 x5 x6 x7 (fun y1 y2 y3 y4 y5 y6 y7 y8=>xL Ue5 3 K .ret [.bx 59 [vH y1,vB y2,vH y3,vB y4,vH y5],.nl,vS y6,vI y7,.own 66 y8]) (fun y1 y2 y3 y4 y5 y6=>xL Ue5 3 K (.exit 0) [.bx 59 [vH y1,vB y2,vH y3,vB y4,vH y5],dD,dD,dD,.own 66 y6])
abbrev UAe (n:Nat) (K:Kc R) (l0:Uf9.T (O R)):Uf9.T (O R):=fun x1 x2 x3 x4 x5 x6 x7=>Udr n l0 x1 x2 x3 x4 x5 x6 x7 (fun y1 y2 y3 y4 y5 y6 y7 y8=>xL Ue5 3 K .ret [.bx 59 [vH y1,vB y2,vH y3,vB y4,vH y5],.nl,vS y6,vI y7,.own 66 y8]) (fun y1 y2 y3 y4 y5 y6=>xL Ue5 3 K (.exit 0) [.bx 59 [vH y1,vB y2,vH y3,vB y4,vH y5],dD,dD,dD,.own 66 y6])
abbrev UFX (n:Nat):Orc R:=oL Ue5 (E25 n) n 3 Uu Uf9 (Uqy n n) oN
abbrev UFc (n:Nat):Orc R:=oC Ue5 (E25 n) 4 Ut9 Usm (Uu8 n) oN
abbrev K25 (R:Type) (n:Nat):=JcH (R:=R) Tryz.prog (Uxz n) Ue5 n (45,[]) (UFX n) (UFc n)
theorem UDa (n:Nat):K25 R n (true,4,Ut9):=JkW (lo:=UFX n) (cu:=UFc n) (pO pN (by kernel_rfl)) Usm (Uu8 n) (fun K _ _ _ _ _ _ _=>by show _=_; kernel_rfl) fun _ _=>rfl
theorem UDb (n:Nat):K25 R n (false,3,Uu):=JkF (lo:=UFX n) (cu:=UFc n) (pO (pC (UDa n) pN) (by kernel_rfl)) Uf9 (Uqy n n) (JiE (F:=Uqy n) Uf9 (UAe n) (fun K _ _ _ _ _ _ _=>rfl) (fun _ _=>rfl) (fun L K _ _ _ _ _ _ _=>by show _=_; kernel_rfl) n) fun _ _=>rfl
theorem UMN (n:Nat):Je6 (K25 R n) (JaJ Ue5 (Jll Tryz.f25)):=pO (pC (UDb n) pN) (by kernel_rfl)
abbrev t25:Sl (List SV):=(.c (sP (JlI (.c sSh (.c Jlf (.c sSh (.c Jlf (.c sSh .n))))))) .n)
abbrev f25 (n:Nat) (K:List SV→O R):t25.T (O R):=fun x1 x2 x3 x4 x5=>p25 n x1 x2 x3 x4 x5 (fun y1 y2 y3=>K [vH y1,vS y2,vI y3])
abbrev UFo (n:Nat):FS:=fT [false] t25 (f25 n)
theorem UJT (n:Nat):FSound Tryz.prog GI 25 (UFo n):=gd Ue5 n (Upe n) Tryz.func25 (.cons (Upe n) t25 (f25 n) (fun K _ _ _ _ _=>(Jkq (c:=Jll Tryz.f25) (by kernel_rfl) (UMN n) K).trans (by kernel_rfl)) .nil) (by kernel_rfl)
def Unv:Ann:={ loops:=[],cuts:=[],frz:=[],rm:=[.id] }
abbrev UuW (n:Nat):Env:=eN
theorem UlH (n:Nat):EnvOK Tryz.prog GI (UuW n):=.nil
def UGM (n:Nat)  (k0:ByteArray→O R):O R :=
 bif (Je5 0 (IntKind.i64.wrap (0 + 1)) ((⟨#[48,49,50,51,52,53,54,55,56,57]⟩:ByteArray)).size) then (k0 (ByteArray.extract (⟨#[48,49,50,51,52,53,54,55,56,57]⟩:ByteArray) (0:Int).toNat (IntKind.i64.wrap (0 + 1):Int).toNat)) else none
abbrev UFP (n:Nat):Orc R:=oN
abbrev UE5 (n:Nat):Orc R:=oN
abbrev UKw (R:Type) (n:Nat):=JcH (R:=R) Tryz.prog (UuW n) Unv n (36,[]) (UFP n) (UE5 n)
theorem UHe (n:Nat):Je6 (UKw R n) (JaJ Unv (Jll Tryz.f126)):=pO pN (by kernel_rfl)
abbrev UHR:Sl (List SV):=(.c (sP (Jlw .i64 0)) .n)
abbrev f126 (n:Nat) (K:List SV→O R):UHR.T (O R):=UGM n  (fun y1=>K [vS y1])
abbrev UBW (n:Nat):FS:=fT [false] UHR (f126 n)
theorem UGi (n:Nat):FSound Tryz.prog GI 126 (UBW n):=gd Unv n (UlH n) Tryz.func126 (.cons (UlH n) UHR (f126 n) (fun K=>(Jkq (c:=Jll Tryz.f126) (by kernel_rfl) (UHe n) K).trans (by kernel_rfl)) .nil) (by kernel_rfl)
def UwF:Ann:={ loops:=[],cuts:=[],frz:=[],rm:=[.id] }
abbrev UBv (n:Nat):Env:=eC 126 (UBW n) (eC 125 (Ux9 n) (eC 123 (Ura n) (eC 110 (Ur n) eN)))
theorem Up4 (n:Nat):EnvOK Tryz.prog GI (UBv n):=.cons (.cons (.cons (.cons (.nil) (Uti n)) (Utj n)) (UCz n)) (UGi n)
def p92 (n:Nat)  (k0:Bool→LP→Bool→LP→O R):O R :=
 UGM n (fun y1=>Uvy n y1 (fun y2 y3=>Utk n (fun y4 y5=>Uvx n y2 y3 y4 y5 (fun y6 y7 y8 y9=>k0 y6 y7 y8 y9))))
abbrev ULS (n:Nat):Orc R:=oN
abbrev ULc (n:Nat):Orc R:=oN
abbrev K92 (R:Type) (n:Nat):=JcH (R:=R) Tryz.prog (UBv n) UwF n (8,[]) (ULS n) (ULc n)
theorem UNC (n:Nat):Je6 (K92 R n) (JaJ UwF (Jll Tryz.f92)):=pO pN (by kernel_rfl)
abbrev t92:Sl (List SV):=(.c (sP (Jlw .i64 0)) .n)
abbrev f92 (n:Nat) (K:List SV→O R):t92.T (O R):=p92 n  (fun y1 y2 y3 y4=>K [.p (.agg [.v (.bool y1),.sh y2,.v (.bool y3),.sh y4])])
abbrev UFC (n:Nat):FS:=fT [false] t92 (f92 n)
theorem UJ7 (n:Nat):FSound Tryz.prog GI 92 (UFC n):=gd UwF n (Up4 n) Tryz.func92 (.cons (Up4 n) t92 (f92 n) (fun K=>(Jkq (c:=Jll Tryz.f92) (by kernel_rfl) (UNC n) K).trans (by kernel_rfl)) .nil) (by kernel_rfl)
def Ui6:Ann:={ loops:=[(3,[(0,.id),(2,.id),(3,.cs [some 57,none,none,none,none]),(4,.id)],ids [2,3])],cuts:=[],frz:=[1000006,1000018],rm:=[.cs [some 57,none,none,none,none]] }
abbrev UxS (n:Nat):Env:=eC 92 (UFC n) eN
theorem UpJ (n:Nat):EnvOK Tryz.prog GI (UxS n):=.cons (.nil) (UJ7 n)
def UhF (n:Nat) (l0:Int→Bool→Bool→LP→Bool→LP→Bool→LP→Int→O R) (x1:Int) (x2 x3:Bool) (x4:LP) (x5:Bool) (x6:LP) (x7:Bool) (x8:LP) (x9:Int) (k0:Bool→Bool→LP→Bool→LP→Bool→LP→O R):O R :=
 bif (decide (x9<x1)) then (p92 n (fun y10 y11 y12 y13=>bif (Jbu ((x4).length + 1) 64) then (l0 x1 x2 x3 (x4++([.agg [.v (.bool y10),.sh y11,.v (.bool y12),.sh y13]]:LP)) x5 x6 x7 x8 (IntKind.i64.wrap (x9 + 1))) else none)) else (k0 x2 x3 x4 x5 x6 x7 x8)
def UdE (n:Nat):Nat→Int→Bool→Bool→LP→Bool→LP→Bool→LP→Int→(Bool→Bool→LP→Bool→LP→Bool→LP→O R)→O R
 | 0,_,_,_,_,_,_,_,_,_,_=>none
 | m + 1,x1,x2,x3,x4,x5,x6,x7,x8,x9,k0=>UhF n (fun x1 x2 x3 x4 x5 x6 x7 x8 x9=>UdE n m x1 x2 x3 x4 x5 x6 x7 x8 x9 k0) x1 x2 x3 x4 x5 x6 x7 x8 x9 k0
def UvQ (n:Nat) (x1:Int) (x2 x3:Bool) (x4:LP) (x5:Bool) (x6:LP) (x7:Bool) (x8:LP) (x9:Int) (k0:Bool→Bool→LP→Bool→LP→Bool→LP→O R):O R:=UdE n n x1 x2 x3 x4 x5 x6 x7 x8 x9 k0
def p67 (n:Nat) (x1:Int) (k0:LP→Bool→LP→Bool→LP→O R):O R :=
 p92 n (fun y2 y3 y4 y5=>UvQ n x1 false false [] y2 y3 y4 y5 0 (fun y6 y7 y8 y9 y10 y11 y12=>k0 y8 y9 y10 y11 y12))
abbrev E67 (n:Nat):Code→Fr→Kc R→O R:=evC Tryz.prog (UxS n) Ui6 n (19,[])
noncomputable def Uuw:Code:=Jj4 (Jll Tryz.f67) [1,1,0,1,0,0]
abbrev Ugr:Sl (List SV):=(cI (.c (sBx 59 (.c sNl (cB (.c sNl (cB (.c sNl .n)))))) (.c (sBx 59 (cO 57 (cB (cH (cB (cH .n)))))) (cI .n))))
abbrev UqX (n m:Nat) (K:Kc R):Ugr.T (O R):=fun x1 x2 x3 x4 x5 x6 x7 x8 x9=>UdE n m x1 x2 x3 x4 x5 x6 x7 x8 x9 (fun y1 y2 y3 y4 y5 y6 y7=>xL Ui6 3 K (.exit 0) [.bx 59 [.nl,vB y1,.nl,vB y2,.nl],.bx 59 [.own 57 y3,vB y4,vH y5,vB y6,vH y7]])
abbrev UAx (n:Nat) (K:Kc R) (l0:Ugr.T (O R)):Ugr.T (O R):=fun x1 x2 x3 x4 x5 x6 x7 x8 x9=>UhF n l0 x1 x2 x3 x4 x5 x6 x7 x8 x9 (fun y1 y2 y3 y4 y5 y6 y7=>xL Ui6 3 K (.exit 0) [.bx 59 [.nl,vB y1,.nl,vB y2,.nl],.bx 59 [.own 57 y3,vB y4,vH y5,vB y6,vH y7]])
abbrev UJJ (n:Nat):Orc R:=oL Ui6 (E67 n) n 3 Uuw Ugr (UqX n n) oN
abbrev UIB (n:Nat):Orc R:=oN
abbrev K67 (R:Type) (n:Nat):=JcH (R:=R) Tryz.prog (UxS n) Ui6 n (19,[]) (UJJ n) (UIB n)
theorem UDB (n:Nat):K67 R n (false,3,Uuw):=JkF (lo:=UJJ n) (cu:=UIB n) (pO pN (by kernel_rfl)) Ugr (UqX n n) (JiE (F:=UqX n) Ugr (UAx n) (fun K _ _ _ _ _ _ _ _ _=>rfl) (fun _ _=>rfl) (fun L K _ _ _ _ _ _ _ _ _=>by show _=_; kernel_rfl) n) fun _ _=>rfl
theorem UNh (n:Nat):Je6 (K67 R n) (JaJ Ui6 (Jll Tryz.f67)):=pO (pC (UDB n) pN) (by kernel_rfl)
abbrev t67:Sl (List SV):=(cI .n)
abbrev f67 (n:Nat) (K:List SV→O R):t67.T (O R):=fun x1=>p67 n x1 (fun y1 y2 y3 y4 y5=>K [.st [.own 57 y1,vB y2,vH y3,vB y4,vH y5]])
abbrev UCg (n:Nat):FS:=fT [false] t67 (f67 n)
theorem UEE (n:Nat):FSound Tryz.prog GI 67 (UCg n):=gd Ui6 n (UpJ n) Tryz.func67 (.cons (UpJ n) t67 (f67 n) (fun K _=>(Jkq (c:=Jll Tryz.f67) (by kernel_rfl) (UNh n) K).trans (by kernel_rfl)) .nil) (by kernel_rfl)
def Uwr:Ann:={ loops:=[],cuts:=[],frz:=[],rm:=[.id] }
abbrev UBh (n:Nat):Env:=eC 110 (Ur n) (eC 109 (Ux5 n) eN)
theorem UpL (n:Nat):EnvOK Tryz.prog GI (UBh n):=.cons (.cons (.nil) (UCv n)) (Uti n)
def p69 (n:Nat) (x1:ByteArray) (k0:Bool→LP→Bool→LP→O R):O R :=
 Uvv n x1 (fun y2 y3 y4 y5 y6=>bif (!y6) then (Utk n (fun y7 y8=>k0 false [] y7 y8)) else (k0 y2 y3 y4 y5))
abbrev ULE (n:Nat):Orc R:=oN
abbrev UKZ (n:Nat):Orc R:=oN
abbrev K69 (R:Type) (n:Nat):=JcH (R:=R) Tryz.prog (UBh n) Uwr n (16,[]) (ULE n) (UKZ n)
theorem UNj (n:Nat):Je6 (K69 R n) (JaJ Uwr (Jll Tryz.f69)):=pO pN (by kernel_rfl)
abbrev t69:Sl (List SV):=(cS .n)
abbrev f69 (n:Nat) (K:List SV→O R):t69.T (O R):=fun x1=>p69 n x1 (fun y1 y2 y3 y4=>K [.p (.agg [.v (.bool y1),.sh y2,.v (.bool y3),.sh y4])])
abbrev UFv (n:Nat):FS:=fT [false] t69 (f69 n)
theorem UJ0 (n:Nat):FSound Tryz.prog GI 69 (UFv n):=gd Uwr n (UpL n) Tryz.func69 (.cons (UpL n) t69 (f69 n) (fun K _=>(Jkq (c:=Jll Tryz.f69) (by kernel_rfl) (UNj n) K).trans (by kernel_rfl)) .nil) (by kernel_rfl)
def Ubi:Ann:={ loops:=[(4,ids [0,1,4,6],ids [0,1,4,5]),(10,ids [0,1,4,7,8],ids [0,1,4,5,7]),(18,ids [1,4,9,10],ids [4,5,9])],cuts:=[],frz:=[],rm:=[.id,.id] }
abbrev UxJ (n:Nat):Env:=eC 91 (UFB n) (eC 84 (UEt n) (eC 71 (UFw n) (eC 69 (UFv n) (eC 67 (UCg n) eN))))
theorem Upr (n:Nat):EnvOK Tryz.prog GI (UxJ n):=.cons (.cons (.cons (.cons (.cons (.nil) (UEE n)) (UJ0 n)) (UJ1 n)) (UGH n)) (UJ6 n)
def Uhx (n:Nat) (l0:ByteArray→LP→Bool→Bool→Int→O R) (x1:ByteArray) (x2:LP) (x3 x4:Bool) (x5:Int) (k0:ByteArray→LP→LP→Bool→LP→Bool→LP→Int→O R) (k1:ByteArray→LP→Bool→Bool→O R):O R :=
 bif (decide (x5<((x2).length:Int))) then (bif (inR x5 ((x2).length)) then (Jh2 ((x2).getD ((x5:Int).toNat) (.v (.bool false))) fun a6=>JdT a6 fun h7 t8=>Jj .i64 h7 fun e9=>JdT t8 fun h10 t11=>Jj3 h10 fun e12=>Ji2 t11 (p84 n e12 (fun y13=>bif (!y13) then (k0 x1 x2 [] false [] false [] 3) else (l0 x1 x2 x3 x4 (IntKind.i64.wrap (x5 + 1)))))) else none) else (k1 x1 x2 x3 x4)
def Udy (n:Nat):Nat→ByteArray→LP→Bool→Bool→Int→(ByteArray→LP→LP→Bool→LP→Bool→LP→Int→O R)→(ByteArray→LP→Bool→Bool→O R)→O R
 | 0,_,_,_,_,_,_,_=>none
 | m + 1,x1,x2,x3,x4,x5,k0,k1=>Uhx n (fun x1 x2 x3 x4 x5=>Udy n m x1 x2 x3 x4 x5 k0 k1) x1 x2 x3 x4 x5 k0 k1
def UvK (n:Nat) (x1:ByteArray) (x2:LP) (x3 x4:Bool) (x5:Int) (k0:ByteArray→LP→LP→Bool→LP→Bool→LP→Int→O R) (k1:ByteArray→LP→Bool→Bool→O R):O R:=Udy n n x1 x2 x3 x4 x5 k0 k1
def UeO (n:Nat) (l0:ByteArray→LP→Bool→Bool→Int→Int→O R) (x1:ByteArray) (x2:LP) (x3 x4:Bool) (x5 x6:Int) (k0:ByteArray→LP→LP→Bool→LP→Bool→LP→Int→Int→O R) (k1:ByteArray→LP→Bool→Bool→Int→O R):O R :=
 bif (decide (x6<((x2).length:Int))) then (bif (inR x6 ((x2).length)) then (Jh2 ((x2).getD ((x6:Int).toNat) (.v (.bool false))) fun a7=>JdT a7 fun h8 t9=>Jj .i64 h8 fun e10=>JdT t9 fun h11 t12=>Jj3 h11 fun e13=>Ji2 t12 (bif (decide (e10<0)) then (k0 x1 x2 [] false [] false [] 2 x5) else (bif (inR x6 ((x2).length)) then (Jh2 ((x2).getD ((x6:Int).toNat) (.v (.bool false))) fun a14=>JdT a14 fun h15 t16=>Jj .i64 h15 fun e17=>JdT t16 fun h18 t19=>Jj3 h18 fun e20=>Ji2 t19 (bif (bif false then true else (decide (e17≥2048))) then (k0 x1 x2 [] false [] false [] 2 x5) else (bif (inR x6 ((x2).length)) then (Jh2 ((x2).getD ((x6:Int).toNat) (.v (.bool false))) fun a21=>JdT a21 fun h22 t23=>Jj .i64 h22 fun e24=>JdT t23 fun h25 t26=>Jj3 h25 fun e27=>Ji2 t26 (let v28:=JkU x5 (IntKind.i64.wrap (e24 + 1)); l0 x1 x2 x3 x4 v28 (IntKind.i64.wrap (x6 + 1)))) else none))) else none))) else none) else (k1 x1 x2 x3 x4 x5)
def Uc (n:Nat):Nat→ByteArray→LP→Bool→Bool→Int→Int→(ByteArray→LP→LP→Bool→LP→Bool→LP→Int→Int→O R)→(ByteArray→LP→Bool→Bool→Int→O R)→O R
 | 0,_,_,_,_,_,_,_,_=>none
 | m + 1,x1,x2,x3,x4,x5,x6,k0,k1=>UeO n (fun x1 x2 x3 x4 x5 x6=>Uc n m x1 x2 x3 x4 x5 x6 k0 k1) x1 x2 x3 x4 x5 x6 k0 k1
def Uhw (n:Nat) (x1:ByteArray) (x2:LP) (x3 x4:Bool) (x5 x6:Int) (k0:ByteArray→LP→LP→Bool→LP→Bool→LP→Int→Int→O R) (k1:ByteArray→LP→Bool→Bool→Int→O R):O R:=Uc n n x1 x2 x3 x4 x5 x6 k0 k1
def UeP (n:Nat) (l0:LP→Bool→Bool→LP→Bool→LP→Bool→LP→Int→O R) (x1:LP) (x2 x3:Bool) (x4:LP) (x5:Bool) (x6:LP) (x7:Bool) (x8:LP) (x9:Int) (k0:LP→Bool→LP→Bool→LP→Int→LP→Bool→LP→Bool→LP→O R) (k1:Bool→Bool→LP→Bool→LP→Bool→LP→O R):O R :=
 bif (decide (x9<((x1).length:Int))) then (bif (inR x9 ((x1).length)) then (Jh2 ((x1).getD ((x9:Int).toNat) (.v (.bool false))) fun a10=>JdT a10 fun h11 t12=>Jj .i64 h11 fun e13=>JdT t12 fun h14 t15=>Jj3 h14 fun e16=>Ji2 t15 (bif (inR x9 ((x1).length)) then (Jh2 ((x1).getD ((x9:Int).toNat) (.v (.bool false))) fun a17=>JdT a17 fun h18 t19=>Jj .i64 h18 fun e20=>JdT t19 fun h21 t22=>Jj3 h21 fun e23=>Ji2 t22 (bif (inR e20 ((x4).length)) then (Jh2 ((x4).getD ((e20:Int).toNat) (.v (.bool false))) fun a24=>JdT a24 fun h25 t26=>Jj2 h25 fun e27=>JdT t26 fun h28 t29=>Jkr h28 fun e30=>JdT t29 fun h31 t32=>Jj2 h31 fun e33=>JdT t32 fun h34 t35=>Jkr h34 fun e36=>Ji2 t35 (bif (inR x9 ((x1).length)) then (Jh2 ((x1).getD ((x9:Int).toNat) (.v (.bool false))) fun a37=>JdT a37 fun h38 t39=>Jj .i64 h38 fun e40=>JdT t39 fun h41 t42=>Jj3 h41 fun e43=>Ji2 t42 (p69 n e43 (fun y44 y45 y46 y47=>p91 n e27 e30 e33 e36 y44 y45 y46 y47 (fun y48 y49 y50 y51=>bif (inR e13 ((x4).length)) then (Jh2 ((x4).getD ((e13:Int).toNat) (.v (.bool false))) fun a52=>JdT a52 fun h53 t54=>Jj2 h53 fun e55=>JdT t54 fun h56 t57=>Jkr h56 fun e58=>JdT t57 fun h59 t60=>Jj2 h59 fun e61=>JdT t60 fun h62 t63=>Jkr h62 fun e64=>Ji2 t63 (bif (inR x9 ((x1).length)) then (Jh2 ((x1).getD ((x9:Int).toNat) (.v (.bool false))) fun a65=>JdT a65 fun h66 t67=>Jj .i64 h66 fun e68=>JdT t67 fun h69 t70=>Jj3 h69 fun e71=>Ji2 t70 (bif (inR e68 (((x4).set ((e13:Int).toNat) (.agg [.v (.bool y48),.sh y49,.v (.bool y50),.sh y51])).length)) then (Jh2 (((x4).set ((e13:Int).toNat) (.agg [.v (.bool y48),.sh y49,.v (.bool y50),.sh y51])).getD ((e68:Int).toNat) (.v (.bool false))) fun a72=>JdT a72 fun h73 t74=>Jj2 h73 fun e75=>JdT t74 fun h76 t77=>Jkr h76 fun e78=>JdT t77 fun h79 t80=>Jj2 h79 fun e81=>JdT t80 fun h82 t83=>Jkr h82 fun e84=>Ji2 t83 (p71 n e75 e78 e81 e84 (fun y85=>bif y85 then (k0 [] false [] false [] 5 ((x4).set ((e13:Int).toNat) (.agg [.v (.bool y48),.sh y49,.v (.bool y50),.sh y51])) x5 x6 x7 x8) else (l0 x1 x2 x3 ((x4).set ((e13:Int).toNat) (.agg [.v (.bool y48),.sh y49,.v (.bool y50),.sh y51])) x5 x6 x7 x8 (IntKind.i64.wrap (x9 + 1)))))) else none)) else none)) else none)))) else none)) else none)) else none)) else none) else (k1 x2 x3 x4 x5 x6 x7 x8)
def Uca (n:Nat):Nat→LP→Bool→Bool→LP→Bool→LP→Bool→LP→Int→(LP→Bool→LP→Bool→LP→Int→LP→Bool→LP→Bool→LP→O R)→(Bool→Bool→LP→Bool→LP→Bool→LP→O R)→O R
 | 0,_,_,_,_,_,_,_,_,_,_,_=>none
 | m + 1,x1,x2,x3,x4,x5,x6,x7,x8,x9,k0,k1=>UeP n (fun x1 x2 x3 x4 x5 x6 x7 x8 x9=>Uca n m x1 x2 x3 x4 x5 x6 x7 x8 x9 k0 k1) x1 x2 x3 x4 x5 x6 x7 x8 x9 k0 k1
def Ucx (n:Nat) (x1:LP) (x2 x3:Bool) (x4:LP) (x5:Bool) (x6:LP) (x7:Bool) (x8:LP) (x9:Int) (k0:LP→Bool→LP→Bool→LP→Int→LP→Bool→LP→Bool→LP→O R) (k1:Bool→Bool→LP→Bool→LP→Bool→LP→O R):O R:=Uca n n x1 x2 x3 x4 x5 x6 x7 x8 x9 k0 k1
def p46 (n:Nat) (x1:ByteArray) (x2:LP) (k0:LP→Bool→LP→Bool→LP→Int→O R):O R :=
 p84 n x1 (fun y3=>bif (!y3) then (k0 [] false [] false [] 3) else (UvK n x1 x2 false false 0 (fun y4 y5 y6 y7 y8 y9 y10 y11=>k0 y6 y7 y8 y9 y10 y11) (fun y12 y13 y14 y15=>Uhw n y12 y13 y14 y15 0 0 (fun y16 y17 y18 y19 y20 y21 y22 y23 y24=>k0 y18 y19 y20 y21 y22 y23) (fun y25 y26 y27 y28 y29=>p67 n y29 (fun y30 y31 y32 y33 y34=>p69 n y25 (fun y35 y36 y37 y38=>Ucx n y26 y27 y28 y30 y35 y36 y37 y38 0 (fun y39 y40 y41 y42 y43 y44 y45 y46 y47 y48 y49=>k0 y39 y40 y41 y42 y43 y44) (fun y50 y51 y52 y53 y54 y55 y56=>k0 y52 y53 y54 y55 y56 0)))))))
abbrev E46 (n:Nat):Code→Fr→Kc R→O R:=evC Tryz.prog (UxJ n) Ubi n (105,[])
noncomputable def Uun:Code:=Jj4 (Jll Tryz.f46) [1,1,0,1,0,0]
abbrev Ugi:Sl (List SV):=(cS (cH (.c (sBx 59 (.c sNl (cB (.c sNl (cB (.c sNl .n)))))) (cI .n))))
abbrev UqL (n m:Nat) (K:Kc R):Ugi.T (O R):=fun x1 x2 x3 x4 x5=>Udy n m x1 x2 x3 x4 x5 (fun y1 y2 y3 y4 y5 y6 y7 y8=>xL Ubi 4 K .ret [vS y1,vH y2,.bx 59 [vH y3,vB y4,vH y5,vB y6,vH y7],vI y8]) (fun y1 y2 y3 y4=>xL Ubi 4 K (.exit 0) [vS y1,vH y2,.bx 59 [.nl,vB y3,.nl,vB y4,.nl],dD])
abbrev UAo (n:Nat) (K:Kc R) (l0:Ugi.T (O R)):Ugi.T (O R):=fun x1 x2 x3 x4 x5=>Uhx n l0 x1 x2 x3 x4 x5 (fun y1 y2 y3 y4 y5 y6 y7 y8=>xL Ubi 4 K .ret [vS y1,vH y2,.bx 59 [vH y3,vB y4,vH y5,vB y6,vH y7],vI y8]) (fun y1 y2 y3 y4=>xL Ubi 4 K (.exit 0) [vS y1,vH y2,.bx 59 [.nl,vB y3,.nl,vB y4,.nl],dD])
noncomputable def Uol:Code:=Jj4 (Jll Tryz.f46) [1,1,1,1,0,1,0,0]
abbrev Ud9:Sl (List SV):=(cS (cH (.c (sBx 59 (.c sNl (cB (.c sNl (cB (.c sNl .n)))))) (cI (cI .n)))))
abbrev UjF (n m:Nat) (K:Kc R):Ud9.T (O R):=fun x1 x2 x3 x4 x5 x6=>Uc n m x1 x2 x3 x4 x5 x6 (fun y1 y2 y3 y4 y5 y6 y7 y8 y9=>xL Ubi 10 K .ret [vS y1,vH y2,.bx 59 [vH y3,vB y4,vH y5,vB y6,vH y7],vI y8,vI y9]) (fun y1 y2 y3 y4 y5=>xL Ubi 10 K (.exit 2) [vS y1,vH y2,.bx 59 [.nl,vB y3,.nl,vB y4,.nl],dD,vI y5])
abbrev Uxa (n:Nat) (K:Kc R) (l0:Ud9.T (O R)):Ud9.T (O R):=fun x1 x2 x3 x4 x5 x6=>UeO n l0 x1 x2 x3 x4 x5 x6 (fun y1 y2 y3 y4 y5 y6 y7 y8 y9=>xL Ubi 10 K .ret [vS y1,vH y2,.bx 59 [vH y3,vB y4,vH y5,vB y6,vH y7],vI y8,vI y9]) (fun y1 y2 y3 y4 y5=>xL Ubi 10 K (.exit 2) [vS y1,vH y2,.bx 59 [.nl,vB y3,.nl,vB y4,.nl],dD,vI y5])
noncomputable def Uom:Code:=Jj4 (Jll Tryz.f46) [1,1,1,1,1,1,1,0,1,0,0]
abbrev Ue:Sl (List SV):=(cH (.c (sBx 59 (.c sNl (cB (.c sNl (cB (.c sNl .n)))))) (.c (sBx 59 (cO 57 (cB (cH (cB (cH .n)))))) (cI .n))))
abbrev UjG (n m:Nat) (K:Kc R):Ue.T (O R):=fun x1 x2 x3 x4 x5 x6 x7 x8 x9=>Uca n m x1 x2 x3 x4 x5 x6 x7 x8 x9 (fun y1 y2 y3 y4 y5 y6 y7 y8 y9 y10 y11=>xL Ubi 18 K .ret [.bx 59 [vH y1,vB y2,vH y3,vB y4,vH y5],vI y6,.bx 59 [.own 57 y7,vB y8,vH y9,vB y10,vH y11]]) (fun y1 y2 y3 y4 y5 y6 y7=>xL Ubi 18 K (.exit 4) [.bx 59 [.nl,vB y1,.nl,vB y2,.nl],dD,.bx 59 [.own 57 y3,vB y4,vH y5,vB y6,vH y7]])
abbrev Uxb (n:Nat) (K:Kc R) (l0:Ue.T (O R)):Ue.T (O R):=fun x1 x2 x3 x4 x5 x6 x7 x8 x9=>UeP n l0 x1 x2 x3 x4 x5 x6 x7 x8 x9 (fun y1 y2 y3 y4 y5 y6 y7 y8 y9 y10 y11=>xL Ubi 18 K .ret [.bx 59 [vH y1,vB y2,vH y3,vB y4,vH y5],vI y6,.bx 59 [.own 57 y7,vB y8,vH y9,vB y10,vH y11]]) (fun y1 y2 y3 y4 y5 y6 y7=>xL Ubi 18 K (.exit 4) [.bx 59 [.nl,vB y1,.nl,vB y2,.nl],dD,.bx 59 [.own 57 y3,vB y4,vH y5,vB y6,vH y7]])
abbrev UEy (n:Nat):Orc R:=oL Ubi (E46 n) n 18 Uom Ue (UjG n n) (oL Ubi (E46 n) n 10 Uol Ud9 (UjF n n) (oL Ubi (E46 n) n 4 Uun Ugi (UqL n n) oN))
abbrev UEk (n:Nat):Orc R:=oN
abbrev K46 (R:Type) (n:Nat):=JcH (R:=R) Tryz.prog (UxJ n) Ubi n (105,[]) (UEy n) (UEk n)
theorem UDr (n:Nat):K46 R n (false,4,Uun):=JkF (lo:=UEy n) (cu:=UEk n) (pO pN (by kernel_rfl)) Ugi (UqL n n) (JiE (F:=UqL n) Ugi (UAo n) (fun K _ _ _ _ _=>rfl) (fun _ _=>rfl) (fun L K _ _ _ _ _=>by show _=_; kernel_rfl) n) fun _ _=>rfl
theorem Uzj (n:Nat):K46 R n (false,10,Uol):=JkF (lo:=UEy n) (cu:=UEk n) (pO pN (by kernel_rfl)) Ud9 (UjF n n) (JiE (F:=UjF n) Ud9 (Uxa n) (fun K _ _ _ _ _ _=>rfl) (fun _ _=>rfl) (fun L K _ _ _ _ _ _=>by show _=_; kernel_rfl) n) fun _ _=>rfl
theorem Uzk (n:Nat):K46 R n (false,18,Uom):=JkF (lo:=UEy n) (cu:=UEk n) (pO pN (by kernel_rfl)) Ue (UjG n n) (JiE (F:=UjG n) Ue (Uxb n) (fun K _ _ _ _ _ _ _ _ _=>rfl) (fun _ _=>rfl) (fun L K _ _ _ _ _ _ _ _ _=>by show _=_; kernel_rfl) n) fun _ _=>rfl
theorem UM0 (n:Nat):Je6 (K46 R n) (JaJ Ubi (Jll Tryz.f46)):=pO (pC (UDr n) (pC (Uzj n) (pC (Uzk n) pN))) (by kernel_rfl)
abbrev t46:Sl (List SV):=(cS (cH .n))
abbrev f46 (n:Nat) (K:List SV→O R):t46.T (O R):=fun x1 x2=>p46 n x1 x2 (fun y1 y2 y3 y4 y5 y6=>K [.p (.agg [.sh y1,.v (.bool y2),.sh y3,.v (.bool y4),.sh y5]),vI y6])
abbrev UI9 (n:Nat):FS:=fT [false,false] t46 (f46 n)
theorem UMc (n:Nat):FSound Tryz.prog GI 46 (UI9 n):=gd Ubi n (Upr n) Tryz.func46 (.cons (Upr n) t46 (f46 n) (fun K _ _=>(Jkq (c:=Jll Tryz.f46) (by kernel_rfl) (UM0 n) K).trans (by kernel_rfl)) .nil) (by kernel_rfl)
def Ui7:Ann:={ loops:=[(3,ids [2,3,4,5,6],ids [2,3,4,5])],cuts:=[],frz:=[],rm:=[.id] }
abbrev UxT (n:Nat):Env:=eC 108 (UBO n) (eC 67 (UCg n) eN)
theorem UpK (n:Nat):EnvOK Tryz.prog GI (UxT n):=.cons (.cons (.nil) (UEE n)) (UGa n)
def UhG (n:Nat) (l0:LP→Bool→LP→Bool→LP→Bool→LP→Bool→LP→Bool→Bool→LP→Bool→LP→Bool→LP→Int→O R) (x1:LP) (x2:Bool) (x3:LP) (x4:Bool) (x5:LP) (x6:Bool) (x7:LP) (x8:Bool) (x9:LP) (x10 x11:Bool) (x12:LP) (x13:Bool) (x14:LP) (x15:Bool) (x16:LP) (x17:Int) (k0:LP→Bool→LP→Bool→LP→Bool→LP→Bool→LP→Bool→Bool→LP→Bool→LP→Bool→LP→O R):O R :=
 bif (decide (x17<((x12).length:Int))) then (bif (inR x17 ((x1).length)) then (Jh2 ((x1).getD ((x17:Int).toNat) (.v (.bool false))) fun a18=>JdT a18 fun h19 t20=>Jj2 h19 fun e21=>JdT t20 fun h22 t23=>Jkr h22 fun e24=>JdT t23 fun h25 t26=>Jj2 h25 fun e27=>JdT t26 fun h28 t29=>Jkr h28 fun e30=>Ji2 t29 (Uz2 n e21 e24 e27 e30 x6 x7 x8 x9 (fun y31 y32 y33 y34=>bif (inR x17 ((x12).length)) then (Jh2 ((x12).getD ((x17:Int).toNat) (.v (.bool false))) fun a35=>JdT a35 fun h36 t37=>Jj2 h36 fun e38=>JdT t37 fun h39 t40=>Jkr h39 fun e41=>JdT t40 fun h42 t43=>Jj2 h42 fun e44=>JdT t43 fun h45 t46=>Jkr h45 fun e47=>Ji2 t46 (l0 x1 x2 x3 x4 x5 x6 x7 x8 x9 x10 x11 ((x12).set ((x17:Int).toNat) (.agg [.v (.bool y31),.sh y32,.v (.bool y33),.sh y34])) x13 x14 x15 x16 (IntKind.i64.wrap (x17 + 1)))) else none))) else none) else (k0 x1 x2 x3 x4 x5 x6 x7 x8 x9 x10 x11 x12 x13 x14 x15 x16)
def UdF (n:Nat):Nat→LP→Bool→LP→Bool→LP→Bool→LP→Bool→LP→Bool→Bool→LP→Bool→LP→Bool→LP→Int→(LP→Bool→LP→Bool→LP→Bool→LP→Bool→LP→Bool→Bool→LP→Bool→LP→Bool→LP→O R)→O R
 | 0,_,_,_,_,_,_,_,_,_,_,_,_,_,_,_,_,_,_=>none
 | m + 1,x1,x2,x3,x4,x5,x6,x7,x8,x9,x10,x11,x12,x13,x14,x15,x16,x17,k0=>UhG n (fun x1 x2 x3 x4 x5 x6 x7 x8 x9 x10 x11 x12 x13 x14 x15 x16 x17=>UdF n m x1 x2 x3 x4 x5 x6 x7 x8 x9 x10 x11 x12 x13 x14 x15 x16 x17 k0) x1 x2 x3 x4 x5 x6 x7 x8 x9 x10 x11 x12 x13 x14 x15 x16 x17 k0
def UvR (n:Nat) (x1:LP) (x2:Bool) (x3:LP) (x4:Bool) (x5:LP) (x6:Bool) (x7:LP) (x8:Bool) (x9:LP) (x10 x11:Bool) (x12:LP) (x13:Bool) (x14:LP) (x15:Bool) (x16:LP) (x17:Int) (k0:LP→Bool→LP→Bool→LP→Bool→LP→Bool→LP→Bool→Bool→LP→Bool→LP→Bool→LP→O R):O R:=UdF n n x1 x2 x3 x4 x5 x6 x7 x8 x9 x10 x11 x12 x13 x14 x15 x16 x17 k0
def p68 (n:Nat) (x1:LP) (x2:Bool) (x3:LP) (x4:Bool) (x5:LP) (x6:Bool) (x7:LP) (x8:Bool) (x9:LP) (k0:LP→Bool→LP→Bool→LP→O R):O R :=
 p67 n ((x1).length:Int) (fun y10 y11 y12 y13 y14=>UvR n x1 x2 x3 x4 x5 x6 x7 x8 x9 false false y10 y11 y12 y13 y14 0 (fun y15 y16 y17 y18 y19 y20 y21 y22 y23 y24 y25 y26 y27 y28 y29 y30=>Uz2 n y16 y17 y18 y19 y20 y21 y22 y23 (fun y31 y32 y33 y34=>k0 y26 y31 y32 y33 y34)))
abbrev E68 (n:Nat):Code→Fr→Kc R→O R:=evC Tryz.prog (UxT n) Ui7 n (35,[])
noncomputable def Uux:Code:=Jj4 (Jll Tryz.f68) [1,1,0,1,0,0]
abbrev Ugs:Sl (List SV):=(.c (sBx 59 (cH (cB (cH (cB (cH .n)))))) (.c (sBx 57 (cB (cH (cB (cH .n))))) (.c (sBx 59 (.c sNl (cB (.c sNl (cB (.c sNl .n)))))) (.c (sBx 59 (cO 57 (cB (cH (cB (cH .n)))))) (cI .n)))))
abbrev UqY (n m:Nat) (K:Kc R):Ugs.T (O R):=fun x1 x2 x3 x4 x5 x6 x7 x8 x9 x10 x11 x12 x13 x14 x15 x16 x17=>UdF n m x1 x2 x3 x4 x5 x6 x7 x8 x9 x10 x11 x12 x13 x14 x15 x16 x17 (fun y1 y2 y3 y4 y5 y6 y7 y8 y9 y10 y11 y12 y13 y14 y15 y16=>xL Ui7 3 K (.exit 0) [.bx 59 [vH y1,vB y2,vH y3,vB y4,vH y5],.bx 57 [vB y6,vH y7,vB y8,vH y9],.bx 59 [.nl,vB y10,.nl,vB y11,.nl],.bx 59 [.own 57 y12,vB y13,vH y14,vB y15,vH y16]])
abbrev UAy (n:Nat) (K:Kc R) (l0:Ugs.T (O R)):Ugs.T (O R):=fun x1 x2 x3 x4 x5 x6 x7 x8 x9 x10 x11 x12 x13 x14 x15 x16 x17=>UhG n l0 x1 x2 x3 x4 x5 x6 x7 x8 x9 x10 x11 x12 x13 x14 x15 x16 x17 (fun y1 y2 y3 y4 y5 y6 y7 y8 y9 y10 y11 y12 y13 y14 y15 y16=>xL Ui7 3 K (.exit 0) [.bx 59 [vH y1,vB y2,vH y3,vB y4,vH y5],.bx 57 [vB y6,vH y7,vB y8,vH y9],.bx 59 [.nl,vB y10,.nl,vB y11,.nl],.bx 59 [.own 57 y12,vB y13,vH y14,vB y15,vH y16]])
abbrev UJK (n:Nat):Orc R:=oL Ui7 (E68 n) n 3 Uux Ugs (UqY n n) oN
abbrev UIC (n:Nat):Orc R:=oN
abbrev K68 (R:Type) (n:Nat):=JcH (R:=R) Tryz.prog (UxT n) Ui7 n (35,[]) (UJK n) (UIC n)
theorem UDC (n:Nat):K68 R n (false,3,Uux):=JkF (lo:=UJK n) (cu:=UIC n) (pO pN (by kernel_rfl)) Ugs (UqY n n) (JiE (F:=UqY n) Ugs (UAy n) (fun K _ _ _ _ _ _ _ _ _ _ _ _ _ _ _ _ _=>rfl) (fun _ _=>rfl) (fun L K _ _ _ _ _ _ _ _ _ _ _ _ _ _ _ _ _=>by show _=_; kernel_rfl) n) fun _ _=>rfl
theorem UNi (n:Nat):Je6 (K68 R n) (JaJ Ui7 (Jll Tryz.f68)):=pO (pC (UDC n) pN) (by kernel_rfl)
abbrev t68:Sl (List SV):=(.c (sP (JlI (.c sSh (.c Jlf (.c sSh (.c Jlf (.c sSh .n))))))) (.c (sP (JlI (.c Jlf (.c sSh (.c Jlf (.c sSh .n)))))) .n))
abbrev f68 (n:Nat) (K:List SV→O R):t68.T (O R):=fun x1 x2 x3 x4 x5 x6 x7 x8 x9=>p68 n x1 x2 x3 x4 x5 x6 x7 x8 x9 (fun y1 y2 y3 y4 y5=>K [.p (.agg [.sh y1,.v (.bool y2),.sh y3,.v (.bool y4),.sh y5])])
abbrev UJi (n:Nat):FS:=fT [false,false] t68 (f68 n)
theorem UMm (n:Nat):FSound Tryz.prog GI 68 (UJi n):=gd Ui7 n (UpK n) Tryz.func68 (.cons (UpK n) t68 (f68 n) (fun K _ _ _ _ _ _ _ _ _=>(Jkq (c:=Jll Tryz.f68) (by kernel_rfl) (UNi n) K).trans (by kernel_rfl)) .nil) (by kernel_rfl)
def Uwg:Ann:={ loops:=[],cuts:=[],frz:=[],rm:=[.id] }
abbrev UA7 (n:Nat):Env:=eC 92 (UFC n) eN
theorem Ups (n:Nat):EnvOK Tryz.prog GI (UA7 n):=.cons (.nil) (UJ7 n)
def p47 (n:Nat) (x1:LP) (x2:Bool) (x3:LP) (x4:Bool) (x5:LP) (x6:Int) (k0:Bool→LP→Bool→LP→O R):O R :=
 bif (decide (x6<0)) then (p92 n (fun y7 y8 y9 y10=>k0 y7 y8 y9 y10)) else (bif (bif false then true else (decide (x6≥((x1).length:Int)))) then (p92 n (fun y11 y12 y13 y14=>k0 y11 y12 y13 y14)) else (bif (inR x6 ((x1).length)) then (Jh2 ((x1).getD ((x6:Int).toNat) (.v (.bool false))) fun a15=>JdT a15 fun h16 t17=>Jj2 h16 fun e18=>JdT t17 fun h19 t20=>Jkr h19 fun e21=>JdT t20 fun h22 t23=>Jj2 h22 fun e24=>JdT t23 fun h25 t26=>Jkr h25 fun e27=>Ji2 t26 (k0 e18 e21 e24 e27)) else none))
abbrev ULt (n:Nat):Orc R:=oN
abbrev UKO (n:Nat):Orc R:=oN
abbrev K47 (R:Type) (n:Nat):=JcH (R:=R) Tryz.prog (UA7 n) Uwg n (20,[]) (ULt n) (UKO n)
theorem UM1 (n:Nat):Je6 (K47 R n) (JaJ Uwg (Jll Tryz.f47)):=pO pN (by kernel_rfl)
abbrev t47:Sl (List SV):=(.c (sP (JlI (.c sSh (.c Jlf (.c sSh (.c Jlf (.c sSh .n))))))) (cI .n))
abbrev f47 (n:Nat) (K:List SV→O R):t47.T (O R):=fun x1 x2 x3 x4 x5 x6=>p47 n x1 x2 x3 x4 x5 x6 (fun y1 y2 y3 y4=>K [.p (.agg [.v (.bool y1),.sh y2,.v (.bool y3),.sh y4])])
abbrev UJ (n:Nat):FS:=fT [false,false] t47 (f47 n)
theorem UMd (n:Nat):FSound Tryz.prog GI 47 (UJ n):=gd Uwg n (Ups n) Tryz.func47 (.cons (Ups n) t47 (f47 n) (fun K _ _ _ _ _ _=>(Jkq (c:=Jll Tryz.f47) (by kernel_rfl) (UM1 n) K).trans (by kernel_rfl)) .nil) (by kernel_rfl)
end
end Go.Proofs.YtmgfmlhdnadglaaGreatDoor
