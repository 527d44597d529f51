/- Proved: part 6 of the proof that the law CertifyLeast returns true at all its arguments (no further conditions). -/
import Derived.Test.YtmgfmlhdnadglaaGreatDoorMCertifyLeast1
import Derived.Test.YtmgfmlhdnadglaaGreatDoorMCertifyLeast0
set_option linter.unusedVariables false
set_option linter.unusedSimpArgs false
namespace Go.Proofs.YtmgfmlhdnadglaaGreatDoor
open Go Th Go.Proofs
variable {R:Type}
abbrev SpT:=Nat × Rat
noncomputable def vt (l:List SpT):List TermT:=l.map fun t=>((t.1:Int),Uae t.2)
theorem Uak (l:List SpT):(vt l).length=l.length:=by unfold vt; rw [List.length_map]
theorem Uvq {l:List SpT} {i:Nat} (h:i<(vt l).length):(vt l)[i]=(((l[i]'(by rw [←Uak]; exact h)).1:Int),Uae (l[i]'(by rw [←Uak]; exact h)).2):=by
 simp only [vt,List.getElem_map]
def asc:Int→List SpT→Prop
 | _,[]=>True
 | last,t::r=>last<(t.1:Int)∧asc t.1 r
def okN (cols:Int) (l:List SpT):Prop:=∀ t∈l,t.2≠0∧fits t.2∧(t.1:Int)<cols
def okS (cols:Int) (l:List SpT):Prop:=asc (-1) l∧okN cols l
theorem Udy {q:Rat} (h:fits q):qb (Uae q)=true:=UIf.2 ⟨q,h,rfl⟩
theorem UbV:fits 0:=Uis (v:=0) (by decide +kernel)
theorem Ufq:Uae 0=[48]:=by rw [←show ((0:Int):Rat)=0 from rfl,←UaG]; decide +kernel
theorem Ufi {q:Rat}:Uae q=[48]↔q=0:=⟨fun h=>Uf4 (h.trans Ufq.symm),fun h=>by rw [h,Ufq]⟩
theorem Ukg {cols:Int}:∀ {l:List SpT} {last:Int},asc last l→okN cols l→okT cols last (vt l)=true
 | [],last,_,_=>rfl
 | t::l,last,h1,h2=>by
  obtain ⟨e1,e2,e3⟩:=h2 t (List.mem_cons_self ..)
  show okT cols last (((t.1:Int),Uae t.2)::vt l)=true
  simp only [okT]
  have h1':=h1.1
  rw [if_neg (by omega),if_neg (by omega),if_neg (fun q=>e1 (Ufi.1 q)),Udy e2,Ukg h1.2 (fun x hx=>h2 x (List.mem_cons_of_mem _ hx))]
  rfl
theorem UtX {cols:Int}:∀ {l:List TermT} {last:Int},-1≤last→okT cols last l=true→∃ l':List SpT,l=vt l'∧asc last l'∧okN cols l'
 | [],last,_,_=>⟨[],rfl,trivial,by intro t h; cases h⟩
 | t::l,last,h0,h=>by
  simp only [okT] at h
  by_cases h1:t.1≤last
  · rw [if_pos h1] at h; cases h
  rw [if_neg h1] at h
  by_cases h2:t.1≥cols
  · rw [if_pos h2] at h; cases h
  rw [if_neg h2] at h
  by_cases h3:t.2=[48]
  · rw [if_pos h3] at h; cases h
  rw [if_neg h3,Bool.and_eq_true] at h
  obtain ⟨q,hq,e⟩:=UIf.1 h.1
  obtain ⟨l',e1,e2,e3⟩:=UtX (by omega:-1≤t.1) h.2
  have hc:((t.1.toNat:Nat):Int)=t.1:=by omega
  refine ⟨(t.1.toNat,q)::l',?_,⟨by show last<((t.1.toNat:Nat):Int); omega,by show asc ((t.1.toNat:Nat):Int) l'; rw [hc]; exact e2⟩,?_⟩
  · rw [e1]
    show t::vt l'=(((t.1.toNat:Nat):Int),Uae q)::vt l'
    rw [hc,←e]
  · intro x hx
    rcases List.mem_cons.1 hx with rfl | hx
    · refine ⟨fun q0=>h3 (by rw [e]; exact Ufi.2 q0),hq,?_⟩
      show ((t.1.toNat:Nat):Int)<cols
      omega
    · exact e3 x hx
theorem Uvz {l:List SpT} {a b:Int} (h:asc b l) (hab:a≤b):asc a l:=by
 cases l with
 | nil=>trivial
 | cons t r=>exact ⟨by have:=h.1; omega,h.2⟩
theorem Ugh:∀ {l:List SpT} {a:Int},asc a l→∀ t∈l,a<(t.1:Int)
 | t::l,a,h,x,hx=>by
  rcases List.mem_cons.1 hx with rfl | hx
  · exact h.1
  · have:=Ugh h.2 x hx; have:=h.1; omega
def cf:List SpT→Nat→Rat
 | [],_=>0
 | t::r,i=>if t.1=i then t.2 else cf r i
theorem Ubj (t:SpT) (r:List SpT) (i:Nat):cf (t::r) i=if t.1=i then t.2 else cf r i:=rfl
theorem Ui:∀ {l:List SpT} {i:Nat},(∀ t∈l,t.1≠i)→cf l i=0
 | [],_,_=>rfl
 | t::l,i,h=>by rw [cf,if_neg (h t (List.mem_cons_self ..)),Ui fun x hx=>h x (List.mem_cons_of_mem _ hx)]
theorem Ua1 {l:List SpT} {a:Int} (h:asc a l) {i:Nat} (hi:(i:Int)≤a):cf l i=0:=Ui fun t ht=>by have:=Ugh h t ht; omega
theorem Ugk:∀ {l:List SpT} {a:Int},asc a l→∀ t∈l,cf l t.1=t.2
 | t::l,a,h,x,hx=>by
  rcases List.mem_cons.1 hx with rfl | hx
  · rw [cf,if_pos rfl]
  · have:=Ugh h.2 x hx
    rw [cf,if_neg (by omega),Ugk h.2 x hx]
theorem UEH {l:List SpT} {i:Nat} (h:cf l i≠0):∃ t∈l,t.1=i∧t.2=cf l i:=by
 induction l with
 | nil=>exact absurd rfl h
 | cons t l ih =>
  rw [cf] at h ⊢
  by_cases e:t.1=i
  · rw [if_pos e]; exact ⟨t,List.mem_cons_self ..,e,rfl⟩
  · rw [if_neg e] at h ⊢
    obtain ⟨x,hx,h1,h2⟩:=ih h
    exact ⟨x,List.mem_cons_of_mem _ hx,h1,h2⟩
theorem Ud5 {cols:Int} {l:List SpT} (h:okN cols l) (i:Nat):fits (cf l i):=by
 by_cases h0:cf l i=0
 · rw [h0]; exact UbV
 · obtain ⟨t,ht,_,e⟩:=UEH h0
   rw [←e]; exact (h t ht).2.1
theorem Uzl {cols:Int}:∀ {a b:List SpT} {last:Int},asc last a→asc last b→okN cols a→okN cols b→(∀ i,cf a i=cf b i)→a=b
 | [],[],_,_,_,_,_,_=>rfl
 | [],t::b,last,_,hb,_,nb,h=>by
  have:=h t.1
  rw [Ugk hb t (List.mem_cons_self ..)] at this
  exact absurd this.symm (nb t (List.mem_cons_self ..)).1
 | t::a,[],last,ha,_,na,_,h=>by
  have:=h t.1
  rw [Ugk ha t (List.mem_cons_self ..)] at this
  exact absurd this (na t (List.mem_cons_self ..)).1
 | t::a,u::b,last,ha,hb,na,nb,h=>by
  have h1:=h t.1
  have h2:=h u.1
  rw [Ugk ha t (List.mem_cons_self ..)] at h1
  rw [Ugk hb u (List.mem_cons_self ..)] at h2
  have e:t.1=u.1:=by
   apply Classical.byContradiction
   intro hne
   rcases Nat.lt_or_gt_of_ne hne with q | q
   · rw [cf,if_neg (by omega),Ua1 hb.2 (by omega)] at h1
     exact (na t (List.mem_cons_self ..)).1 h1
   · rw [cf,if_neg (by omega),Ua1 ha.2 (by omega)] at h2
     exact (nb u (List.mem_cons_self ..)).1 h2.symm
  rw [cf,if_pos e.symm] at h1
  have et:t=u:=Prod.ext e h1
  subst et
  congr 1
  refine Uzl ha.2 hb.2 (fun x hx=>na x (List.mem_cons_of_mem _ hx)) (fun x hx=>nb x (List.mem_cons_of_mem _ hx)) fun i=>?_
  have:=h i
  simp only [cf] at this
  by_cases hi:t.1=i
  · subst hi; rw [Ua1 ha.2 (by omega),Ua1 hb.2 (by omega)]
  · rwa [if_neg hi,if_neg hi] at this
open Classical in
noncomputable def scO (q:Rat) (l:List SpT):Option (List SpT):=if ∀ t∈l,fits (t.2 * q) then some (l.map fun t=>(t.1,t.2 * q)) else none
theorem UpC (f:SpT→Rat):∀ {l:List SpT} {a:Int},asc a l→asc a (l.map fun t=>(t.1,f t))
 | [],_,_=>trivial
 | t::l,a,h=>⟨h.1,UpC f h.2⟩
theorem UEI (q:Rat):∀ (l:List SpT) (i:Nat),cf (l.map fun t=>(t.1,t.2 * q)) i=cf l i * q
 | [],i=>by simp [cf,Rat.zero_mul]
 | t::l,i=>by
  rw [List.map_cons,cf,cf,UEI q l i]
  split <;> rfl
theorem UMh {cols:Int} {q:Rat} (h0:q≠0) {l r:List SpT} (h:okS cols l) (he:scO q l=some r):okS cols r∧∀ i,cf r i=cf l i * q:=by
 unfold scO at he
 split at he
 · rename_i hf
   simp only [Option.some.injEq] at he
   subst he
   refine ⟨⟨UpC _ h.1,fun t ht=>?_⟩,UEI q l⟩
   obtain ⟨x,hx,rfl⟩:=List.mem_map.1 ht
   obtain ⟨e1,e2,e3⟩:=h.2 x hx
   refine ⟨fun e=>?_,hf x hx,e3⟩
   rcases Rat.mul_eq_zero.1 e with q1 | q1
   · exact e1 q1
   · exact h0 q1
 · cases he
theorem UDw {q:Rat} {l:List SpT} {a:Int} (ha:asc a l):scO q l=none↔∃ i,¬ fits (cf l i * q):=by
 unfold scO
 split
 · rename_i hf
   refine ⟨fun h=>(by cases h),fun ⟨i,hi⟩=>?_⟩
   by_cases h0:cf l i=0
   · rw [h0,Rat.zero_mul] at hi; exact absurd UbV hi
   · obtain ⟨t,ht,_,e⟩:=UEH h0
     rw [←e] at hi; exact absurd (hf t ht) hi
 · rename_i hf
   refine ⟨fun _=>?_,fun _=>rfl⟩
   apply Classical.byContradiction
   intro hn
   apply hf
   intro t ht
   apply Classical.byContradiction
   intro hq
   exact hn ⟨t.1,by rw [Ugk ha t ht]; exact hq⟩
open Classical in
noncomputable def Ufp:List SpT→List SpT→Option (List SpT)
 | [],b=>some b
 | a::xs,[]=>some (a::xs)
 | a::xs,b::ys=>if a.1<b.1 then (Ufp xs (b::ys)).map (a::·) else if b.1<a.1 then (Ufp (a::xs) ys).map (b::·)
  else if fits (a.2 + b.2) then (Ufp xs ys).map (fun r=>if a.2 + b.2=0 then r else (a.1,a.2 + b.2)::r) else none
termination_by a b=>a.length + b.length
theorem UtR (a:List SpT):Ufp a []=some a:=by cases a <;> simp [Ufp]
theorem Uok {cols:Int}:∀ (k:Nat) {a b:List SpT} {last:Int},a.length + b.length≤k→asc last a→asc last b→okN cols a→okN cols b→∀ {r:List SpT},Ufp a b=some r→asc last r∧okN cols r∧∀ i,cf r i=cf a i + cf b i
 | k,[],b,last,hk,ha,hb,na,nb,r,h=>by
  simp only [Ufp,Option.some.injEq] at h
  subst h
  exact ⟨hb,nb,fun i=>by simp [cf,Rat.zero_add]⟩
 | k,a::xs,[],last,hk,ha,hb,na,nb,r,h=>by
  simp only [Ufp,Option.some.injEq] at h
  subst h
  exact ⟨ha,na,fun i=>by simp [cf,Rat.add_zero]⟩
 | k + 1,a::xs,b::ys,last,hk,ha,hb,na,nb,r,h=>by
  have na':okN cols xs:=fun x hx=>na x (List.mem_cons_of_mem _ hx)
  have nb':okN cols ys:=fun x hx=>nb x (List.mem_cons_of_mem _ hx)
  rw [Ufp] at h
  simp only [List.length_cons] at hk
  by_cases h1:a.1<b.1
  · rw [if_pos h1] at h
    obtain ⟨r',e,rfl⟩:=Option.map_eq_some_iff.1 h
    have hb2:asc (a.1:Int) (b::ys):=⟨by omega,hb.2⟩
    obtain ⟨p1,p2,p3⟩:=Uok k (by simp only [List.length_cons]; omega) ha.2 hb2 na' nb e
    refine ⟨⟨ha.1,p1⟩,fun x hx=>?_,fun i=>?_⟩
    · rcases List.mem_cons.1 hx with rfl | hx
      · exact na _ (List.mem_cons_self ..)
      · exact p2 x hx
    · rw [Ubj a r' i,Ubj a xs i,p3 i]
      by_cases hi:a.1=i
      · rw [if_pos hi,if_pos hi,Ua1 hb2 (by omega),Rat.add_zero]
      · rw [if_neg hi,if_neg hi]
  · rw [if_neg h1] at h
    by_cases h2:b.1<a.1
    · rw [if_pos h2] at h
      obtain ⟨r',e,rfl⟩:=Option.map_eq_some_iff.1 h
      have ha2:asc (b.1:Int) (a::xs):=⟨by omega,ha.2⟩
      obtain ⟨p1,p2,p3⟩:=Uok k (by simp only [List.length_cons]; omega) ha2 hb.2 na nb' e
      refine ⟨⟨hb.1,p1⟩,fun x hx=>?_,fun i=>?_⟩
      · rcases List.mem_cons.1 hx with rfl | hx
        · exact nb _ (List.mem_cons_self ..)
        · exact p2 x hx
      · rw [Ubj b r' i,Ubj b ys i,p3 i]
        by_cases hi:b.1=i
        · rw [if_pos hi,if_pos hi,Ua1 ha2 (by omega),Rat.zero_add]
        · rw [if_neg hi,if_neg hi]
    · rw [if_neg h2] at h
      have e0:a.1=b.1:=by omega
      by_cases hf:fits (a.2 + b.2)
      · rw [if_pos hf] at h
        obtain ⟨r',e,rfl⟩:=Option.map_eq_some_iff.1 h
        obtain ⟨p1,p2,p3⟩:=Uok k (by omega) ha.2 (by rw [e0]; exact hb.2) na' nb' e
        by_cases hz:a.2 + b.2=0
        · rw [if_pos hz]
          refine ⟨Uvz p1 (by have:=ha.1; omega),p2,fun i=>?_⟩
          rw [p3 i,cf,cf]
          by_cases hi:a.1=i
          · rw [if_pos hi,if_pos (by omega),hz,Ua1 ha.2 (by omega),Ua1 hb.2 (by omega),Rat.add_zero]
          · rw [if_neg hi,if_neg (by omega)]
        · rw [if_neg hz]
          refine ⟨⟨ha.1,p1⟩,fun x hx=>?_,fun i=>?_⟩
          · rcases List.mem_cons.1 hx with rfl | hx
            · exact ⟨hz,hf,(na a (List.mem_cons_self ..)).2.2⟩
            · exact p2 x hx
          · rw [Ubj (a.1,a.2 + b.2) r' i,Ubj a xs i,Ubj b ys i,p3 i]
            by_cases hi:a.1=i
            · rw [if_pos hi,if_pos hi,if_pos (by omega)]
            · rw [if_neg hi,if_neg hi,if_neg (by omega)]
      · rw [if_neg hf] at h; cases h
theorem UfA {cols:Int}:∀ (k:Nat) {a b:List SpT} {last:Int},a.length + b.length≤k→asc last a→asc last b→okN cols a→okN cols b→(Ufp a b=none↔∃ i,¬ fits (cf a i + cf b i))
 | k,[],b,last,hk,ha,hb,na,nb=>by
  simp only [Ufp,reduceCtorEq,false_iff]
  rintro ⟨i,hi⟩
  rw [cf,Rat.zero_add] at hi
  exact hi (Ud5 nb i)
 | k,a::xs,[],last,hk,ha,hb,na,nb=>by
  simp only [Ufp,reduceCtorEq,false_iff]
  rintro ⟨i,hi⟩
  rw [show cf [] i=0 from rfl,Rat.add_zero] at hi
  exact hi (Ud5 na i)
 | k + 1,a::xs,b::ys,last,hk,ha,hb,na,nb=>by
  have na':okN cols xs:=fun x hx=>na x (List.mem_cons_of_mem _ hx)
  have nb':okN cols ys:=fun x hx=>nb x (List.mem_cons_of_mem _ hx)
  have fa:=(na a (List.mem_cons_self ..)).2.1
  have fb:=(nb b (List.mem_cons_self ..)).2.1
  rw [Ufp]
  simp only [List.length_cons] at hk
  by_cases h1:a.1<b.1
  · have hb2:asc (a.1:Int) (b::ys):=⟨by omega,hb.2⟩
    rw [if_pos h1,Option.map_eq_none_iff,UfA k (by simp only [List.length_cons]; omega) ha.2 hb2 na' nb]
    refine exists_congr fun i=>?_
    rw [show cf (a::xs) i=if a.1=i then a.2 else cf xs i from rfl]
    by_cases hi:a.1=i
    · rw [if_pos hi,Ua1 ha.2 (by omega),Ua1 hb2 (by omega),Rat.add_zero,Rat.add_zero]
      exact ⟨fun h=>absurd UbV h,fun h=>absurd fa h⟩
    · rw [if_neg hi]
  · rw [if_neg h1]
    by_cases h2:b.1<a.1
    · have ha2:asc (b.1:Int) (a::xs):=⟨by omega,ha.2⟩
      rw [if_pos h2,Option.map_eq_none_iff,UfA k (by simp only [List.length_cons]; omega) ha2 hb.2 na nb']
      refine exists_congr fun i=>?_
      rw [show cf (b::ys) i=if b.1=i then b.2 else cf ys i from rfl]
      by_cases hi:b.1=i
      · rw [if_pos hi,Ua1 hb.2 (by omega),Ua1 ha2 (by omega),Rat.add_zero,Rat.zero_add]
        exact ⟨fun h=>absurd UbV h,fun h=>absurd fb h⟩
      · rw [if_neg hi]
    · have e0:a.1=b.1:=by omega
      rw [if_neg h2]
      have at_:∀ i,a.1=i→cf (a::xs) i + cf (b::ys) i=a.2 + b.2:=fun i hi=>by rw [cf,cf,if_pos hi,if_pos (by omega)]
      have off:∀ i,a.1≠i→cf (a::xs) i + cf (b::ys) i=cf xs i + cf ys i:=fun i hi=>by rw [cf,cf,if_neg hi,if_neg (by omega)]
      by_cases hf:fits (a.2 + b.2)
      · rw [if_pos hf,Option.map_eq_none_iff,UfA k (by omega) ha.2 (by rw [e0]; exact hb.2) na' nb']
        refine exists_congr fun i=>?_
        by_cases hi:a.1=i
        · rw [at_ i hi,Ua1 ha.2 (by omega),Ua1 hb.2 (by omega),Rat.add_zero]
          exact ⟨fun h=>absurd UbV h,fun h=>absurd hf h⟩
        · rw [off i hi]
      · rw [if_neg hf]
        exact ⟨fun _=>⟨a.1,by rw [at_ _ rfl]; exact hf⟩,fun _=>rfl⟩
abbrev SpR:=List SpT × Rat
open Classical in
noncomputable def tmO (q:Rat) (r:SpR):Option SpR:=if fits (r.2 * q) then (scO q r.1).map fun x=>(x,r.2 * q) else none
open Classical in
noncomputable def plO (a b:SpR):Option SpR:=if fits (a.2 + b.2) then (Ufp a.1 b.1).map fun x=>(x,a.2 + b.2) else none
open Classical in
noncomputable def Ufs (q:Rat) (r s:SpR):Option SpR:=if q=0 then some s else (tmO q r).bind fun x=>plO s x
noncomputable def Ub1:List (SpR × Rat)→SpR→Option SpR
 | [],s=>some s
 | x::t,s=>(Ufs x.2 x.1 s).bind (Ub1 t)
def okF (cols:Int) (r:SpR):Prop:=okS cols r.1∧fits r.2
abbrev DnR:=List Rat × Rat
def same (s:SpR) (d:DnR):Prop:=s.2=d.2∧∀ i,d.1.getD i 0=cf s.1 i
def UaJ (d:DnR):Prop:=(∀ x∈d.1,fits x)∧fits d.2
def scD (q:Rat) (d:DnR):DnR:=(d.1.map (· * q),d.2 * q)
def adD (a b:DnR):DnR:=((List.range (max a.1.length b.1.length)).map fun i=>a.1.getD i 0 + b.1.getD i 0,a.2 + b.2)
open Classical in
noncomputable def Ubg (q:Rat) (r s:DnR):Option DnR:=if q=0 then some s else if UaJ (scD q r) then (if UaJ (adD s (scD q r)) then some (adD s (scD q r)) else none) else none
noncomputable def Ufn:List (DnR × Rat)→DnR→Option DnR
 | [],s=>some s
 | x::t,s=>(Ubg x.2 x.1 s).bind (Ufn t)
theorem UaF {d:DnR}:UaJ d↔(∀ i,fits (d.1.getD i 0))∧fits d.2:=by
 unfold UaJ
 refine and_congr_left fun _=>⟨fun h i=>?_,fun h x hx=>?_⟩
 · by_cases hi:i<d.1.length
   · rw [List.getD_eq_getElem?_getD,List.getElem?_eq_getElem hi]; exact h _ (List.getElem_mem hi)
   · rw [List.getD_eq_getElem?_getD,List.getElem?_eq_none (by omega)]; exact UbV
 · obtain ⟨i,hi,rfl⟩:=List.getElem_of_mem hx
   have:=h i
   rwa [List.getD_eq_getElem?_getD,List.getElem?_eq_getElem hi] at this
theorem Uf5 (q:Rat) (d:DnR) (i:Nat):(scD q d).1.getD i 0=d.1.getD i 0 * q:=by
 show (d.1.map (· * q)).getD i 0=_
 simp only [List.getD_eq_getElem?_getD,List.getElem?_map]
 cases d.1[i]? <;> simp [Rat.zero_mul]
theorem UhS (a b:DnR) (i:Nat):(adD a b).1.getD i 0=a.1.getD i 0 + b.1.getD i 0:=by
 show ((List.range (max a.1.length b.1.length)).map _).getD i 0=_
 by_cases hi:i<max a.1.length b.1.length
 · rw [List.getD_eq_getElem?_getD,List.getElem?_map,List.getElem?_range hi]; rfl
 · rw [List.getD_eq_getElem?_getD,List.getElem?_eq_none (by simp; omega)]
   simp only [List.getD_eq_getElem?_getD]
   rw [List.getElem?_eq_none (by omega),List.getElem?_eq_none (by omega)]
   show (0:Rat)=0 + 0
   rw [Rat.add_zero]
theorem UwX {cols:Int} {q:Rat} (h0:q≠0) {r x:SpR} (h:okF cols r) (he:tmO q r=some x):okF cols x∧x.2=r.2 * q∧∀ i,cf x.1 i=cf r.1 i * q:=by
 unfold tmO at he
 split at he
 · rename_i hf
   obtain ⟨y,e,rfl⟩:=Option.map_eq_some_iff.1 he
   obtain ⟨e1,e2⟩:=UMh h0 h.1 e
   exact ⟨⟨e1,hf⟩,rfl,e2⟩
 · cases he
theorem UCp {cols:Int} {a b x:SpR} (ha:okF cols a) (hb:okF cols b) (he:plO a b=some x):okF cols x∧x.2=a.2 + b.2∧∀ i,cf x.1 i=cf a.1 i + cf b.1 i:=by
 unfold plO at he
 split at he
 · rename_i hf
   obtain ⟨y,e,rfl⟩:=Option.map_eq_some_iff.1 he
   obtain ⟨e1,e2,e3⟩:=Uok _ (Nat.le_refl _) ha.1.1 hb.1.1 ha.1.2 hb.1.2 e
   exact ⟨⟨⟨e1,e2⟩,hf⟩,rfl,e3⟩
 · cases he
theorem Uvm {cols:Int} {q:Rat} {r:SpR} (h:okF cols r):tmO q r=none↔¬ (fits (r.2 * q)∧∀ i,fits (cf r.1 i * q)):=by
 unfold tmO
 split
 · rename_i hf
   rw [Option.map_eq_none_iff,UDw h.1.1]
   exact ⟨fun ⟨i,hi⟩ q=>hi (q.2 i),fun q=>Classical.byContradiction fun hn=>q ⟨hf,fun i=>Classical.byContradiction fun hi=>hn ⟨i,hi⟩⟩⟩
 · rename_i hf
   exact ⟨fun _ q=>hf q.1,fun _=>rfl⟩
theorem UuF {cols:Int} {a b:SpR} (ha:okF cols a) (hb:okF cols b):plO a b=none↔¬ (fits (a.2 + b.2)∧∀ i,fits (cf a.1 i + cf b.1 i)):=by
 unfold plO
 split
 · rename_i hf
   rw [Option.map_eq_none_iff,UfA _ (Nat.le_refl _) ha.1.1 hb.1.1 ha.1.2 hb.1.2]
   exact ⟨fun ⟨i,hi⟩ q=>hi (q.2 i),fun q=>Classical.byContradiction fun hn=>q ⟨hf,fun i=>Classical.byContradiction fun hi=>hn ⟨i,hi⟩⟩⟩
 · rename_i hf
   exact ⟨fun _ q=>hf q.1,fun _=>rfl⟩
theorem UuZ {cols:Int} {q:Rat} {r s:SpR} {rd sd:DnR} (hr:okF cols r) (hs:okF cols s) (er:same r rd) (es:same s sd) :
 (Ufs q r s=none∧Ubg q rd sd=none)∨∃ x xd,Ufs q r s=some x∧Ubg q rd sd=some xd∧okF cols x∧same x xd:=by
 unfold Ufs Ubg
 by_cases h0:q=0
 · rw [if_pos h0,if_pos h0]; exact .inr ⟨s,sd,rfl,rfl,hs,es⟩
 rw [if_neg h0,if_neg h0]
 have k1:UaJ (scD q rd)↔(fits (r.2 * q)∧∀ i,fits (cf r.1 i * q)):=by
  rw [UaF,and_comm,show (scD q rd).2=rd.2 * q from rfl,←er.1]
  refine and_congr_right fun _=>forall_congr' fun i=>?_
  rw [Uf5,er.2 i]
 cases h1:tmO q r with
 | none =>
  have:=(Uvm hr).1 h1
  rw [if_neg (fun q=>this (k1.1 q))]
  exact .inl ⟨rfl,rfl⟩
 | some x =>
  have hx:UaJ (scD q rd):=Classical.byContradiction fun hn=>by
   have:=(Uvm hr).2 (fun q=>hn (k1.2 q))
   rw [h1] at this; cases this
  rw [if_pos hx]
  obtain ⟨e1,e2,e3⟩:=UwX h0 hr h1
  have k2:UaJ (adD sd (scD q rd))↔(fits (s.2 + x.2)∧∀ i,fits (cf s.1 i + cf x.1 i)):=by
   rw [UaF,and_comm,show (adD sd (scD q rd)).2=sd.2 + rd.2 * q from rfl,←es.1,←er.1,e2]
   refine and_congr_right fun _=>forall_congr' fun i=>?_
   rw [UhS,Uf5,er.2 i,es.2 i,e3 i]
  rw [Option.bind_some]
  cases h2:plO s x with
  | none =>
   have:=(UuF hs e1).1 h2
   rw [if_neg (fun q=>this (k2.1 q))]
   exact .inl ⟨rfl,rfl⟩
  | some y =>
   have hy:UaJ (adD sd (scD q rd)):=Classical.byContradiction fun hn=>by
    have:=(UuF hs e1).2 (fun q=>hn (k2.2 q))
    rw [h2] at this; cases this
   rw [if_pos hy]
   obtain ⟨g1,g2,g3⟩:=UCp hs e1 h2
   refine .inr ⟨y,_,rfl,rfl,g1,?_,fun i=>?_⟩
   · rw [g2,e2,es.1,er.1]; rfl
   · rw [UhS,Uf5,er.2 i,es.2 i,g3 i,e3 i]
theorem Uj4 {cols:Int}:∀ {l:List (SpR × Rat)} {ld:List (DnR × Rat)} {s:SpR} {sd:DnR},l.length=ld.length→(∀ i (h:i<l.length) (h':i<ld.length),okF cols l[i].1∧same l[i].1 ld[i].1∧l[i].2=ld[i].2) →
 okF cols s→same s sd→(Ub1 l s=none∧Ufn ld sd=none)∨∃ x xd,Ub1 l s=some x∧Ufn ld sd=some xd∧okF cols x∧same x xd
 | [],[],s,sd,_,_,hs,es=>.inr ⟨s,sd,rfl,rfl,hs,es⟩
 | [],_::_,_,_,hl,_,_,_=>by simp at hl
 | _::_,[],_,_,hl,_,_,_=>by simp at hl
 | x::l,y::ld,s,sd,hl,h,hs,es=>by
  obtain ⟨a1,a2,a3⟩:=h 0 (by simp) (by simp)
  simp only [List.getElem_cons_zero] at a1 a2 a3
  rw [Ub1,Ufn,←a3]
  rcases UuZ (q:=x.2) a1 hs a2 es with ⟨e1,e2⟩ | ⟨z,zd,e1,e2,e3,e4⟩
  · rw [e1,e2]; exact .inl ⟨rfl,rfl⟩
  · rw [e1,e2,Option.bind_some,Option.bind_some]
    refine Uj4 (by simpa using hl) (fun i h1 h2=>?_) e3 e4
    have:=h (i + 1) (by simp; omega) (by simp; omega)
    simpa using this
theorem UAV {cols:Int} {l:List (SpR × Rat)} {s x:SpR} (h:∀ y∈l,okF cols y.1) (hs:okF cols s) (he:Ub1 l s=some x):okF cols x:=by
 induction l generalizing s with
 | nil=>simp only [Ub1,Option.some.injEq] at he; rwa [←he]
 | cons y l ih =>
  rw [Ub1] at he
  obtain ⟨z,e1,e2⟩:=Option.bind_eq_some_iff.1 he
  refine ih (fun w hw=>h w (List.mem_cons_of_mem _ hw)) ?_ e2
  unfold Ufs at e1
  by_cases h0:y.2=0
  · rw [if_pos h0,Option.some.injEq] at e1; rwa [←e1]
  · rw [if_neg h0] at e1
    obtain ⟨w,f1,f2⟩:=Option.bind_eq_some_iff.1 e1
    exact (UCp hs (UwX h0 (h y (List.mem_cons_self ..)) f1).1 f2).1
def Uan {α σ:Type} (step:σ→α→Option σ):σ→List α→Option σ
 | s,[]=>some s
 | s,a::l=>(step s a).bind fun s'=>Uan step s' l
def UDJ {σ:Type} (kerr:Option R) (kend:σ→Option R):Option σ→Option R
 | none=>kerr
 | some s=>kend s
theorem UbL {α σ:Type} {l:List α} {step:σ→α→Option σ} {kerr:Option R} {kend:σ→Option R} {Inv:Nat→σ→Prop} (L:Nat→σ→Nat→Option R)
 (hend:∀ m s,Inv l.length s→L (m + 1) s l.length=kend s)
 (hinv:∀ s s' i (h:i<l.length),Inv i s→step s l[i]=some s'→Inv (i + 1) s')
 (hstep:∀ m s i (h:i<l.length),Inv i s→L (m + 1) s i=UDJ kerr (fun s'=>L m s' (i + 1)) (step s l[i])) :
 ∀ (d m i:Nat) (s:σ),d + i=l.length→d<m→Inv i s→L m s i=UDJ kerr kend (Uan step s (l.drop i))
 | 0,m + 1,i,s,hd,hm,hs=>by
  have:i=l.length:=by omega
  subst this
  rw [hend m s hs,List.drop_length]; rfl
 | d + 1,m + 1,i,s,hd,hm,hs=>by
  have hi:i<l.length:=by omega
  rw [hstep m s i hi hs,Uaz hi]
  show _=UDJ kerr kend ((step s l[i]).bind fun s'=>Uan step s' (l.drop (i + 1)))
  cases h:step s l[i] with
  | none=>rfl
  | some s'=>exact UbL L hend hinv hstep d m (i + 1) s' (by omega) (by omega) (hinv s s' i hi hs h)
theorem Udv {α σ:Type} {step:σ→α→Option σ} {P:α→Prop} {Inv:σ→Prop} (hstep:∀ s s' a,P a→Inv s→step s a=some s'→Inv s'):∀ {l:List α} {s s':σ},(∀ a∈l,P a)→Inv s→Uan step s l=some s'→Inv s'
 | [],s,s',_,hs,h=>by simp only [Uan,Option.some.injEq] at h; rwa [←h]
 | a::l,s,s',hl,hs,h=>by
  obtain ⟨x,e1,e2⟩:=Option.bind_eq_some_iff.1 h
  exact Udv hstep (fun y hy=>hl y (List.mem_cons_of_mem _ hy)) (hstep s x a (hl a (List.mem_cons_self ..)) hs e1) e2
open Classical in
noncomputable def rq (s:List UInt8):Rat:=if h:isQ s then Classical.choose h else 0
theorem UjX {s:List UInt8} (h:qb s=true):fits (rq s)∧s=Uae (rq s):=by
 have h':=UIf.1 h
 unfold rq
 rw [dif_pos h']
 exact Classical.choose_spec h'
theorem UuT {q:Rat} (h:fits q):rq (Uae q)=q:=(Uf4 (UjX (Udy h)).2).symm
noncomputable def spL (l:List TermT):List SpT:=l.map fun t=>(t.1.toNat,rq t.2)
noncomputable def spR (r:RowT):SpR:=(spL r.tm,rq r.c)
theorem UIr {cols:Int} {l:List SpT} (h:okN cols l):spL (vt l)=l:=by
 unfold spL vt
 rw [List.map_map]
 conv=>rhs; rw [←List.map_id l]
 refine List.map_congr_left fun t ht=>?_
 simp only [Function.comp,id_eq]
 rw [UuT (h t ht).2.1]
 rfl
theorem Uom {cols:Int} {l:List TermT} (h:okT cols (-1) l=true):okS cols (spL l)∧l=vt (spL l):=by
 obtain ⟨l',e1,e2,e3⟩:=UtX (by omega) h
 subst e1
 rw [UIr e3]
 exact ⟨⟨e2,e3⟩,rfl⟩
theorem Ub4 {cols:Int} {r:RowT} (h:okR cols r=true):okF cols (spR r)∧r.tm=vt (spR r).1∧r.c=Uae (spR r).2:=by
 unfold okR at h
 rw [Bool.and_eq_true] at h
 obtain ⟨e1,e2⟩:=Uom h.1
 obtain ⟨f1,f2⟩:=UjX h.2
 exact ⟨⟨e1,f1⟩,e2,f2⟩
open Classical in
noncomputable def rdT (d:List Rat) (t:SpT):Option (List Rat):=if fits (d.getD t.1 0 + t.2) then some (d.set t.1 (d.getD t.1 0 + t.2)) else none
theorem Uiu (d:List Rat) (k i:Nat) (y:Rat) (h:k<d.length):(d.set k y).getD i 0=if k=i then y else d.getD i 0:=by
 simp only [List.getD_eq_getElem?_getD]
 rw [List.getElem?_set]
 by_cases hi:k=i
 · subst hi; rw [if_pos rfl,if_pos rfl,if_pos h]; rfl
 · rw [if_neg hi,if_neg hi]
theorem UIi {l:List SpT} {d d':List Rat} (h:Uan rdT d l=some d'):d'.length=d.length:=by
 refine Udv (step:=rdT) (P:=fun _=>True) (Inv:=fun x=>x.length=d.length) (fun s s' a _ hs he=>?_) (fun _ _=>trivial) rfl h
 unfold rdT at he
 split at he
 · simp only [Option.some.injEq] at he
   rw [←he,List.length_set,hs]
 · cases he
theorem UIj {cols:Int}:∀ {l:List SpT} {last:Int} {d:List Rat},asc last l→okN cols l→(∀ i:Nat,last<(i:Int)→d.getD i 0=0)→(∀ t∈l,t.1<d.length) →
 ∃ d',Uan rdT d l=some d'∧∀ i,d'.getD i 0=d.getD i 0 + cf l i
 | [],last,d,_,_,_,_=>⟨d,rfl,fun i=>by rw [cf,Rat.add_zero]⟩
 | t::l,last,d,h1,h2,h3,h4=>by
  have ht:=h4 t (List.mem_cons_self ..)
  have hf:=(h2 t (List.mem_cons_self ..)).2.1
  have h0:d.getD t.1 0=0:=h3 t.1 h1.1
  have hg:=fun i=>Uiu d t.1 i (d.getD t.1 0 + t.2) ht
  obtain ⟨d',e1,e2⟩:=UIj (d:=d.set t.1 (d.getD t.1 0 + t.2)) h1.2 (fun x hx=>h2 x (List.mem_cons_of_mem _ hx))
   (fun i hi=>by
     have:=h1.1
     rw [hg,if_neg (by omega),h3 i (by omega)])
   (fun x hx=>by rw [List.length_set]; exact h4 x (List.mem_cons_of_mem _ hx))
  refine ⟨d',?_,fun i=>?_⟩
  · rw [Uan,rdT,if_pos (by rw [h0,Rat.zero_add]; exact hf)]
    exact e1
  · rw [e2 i,hg i,Ubj]
    by_cases hi:t.1=i
    · subst hi
      rw [if_pos rfl,if_pos rfl,Ua1 h1.2 (by omega),Rat.add_zero]
    · rw [if_neg hi,if_neg hi]
noncomputable def wrD:Nat→List Rat→List SpT
 | _,[]=>[]
 | k,x::d=>if x=0 then wrD (k + 1) d else (k,x)::wrD (k + 1) d
theorem UoN:∀ (d:List Rat) (k:Nat) (a:Int),a<(k:Int)→asc a (wrD k d)
 | [],k,a,h=>trivial
 | x::d,k,a,h=>by
  rw [wrD]
  split
  · exact UoN d (k + 1) a (by omega)
  · exact ⟨h,UoN d (k + 1) (k:Int) (by omega)⟩
theorem UIu:∀ (d:List Rat) (k i:Nat),cf (wrD k d) (k + i)=d.getD i 0
 | [],k,i=>rfl
 | x::d,k,0=>by
  rw [wrD]
  split
  · rename_i h0
    rw [Ua1 (UoN d (k + 1) (k:Int) (by omega)) (by omega),←h0]; rfl
  · rw [Ubj,if_pos (by omega)]; rfl
 | x::d,k,i + 1=>by
  have ih:=UIu d (k + 1) i
  rw [show k + 1 + i=k + (i + 1) from by omega] at ih
  rw [wrD]
  split
  · rw [ih]; rfl
  · rw [Ubj,if_neg (by omega),ih]; rfl
theorem UIv {cols:Int}:∀ (d:List Rat) (k:Nat),(∀ x∈d,fits x)→((k + d.length:Nat):Int)≤cols→okN cols (wrD k d)
 | [],k,_,_=>by intro t h; cases h
 | x::d,k,h,hc=>by
  rw [List.length_cons] at hc
  have ih:=UIv d (k + 1) (fun y hy=>h y (List.mem_cons_of_mem _ hy)) (by omega:((k + 1 + d.length:Nat):Int)≤cols)
  rw [wrD]
  split
  · exact ih
  · rename_i h0
    intro t ht
    rcases List.mem_cons.1 ht with rfl | ht
    · exact ⟨h0,h x (List.mem_cons_self ..),by show ((k:Nat):Int)<cols; omega⟩
    · exact ih t ht
theorem UIw:∀ (d:List Rat) (k:Nat),(∀ x∈d,fits x)→okN ((k + d.length:Nat):Int) (wrD k d):=fun d k h=>UIv d k h (Int.le_refl _)
theorem UfB {a b:Int} (h:a≤b) {l:List SpT} (hl:okN a l):okN b l:=fun t ht=>⟨(hl t ht).1,(hl t ht).2.1,by have:=(hl t ht).2.2; omega⟩
theorem UDC {cols:Int} {s:SpR} {d:DnR} (hs:okF cols s) (hd:∀ x∈d.1,fits x) (h:same s d):wrD 0 d.1=s.1:=by
 have h1:=UIw d.1 0 hd
 refine Uzl (cols:=max cols ((0 + d.1.length:Nat):Int)) (last:=-1) (UoN d.1 0 (-1) (by omega)) hs.1.1 (UfB (by omega) h1) (UfB (by omega) hs.1.2) fun i=>?_
 have:=UIu d.1 0 i
 rw [Nat.zero_add] at this
 rw [this,h.2 i]
open Classical in
noncomputable def Upi (s a b:Rat):Option Rat:=if fits (a * b) then (if fits (s + a * b) then some (s + a * b) else none) else none
noncomputable def evS (v:List Rat) (s:Rat) (t:SpT):Option Rat:=Upi s t.2 (v.getD t.1 0)
noncomputable def edS (s:Rat) (x:Rat × Rat):Option Rat:=if x.1=0 then some s else Upi s x.1 x.2
theorem UE1 (v:List Rat):∀ (d:List Rat) (k:Nat) (s:Rat),k + d.length≤v.length→Uan edS s (d.zip (v.drop k))=Uan (evS v) s (wrD k d)
 | [],k,s,h=>by rw [List.zip_nil_left]; rfl
 | x::d,k,s,h=>by
  rw [List.length_cons] at h
  have hk:k<v.length:=by omega
  have ih:=fun s=>UE1 v d (k + 1) s (by omega)
  rw [Uaz hk,List.zip_cons_cons,wrD,Uan,edS]
  split
  · rw [Option.bind_some]; exact ih s
  · rw [Uan]
    show (Upi s x v[k]).bind _=(Upi s x (v.getD k 0)).bind _
    rw [List.getD_eq_getElem?_getD,List.getElem?_eq_getElem hk]
    show (Upi s x v[k]).bind _=(Upi s x v[k]).bind _
    congr 1
    funext s'
    exact ih s'
theorem Udd {s a b x:Rat} (h:Upi s a b=some x):x=s + a * b∧fits x:=by
 unfold Upi at h
 split at h
 · split at h
   · rename_i h2
     simp only [Option.some.injEq] at h
     subst h
     exact ⟨rfl,h2⟩
   · cases h
 · cases h
theorem UkZ (v:List Rat) {l:List SpT} {s x:Rat} (hs:fits s) (h:Uan (evS v) s l=some x):fits x :=
 Udv (step:=evS v) (P:=fun _=>True) (Inv:=fits) (fun s s' a _ _ he=>(Udd he).2) (fun _ _=>trivial) hs h
end Go.Proofs.YtmgfmlhdnadglaaGreatDoor
set_option linter.unusedVariables false
set_option maxRecDepth 100000
namespace Go.Proofs.YtmgfmlhdnadglaaGreatDoor
open Go Th Go.Proofs
noncomputable section
variable {R:Type}
def UzU:Ann:={ loops:=[],cuts:=[],frz:=[],rm:=[.id,.id] }
abbrev UFo (n:Nat):Env:=eC 58 (UGr n) eN
theorem UrX (n:Nat):EnvOK Tryz.prog GI (UFo n):=.cons (.nil) (UI4 n)
def p62 (n:Nat) (x1:Bool) (x2 x3:LP) (x4:Bool) (x5 x6:LP) (k0:Bool→LP→LP→Int→O R):O R :=
 p58 n x2 x5 (fun y7=>p58 n x3 x6 (fun y8=>k0 (!(x1 == x4)) y7 y8 0))
abbrev UQQ (n:Nat):Orc R:=oN
abbrev UP5 (n:Nat):Orc R:=oN
abbrev K62 (R:Type) (n:Nat):=JcH (R:=R) Tryz.prog (UFo n) UzU n (22,[]) (UQQ n) (UP5 n)
theorem USF (n:Nat):Je6 (K62 R n) (JaJ UzU (Jll Tryz.f62)):=pO pN (by kernel_rfl)
abbrev t62:Sl (List SV):=(.c (sP (JlI (.c Jlf (.c sSh (.c sSh .n))))) (.c (sP (JlI (.c Jlf (.c sSh (.c sSh .n))))) .n))
abbrev f62 (n:Nat) (K:List SV→O R):t62.T (O R):=fun x1 x2 x3 x4 x5 x6=>p62 n x1 x2 x3 x4 x5 x6 (fun y1 y2 y3 y4=>K [.p (.agg [.v (.bool y1),.sh y2,.sh y3]),vI y4])
abbrev UOb (n:Nat):FS:=fT [false,false] t62 (f62 n)
theorem URE (n:Nat):FSound Tryz.prog GI 62 (UOb n):=gd UzU n (UrX n) Tryz.func62 (.cons (UrX n) t62 (f62 n) (fun K _ _ _ _ _ _=>(Jkq (c:=Jll Tryz.f62) (by kernel_rfl) (USF n) K).trans (by kernel_rfl)) .nil) (by kernel_rfl)
def UzW:Ann:={ loops:=[],cuts:=[],frz:=[],rm:=[.id] }
abbrev UFq (n:Nat):Env:=eC 104 (UFU n) (eC 103 (UFT n) (eC 58 (UGr n) (eC 57 (UIR n) eN)))
theorem UrZ (n:Nat):EnvOK Tryz.prog GI (UFq n):=.cons (.cons (.cons (.cons (.nil) (ULm n)) (UI4 n)) (UKK n)) (UKL n)
def p64 (n:Nat) (x1:Bool) (x2 x3:LP) (x4:Bool) (x5 x6:LP) (k0:Bool→LP→LP→O R):O R :=
 p58 n x2 x6 (fun y7=>p58 n x5 x3 (fun y8=>p58 n x3 x6 (fun y9=>bif (x1 == x4) then (UJ n y7 y8 (fun y10=>k0 x1 y10 y9)) else (p57 n y7 y8 (fun y11=>bif (decide (y11<0)) then (UG5 n y8 y7 (fun y12=>k0 x4 y12 y9)) else (UG5 n y7 y8 (fun y13=>k0 x1 y13 y9)))))))
abbrev UQS (n:Nat):Orc R:=oN
abbrev UP7 (n:Nat):Orc R:=oN
abbrev K64 (R:Type) (n:Nat):=JcH (R:=R) Tryz.prog (UFq n) UzW n (53,[]) (UQS n) (UP7 n)
theorem USH (n:Nat):Je6 (K64 R n) (JaJ UzW (Jll Tryz.f64)):=pO pN (by kernel_rfl)
abbrev t64:Sl (List SV):=(.c (sP (JlI (.c Jlf (.c sSh (.c sSh .n))))) (.c (sP (JlI (.c Jlf (.c sSh (.c sSh .n))))) .n))
abbrev f64 (n:Nat) (K:List SV→O R):t64.T (O R):=fun x1 x2 x3 x4 x5 x6=>p64 n x1 x2 x3 x4 x5 x6 (fun y1 y2 y3=>K [.p (.agg [.v (.bool y1),.sh y2,.sh y3])])
abbrev UOd (n:Nat):FS:=fT [false,false] t64 (f64 n)
theorem URG (n:Nat):FSound Tryz.prog GI 64 (UOd n):=gd UzW n (UrZ n) Tryz.func64 (.cons (UrZ n) t64 (f64 n) (fun K _ _ _ _ _ _=>(Jkq (c:=Jll Tryz.f64) (by kernel_rfl) (USH n) K).trans (by kernel_rfl)) .nil) (by kernel_rfl)
def UzV:Ann:={ loops:=[],cuts:=[],frz:=[],rm:=[.id,.id] }
abbrev UFp (n:Nat):Env:=eC 64 (UOd n) eN
theorem UrY (n:Nat):EnvOK Tryz.prog GI (UFp n):=.cons (.nil) (URG n)
def p63 (n:Nat) (x1:Bool) (x2 x3:LP) (x4:Bool) (x5 x6:LP) (k0:Bool→LP→LP→Int→O R):O R :=
 p64 n x1 x2 x3 x4 x5 x6 (fun y7 y8 y9=>k0 y7 y8 y9 0)
abbrev UQR (n:Nat):Orc R:=oN
abbrev UP6 (n:Nat):Orc R:=oN
abbrev K63 (R:Type) (n:Nat):=JcH (R:=R) Tryz.prog (UFp n) UzV n (9,[]) (UQR n) (UP6 n)
theorem USG (n:Nat):Je6 (K63 R n) (JaJ UzV (Jll Tryz.f63)):=pO pN (by kernel_rfl)
abbrev t63:Sl (List SV):=(.c (sP (JlI (.c Jlf (.c sSh (.c sSh .n))))) (.c (sP (JlI (.c Jlf (.c sSh (.c sSh .n))))) .n))
abbrev f63 (n:Nat) (K:List SV→O R):t63.T (O R):=fun x1 x2 x3 x4 x5 x6=>p63 n x1 x2 x3 x4 x5 x6 (fun y1 y2 y3 y4=>K [.p (.agg [.v (.bool y1),.sh y2,.sh y3]),vI y4])
abbrev UOc (n:Nat):FS:=fT [false,false] t63 (f63 n)
theorem URF (n:Nat):FSound Tryz.prog GI 63 (UOc n):=gd UzV n (UrY n) Tryz.func63 (.cons (UrY n) t63 (f63 n) (fun K _ _ _ _ _ _=>(Jkq (c:=Jll Tryz.f63) (by kernel_rfl) (USG n) K).trans (by kernel_rfl)) .nil) (by kernel_rfl)
def Uj0:Ann:={ loops:=[],cuts:=[(5,ids [2,8,10],ids [6,7])],frz:=[],rm:=[.id,.id] }
abbrev UBv (n:Nat):Env:=eC 79 (UKa n) (eC 63 (UOc n) (eC 62 (UOb n) (eC 56 (UGq n) eN)))
theorem UkX (n:Nat):EnvOK Tryz.prog GI (UBv n):=.cons (.cons (.cons (.cons (.nil) (UI3 n)) (URE n)) (URF n)) (UO2 n)
def Uuy (n:Nat) (x1:Bool) (x2 x3:LP) (x4:Bool) (x5 x6:LP) (k0:ByteArray→Int→O R):O R :=
 p62 n x1 x2 x3 x4 x5 x6 (fun y7 y8 y9 y10=>bif (y10 != 0) then (k0 ⟨#[]⟩ y10) else (p79 n y7 y8 y9 (fun y11 y12=>k0 y11 y12)))
def p61 (n:Nat) (x1 x2:ByteArray) (k0:ByteArray→Int→O R):O R :=
 p56 n x1 (fun y3 y4 y5 y6=>p56 n x2 (fun y7 y8 y9 y10=>bif (!y6) then (k0 ⟨#[]⟩ 3) else (bif (bif false then true else (!y10)) then (k0 ⟨#[]⟩ 3) else (Uuy n y3 y4 y5 y7 y8 y9 (fun y11 y12=>k0 y11 y12)))))
def Ui6 (n:Nat) (x1:Bool) (x2 x3:LP) (x4:Bool) (x5 x6:LP) (k0:ByteArray→Int→O R):O R :=
 p63 n x1 x2 x3 x4 x5 x6 (fun y7 y8 y9 y10=>bif (y10 != 0) then (k0 ⟨#[]⟩ y10) else (p79 n y7 y8 y9 (fun y11 y12=>k0 y11 y12)))
def Uwl (n:Nat) (x1 x2:ByteArray) (k0:ByteArray→Int→O R):O R :=
 p56 n x1 (fun y3 y4 y5 y6=>p56 n x2 (fun y7 y8 y9 y10=>bif (!y6) then (k0 ⟨#[]⟩ 3) else (bif (bif false then true else (!y10)) then (k0 ⟨#[]⟩ 3) else (Ui6 n y3 y4 y5 y7 y8 y9 (fun y11 y12=>k0 y11 y12)))))
abbrev E61 (n:Nat):Code→Fr→Kc R→O R:=evC Tryz.prog (UBv n) Uj0 n (44,[])
noncomputable def Uqv:Code:=Jj4 (Jll Tryz.f61) [1,1,1,1]
abbrev Umk:Sl (List SV):=(.c (sP (sFn 62)) (.c (sBx 99 (cB (cH (cH .n)))) (.c (sBx 99 (cB (cH (cH .n)))) .n)))
abbrev Uml:Sl (List SV):=(.c (sP (sFn 63)) (.c (sBx 99 (cB (cH (cH .n)))) (.c (sBx 99 (cB (cH (cH .n)))) .n)))
abbrev Uti (n:Nat) (K:Kc R):Umk.T (O R):=fun x1 x2 x3 x4 x5 x6=>Uuy n x1 x2 x3 x4 x5 x6 (fun y1 y2=>xC Uj0 5 K .ret [vS y1,vI y2])
abbrev Utj (n:Nat) (K:Kc R):Uml.T (O R):=fun x1 x2 x3 x4 x5 x6=>Ui6 n x1 x2 x3 x4 x5 x6 (fun y1 y2=>xC Uj0 5 K .ret [vS y1,vI y2])
abbrev UKG (n:Nat):Orc R:=oN
abbrev UJT (n:Nat):Orc R:=fun i vs K=>JfK (Nat.beq i 5) (Jjg (Umk.ap vs (Uti n K)) (Jjg (Uml.ap vs (Utj n K)) (Jki Uj0 5 (E61 n Uqv) vs K))) (oN i vs K)
abbrev K61 (R:Type) (n:Nat):=JcH (R:=R) Tryz.prog (UBv n) Uj0 n (44,[]) (UKG n) (UJT n)
theorem UuD (n:Nat):Je6 (K61 R n) (JaJ Uj0 Uqv):=pO pN (by kernel_rfl)
theorem UHR (n:Nat):K61 R n (true,5,Uqv):=JkW (lo:=UKG n) (cu:=UJT n) (UuD n) Umk (Uti n) (fun K _ _ _ _ _ _=>by show _=_; kernel_rfl) (JkW (lo:=UKG n) (cu:=UJT n) (UuD n) Uml (Utj n) (fun K _ _ _ _ _ _=>by show _=_; kernel_rfl) fun _ _=>rfl)
theorem UPa (n:Nat):Je6 (K61 R n) (JaJ Uj0 (Jll Tryz.f61)):=pO (pC (UHR n) pN) (by kernel_rfl)
abbrev UMS:Sl (List SV):=(cS (cS (.c (sP (sFn 62)) .n)))
abbrev UNH (n:Nat) (K:List SV→O R):UMS.T (O R):=fun x1 x2=>p61 n x1 x2 (fun y1 y2=>K [vS y1,vI y2])
abbrev UMT:Sl (List SV):=(cS (cS (.c (sP (sFn 63)) .n)))
abbrev UNI (n:Nat) (K:List SV→O R):UMT.T (O R):=fun x1 x2=>Uwl n x1 x2 (fun y1 y2=>K [vS y1,vI y2])
abbrev UJ7 (n:Nat):FS:={ om:=[false,false,false],run:=fun args K=>Jjg (UMS.ap args (UNH n K)) (Jjg (UMT.ap args (UNI n K)) none) }
theorem UOY (n:Nat):FSound Tryz.prog GI 61 (UJ7 n):=gd Uj0 n (UkX n) Tryz.func61 (.cons (UkX n) UMS (UNH n) (fun K _ _=>(Jkq (c:=Jll Tryz.f61) (by kernel_rfl) (UPa n) K).trans (by kernel_rfl)) (.cons (UkX n) UMT (UNI n) (fun K _ _=>(Jkq (c:=Jll Tryz.f61) (by kernel_rfl) (UPa n) K).trans (by kernel_rfl)) .nil)) (by kernel_rfl)
def Uz5:Ann:={ loops:=[],cuts:=[],frz:=[],rm:=[.id] }
abbrev UFz (n:Nat):Env:=eN
theorem Usc (n:Nat):EnvOK Tryz.prog GI (UFz n):=.nil
def p78 (n:Nat) (x1:Bool) (x2 x3:LP) (k0:Bool→LP→LP→O R):O R :=
 bif (!x1) then (k0 (bif true then (decide (((x2).length:Int)>0)) else false) x2 x3) else (k0 false x2 x3)
abbrev UQ1 (n:Nat):Orc R:=oN
abbrev UQf (n:Nat):Orc R:=oN
abbrev K78 (R:Type) (n:Nat):=JcH (R:=R) Tryz.prog (UFz n) Uz5 n (14,[]) (UQ1 n) (UQf n)
theorem USV (n:Nat):Je6 (K78 R n) (JaJ Uz5 (Jll Tryz.f78)):=pO pN (by kernel_rfl)
abbrev t78:Sl (List SV):=(.c (sP (JlI (.c Jlf (.c sSh (.c sSh .n))))) .n)
abbrev f78 (n:Nat) (K:List SV→O R):t78.T (O R):=fun x1 x2 x3=>p78 n x1 x2 x3 (fun y1 y2 y3=>K [.p (.agg [.v (.bool y1),.sh y2,.sh y3])])
abbrev UOj (n:Nat):FS:=fT [false] t78 (f78 n)
theorem URM (n:Nat):FSound Tryz.prog GI 78 (UOj n):=gd Uz5 n (Usc n) Tryz.func78 (.cons (Usc n) t78 (f78 n) (fun K _ _ _=>(Jkq (c:=Jll Tryz.f78) (by kernel_rfl) (USV n) K).trans (by kernel_rfl)) .nil) (by kernel_rfl)
def UzD:Ann:={ loops:=[],cuts:=[],frz:=[],rm:=[.id,.id] }
abbrev UE8 (n:Nat):Env:=eC 61 (UJ7 n) (eC 60 (UJ6 n) (eC 54 (UIQ n) eN))
theorem Uro (n:Nat):EnvOK Tryz.prog GI (UE8 n):=.cons (.cons (.cons (.nil) (ULl n)) (UOX n)) (UOY n)
def p22 (n:Nat) (x1 x2:ByteArray) (k0:ByteArray→Int→O R):O R :=
 p54 n x1 x2 (fun y3 y4 y5=>bif y5 then (bif (JkT (IntKind.i64.wrap (y3 + y4))) then (k0 (JiB (IntKind.i64.wrap (y3 + y4))) 0) else none) else (Uwl n x1 x2 (fun y6 y7=>k0 y6 y7)))
abbrev UQz (n:Nat):Orc R:=oN
abbrev UPO (n:Nat):Orc R:=oN
abbrev K22 (R:Type) (n:Nat):=JcH (R:=R) Tryz.prog (UE8 n) UzD n (26,[]) (UQz n) (UPO n)
theorem UR7 (n:Nat):Je6 (K22 R n) (JaJ UzD (Jll Tryz.f22)):=pO pN (by kernel_rfl)
abbrev t22:Sl (List SV):=(cS (cS .n))
abbrev f22 (n:Nat) (K:List SV→O R):t22.T (O R):=fun x1 x2=>p22 n x1 x2 (fun y1 y2=>K [vS y1,vI y2])
abbrev UJ0 (n:Nat):FS:=fT [false,false] t22 (f22 n)
theorem UOR (n:Nat):FSound Tryz.prog GI 22 (UJ0 n):=gd UzD n (Uro n) Tryz.func22 (.cons (Uro n) t22 (f22 n) (fun K _ _=>(Jkq (c:=Jll Tryz.f22) (by kernel_rfl) (UR7 n) K).trans (by kernel_rfl)) .nil) (by kernel_rfl)
def UzC:Ann:={ loops:=[],cuts:=[],frz:=[],rm:=[.id,.id] }
abbrev UE7 (n:Nat):Env:=eC 61 (UJ7 n) (eC 60 (UJ6 n) (eC 54 (UIQ n) eN))
theorem Urn (n:Nat):EnvOK Tryz.prog GI (UE7 n):=.cons (.cons (.cons (.nil) (ULl n)) (UOX n)) (UOY n)
def p21 (n:Nat) (x1 x2:ByteArray) (k0:ByteArray→Int→O R):O R :=
 p54 n x1 x2 (fun y3 y4 y5=>bif y5 then (bif (JkT (IntKind.i64.wrap (y3 * y4))) then (k0 (JiB (IntKind.i64.wrap (y3 * y4))) 0) else none) else (p61 n x1 x2 (fun y6 y7=>k0 y6 y7)))
abbrev UQy (n:Nat):Orc R:=oN
abbrev UPN (n:Nat):Orc R:=oN
abbrev K21 (R:Type) (n:Nat):=JcH (R:=R) Tryz.prog (UE7 n) UzC n (26,[]) (UQy n) (UPN n)
theorem UR6 (n:Nat):Je6 (K21 R n) (JaJ UzC (Jll Tryz.f21)):=pO pN (by kernel_rfl)
abbrev t21:Sl (List SV):=(cS (cS .n))
abbrev f21 (n:Nat) (K:List SV→O R):t21.T (O R):=fun x1 x2=>p21 n x1 x2 (fun y1 y2=>K [vS y1,vI y2])
abbrev UJZ (n:Nat):FS:=fT [false,false] t21 (f21 n)
theorem UOQ (n:Nat):FSound Tryz.prog GI 21 (UJZ n):=gd UzC n (Urn n) Tryz.func21 (.cons (Urn n) t21 (f21 n) (fun K _ _=>(Jkq (c:=Jll Tryz.f21) (by kernel_rfl) (UR6 n) K).trans (by kernel_rfl)) .nil) (by kernel_rfl)
def UzH:Ann:={ loops:=[],cuts:=[],frz:=[],rm:=[.id] }
abbrev UFb (n:Nat):Env:=eC 79 (UKa n) (eC 78 (UOj n) (eC 56 (UGq n) eN))
theorem UrB (n:Nat):EnvOK Tryz.prog GI (UFb n):=.cons (.cons (.cons (.nil) (UI3 n)) (URM n)) (UO2 n)
def p37 (n:Nat) (x1:ByteArray) (k0:ByteArray→O R):O R :=
 p56 n x1 (fun y2 y3 y4 y5=>bif (!y5) then (k0 ⟨#[]⟩) else (p78 n y2 y3 y4 (fun y6 y7 y8=>p79 n y6 y7 y8 (fun y9 y10=>k0 y9))))
abbrev UQD (n:Nat):Orc R:=oN
abbrev UPS (n:Nat):Orc R:=oN
abbrev K37 (R:Type) (n:Nat):=JcH (R:=R) Tryz.prog (UFb n) UzH n (21,[]) (UQD n) (UPS n)
theorem USj (n:Nat):Je6 (K37 R n) (JaJ UzH (Jll Tryz.f37)):=pO pN (by kernel_rfl)
abbrev t37:Sl (List SV):=(cS .n)
abbrev f37 (n:Nat) (K:List SV→O R):t37.T (O R):=fun x1=>p37 n x1 (fun y1=>K [vS y1])
abbrev UN0 (n:Nat):FS:=fT [false] t37 (f37 n)
theorem URs (n:Nat):FSound Tryz.prog GI 37 (UN0 n):=gd UzH n (UrB n) Tryz.func37 (.cons (UrB n) t37 (f37 n) (fun K _=>(Jkq (c:=Jll Tryz.f37) (by kernel_rfl) (USj n) K).trans (by kernel_rfl)) .nil) (by kernel_rfl)
end
end Go.Proofs.YtmgfmlhdnadglaaGreatDoor
set_option linter.unusedVariables false
set_option linter.unusedSimpArgs false
namespace Go.Proofs.YtmgfmlhdnadglaaGreatDoor
open Go Th Go.Proofs
variable {R:Type}
def Ukt (q:Rat) (k0:ByteArray→Int→Option R):Option R:=if fits q then k0 (bs (Uae q)) 0 else k0 (bs []) 5
theorem UgK {a b i j:Nat} (ha:(toL 1000000000 a).length≤i) (hb:(toL 1000000000 b).length≤j):(toL 1000000000 (a * b)).length≤i + j:=by
 rw [Uao hB2] at *
 rw [Nat.pow_add]
 exact Nat.mul_lt_mul_of_lt_of_lt ha hb
theorem UIt {a b i:Nat} (ha:(toL 1000000000 a).length≤i) (hb:(toL 1000000000 b).length≤i):(toL 1000000000 (a + b)).length≤i + 1:=by
 rw [Uao hB2] at *
 rw [Nat.pow_succ]; omega
theorem Uvl {a b i:Nat} (h:a≤b) (hb:(toL 1000000000 b).length≤i):(toL 1000000000 a).length≤i:=Ub2 hb h
theorem UCd {a b i j:Nat} (ha:a<10 ^ i) (hb:b<10 ^ j):a * b<10 ^ (i + j):=by
 rw [Nat.pow_add]; exact Nat.mul_lt_mul_of_lt_of_lt ha hb
theorem UtQ {a b:Nat} (ha:a<10 ^ 400) (hb:b<10 ^ 400):a * b<10 ^ 800:=by
 have h:=UCd ha hb
 have e:400 + 400=800:=rfl
 rw [e] at h; exact h
theorem UIs (n:Nat) (hn:2 ^ 20≤n) (neg neg2:Bool) (a b c d:Nat) (ha:(toL 1000000000 a).length≤100) (hb:(toL 1000000000 b).length≤100) (hc:(toL 1000000000 c).length≤100) (hd:(toL 1000000000 d).length≤100) :
 ∃ (ng:Bool) (e:Nat),(∀ k0:Bool→List PV→List PV→Option R,p64 n neg (NN a) (NN b) neg2 (NN c) (NN d) k0=k0 ng (NN e) (NN (b * d)))∧zs ng e=zs neg a * d + zs neg2 c * b∧(toL 1000000000 e).length≤201:=by
 have l1:=UgK ha hd
 have l2:=UgK hc hb
 have m1:=fun k0=>Ua7 (R:=R) n a d (by omega) (by omega) (by omega) k0
 have m2:=fun k0=>Ua7 (R:=R) n c b (by omega) (by omega) (by omega) k0
 have m3:=fun k0=>Ua7 (R:=R) n b d (by omega) (by omega) (by omega) k0
 have z1:zs neg a * (d:Int)=zs neg (a * d):=by cases neg <;> simp [zs,Int.neg_mul]
 have z2:zs neg2 c * (b:Int)=zs neg2 (c * b):=by cases neg2 <;> simp [zs,Int.neg_mul]
 rw [z1,z2]
 by_cases hs:neg=neg2
 · subst hs
   have p1:=fun k0=>UCq (R:=R) n (a * d) (c * b) (by omega) (by omega) (by omega) (by omega) k0
   refine ⟨neg,a * d + c * b,fun k0=>?_,?_,UIt l1 l2⟩
   · unfold p64
     have e:(neg == neg)=true:=by simp
     simp only [m1,m2,m3,e,Uay,p1]
   · generalize a * d=x
     generalize c * b=y
     cases neg
     · simp only [zs,Bool.false_eq_true,if_false]; omega
     · simp only [zs,if_true]; omega
 · have e:(neg == neg2)=false:=by simpa using hs
   have hneg:neg2=!neg:=by cases neg <;> cases neg2 <;> simp_all
   have c1:=fun k0=>UqD (R:=R) n (a * d) (c * b) (by omega) (by omega) (by omega) k0
   by_cases hlt:a * d<c * b
   · have p1:=fun k0=>Uoh (R:=R) n (c * b) (a * d) (by omega) (by omega) (by omega) k0
     have e2:decide (UcV (a * d) (c * b)<0)=true:=by rw [show UcV (a * d) (c * b)=-1 from by unfold UcV; rw [if_pos hlt]]; rfl
     refine ⟨neg2,c * b - a * d,fun k0=>?_,?_,Uvl (Nat.sub_le _ _) (Nat.le_trans l2 (by omega))⟩
     · unfold p64
       simp only [m1,m2,m3,e,Uaf,c1,e2,Uay,p1]
     · rw [hneg]
       generalize a * d=x at *
       generalize c * b=y at *
       cases neg
       · simp only [zs,Bool.not_false,if_true,Bool.false_eq_true,if_false]; omega
       · simp only [zs,Bool.not_true,if_true,Bool.false_eq_true,if_false]; omega
   · have p1:=fun k0=>Uoh (R:=R) n (a * d) (c * b) (by omega) (by omega) (by omega) k0
     have e2:decide (UcV (a * d) (c * b)<0)=false:=by
      apply decide_eq_false
      unfold UcV; rw [if_neg hlt]; split <;> omega
     refine ⟨neg,a * d - c * b,fun k0=>?_,?_,Uvl (Nat.sub_le _ _) (Nat.le_trans l1 (by omega))⟩
     · unfold p64
       simp only [m1,m2,m3,e,Uaf,c1,e2,p1]
     · rw [hneg]
       generalize a * d=x at *
       generalize c * b=y at *
       cases neg
       · simp only [zs,Bool.not_false,if_true,Bool.false_eq_true,if_false]; omega
       · simp only [zs,Bool.not_true,if_true,Bool.false_eq_true,if_false]; omega
theorem UG3 (n:Nat) (neg:Bool) (a:Nat) (x3:List PV) (k0:Bool→List PV→List PV→Option R):p78 n neg (NN a) x3 k0=k0 (!neg&&!(a == 0)) (NN a) x3:=by
 unfold p78
 have e:decide (((NN a).length:Int)>0)=!(a == 0):=by
  rw [Upf,Bool.eq_iff_iff]
  simp only [decide_eq_true_eq,Bool.not_eq_true',beq_eq_false_iff_ne,ne_eq]
  constructor
  · intro h h0; rw [h0,Uam] at h; simp at h
  · intro h
    have:=(UgM hB2 h).1
    omega
 cases neg
 · simp only [e,Bool.not_false,Uay,Bool.true_and]
 · rfl
theorem UIy (neg:Bool) (a:Nat):zs (!neg&&!(a == 0)) a=- zs neg a:=by
 by_cases h:a=0
 · subst h; rw [Umu,Umu]; rfl
 · have e:(a == 0)=false:=by simpa using h
   rw [e]; cases neg <;> simp [zs]
theorem UyE (p q:Rat):mkRat (p.num * q.den + q.num * p.den) (p.den * q.den)=p + q:=by
 rw [←Rat.mkRat_add_mkRat _ _ p.den_nz q.den_nz,Rat.mkRat_self,Rat.mkRat_self]
theorem UyF (p q:Rat):mkRat (p.num * q.num) (p.den * q.den)=p * q:=by
 rw [←Rat.mkRat_mul_mkRat,Rat.mkRat_self,Rat.mkRat_self]
theorem n20 {n:Nat} (hn:10 ^ 1000≤n):2 ^ 20<n:=Nat.lt_of_lt_of_le (by decide +kernel) hn
theorem Uat {n:Nat} (hn:10 ^ 1000≤n):10 ^ 400≤n:=Nat.le_trans (by decide +kernel) hn
theorem UI1 {n a b:Nat} (hn:10 ^ 1000≤n) (ha:a<10 ^ 400) (hb:b<10 ^ 400):a * b<n:=Nat.lt_of_lt_of_le (UtQ ha hb) (Nat.le_trans (by decide +kernel) hn)
theorem Uvj (n:Nat) (hn:10 ^ 1000≤n) (ng:Bool) (e f:Nat) (hf:f≠0) (he:(toL 1000000000 e).length≤300) (hfl:(toL 1000000000 f).length≤300) (hfn:f<n) (q:Rat) (hq:mkRat (zs ng e) f=q) (k0:ByteArray→Int→Option R):p79 n ng (NN e) (NN f) k0=Ukt q k0:=by
 have h20:=n20 hn
 rw [Uo6 n ng e f hf (by omega) (by omega) h20 hfn,hq]; rfl
theorem Uvo (n:Nat) (hn:10 ^ 1000≤n) (p q:Rat) (hp:fits p) (hq:fits q) (k0:ByteArray→Int→Option R):Uwl n (bs (Uae p)) (bs (Uae q)) k0=Ukt (p + q) k0:=by
 have h20:=n20 hn
 have r1:=fun k0=>Uca (R:=R) n (Uat hn) p hp k0
 have r2:=fun k0=>Uca (R:=R) n (Uat hn) q hq k0
 have m1:=UaD hp.1
 have m2:=UaD hp.2
 have m3:=UaD hq.1
 have m4:=UaD hq.2
 obtain ⟨ng,e,s1,s2,s3⟩:=UIs (R:=R) n (by omega) (sg p.num) (sg q.num) p.num.natAbs p.den q.num.natAbs q.den (by omega) (by omega) (by omega) (by omega)
 rw [show zs (sg p.num) p.num.natAbs=p.num from UbS _,show zs (sg q.num) q.num.natAbs=q.num from UbS _] at s2
 have t:=fun k0=>Uvj (R:=R) n hn ng e (p.den * q.den) (Nat.mul_ne_zero p.den_nz q.den_nz) (by omega) (Nat.le_trans (UgK m2 m4) (by omega)) (UI1 hn hp.2 hq.2) (p + q) (by rw [s2,UyE]) k0
 have e0:((0:Int) != 0)=false:=rfl
 simp only [Uwl,Ui6,p63,r1,r2,s1,t,e0,Bool.not_true,Uaf]
theorem UIx (x y:Int):zs (!(sg x == sg y)) (x.natAbs * y.natAbs)=x * y:=by
 have hx:=UbS x
 have hy:=UbS y
 generalize hsx:decide (x<0)=sx at *
 generalize hsy:decide (y<0)=sy at *
 have e1:sg x=sx:=hsx
 have e2:sg y=sy:=hsy
 rw [e1,e2]
 conv=>rhs; rw [←hx,←hy]
 generalize x.natAbs=a
 generalize y.natAbs=b
 cases sx <;> cases sy <;> simp [zs,Int.neg_mul,Int.mul_neg]
theorem Uvp (n:Nat) (hn:10 ^ 1000≤n) (p q:Rat) (hp:fits p) (hq:fits q) (k0:ByteArray→Int→Option R):p61 n (bs (Uae p)) (bs (Uae q)) k0=Ukt (p * q) k0:=by
 have h20:=n20 hn
 have r1:=fun k0=>Uca (R:=R) n (Uat hn) p hp k0
 have r2:=fun k0=>Uca (R:=R) n (Uat hn) q hq k0
 have m1:=UaD hp.1
 have m2:=UaD hp.2
 have m3:=UaD hq.1
 have m4:=UaD hq.2
 have s1:=fun k0=>Ua7 (R:=R) n p.num.natAbs q.num.natAbs (by omega) (by omega) (by omega) k0
 have s2:=fun k0=>Ua7 (R:=R) n p.den q.den (by omega) (by omega) (by omega) k0
 have t:=fun k0=>Uvj (R:=R) n hn (!(sg p.num == sg q.num)) (p.num.natAbs * q.num.natAbs) (p.den * q.den) (Nat.mul_ne_zero p.den_nz q.den_nz) (Nat.le_trans (UgK m1 m3) (by omega)) (Nat.le_trans (UgK m2 m4) (by omega)) (UI1 hn hp.2 hq.2) (p * q) (by rw [UIx,UyF]) k0
 have e0:((0:Int) != 0)=false:=rfl
 simp only [p61,Uuy,p62,r1,r2,s1,s2,t,e0,Bool.not_true,Uaf]
theorem Uvt (neg:Bool) (a:Nat) (d:Nat):zs neg a * (d:Int)=zs neg (a * d):=by cases neg <;> simp [zs,Int.neg_mul]
def Ubs (s:List UInt8):Prop:=∃ v:Int,v.natAbs<10 ^ 9∧s=Lib.itoa v
theorem Ukn (n:Nat) (hn:20≤n) (s:List UInt8) (hs:s.length<2 ^ 40):∃ a d,(∀ k0:Int→Bool→Option R,p95 n (bs s) k0=k0 a d)∧(¬ Ubs s→d=false):=by
 by_cases h:Ubs s
 · obtain ⟨v,h1,rfl⟩:=h
   exact ⟨v,true,fun k0=>Uf2 n hn v h1 k0,fun h=>absurd ⟨v,h1,rfl⟩ h⟩
 · exact ⟨0,false,fun k0=>Uko n hn s hs h k0,fun _=>rfl⟩
theorem UkQ (n:Nat) (hn:20≤n) (v w:Int) (hv:v.natAbs<10 ^ 9) (hw:w.natAbs<10 ^ 9) (k0:Int→Int→Bool→Option R):p54 n (bs (Lib.itoa v)) (bs (Lib.itoa w)) k0=k0 v w true:=by
 have q1:=fun k0=>Uf2 (R:=R) n hn v hv k0
 have q2:=fun k0=>Uf2 (R:=R) n hn w hw k0
 simp only [p54,q1,q2,Uay]
theorem Uh9 (n:Nat) (hn:20≤n) (s t:List UInt8) (hs:s.length<2 ^ 40) (ht:t.length<2 ^ 40) (h:¬ (Ubs s∧Ubs t)):∃ a b,∀ k0:Int→Int→Bool→Option R,p54 n (bs s) (bs t) k0=k0 a b false:=by
 obtain ⟨a,d,q1,f1⟩:=Ukn (R:=R) n hn s hs
 obtain ⟨b,e,q2,f2⟩:=Ukn (R:=R) n hn t ht
 cases d with
 | false=>exact ⟨a,b,fun k0=>by simp only [p54,q1,q2,Uaf]⟩
 | true =>
  have hS:Ubs s:=Classical.byContradiction fun h=>by have:=f1 h; cases this
  have hT:¬ Ubs t:=fun hT=>h ⟨hS,hT⟩
  have e0:=f2 hT
  subst e0
  exact ⟨a,b,fun k0=>by simp only [p54,q1,q2,Uay]⟩
theorem Uof (x:Int):JiB x=bs (Lib.itoa x):=rfl
theorem UoE (v:Int) (h:v.natAbs<10 ^ 400) (k0:ByteArray→Int→Option R):Ukt (v:Rat) k0=k0 (bs (Lib.itoa v)) 0:=by
 unfold Ukt
 rw [if_pos (Uis h),UaG]
theorem Ubt {p:Rat} (h:Ubs (Uae p)):∃ v:Int,v.natAbs<10 ^ 9∧p=(v:Rat):=by
 obtain ⟨v,h1,h2⟩:=h
 exact ⟨v,h1,Uf4 (h2.trans (UaG v))⟩
theorem Uyx {x:Int} (h1:-9223372036854775808≤x) (h2:x<9223372036854775808):JkT x=true:=by
 unfold JkT; simp; omega
theorem Upb (n:Nat) (hn:10 ^ 1000≤n) (p q:Rat) (hp:fits p) (hq:fits q) (k0:ByteArray→Int→Option R):p22 n (bs (Uae p)) (bs (Uae q)) k0=Ukt (p + q) k0:=by
 have h20:=n20 hn
 have lp:=Ua5 hp
 have lq:=Ua5 hq
 by_cases hb:Ubs (Uae p)∧Ubs (Uae q)
 · obtain ⟨v,hv,rfl⟩:=Ubt hb.1
   obtain ⟨w,hw,rfl⟩:=Ubt hb.2
   have b1:=fun k0=>UkQ (R:=R) n (by omega) v w hv hw k0
   rw [←Rat.intCast_add,UoE _ (Nat.lt_of_le_of_lt (by omega:(v + w).natAbs≤2000000000) (by decide +kernel)),←UaG,←UaG]
   have e1:IntKind.i64.wrap (v + w)=v + w:=w64 (by omega) (by omega)
   have e2:JkT (v + w)=true:=Uyx (by omega) (by omega)
   simp only [p22,b1,Uay,e1,e2,Uof]
 · obtain ⟨a,b,b1⟩:=Uh9 (R:=R) n (by omega) (Uae p) (Uae q) (by omega) (by omega) hb
   have t:=fun k0=>Uvo (R:=R) n hn p q hp hq k0
   simp only [p22,b1,Uaf,t]
theorem Uw2 (n:Nat) (hn:10 ^ 1000≤n) (p q:Rat) (hp:fits p) (hq:fits q) (k0:ByteArray→Int→Option R):p21 n (bs (Uae p)) (bs (Uae q)) k0=Ukt (p * q) k0:=by
 have h20:=n20 hn
 have lp:=Ua5 hp
 have lq:=Ua5 hq
 by_cases hb:Ubs (Uae p)∧Ubs (Uae q)
 · obtain ⟨v,hv,rfl⟩:=Ubt hb.1
   obtain ⟨w,hw,rfl⟩:=Ubt hb.2
   have b1:=fun k0=>UkQ (R:=R) n (by omega) v w hv hw k0
   have hvw:(v * w).natAbs≤10 ^ 9 * 10 ^ 9:=by
    rw [Int.natAbs_mul]; exact Nat.mul_le_mul (Nat.le_of_lt hv) (Nat.le_of_lt hw)
   rw [←Rat.intCast_mul,UoE _ (Nat.lt_of_le_of_lt hvw (by decide +kernel)),←UaG,←UaG]
   generalize hx:v * w=x at *
   have e1:IntKind.i64.wrap x=x:=w64 (by omega) (by omega)
   have e2:JkT x=true:=Uyx (by omega) (by omega)
   simp only [p21,b1,Uay,hx,e1,e2,Uof]
 · obtain ⟨a,b,b1⟩:=Uh9 (R:=R) n (by omega) (Uae p) (Uae q) (by omega) (by omega) hb
   have t:=fun k0=>Uvp (R:=R) n hn p q hp hq k0
   simp only [p21,b1,Uaf,t]
theorem UvM (a b:Nat):UgS (a:Int) (b:Int)=UcV a b:=by
 unfold UgS UcV
 by_cases h1:a<b
 · rw [if_pos (by omega),if_pos h1]
 · rw [if_neg (by omega),if_neg h1]
   by_cases h2:b<a
   · rw [if_neg (by omega),if_pos h2]
   · rw [if_pos (by omega),if_neg h2]
theorem UvL (a b:Nat):UgS (-(a:Int)) (-(b:Int))=0 - UcV a b:=by
 unfold UgS UcV
 by_cases h1:a<b
 · rw [if_neg (by omega),if_neg (by omega),if_pos h1]; rfl
 · rw [if_neg h1]
   by_cases h2:b<a
   · rw [if_pos (by omega),if_pos h2]; rfl
   · rw [if_neg (by omega),if_pos (by omega),if_neg h2]; rfl
theorem UAU (a b:Nat):-1≤UcV a b∧UcV a b≤1:=by unfold UcV; split <;> (try split) <;> omega
theorem UDW (n:Nat) (hn:10 ^ 1000≤n) (p q:Rat) (hp:fits p) (hq:fits q) (k0:Int→Option R):p19 n (bs (Uae p)) (bs (Uae q)) k0=k0 (UgS (p.num * q.den) (q.num * p.den)):=by
 have h20:=n20 hn
 have lp:=Ua5 hp
 have lq:=Ua5 hq
 by_cases hb:Ubs (Uae p)∧Ubs (Uae q)
 · obtain ⟨v,hv,rfl⟩:=Ubt hb.1
   obtain ⟨w,hw,rfl⟩:=Ubt hb.2
   have b1:=fun k0=>UkQ (R:=R) n (by omega) v w hv hw k0
   rw [←UaG,←UaG,Rat.num_intCast,Rat.num_intCast,Rat.den_intCast,Rat.den_intCast,show ((1:Nat):Int)=1 from rfl,Int.mul_one,Int.mul_one]
   simp only [p19,b1,Uay,p55]
   unfold UgS
   by_cases h1:v<w
   · rw [Jkf h1,if_pos h1]
   · rw [c_neg h1,if_neg h1]
     by_cases h2:v>w
     · rw [Jkf h2,if_neg (by omega)]
     · rw [c_neg h2,if_pos (by omega)]
 · obtain ⟨a,b,b1⟩:=Uh9 (R:=R) n (by omega) (Uae p) (Uae q) (by omega) (by omega) hb
   have r1:=fun k0=>Uca (R:=R) n (Uat hn) p hp k0
   have r2:=fun k0=>Uca (R:=R) n (Uat hn) q hq k0
   have m1:=UaD hp.1
   have m2:=UaD hp.2
   have m3:=UaD hq.1
   have m4:=UaD hq.2
   have s1:=fun k0=>Ua7 (R:=R) n p.num.natAbs q.den (by omega) (by omega) (by omega) k0
   have s2:=fun k0=>Ua7 (R:=R) n q.num.natAbs p.den (by omega) (by omega) (by omega) k0
   have l1:=UgK m1 m4
   have l2:=UgK m3 m2
   have c1:=fun k0=>UqD (R:=R) n (p.num.natAbs * q.den) (q.num.natAbs * p.den) (by omega) (by omega) (by omega) k0
   have hpd:=p.den_nz
   have hqd:=q.den_nz
   have z1:p.num * (q.den:Int)=zs (sg p.num) (p.num.natAbs * q.den):=by rw [←Uvt,show zs (sg p.num) p.num.natAbs=p.num from UbS _]
   have z2:q.num * (p.den:Int)=zs (sg q.num) (q.num.natAbs * p.den):=by rw [←Uvt,show zs (sg q.num) q.num.natAbs=q.num from UbS _]
   have h1:sg p.num=true→1≤p.num.natAbs * q.den:=by
    intro h
    have:p.num<0:=by simpa [sg] using h
    exact Nat.mul_le_mul (by omega:1≤p.num.natAbs) (by omega:1≤q.den)
   have h2:sg q.num=true→1≤q.num.natAbs * p.den:=by
    intro h
    have:q.num<0:=by simpa [sg] using h
    exact Nat.mul_le_mul (by omega:1≤q.num.natAbs) (by omega:1≤p.den)
   rw [z1,z2]
   simp only [p19,b1,r1,r2,UI2,Uaf,Uuo,Uee,s1,s2,c1]
   generalize sg p.num=u at *
   generalize sg q.num=v at *
   generalize p.num.natAbs * q.den=x at *
   generalize q.num.natAbs * p.den=y at *
   have hc:=UAU x y
   cases u <;> cases v
   · simp only [Uaf,zs,Bool.false_eq_true,if_false,UvM]
   · have:=h2 rfl
     simp only [Uay,Uaf,UKJ,zs,Bool.false_eq_true,if_false,if_true]
     unfold UgS
     rw [if_neg (by omega),if_neg (by omega)]
   · have:=h1 rfl
     simp only [Uay,Uaf,UKJ,zs,Bool.false_eq_true,if_false,if_true]
     unfold UgS
     rw [if_pos (by omega)]
   · have e:IntKind.i64.wrap (0 - UcV x y)=0 - UcV x y:=w64 (by omega) (by omega)
     simp only [Uay,Uaf,UI2,zs,if_true,UvL,e]
theorem Uoa {q:Rat} (h:fits q):fits (-q):=by
 unfold fits
 rw [Rat.neg_num,Rat.neg_den,Int.natAbs_neg]; exact h
theorem Uwc (q:Rat):mkRat (zs (!(sg q.num)&&!(q.num.natAbs == 0)) q.num.natAbs) q.den=-q:=by
 rw [UIy,show zs (sg q.num) q.num.natAbs=q.num from UbS _,←Rat.neg_mkRat,Rat.mkRat_self]
theorem UD4 (n:Nat) (hn:10 ^ 1000≤n) (p:Rat) (hp:fits p) (k0:ByteArray→Option R):p37 n (bs (Uae p)) k0=k0 (bs (Uae (-p))):=by
 have h20:=n20 hn
 have r1:=fun k0=>Uca (R:=R) n (Uat hn) p hp k0
 have m1:=UaD hp.1
 have m2:=UaD hp.2
 have o1:=fun k0=>UG3 (R:=R) n (sg p.num) p.num.natAbs (NN p.den) k0
 have t:=fun k0=>Uvj (R:=R) n hn (!(sg p.num)&&!(p.num.natAbs == 0)) p.num.natAbs p.den p.den_nz (by omega) (by omega) (Nat.lt_of_lt_of_le hp.2 (Uat hn)) (-p) (Uwc p) k0
 simp only [p37,r1,UI2,Uaf,o1,t]
 unfold Ukt
 rw [if_pos (Uoa hp)]
theorem UcF {q:Rat} (h:fits q) (k0:ByteArray→Int→Option R):Ukt q k0=k0 (bs (Uae q)) 0:=by unfold Ukt; rw [if_pos h]
theorem UwT (p q:Rat):(Uae p == Uae q)=decide (p=q):=by
 rw [Bool.eq_iff_iff,beq_iff_eq,decide_eq_true_iff]
 exact ⟨Uf4,fun h=>by rw [h]⟩
def Ud2 (p q:Rat):Int:=UgS (p.num * q.den) (q.num * p.den)
theorem UFL (p q:Rat):p=q↔p.num * (q.den:Int)=q.num * (p.den:Int):=by
 rw [←Rat.mkRat_eq_iff p.den_nz q.den_nz,Rat.mkRat_self,Rat.mkRat_self]
theorem Uic {p q:Rat} (h:p<q):Ud2 p q=-1:=by
 unfold Ud2 UgS; rw [if_pos ((Rat.lt_iff p q).1 h)]
theorem Ubn (p:Rat):Ud2 p p=0:=by
 unfold Ud2 UgS; rw [if_neg (by omega),if_pos rfl]
theorem Uib {p q:Rat} (h:q<p):Ud2 p q=1:=by
 have h1:=(Rat.lt_iff q p).1 h
 unfold Ud2 UgS; rw [if_neg (by omega),if_neg (by omega)]
theorem tri (p q:Rat):p<q∨p=q∨q<p:=by
 rw [Rat.lt_iff,Rat.lt_iff,UFL]; omega
theorem UqC {p q:Rat} (h:Ud2 p q=0):p=q:=by
 rcases tri p q with h1 | h1 | h1
 · rw [Uic h1] at h; cases h
 · exact h1
 · rw [Uib h1] at h; cases h
theorem Upc (n:Nat) (hn:10 ^ 1000≤n) (p q:Rat) (hp:fits p) (hq:fits q) (k0:Int→Option R):p19 n (bs (Uae p)) (bs (Uae q)) k0=k0 (Ud2 p q):=UDW n hn p q hp hq k0
end Go.Proofs.YtmgfmlhdnadglaaGreatDoor
set_option linter.unusedVariables false
set_option maxRecDepth 100000
namespace Go.Proofs.YtmgfmlhdnadglaaGreatDoor
open Go Th Go.Proofs
noncomputable section
variable {R:Type}
def Uz6:Ann:={ loops:=[],cuts:=[],frz:=[],rm:=[.id] }
abbrev UFA (n:Nat):Env:=eN
theorem Use (n:Nat):EnvOK Tryz.prog GI (UFA n):=.nil
def p80 (n:Nat) (x1:Int) (k0:Bool→O R):O R :=
 bif (decide (x1≥0)) then (k0 (bif true then (decide (x1<2048)) else false)) else (k0 false)
abbrev UQ2 (n:Nat):Orc R:=oN
abbrev UQg (n:Nat):Orc R:=oN
abbrev K80 (R:Type) (n:Nat):=JcH (R:=R) Tryz.prog (UFA n) Uz6 n (9,[]) (UQ2 n) (UQg n)
theorem USX (n:Nat):Je6 (K80 R n) (JaJ Uz6 (Jll Tryz.f80)):=pO pN (by kernel_rfl)
abbrev t80:Sl (List SV):=(cI .n)
abbrev f80 (n:Nat) (K:List SV→O R):t80.T (O R):=fun x1=>p80 n x1 (fun y1=>K [vB y1])
abbrev UKb (n:Nat):FS:=fT [false] t80 (f80 n)
theorem UO3 (n:Nat):FSound Tryz.prog GI 80 (UKb n):=gd Uz6 n (Use n) Tryz.func80 (.cons (Use n) t80 (f80 n) (fun K _=>(Jkq (c:=Jll Tryz.f80) (by kernel_rfl) (USX n) K).trans (by kernel_rfl)) .nil) (by kernel_rfl)
def Ubx:Ann:={ loops:=[(4,ids [1,15,16,17],ids [1,2]),(10,ids [1,27,28,29],ids [1,2]),(17,ids [7,39,40,41],ids [2])],cuts:=[],frz:=[],rm:=[.id] }
abbrev UBq (n:Nat):Env:=eC 80 (UKb n) (eC 53 (UB0 n) eN)
theorem UrP (n:Nat):EnvOK Tryz.prog GI (UBq n):=.cons (.cons (.nil) (UDR n)) (UO3 n)
def Ui1 (n:Nat) (l0:LP→ByteArray→LP→Int→Int→O R) (x1:LP) (x2:ByteArray) (x3:LP) (x4 x5:Int) (k0:LP→ByteArray→Int→O R) (k1:LP→ByteArray→O R):O R :=
 bif (decide (x5<x4)) then (bif (inR x5 ((x3).length)) then (Jh2 ((x3).getD ((x5:Int).toNat) (.v (.bool false))) fun a6=>JdT a6 fun h7 t8=>Jj .i64 h7 fun e9=>JdT t8 fun h10 t11=>Jj3 h10 fun e12=>Ji2 t11 (p53 n e12 (fun y13=>bif (!y13) then (k0 x1 x2 3) else (l0 x1 x2 x3 x4 (IntKind.i64.wrap (x5 + 1)))))) else none) else (k1 x1 x2)
def Uer (n:Nat):Nat→LP→ByteArray→LP→Int→Int→(LP→ByteArray→Int→O R)→(LP→ByteArray→O R)→O R
 | 0,_,_,_,_,_,_,_=>none
 | m + 1,x1,x2,x3,x4,x5,k0,k1=>Ui1 n (fun x1 x2 x3 x4 x5=>Uer n m x1 x2 x3 x4 x5 k0 k1) x1 x2 x3 x4 x5 k0 k1
def Uy1 (n:Nat) (x1:LP) (x2:ByteArray) (x3:LP) (x4 x5:Int) (k0:LP→ByteArray→Int→O R) (k1:LP→ByteArray→O R):O R:=Uer n n x1 x2 x3 x4 x5 k0 k1
def UfZ (n:Nat) (l0:LP→ByteArray→LP→Int→Int→O R) (x1:LP) (x2:ByteArray) (x3:LP) (x4 x5:Int) (k0:LP→ByteArray→Int→O R) (k1:LP→ByteArray→O R):O R :=
 bif (decide (x5<x4)) then (bif (inR x5 ((x3).length)) then (Jh2 ((x3).getD ((x5:Int).toNat) (.v (.bool false))) fun a6=>JdT a6 fun h7 t8=>Jj .i64 h7 fun e9=>JdT t8 fun h10 t11=>Jj3 h10 fun e12=>Ji2 t11 (p80 n e9 (fun y13=>bif (!y13) then (k0 x1 x2 2) else (l0 x1 x2 x3 x4 (IntKind.i64.wrap (x5 + 1)))))) else none) else (k1 x1 x2)
def UcC (n:Nat):Nat→LP→ByteArray→LP→Int→Int→(LP→ByteArray→Int→O R)→(LP→ByteArray→O R)→O R
 | 0,_,_,_,_,_,_,_=>none
 | m + 1,x1,x2,x3,x4,x5,k0,k1=>UfZ n (fun x1 x2 x3 x4 x5=>UcC n m x1 x2 x3 x4 x5 k0 k1) x1 x2 x3 x4 x5 k0 k1
def UlI (n:Nat) (x1:LP) (x2:ByteArray) (x3:LP) (x4 x5:Int) (k0:LP→ByteArray→Int→O R) (k1:LP→ByteArray→O R):O R:=UcC n n x1 x2 x3 x4 x5 k0 k1
def Uf0 (n:Nat) (l0:Int→LP→Int→Int→O R) (x1:Int) (x2:LP) (x3 x4:Int) (k0:Int→O R) (k1:O R):O R :=
 bif (decide (x4<x3)) then (bif (inR x4 ((x2).length)) then (Jh2 ((x2).getD ((x4:Int).toNat) (.v (.bool false))) fun a5=>JdT a5 fun h6 t7=>Jj .i64 h6 fun e8=>JdT t7 fun h9 t10=>Jj3 h9 fun e11=>Ji2 t10 (bif (eqS e11 (⟨#[48]⟩:ByteArray)) then (k0 3) else (bif (bif false then true else (decide (e8≤x1))) then (k0 3) else (l0 e8 x2 x3 (IntKind.i64.wrap (x4 + 1)))))) else none) else (k1)
def UcD (n:Nat):Nat→Int→LP→Int→Int→(Int→O R)→(O R)→O R
 | 0,_,_,_,_,_,_=>none
 | m + 1,x1,x2,x3,x4,k0,k1=>Uf0 n (fun x1 x2 x3 x4=>UcD n m x1 x2 x3 x4 k0 k1) x1 x2 x3 x4 k0 k1
def UgD (n:Nat) (x1:Int) (x2:LP) (x3 x4:Int) (k0:Int→O R) (k1:O R):O R:=UcD n n x1 x2 x3 x4 k0 k1
def p52 (n:Nat) (x1:LP) (x2:ByteArray) (k0:Int→O R):O R :=
 p53 n x2 (fun y3=>bif (!y3) then (k0 3) else (Uy1 n x1 x2 x1 ((x1).length:Int) 0 (fun y4 y5 y6=>k0 y6) (fun y7 y8=>UlI n y7 y8 y7 ((y7).length:Int) 0 (fun y9 y10 y11=>k0 y11) (fun y12 y13=>UgD n (-1) y12 ((y12).length:Int) 0 (fun y14=>k0 y14) (k0 0)))))
abbrev E52 (n:Nat):Code→Fr→Kc R→O R:=evC Tryz.prog (UBq n) Ubx n (57,[])
noncomputable def Uxs:Code:=Jj4 (Jll Tryz.f52) [1,1,0,1,0,0]
abbrev Uhw:Sl (List SV):=(.c (sBx 43 (cH (cS .n))) (cH (cI (cI .n))))
abbrev Utb (n m:Nat) (K:Kc R):Uhw.T (O R):=fun x1 x2 x3 x4 x5=>Uer n m x1 x2 x3 x4 x5 (fun y1 y2 y3=>xL Ubx 4 K .ret [.bx 43 [vH y1,vS y2],vI y3]) (fun y1 y2=>xL Ubx 4 K (.exit 0) [.bx 43 [vH y1,vS y2],dD])
abbrev UEm (n:Nat) (K:Kc R) (l0:Uhw.T (O R)):Uhw.T (O R):=fun x1 x2 x3 x4 x5=>Ui1 n l0 x1 x2 x3 x4 x5 (fun y1 y2 y3=>xL Ubx 4 K .ret [.bx 43 [vH y1,vS y2],vI y3]) (fun y1 y2=>xL Ubx 4 K (.exit 0) [.bx 43 [vH y1,vS y2],dD])
noncomputable def Uqs:Code:=Jj4 (Jll Tryz.f52) [1,1,1,0,1,0,0]
abbrev Ufa:Sl (List SV):=(.c (sBx 43 (cH (cS .n))) (cH (cI (cI .n))))
abbrev Ulq (n m:Nat) (K:Kc R):Ufa.T (O R):=fun x1 x2 x3 x4 x5=>UcC n m x1 x2 x3 x4 x5 (fun y1 y2 y3=>xL Ubx 10 K .ret [.bx 43 [vH y1,vS y2],vI y3]) (fun y1 y2=>xL Ubx 10 K (.exit 2) [.bx 43 [vH y1,vS y2],dD])
abbrev UAM (n:Nat) (K:Kc R) (l0:Ufa.T (O R)):Ufa.T (O R):=fun x1 x2 x3 x4 x5=>UfZ n l0 x1 x2 x3 x4 x5 (fun y1 y2 y3=>xL Ubx 10 K .ret [.bx 43 [vH y1,vS y2],vI y3]) (fun y1 y2=>xL Ubx 10 K (.exit 2) [.bx 43 [vH y1,vS y2],dD])
noncomputable def Uqt:Code:=Jj4 (Jll Tryz.f52) [1,1,1,1,1,0,1,0,0]
abbrev Ufb:Sl (List SV):=(cI (cH (cI (cI .n))))
abbrev Ulr (n m:Nat) (K:Kc R):Ufb.T (O R):=fun x1 x2 x3 x4=>UcD n m x1 x2 x3 x4 (fun y1=>xL Ubx 17 K .ret [vI y1]) (xL Ubx 17 K (.exit 4) [dD])
abbrev UAN (n:Nat) (K:Kc R) (l0:Ufb.T (O R)):Ufb.T (O R):=fun x1 x2 x3 x4=>Uf0 n l0 x1 x2 x3 x4 (fun y1=>xL Ubx 17 K .ret [vI y1]) (xL Ubx 17 K (.exit 4) [dD])
abbrev UIY (n:Nat):Orc R:=oL Ubx (E52 n) n 17 Uqt Ufb (Ulr n n) (oL Ubx (E52 n) n 10 Uqs Ufa (Ulq n n) (oL Ubx (E52 n) n 4 Uxs Uhw (Utb n n) oN))
abbrev UIJ (n:Nat):Orc R:=oN
abbrev K52 (R:Type) (n:Nat):=JcH (R:=R) Tryz.prog (UBq n) Ubx n (57,[]) (UIY n) (UIJ n)
theorem UHL (n:Nat):K52 R n (false,4,Uxs):=JkF (lo:=UIY n) (cu:=UIJ n) (pO pN (by kernel_rfl)) Uhw (Utb n n) (JiE (F:=Utb n) Uhw (UEm n) (fun K _ _ _ _ _=>rfl) (fun _ _=>rfl) (fun L K _ _ _ _ _=>by show _=_; kernel_rfl) n) fun _ _=>rfl
theorem UDf (n:Nat):K52 R n (false,10,Uqs):=JkF (lo:=UIY n) (cu:=UIJ n) (pO pN (by kernel_rfl)) Ufa (Ulq n n) (JiE (F:=Ulq n) Ufa (UAM n) (fun K _ _ _ _ _=>rfl) (fun _ _=>rfl) (fun L K _ _ _ _ _=>by show _=_; kernel_rfl) n) fun _ _=>rfl
theorem UDg (n:Nat):K52 R n (false,17,Uqt):=JkF (lo:=UIY n) (cu:=UIJ n) (pO pN (by kernel_rfl)) Ufb (Ulr n n) (JiE (F:=Ulr n) Ufb (UAN n) (fun K _ _ _ _=>rfl) (fun _ _=>rfl) (fun L K _ _ _ _=>by show _=_; kernel_rfl) n) fun _ _=>rfl
theorem USx (n:Nat):Je6 (K52 R n) (JaJ Ubx (Jll Tryz.f52)):=pO (pC (UHL n) (pC (UDf n) (pC (UDg n) pN))) (by kernel_rfl)
abbrev t52:Sl (List SV):=(.c (sP (JlI (.c sSh (.c Jly .n)))) .n)
abbrev f52 (n:Nat) (K:List SV→O R):t52.T (O R):=fun x1 x2=>p52 n x1 x2 (fun y1=>K [vI y1])
abbrev UDM (n:Nat):FS:=fT [false] t52 (f52 n)
theorem UG1 (n:Nat):FSound Tryz.prog GI 52 (UDM n):=gd Ubx n (UrP n) Tryz.func52 (.cons (UrP n) t52 (f52 n) (fun K _ _=>(Jkq (c:=Jll Tryz.f52) (by kernel_rfl) (USx n) K).trans (by kernel_rfl)) .nil) (by kernel_rfl)
def Uh5:Ann:={ loops:=[(2,ids [0,1,7,8,9],ids [1,4])],cuts:=[],frz:=[],rm:=[.id] }
abbrev UBA (n:Nat):Env:=eC 52 (UDM n) eN
theorem Usa (n:Nat):EnvOK Tryz.prog GI (UBA n):=.cons (.nil) (UG1 n)
def Uja (n:Nat) (l0:Int→LP→LP→Int→Int→O R) (x1:Int) (x2 x3:LP) (x4 x5:Int) (k0:LP→Bool→O R) (k1:LP→O R):O R :=
 bif (decide (x5<x4)) then (bif (inR x5 ((x3).length)) then (Jh2 ((x3).getD ((x5:Int).toNat) (.v (.bool false))) fun a6=>JdT a6 fun h7 t8=>Jj .i64 h7 fun e9=>JdT t8 fun h10 t11=>Jj3 h10 fun e12=>Ji2 t11 (bif (decide (e9≥x1)) then (k0 x2 false) else (l0 x1 x2 x3 x4 (IntKind.i64.wrap (x5 + 1))))) else none) else (k1 x2)
def Uez (n:Nat):Nat→Int→LP→LP→Int→Int→(LP→Bool→O R)→(LP→O R)→O R
 | 0,_,_,_,_,_,_,_=>none
 | m + 1,x1,x2,x3,x4,x5,k0,k1=>Uja n (fun x1 x2 x3 x4 x5=>Uez n m x1 x2 x3 x4 x5 k0 k1) x1 x2 x3 x4 x5 k0 k1
def Uy9 (n:Nat) (x1:Int) (x2 x3:LP) (x4 x5:Int) (k0:LP→Bool→O R) (k1:LP→O R):O R:=Uez n n x1 x2 x3 x4 x5 k0 k1
def p76 (n:Nat) (x1:Int) (x2:LP) (k0:Bool→O R):O R :=
 Uy9 n x1 x2 x2 ((x2).length:Int) 0 (fun y3 y4=>k0 y4) (fun y5=>p52 n y5 ⟨#[48]⟩ (fun y6=>k0 (y6 == 0)))
abbrev E76 (n:Nat):Code→Fr→Kc R→O R:=evC Tryz.prog (UBA n) Uh5 n (22,[])
noncomputable def UxC:Code:=Jj4 (Jll Tryz.f76) [1,0,1,0,0]
abbrev UhG:Sl (List SV):=(cI (cH (cH (cI (cI .n)))))
abbrev Uto (n m:Nat) (K:Kc R):UhG.T (O R):=fun x1 x2 x3 x4 x5=>Uez n m x1 x2 x3 x4 x5 (fun y1 y2=>xL Uh5 2 K .ret [vH y1,vB y2]) (fun y1=>xL Uh5 2 K (.exit 0) [vH y1,dD])
abbrev UEw (n:Nat) (K:Kc R) (l0:UhG.T (O R)):UhG.T (O R):=fun x1 x2 x3 x4 x5=>Uja n l0 x1 x2 x3 x4 x5 (fun y1 y2=>xL Uh5 2 K .ret [vH y1,vB y2]) (fun y1=>xL Uh5 2 K (.exit 0) [vH y1,dD])
abbrev UOJ (n:Nat):Orc R:=oL Uh5 (E76 n) n 2 UxC UhG (Uto n n) oN
abbrev UNu (n:Nat):Orc R:=oN
abbrev K76 (R:Type) (n:Nat):=JcH (R:=R) Tryz.prog (UBA n) Uh5 n (22,[]) (UOJ n) (UNu n)
theorem UHW (n:Nat):K76 R n (false,2,UxC):=JkF (lo:=UOJ n) (cu:=UNu n) (pO pN (by kernel_rfl)) UhG (Uto n n) (JiE (F:=Uto n) UhG (UEw n) (fun K _ _ _ _ _=>rfl) (fun _ _=>rfl) (fun L K _ _ _ _ _=>by show _=_; kernel_rfl) n) fun _ _=>rfl
theorem UST (n:Nat):Je6 (K76 R n) (JaJ Uh5 (Jll Tryz.f76)):=pO (pC (UHW n) pN) (by kernel_rfl)
abbrev t76:Sl (List SV):=(cI (cH .n))
abbrev f76 (n:Nat) (K:List SV→O R):t76.T (O R):=fun x1 x2=>p76 n x1 x2 (fun y1=>K [vB y1])
abbrev UOi (n:Nat):FS:=fT [false,false] t76 (f76 n)
theorem URL (n:Nat):FSound Tryz.prog GI 76 (UOi n):=gd Uh5 n (Usa n) Tryz.func76 (.cons (Usa n) t76 (f76 n) (fun K _ _=>(Jkq (c:=Jll Tryz.f76) (by kernel_rfl) (UST n) K).trans (by kernel_rfl)) .nil) (by kernel_rfl)
def Udh:Ann:={ loops:=[(8,[(1,.id),(4,.id),(8,.cs [some 66,none]),(30,.id),(31,.id),(32,.id)],ids [4,5,8])],cuts:=[],frz:=[1000015,1000025,1000028,1000045],rm:=[.id,.id] }
abbrev UqU (n:Nat):Env:=eC 21 (UJZ n) eN
theorem Uni (n:Nat):EnvOK Tryz.prog GI (UqU n):=.cons (.nil) (UOQ n)
def UfI (n:Nat) (l0:ByteArray→ByteArray→LP→ByteArray→LP→Int→Int→O R) (x1 x2:ByteArray) (x3:LP) (x4:ByteArray) (x5:LP) (x6 x7:Int) (k0:ByteArray→Int→LP→ByteArray→O R) (k1:ByteArray→LP→ByteArray→O R):O R :=
 bif (decide (x7<x6)) then (bif (inR x7 ((x5).length)) then (Jh2 ((x5).getD ((x7:Int).toNat) (.v (.bool false))) fun a8=>JdT a8 fun h9 t10=>Jj .i64 h9 fun e11=>JdT t10 fun h12 t13=>Jj3 h12 fun e14=>Ji2 t13 (p21 n e14 x1 (fun y15 y16=>bif (y16 != 0) then (k0 ByteArray.empty y16 x3 x4) else (bif (Jbu ((x3).length + 1) 24) then (l0 x1 x2 (x3++([.agg [.v (.int .i64 e11),.v (.string y15)]]:LP)) x4 x5 x6 (IntKind.i64.wrap (x7 + 1))) else none)))) else none) else (k1 x2 x3 x4)
def Ucl (n:Nat):Nat→ByteArray→ByteArray→LP→ByteArray→LP→Int→Int→(ByteArray→Int→LP→ByteArray→O R)→(ByteArray→LP→ByteArray→O R)→O R
 | 0,_,_,_,_,_,_,_,_,_=>none
 | m + 1,x1,x2,x3,x4,x5,x6,x7,k0,k1=>UfI n (fun x1 x2 x3 x4 x5 x6 x7=>Ucl n m x1 x2 x3 x4 x5 x6 x7 k0 k1) x1 x2 x3 x4 x5 x6 x7 k0 k1
def Ut6 (n:Nat) (x1 x2:ByteArray) (x3:LP) (x4:ByteArray) (x5:LP) (x6 x7:Int) (k0:ByteArray→Int→LP→ByteArray→O R) (k1:ByteArray→LP→ByteArray→O R):O R:=Ucl n n x1 x2 x3 x4 x5 x6 x7 k0 k1
def UJc (n:Nat) (x1:LP) (x2 x3:ByteArray) (k0:LP→ByteArray→Int→O R):O R :=
 bif (eqS x3 (⟨#[48]⟩:ByteArray)) then (k0 [] ⟨#[48]⟩ 0) else (p21 n x2 x3 (fun y4 y5=>bif (y5 != 0) then (k0 [] ByteArray.empty y5) else (Ut6 n x3 ByteArray.empty [] y4 x1 ((x1).length:Int) 0 (fun y6 y7 y8 y9=>k0 [] y6 y7) (fun y10 y11 y12=>k0 y11 y12 0))))
abbrev UPh (n:Nat):Code→Fr→Kc R→O R:=evC Tryz.prog (UqU n) Udh n (58,[])
noncomputable def UpQ:Code:=Jj4 (Jll Tryz.f113) [1,1,1,1,1,0,1,0,0]
abbrev UeR:Sl (List SV):=(cS (.c (sBx 43 (.c sNl (cS .n))) (.c (sBx 43 (cO 66 (cS .n))) (cH (cI (cI .n))))))
abbrev Uk7 (n m:Nat) (K:Kc R):UeR.T (O R):=fun x1 x2 x3 x4 x5 x6 x7=>Ucl n m x1 x2 x3 x4 x5 x6 x7 (fun y1 y2 y3 y4=>xL Udh 8 K .ret [.bx 43 [.nl,vS y1],vI y2,.bx 43 [.own 66 y3,vS y4]]) (fun y1 y2 y3=>xL Udh 8 K (.exit 0) [.bx 43 [.nl,vS y1],dD,.bx 43 [.own 66 y2,vS y3]])
abbrev UAn (n:Nat) (K:Kc R) (l0:UeR.T (O R)):UeR.T (O R):=fun x1 x2 x3 x4 x5 x6 x7=>UfI n l0 x1 x2 x3 x4 x5 x6 x7 (fun y1 y2 y3 y4=>xL Udh 8 K .ret [.bx 43 [.nl,vS y1],vI y2,.bx 43 [.own 66 y3,vS y4]]) (fun y1 y2 y3=>xL Udh 8 K (.exit 0) [.bx 43 [.nl,vS y1],dD,.bx 43 [.own 66 y2,vS y3]])
abbrev UGB (n:Nat):Orc R:=oL Udh (UPh n) n 8 UpQ UeR (Uk7 n n) oN
abbrev UEO (n:Nat):Orc R:=oN
abbrev UM5 (R:Type) (n:Nat):=JcH (R:=R) Tryz.prog (UqU n) Udh n (58,[]) (UGB n) (UEO n)
theorem UCC (n:Nat):UM5 R n (false,8,UpQ):=JkF (lo:=UGB n) (cu:=UEO n) (pO pN (by kernel_rfl)) UeR (Uk7 n n) (JiE (F:=Uk7 n) UeR (UAn n) (fun K _ _ _ _ _ _ _=>rfl) (fun _ _=>rfl) (fun L K _ _ _ _ _ _ _=>by show _=_; kernel_rfl) n) fun _ _=>rfl
theorem ULL (n:Nat):Je6 (UM5 R n) (JaJ Udh (Jll Tryz.f113)):=pO (pC (UCC n) pN) (by kernel_rfl)
abbrev UMs:Sl (List SV):=(.c (sP (JlI (.c sSh (.c Jly .n)))) (cS .n))
abbrev f113 (n:Nat) (K:List SV→O R):UMs.T (O R):=fun x1 x2 x3=>UJc n x1 x2 x3 (fun y1 y2 y3=>K [.p (.agg [.sh y1,.v (.string y2)]),vI y3])
abbrev UF0 (n:Nat):FS:=fT [false,false] UMs (f113 n)
theorem UKR (n:Nat):FSound Tryz.prog GI 113 (UF0 n):=gd Udh n (Uni n) Tryz.func113 (.cons (Uni n) UMs (f113 n) (fun K _ _ _=>(Jkq (c:=Jll Tryz.f113) (by kernel_rfl) (ULL n) K).trans (by kernel_rfl)) .nil) (by kernel_rfl)
def Uz2:Ann:={ loops:=[],cuts:=[],frz:=[],rm:=[.id,.id] }
abbrev UFw (n:Nat):Env:=eC 113 (UF0 n) (eC 53 (UB0 n) (eC 52 (UDM n) eN))
theorem Ur9 (n:Nat):EnvOK Tryz.prog GI (UFw n):=.cons (.cons (.cons (.nil) (UG1 n)) (UDR n)) (UKR n)
def p74 (n:Nat) (x1:LP) (x2 x3:ByteArray) (k0:LP→ByteArray→Int→O R):O R :=
 p52 n x1 x2 (fun y4=>bif (y4 != 0) then (k0 [] ByteArray.empty 3) else (p53 n x3 (fun y5=>bif (bif false then true else (!y5)) then (k0 [] ByteArray.empty 3) else (UJc n x1 x2 x3 (fun y6 y7 y8=>k0 y6 y7 y8)))))
abbrev UQY (n:Nat):Orc R:=oN
abbrev UQc (n:Nat):Orc R:=oN
abbrev K74 (R:Type) (n:Nat):=JcH (R:=R) Tryz.prog (UFw n) Uz2 n (20,[]) (UQY n) (UQc n)
theorem USR (n:Nat):Je6 (K74 R n) (JaJ Uz2 (Jll Tryz.f74)):=pO pN (by kernel_rfl)
abbrev t74:Sl (List SV):=(.c (sP (JlI (.c sSh (.c Jly .n)))) (cS .n))
abbrev f74 (n:Nat) (K:List SV→O R):t74.T (O R):=fun x1 x2 x3=>p74 n x1 x2 x3 (fun y1 y2 y3=>K [.p (.agg [.sh y1,.v (.string y2)]),vI y3])
abbrev UOg (n:Nat):FS:=fT [false,false] t74 (f74 n)
theorem URJ (n:Nat):FSound Tryz.prog GI 74 (UOg n):=gd Uz2 n (Ur9 n) Tryz.func74 (.cons (Ur9 n) t74 (f74 n) (fun K _ _ _=>(Jkq (c:=Jll Tryz.f74) (by kernel_rfl) (USR n) K).trans (by kernel_rfl)) .nil) (by kernel_rfl)
def UaI:Ann:={ loops:=[(6,[(2,.id),(3,.id),(4,.id),(8,.cs [some 66,none]),(9,.id),(10,.id)],ids [4,5,8])],cuts:=[(12,ids [2,3,4,8,9,10],ids [2,3,4,5,8,9,10]),(14,ids [2,3,4,8,9,10],ids [2,3,4,5,8,9,10]),(15,ids [2,3,4,8,9,10,78],ids [2,3,4,5,8,9,10]),(18,ids [2,3,4,8,9,10,118],ids [2,3,4,5,8,9,10])],frz:=[1000023,1000026,1000057],rm:=[.id,.id] }
abbrev UqV (n:Nat):Env:=eC 22 (UJ0 n) eN
theorem Unj (n:Nat):EnvOK Tryz.prog GI (UqV n):=.cons (.nil) (UOR n)
def Ucm (n:Nat) (x1:LP) (x2:ByteArray) (x3:LP) (x4 x5:ByteArray) (x6:LP) (x7:ByteArray) (x8 x9:Int) (k0:LP→ByteArray→LP→ByteArray→ByteArray→LP→ByteArray→Int→Int→O R):O R :=
 k0 x1 x2 x3 x4 x5 x6 x7 (IntKind.i64.wrap (x8 + 1)) (IntKind.i64.wrap (x9 + 1))
def Ubh (n:Nat) (x1:LP) (x2:ByteArray) (x3:LP) (x4 x5:ByteArray) (x6:LP) (x7:ByteArray) (x8 x9:Int) (x10:Bool) (k0:LP→ByteArray→LP→ByteArray→ByteArray→LP→ByteArray→Int→Int→O R) (k1:LP→ByteArray→LP→ByteArray→ByteArray→Int→LP→ByteArray→Int→Int→O R):O R :=
 bif x10 then (bif (inR x9 ((x3).length)) then (Jh2 ((x3).getD ((x9:Int).toNat) (.v (.bool false))) fun a11=>JdT a11 fun h12 t13=>Jj .i64 h12 fun e14=>JdT t13 fun h15 t16=>Jj3 h15 fun e17=>Ji2 t16 (bif (Jbu ((x6).length + 1) 24) then (k0 x1 x2 x3 x4 x5 (x6++([.agg [.v (.int .i64 e14),.v (.string e17)]]:LP)) x7 x8 (IntKind.i64.wrap (x9 + 1))) else none)) else none) else (bif (inR x8 ((x1).length)) then (Jh2 ((x1).getD ((x8:Int).toNat) (.v (.bool false))) fun a18=>JdT a18 fun h19 t20=>Jj .i64 h19 fun e21=>JdT t20 fun h22 t23=>Jj3 h22 fun e24=>Ji2 t23 (bif (inR x9 ((x3).length)) then (Jh2 ((x3).getD ((x9:Int).toNat) (.v (.bool false))) fun a25=>JdT a25 fun h26 t27=>Jj .i64 h26 fun e28=>JdT t27 fun h29 t30=>Jj3 h29 fun e31=>Ji2 t30 (p22 n e24 e31 (fun y32 y33=>bif (y33 != 0) then (k1 x1 x2 x3 x4 ByteArray.empty y33 x6 x7 x8 x9) else (bif (!eqS y32 (⟨#[48]⟩:ByteArray)) then (bif (inR x8 ((x1).length)) then (Jh2 ((x1).getD ((x8:Int).toNat) (.v (.bool false))) fun a34=>JdT a34 fun h35 t36=>Jj .i64 h35 fun e37=>JdT t36 fun h38 t39=>Jj3 h38 fun e40=>Ji2 t39 (bif (Jbu ((x6).length + 1) 24) then (Ucm n x1 x2 x3 x4 x5 (x6++([.agg [.v (.int .i64 e37),.v (.string y32)]]:LP)) x7 x8 x9 (fun y41 y42 y43 y44 y45 y46 y47 y48 y49=>k0 y41 y42 y43 y44 y45 y46 y47 y48 y49)) else none)) else none) else (Ucm n x1 x2 x3 x4 x5 x6 x7 x8 x9 (fun y50 y51 y52 y53 y54 y55 y56 y57 y58=>k0 y50 y51 y52 y53 y54 y55 y56 y57 y58)))))) else none)) else none)
def UaM (n:Nat) (x1:LP) (x2:ByteArray) (x3:LP) (x4 x5:ByteArray) (x6:LP) (x7:ByteArray) (x8 x9:Int) (x10:Bool) (k0:LP→ByteArray→LP→ByteArray→ByteArray→LP→ByteArray→Int→Int→O R) (k1:LP→ByteArray→LP→ByteArray→ByteArray→Int→LP→ByteArray→Int→Int→O R):O R :=
 bif x10 then (bif (inR x8 ((x1).length)) then (Jh2 ((x1).getD ((x8:Int).toNat) (.v (.bool false))) fun a11=>JdT a11 fun h12 t13=>Jj .i64 h12 fun e14=>JdT t13 fun h15 t16=>Jj3 h15 fun e17=>Ji2 t16 (bif (Jbu ((x6).length + 1) 24) then (k0 x1 x2 x3 x4 x5 (x6++([.agg [.v (.int .i64 e14),.v (.string e17)]]:LP)) x7 (IntKind.i64.wrap (x8 + 1)) x9) else none)) else none) else (bif (x8 == ((x1).length:Int)) then (Ubh n x1 x2 x3 x4 x5 x6 x7 x8 x9 true (fun y18 y19 y20 y21 y22 y23 y24 y25 y26=>k0 y18 y19 y20 y21 y22 y23 y24 y25 y26) (fun y27 y28 y29 y30 y31 y32 y33 y34 y35 y36=>k1 y27 y28 y29 y30 y31 y32 y33 y34 y35 y36)) else (bif (inR x9 ((x3).length)) then (Jh2 ((x3).getD ((x9:Int).toNat) (.v (.bool false))) fun a37=>JdT a37 fun h38 t39=>Jj .i64 h38 fun e40=>JdT t39 fun h41 t42=>Jj3 h41 fun e43=>Ji2 t42 (bif (inR x8 ((x1).length)) then (Jh2 ((x1).getD ((x8:Int).toNat) (.v (.bool false))) fun a44=>JdT a44 fun h45 t46=>Jj .i64 h45 fun e47=>JdT t46 fun h48 t49=>Jj3 h48 fun e50=>Ji2 t49 (Ubh n x1 x2 x3 x4 x5 x6 x7 x8 x9 (bif false then true else (decide (e40<e47))) (fun y51 y52 y53 y54 y55 y56 y57 y58 y59=>k0 y51 y52 y53 y54 y55 y56 y57 y58 y59) (fun y60 y61 y62 y63 y64 y65 y66 y67 y68 y69=>k1 y60 y61 y62 y63 y64 y65 y66 y67 y68 y69))) else none)) else none))
def UaV (n:Nat) (x1:LP) (x2:ByteArray) (x3:LP) (x4 x5:ByteArray) (x6:LP) (x7:ByteArray) (x8 x9:Int) (k0:LP→ByteArray→LP→ByteArray→ByteArray→LP→ByteArray→Int→Int→O R) (k1:LP→ByteArray→LP→ByteArray→ByteArray→Int→LP→ByteArray→Int→Int→O R):O R :=
 bif (x9 == ((x3).length:Int)) then (UaM n x1 x2 x3 x4 x5 x6 x7 x8 x9 true (fun y10 y11 y12 y13 y14 y15 y16 y17 y18=>k0 y10 y11 y12 y13 y14 y15 y16 y17 y18) (fun y19 y20 y21 y22 y23 y24 y25 y26 y27 y28=>k1 y19 y20 y21 y22 y23 y24 y25 y26 y27 y28)) else (bif (decide (x8<((x1).length:Int))) then (bif (inR x8 ((x1).length)) then (Jh2 ((x1).getD ((x8:Int).toNat) (.v (.bool false))) fun a29=>JdT a29 fun h30 t31=>Jj .i64 h30 fun e32=>JdT t31 fun h33 t34=>Jj3 h33 fun e35=>Ji2 t34 (bif (inR x9 ((x3).length)) then (Jh2 ((x3).getD ((x9:Int).toNat) (.v (.bool false))) fun a36=>JdT a36 fun h37 t38=>Jj .i64 h37 fun e39=>JdT t38 fun h40 t41=>Jj3 h40 fun e42=>Ji2 t41 (UaM n x1 x2 x3 x4 x5 x6 x7 x8 x9 (bif false then true else (bif true then (decide (e32<e39)) else false)) (fun y43 y44 y45 y46 y47 y48 y49 y50 y51=>k0 y43 y44 y45 y46 y47 y48 y49 y50 y51) (fun y52 y53 y54 y55 y56 y57 y58 y59 y60 y61=>k1 y52 y53 y54 y55 y56 y57 y58 y59 y60 y61))) else none)) else none) else (UaM n x1 x2 x3 x4 x5 x6 x7 x8 x9 false (fun y62 y63 y64 y65 y66 y67 y68 y69 y70=>k0 y62 y63 y64 y65 y66 y67 y68 y69 y70) (fun y71 y72 y73 y74 y75 y76 y77 y78 y79 y80=>k1 y71 y72 y73 y74 y75 y76 y77 y78 y79 y80)))
def UiB (n:Nat) (l0:LP→ByteArray→LP→ByteArray→ByteArray→LP→ByteArray→Int→Int→O R) (x1:LP) (x2:ByteArray) (x3:LP) (x4 x5:ByteArray) (x6:LP) (x7:ByteArray) (x8 x9:Int) (k0:ByteArray→Int→LP→ByteArray→O R) (k1:ByteArray→LP→ByteArray→O R):O R :=
 bif (decide (x8<((x1).length:Int))) then (UaV n x1 x2 x3 x4 x5 x6 x7 x8 x9 (fun y10 y11 y12 y13 y14 y15 y16 y17 y18=>l0 y10 y11 y12 y13 y14 y15 y16 y17 y18) (fun y19 y20 y21 y22 y23 y24 y25 y26 y27 y28=>k0 y23 y24 y25 y26)) else (bif (bif false then true else (decide (x9<((x3).length:Int)))) then (UaV n x1 x2 x3 x4 x5 x6 x7 x8 x9 (fun y29 y30 y31 y32 y33 y34 y35 y36 y37=>l0 y29 y30 y31 y32 y33 y34 y35 y36 y37) (fun y38 y39 y40 y41 y42 y43 y44 y45 y46 y47=>k0 y42 y43 y44 y45)) else (k1 x5 x6 x7))
def UdG (n:Nat):Nat→LP→ByteArray→LP→ByteArray→ByteArray→LP→ByteArray→Int→Int→(ByteArray→Int→LP→ByteArray→O R)→(ByteArray→LP→ByteArray→O R)→O R
 | 0,_,_,_,_,_,_,_,_,_,_,_=>none
 | m + 1,x1,x2,x3,x4,x5,x6,x7,x8,x9,k0,k1=>UiB n (fun x1 x2 x3 x4 x5 x6 x7 x8 x9=>UdG n m x1 x2 x3 x4 x5 x6 x7 x8 x9 k0 k1) x1 x2 x3 x4 x5 x6 x7 x8 x9 k0 k1
def Ut7 (n:Nat) (x1:LP) (x2:ByteArray) (x3:LP) (x4 x5:ByteArray) (x6:LP) (x7:ByteArray) (x8 x9:Int) (k0:ByteArray→Int→LP→ByteArray→O R) (k1:ByteArray→LP→ByteArray→O R):O R:=UdG n n x1 x2 x3 x4 x5 x6 x7 x8 x9 k0 k1
def UJd (n:Nat) (x1:LP) (x2:ByteArray) (x3:LP) (x4:ByteArray) (k0:LP→ByteArray→Int→O R):O R :=
 p22 n x2 x4 (fun y5 y6=>bif (y6 != 0) then (k0 [] ByteArray.empty y6) else (Ut7 n x1 x2 x3 x4 ByteArray.empty [] y5 0 0 (fun y7 y8 y9 y10=>k0 [] y7 y8) (fun y11 y12 y13=>k0 y12 y13 0)))
abbrev UD0 (n:Nat):Code→Fr→Kc R→O R:=evC Tryz.prog (UqV n) UaI n (152,[])
noncomputable def UmA:Code:=Jj4 (Jll Tryz.f114) [1,1,1,1,1,0,0,0,1,0,0,1,1,1,1,1,1,1]
abbrev UjB:Sl (List SV):=(.c (sBx 43 (cH (cS .n))) (.c (sBx 43 (cH (cS .n))) (.c (sBx 43 (.c sNl (cS .n))) (.c (sBx 43 (cO 66 (cS .n))) (cI (cI .n))))))
abbrev UnR (n:Nat) (K:Kc R):UjB.T (O R):=fun x1 x2 x3 x4 x5 x6 x7 x8 x9=>Ucm n x1 x2 x3 x4 x5 x6 x7 x8 x9 (fun y1 y2 y3 y4 y5 y6 y7 y8 y9=>xC UaI 12 K .normal [.bx 43 [vH y1,vS y2],.bx 43 [vH y3,vS y4],.bx 43 [.nl,vS y5],dD,.bx 43 [.own 66 y6,vS y7],vI y8,vI y9])
noncomputable def UmB:Code:=Jj4 (Jll Tryz.f114) [1,1,1,1,1,0,0,0,1]
abbrev UjC:Sl (List SV):=(.c (sBx 43 (cH (cS .n))) (.c (sBx 43 (cH (cS .n))) (.c (sBx 43 (.c sNl (cS .n))) (.c (sBx 43 (cO 66 (cS .n))) (cI (cI .n))))))
abbrev UnS (n:Nat) (K:Kc R):UjC.T (O R):=fun x1 x2 x3 x4 x5 x6 x7 x8 x9=>UaV n x1 x2 x3 x4 x5 x6 x7 x8 x9 (fun y1 y2 y3 y4 y5 y6 y7 y8 y9=>xC UaI 14 K .normal [.bx 43 [vH y1,vS y2],.bx 43 [vH y3,vS y4],.bx 43 [.nl,vS y5],dD,.bx 43 [.own 66 y6,vS y7],vI y8,vI y9]) (fun y1 y2 y3 y4 y5 y6 y7 y8 y9 y10=>xC UaI 14 K .ret [.bx 43 [vH y1,vS y2],.bx 43 [vH y3,vS y4],.bx 43 [.nl,vS y5],vI y6,.bx 43 [.own 66 y7,vS y8],vI y9,vI y10])
noncomputable def UmC:Code:=Jj4 (Jll Tryz.f114) [1,1,1,1,1,0,0,0,1,0,0,1]
abbrev UjD:Sl (List SV):=(.c (sBx 43 (cH (cS .n))) (.c (sBx 43 (cH (cS .n))) (.c (sBx 43 (.c sNl (cS .n))) (.c (sBx 43 (cO 66 (cS .n))) (cI (cI (cB .n)))))))
abbrev UnT (n:Nat) (K:Kc R):UjD.T (O R):=fun x1 x2 x3 x4 x5 x6 x7 x8 x9 x10=>UaM n x1 x2 x3 x4 x5 x6 x7 x8 x9 x10 (fun y1 y2 y3 y4 y5 y6 y7 y8 y9=>xC UaI 15 K .normal [.bx 43 [vH y1,vS y2],.bx 43 [vH y3,vS y4],.bx 43 [.nl,vS y5],dD,.bx 43 [.own 66 y6,vS y7],vI y8,vI y9]) (fun y1 y2 y3 y4 y5 y6 y7 y8 y9 y10=>xC UaI 15 K .ret [.bx 43 [vH y1,vS y2],.bx 43 [vH y3,vS y4],.bx 43 [.nl,vS y5],vI y6,.bx 43 [.own 66 y7,vS y8],vI y9,vI y10])
noncomputable def UmD:Code:=Jj4 (Jll Tryz.f114) [1,1,1,1,1,0,0,0,1,0,0,1,1,1]
abbrev UjE:Sl (List SV):=(.c (sBx 43 (cH (cS .n))) (.c (sBx 43 (cH (cS .n))) (.c (sBx 43 (.c sNl (cS .n))) (.c (sBx 43 (cO 66 (cS .n))) (cI (cI (cB .n)))))))
abbrev UnU (n:Nat) (K:Kc R):UjE.T (O R):=fun x1 x2 x3 x4 x5 x6 x7 x8 x9 x10=>Ubh n x1 x2 x3 x4 x5 x6 x7 x8 x9 x10 (fun y1 y2 y3 y4 y5 y6 y7 y8 y9=>xC UaI 18 K .normal [.bx 43 [vH y1,vS y2],.bx 43 [vH y3,vS y4],.bx 43 [.nl,vS y5],dD,.bx 43 [.own 66 y6,vS y7],vI y8,vI y9]) (fun y1 y2 y3 y4 y5 y6 y7 y8 y9 y10=>xC UaI 18 K .ret [.bx 43 [vH y1,vS y2],.bx 43 [vH y3,vS y4],.bx 43 [.nl,vS y5],vI y6,.bx 43 [.own 66 y7,vS y8],vI y9,vI y10])
noncomputable def UpR:Code:=Jj4 (Jll Tryz.f114) [1,1,1,1,1,0,0,0]
abbrev UeS:Sl (List SV):=(.c (sBx 43 (cH (cS .n))) (.c (sBx 43 (cH (cS .n))) (.c (sBx 43 (.c sNl (cS .n))) (.c (sBx 43 (cO 66 (cS .n))) (cI (cI .n))))))
abbrev Uk8 (n m:Nat) (K:Kc R):UeS.T (O R):=fun x1 x2 x3 x4 x5 x6 x7 x8 x9=>UdG n m x1 x2 x3 x4 x5 x6 x7 x8 x9 (fun y1 y2 y3 y4=>xL UaI 6 K .ret [.bx 43 [.nl,vS y1],vI y2,.bx 43 [.own 66 y3,vS y4]]) (fun y1 y2 y3=>xL UaI 6 K (.exit 0) [.bx 43 [.nl,vS y1],dD,.bx 43 [.own 66 y2,vS y3]])
abbrev UAo (n:Nat) (K:Kc R) (l0:UeS.T (O R)):UeS.T (O R):=fun x1 x2 x3 x4 x5 x6 x7 x8 x9=>UiB n l0 x1 x2 x3 x4 x5 x6 x7 x8 x9 (fun y1 y2 y3 y4=>xL UaI 6 K .ret [.bx 43 [.nl,vS y1],vI y2,.bx 43 [.own 66 y3,vS y4]]) (fun y1 y2 y3=>xL UaI 6 K (.exit 0) [.bx 43 [.nl,vS y1],dD,.bx 43 [.own 66 y2,vS y3]])
abbrev Uo0 (n:Nat):Orc R:=oL UaI (UD0 n) n 6 UpR UeS (Uk8 n n) oN
abbrev UoT (n:Nat):Orc R:=oC UaI (UD0 n) 18 UmD UjE (UnU n) (oC UaI (UD0 n) 15 UmC UjD (UnT n) (oC UaI (UD0 n) 14 UmB UjC (UnS n) (oC UaI (UD0 n) 12 UmA UjB (UnR n) oN)))
abbrev UDD (R:Type) (n:Nat):=JcH (R:=R) Tryz.prog (UqV n) UaI n (152,[]) (Uo0 n) (UoT n)
theorem Uwr (n:Nat):UDD R n (true,12,UmA):=JkW (lo:=Uo0 n) (cu:=UoT n) (pO pN (by kernel_rfl)) UjB (UnR n) (fun K _ _ _ _ _ _ _ _ _=>by show _=_; kernel_rfl) fun _ _=>rfl
theorem Uwu (n:Nat):UDD R n (true,18,UmD):=JkW (lo:=Uo0 n) (cu:=UoT n) (pO (pC (Uwr n) pN) (by kernel_rfl)) UjE (UnU n) (fun K _ _ _ _ _ _ _ _ _ _=>by show _=_; kernel_rfl) fun _ _=>rfl
theorem Uwt (n:Nat):UDD R n (true,15,UmC):=JkW (lo:=Uo0 n) (cu:=UoT n) (pO (pC (Uwu n) pN) (by kernel_rfl)) UjD (UnT n) (fun K _ _ _ _ _ _ _ _ _ _=>by show _=_; kernel_rfl) fun _ _=>rfl
theorem Uws (n:Nat):UDD R n (true,14,UmB):=JkW (lo:=Uo0 n) (cu:=UoT n) (pO (pC (Uwt n) pN) (by kernel_rfl)) UjC (UnS n) (fun K _ _ _ _ _ _ _ _ _=>by show _=_; kernel_rfl) fun _ _=>rfl
theorem UCD (n:Nat):UDD R n (false,6,UpR):=JkF (lo:=Uo0 n) (cu:=UoT n) (pO (pC (Uws n) pN) (by kernel_rfl)) UeS (Uk8 n n) (JiE (F:=Uk8 n) UeS (UAo n) (fun K _ _ _ _ _ _ _ _ _=>rfl) (fun _ _=>rfl) (fun L K _ _ _ _ _ _ _ _ _=>by show _=_; kernel_rfl) n) fun _ _=>rfl
theorem ULM (n:Nat):Je6 (UDD R n) (JaJ UaI (Jll Tryz.f114)):=pO (pC (UCD n) pN) (by kernel_rfl)
abbrev UMt:Sl (List SV):=(.c (sP (JlI (.c sSh (.c Jly .n)))) (.c (sP (JlI (.c sSh (.c Jly .n)))) .n))
abbrev f114 (n:Nat) (K:List SV→O R):UMt.T (O R):=fun x1 x2 x3 x4=>UJd n x1 x2 x3 x4 (fun y1 y2 y3=>K [.p (.agg [.sh y1,.v (.string y2)]),vI y3])
abbrev UF1 (n:Nat):FS:=fT [false,false] UMt (f114 n)
theorem UKS (n:Nat):FSound Tryz.prog GI 114 (UF1 n):=gd UaI n (Unj n) Tryz.func114 (.cons (Unj n) UMt (f114 n) (fun K _ _ _ _=>(Jkq (c:=Jll Tryz.f114) (by kernel_rfl) (ULM n) K).trans (by kernel_rfl)) .nil) (by kernel_rfl)
def Uz3:Ann:={ loops:=[],cuts:=[],frz:=[],rm:=[.id,.id] }
abbrev UFx (n:Nat):Env:=eC 114 (UF1 n) (eC 52 (UDM n) eN)
theorem Us (n:Nat):EnvOK Tryz.prog GI (UFx n):=.cons (.cons (.nil) (UG1 n)) (UKS n)
def p75 (n:Nat) (x1:LP) (x2:ByteArray) (x3:LP) (x4:ByteArray) (k0:LP→ByteArray→Int→O R):O R :=
 p52 n x1 x2 (fun y5=>bif (y5 != 0) then (k0 [] ByteArray.empty 3) else (p52 n x3 x4 (fun y6=>bif (bif false then true else (y6 != 0)) then (k0 [] ByteArray.empty 3) else (UJd n x1 x2 x3 x4 (fun y7 y8 y9=>k0 y7 y8 y9)))))
abbrev UQZ (n:Nat):Orc R:=oN
abbrev UQd (n:Nat):Orc R:=oN
abbrev K75 (R:Type) (n:Nat):=JcH (R:=R) Tryz.prog (UFx n) Uz3 n (20,[]) (UQZ n) (UQd n)
theorem USS (n:Nat):Je6 (K75 R n) (JaJ Uz3 (Jll Tryz.f75)):=pO pN (by kernel_rfl)
abbrev t75:Sl (List SV):=(.c (sP (JlI (.c sSh (.c Jly .n)))) (.c (sP (JlI (.c sSh (.c Jly .n)))) .n))
abbrev f75 (n:Nat) (K:List SV→O R):t75.T (O R):=fun x1 x2 x3 x4=>p75 n x1 x2 x3 x4 (fun y1 y2 y3=>K [.p (.agg [.sh y1,.v (.string y2)]),vI y3])
abbrev UOh (n:Nat):FS:=fT [false,false] t75 (f75 n)
theorem URK (n:Nat):FSound Tryz.prog GI 75 (UOh n):=gd Uz3 n (Us n) Tryz.func75 (.cons (Us n) t75 (f75 n) (fun K _ _ _ _=>(Jkq (c:=Jll Tryz.f75) (by kernel_rfl) (USS n) K).trans (by kernel_rfl)) .nil) (by kernel_rfl)
end
end Go.Proofs.YtmgfmlhdnadglaaGreatDoor
set_option linter.unusedVariables false
set_option linter.unusedSimpArgs false
namespace Go.Proofs.YtmgfmlhdnadglaaGreatDoor
open Go Th Go.Proofs
variable {R:Type}
noncomputable def aQ (l:List TermT):Bool:=l.all fun t=>qb t.2
def inC (c:Int):Bool:=decide (0≤c)&&decide (c<2048)
def aC (l:List TermT):Bool:=l.all fun t=>inC t.1
def aO:Int→List TermT→Bool
 | _,[]=>true
 | last,t::r=>if t.2=[48] then false else if t.1≤last then false else aO t.1 r
noncomputable def UoZ (l:List TermT) (c:List UInt8):Int:=if qb c=true then (if aQ l=true then (if aC l=true then (if aO (-1) l=true then 0 else 3) else 2) else 3) else 3
theorem Ub5:∀ {l:List TermT} {last:Int},-1≤last→(okT 2048 last l=true↔(aQ l=true∧aC l=true∧aO last l=true))
 | [],last,_=>by simp [okT,aQ,aC,aO]
 | t::l,last,h=>by
  have ih:=fun (h':-1≤t.1)=>Ub5 (l:=l) (last:=t.1) h'
  simp only [okT,aQ,aC,aO,List.all_cons,Bool.and_eq_true] at ih ⊢
  by_cases h1:t.1≤last
  · simp [h1]
  · have h1':=ih (by omega)
    have e0:inC t.1=decide (t.1<2048):=by
     unfold inC
     rw [decide_eq_true (by omega:0≤t.1),Bool.true_and]
    by_cases h2:t.1≥2048
    · have e1:inC t.1=false:=by rw [e0]; simp; omega
      simp [h1,h2,e1]
    · have e1:inC t.1=true:=by rw [e0]; simp; omega
      by_cases h3:t.2=[48]
      · simp [h1,h2,h3]
      · rw [if_neg h1,if_neg h2,if_neg h3,if_neg h3,if_neg h1,Bool.and_eq_true,h1',e1]
        grind
theorem Ug0 {l:List TermT} {c:List UInt8}:UoZ l c=0↔(okT 2048 (-1) l=true∧qb c=true):=by
 rw [Ub5 (by omega)]
 unfold UoZ
 cases qb c <;> cases aQ l <;> cases aC l <;> cases aO (-1) l <;> simp
theorem Uz (n:Nat) (x:Int) (k0:Bool→Option R):p80 n x k0=k0 (inC x):=by
 unfold p80 inC
 by_cases h:x≥0
 · have e:decide (x≥0)=true:=decide_eq_true h
   rw [e]; rfl
 · have e:decide (x≥0)=false:=decide_eq_false h
   rw [e]; rfl
theorem UAT (n:Nat) (l:List TermT) (hn:l.length<n) (hl:l.length<2 ^ 17) (k0:Int→Option R) (k1:Option R):UgD n (-1) (tms l) ((tms l).length:Int) 0 k0 k1=if aO (-1) l=true then k1 else k0 3:=by
 unfold UgD
 have key:∀ (r:List TermT) (last:Int),Uzk (fun (s:Int) (t:TermT) K=>if t.2=[48] then k0 3 else if t.1≤s then k0 3 else K t.1) (fun _=>k1) last r=if aO last r=true then k1 else k0 3:=by
  intro r
  induction r with
  | nil=>intro last; rfl
  | cons t r ih =>
   intro last
   simp only [Uzk,aO]
   by_cases h1:t.2=[48]
   · simp [h1]
   · by_cases h2:t.1≤last
     · simp [h1,h2]
     · simp [h1,h2,ih]
 have h:=UgI (R:=R) (l:=l) (step:=fun (s:Int) (t:TermT) K=>if t.2=[48] then k0 3 else if t.1≤s then k0 3 else K t.1) (kend:=fun _=>k1)
  (fun m s i=>UcD n m s (tms l) ((tms l).length:Int) (i:Int) k0 k1)
  (fun m s=>by simp only [UcD,Uf0]; simp (disch:=(first | omega | (simp only [JlE]; omega))) only [↓JlH,JlF,Ua])
  (fun m s i hi=>by
    simp only [UcD,Uf0]
    by_cases h1:(l[i]).2=[48]
    · simp (disch:=(first | omega | (simp only [JlE]; omega))) only [↓JlH,JlF,Ua,Jji,Uas hi,i1,Uj1 h1]
    · by_cases h2:(l[i]).1≤s
      · simp (disch:=(first | omega | (simp only [JlE]; omega))) only [↓JlH,JlF,Ua,Jji,Uas hi,i1,Ugi h1]
      · simp (disch:=(first | omega | (simp only [JlE]; omega))) only [↓JlH,JlF,Ua,Jji,Uas hi,i1,Ugi h1]) l.length n 0 (-1) (by omega) (by omega)
 rw [List.drop_zero,key] at h
 exact h
theorem Uia (n:Nat) (hn:10 ^ 400≤n) (l:List TermT) (c:List UInt8) (hl:smT l) (hc:c.length<2 ^ 17) (k0:Int→Option R):p52 n (tms l) (bs c) k0=k0 (UoZ l c):=by
 have hN:=Ual hn
 have hL:=hl.1
 have e3:=UAT (R:=R) n l (by omega) hL k0 (k0 0)
 have h4:=Uaj (R:=R) (l:=l) (ok:=fun t=>qb t.2) (kbad:=k0 3) (kend:=if aC l=true then (if aO (-1) l=true then k0 0 else k0 3) else k0 2)
  (fun m i=>Uer n m (tms l) (bs c) (tms l) ((tms l).length:Int) (i:Int) (fun y4 y5 y6=>k0 y6) (fun y7 y8=>UlI n y7 y8 y7 ((y7).length:Int) 0 (fun y9 y10 y11=>k0 y11) (fun y12 y13=>UgD n (-1) y12 ((y12).length:Int) 0 (fun y14=>k0 y14) (k0 0))))
  (fun m=>by
    have h10:=Uaj (R:=R) (l:=l) (ok:=fun t=>inC t.1) (kbad:=k0 2) (kend:=if aO (-1) l=true then k0 0 else k0 3)
     (fun m i=>UcC n m (tms l) (bs c) (tms l) ((tms l).length:Int) (i:Int) (fun y9 y10 y11=>k0 y11) (fun y12 y13=>UgD n (-1) y12 ((y12).length:Int) 0 (fun y14=>k0 y14) (k0 0)))
     (fun m=>by
       simp only [UcC,UfZ]
       simp (disch:=(first | omega | (simp only [JlE]; omega))) only [↓JlH,JlF,Ua]
       rw [Ua] at e3
       exact e3)
     (fun m i hi=>by
       have hv:=fun k=>Uz (R:=R) n (l[i]).1 k
       simp only [UcC,UfZ]
       simp (disch:=(first | omega | (simp only [JlE]; omega))) only [↓JlH,JlF,Ua,Jji,Uas hi,i1,hv]
       cases inC (l[i]).1 <;> rfl) l.length n 0 (by omega) (by omega)
    rw [List.drop_zero] at h10
    simp only [Uer,Ui1]
    unfold UlI
    simp (disch:=(first | omega | (simp only [JlE]; omega))) only [↓JlH,JlF,Ua]
    rw [Ua] at h10
    exact h10)
  (fun m i hi=>by
    have hv:=fun k=>Ucc (R:=R) n hn (l[i]).2 (hl.2 _ (List.getElem_mem hi)) k
    simp only [Uer,Ui1]
    simp (disch:=(first | omega | (simp only [JlE]; omega))) only [↓JlH,JlF,Ua,Jji,Uas hi,i1,hv]
    cases qb (l[i]).2 <;> rfl) l.length n 0 (by omega) (by omega)
 rw [List.drop_zero] at h4
 unfold p52
 rw [Ucc n hn c hc]
 unfold UoZ Uy1
 cases qb c with
 | false=>rfl
 | true =>
  refine Eq.trans h4 ?_
  unfold aQ
  cases (l.all fun t=>qb t.2) <;> cases aC l <;> cases aO (-1) l <;> rfl
theorem UgH {q:Rat} (h:fits q):(Uae q).length<2 ^ 17:=Nat.lt_of_le_of_lt (Ua5 h) (by decide)
theorem UDB {cols:Int} {l:List SpT} (h:okN cols l) (hl:l.length<2 ^ 17):smT (vt l):=by
 refine ⟨by rw [Uak]; exact hl,fun t ht=>?_⟩
 unfold vt at ht
 obtain ⟨x,hx,rfl⟩:=List.mem_map.1 ht
 exact UgH (h x hx).2.1
theorem UpB {cols:Int}:∀ {l:List SpT} {a:Int},asc a l→okN cols l→a<cols→(l.length:Int)≤cols - a - 1
 | [],a,_,_,h=>by simp only [List.length_nil]; omega
 | t::l,a,h1,h2,h=>by
  have h3:=(h2 t (List.mem_cons_self ..)).2.2
  have:=UpB h1.2 (fun x hx=>h2 x (List.mem_cons_of_mem _ hx)) h3
  have:=h1.1
  rw [List.length_cons]
  omega
theorem UaZ {l:List SpT} (h:okS 2048 l):l.length≤2048:=by
 have:=UpB h.1 h.2 (by decide)
 omega
theorem Udq (n:Nat) (hn:10 ^ 400≤n) {r:SpR} (hr:okF 2048 r) (k0:Int→Option R):p52 n (tms (vt r.1)) (bs (Uae r.2)) k0=k0 0:=by
 have:=UaZ hr.1
 rw [Uia n hn (vt r.1) (Uae r.2) (UDB hr.1.2 (by omega)) (UgH hr.2),Ug0.2 ⟨Ukg hr.1.1 hr.1.2,Udy hr.2⟩]
noncomputable def Udr (cols:Int) (l:List TermT):Bool:=okT cols (-1) l
theorem Uiw {cols:Int} (hc:cols≤2048):∀ {l:List TermT} {last:Int},okT cols last l=true↔((l.all fun t=>decide (t.1<cols))=true∧okT 2048 last l=true)
 | [],last=>by simp [okT]
 | t::l,last=>by
  have ih:=Uiw hc (l:=l) (last:=t.1)
  simp only [okT,List.all_cons,Bool.and_eq_true]
  by_cases h1:t.1≤last
  · simp [h1]
  · by_cases h2:t.1≥cols
    · have:¬ t.1<cols:=by omega
      simp [h1,h2,this]
    · have h3:¬ t.1≥2048:=by omega
      have h4:t.1<cols:=by omega
      by_cases h5:t.2=[48]
      · simp [h1,h5]
      · rw [if_neg h1,if_neg h1,if_neg h2,if_neg h3,if_neg h5,if_neg h5,Bool.and_eq_true,Bool.and_eq_true,ih,decide_eq_true h4]
        grind
theorem UMf:qb [48]=true:=by rw [←Ufq]; exact Udy UbV
theorem UvN (n:Nat) (hn:10 ^ 400≤n) (cols:Int) (hcol:cols≤2048) (l:List TermT) (hl:smT l) (k0:Bool→Option R):p76 n cols (tms l) k0=k0 (Udr cols l):=by
 have hN:=Ual hn
 have hL:=hl.1
 have hc:=fun k=>Uia (R:=R) n hn l [48] hl (by decide) k
 have hc':∀ k:Int→Option R,p52 n (tms l) (⟨#[48]⟩:ByteArray) k=k (UoZ l [48]):=hc
 unfold p76 Uy9
 have h:=Uaj (R:=R) (l:=l) (ok:=fun t=>decide (t.1<cols)) (kbad:=k0 false) (kend:=k0 (UoZ l [48] == 0))
  (fun m i=>Uez n m cols (tms l) (tms l) ((tms l).length:Int) (i:Int) (fun y3 y4=>k0 y4) (fun y5=>p52 n y5 ⟨#[48]⟩ (fun y6=>k0 (y6 == 0))))
  (fun m=>by simp only [Uez,Uja]; simp (disch:=(first | omega | (simp only [JlE]; omega))) only [↓JlH,JlF,Ua,hc])
  (fun m i hi=>by
    simp only [Uez,Uja]
    by_cases h1:(l[i]).1<cols
    · simp (disch:=(first | omega | (simp only [JlE]; omega))) only [↓JlH,JlF,Ua,Jji,Uas hi,i1]
    · simp (disch:=(first | omega | (simp only [JlE]; omega))) only [↓JlH,JlF,Ua,Jji,Uas hi,i1]
      simp [h1]) l.length n 0 (by omega) (by omega)
 rw [List.drop_zero] at h
 refine Eq.trans h ?_
 unfold Udr
 have e1:(UoZ l [48] == 0)=okT 2048 (-1) l:=by
  rw [Bool.eq_iff_iff,beq_iff_eq,Ug0,UMf]
  simp
 have e2:=Uiw hcol (l:=l) (last:=-1)
 rw [e1]
 cases h3:(l.all fun t=>decide (t.1<cols)) with
 | true =>
  rw [h3] at e2
  rw [if_pos rfl]
  congr 1
  rw [Bool.eq_iff_iff,e2]; simp
 | false =>
  rw [h3] at e2
  rw [if_neg (by decide)]
  congr 1
  symm
  rw [Bool.eq_false_iff]
  intro h4
  cases (e2.1 h4).1
end Go.Proofs.YtmgfmlhdnadglaaGreatDoor
set_option linter.unusedVariables false
set_option maxRecDepth 100000
namespace Go.Proofs.YtmgfmlhdnadglaaGreatDoor
open Go Th Go.Proofs
noncomputable section
variable {R:Type}
def UhX:Ann:={ loops:=[(3,ids [1,2,4,6,13,14],ids [4,5,6])],cuts:=[],frz:=[],rm:=[.id,.id] }
abbrev UBh (n:Nat):Env:=eC 75 (UOh n) (eC 74 (UOg n) eN)
theorem Urv (n:Nat):EnvOK Tryz.prog GI (UBh n):=.cons (.cons (.nil) (URJ n)) (URK n)
def UiQ (n:Nat) (l0:LP→Int→LP→ByteArray→LP→ByteArray→Int→Int→O R) (x1:LP) (x2:Int) (x3:LP) (x4:ByteArray) (x5:LP) (x6:ByteArray) (x7 x8:Int) (k0:LP→ByteArray→Int→LP→ByteArray→O R) (k1:ByteArray→LP→ByteArray→O R):O R :=
 bif (decide (x8<x7)) then (bif (inR x8 ((x1).length)) then (Jj3 ((x1).getD ((x8:Int).toNat) (.v (.bool false))) fun e9=>bif (eqS e9 (⟨#[48]⟩:ByteArray)) then (l0 x1 x2 x3 x4 x5 x6 x7 (IntKind.i64.wrap (x8 + 1))) else (bif (inR x8 ((x3).length)) then (Jh2 ((x3).getD ((x8:Int).toNat) (.v (.bool false))) fun a10=>JdT a10 fun h11 t12=>Jkr h11 fun e13=>JdT t12 fun h14 t15=>Jj3 h14 fun e16=>JdT t15 fun h17 t18=>Jj2 h17 fun e19=>JdT t18 fun h20 t21=>Jj .i64 h20 fun e22=>Ji2 t21 (bif (inR x8 ((x3).length)) then (Jh2 ((x3).getD ((x8:Int).toNat) (.v (.bool false))) fun a23=>JdT a23 fun h24 t25=>Jkr h24 fun e26=>JdT t25 fun h27 t28=>Jj3 h27 fun e29=>JdT t28 fun h30 t31=>Jj2 h30 fun e32=>JdT t31 fun h33 t34=>Jj .i64 h33 fun e35=>Ji2 t34 (bif (inR x8 ((x1).length)) then (Jj3 ((x1).getD ((x8:Int).toNat) (.v (.bool false))) fun e36=>p74 n e13 e29 e36 (fun y37 y38 y39=>bif (y39 != 0) then (k0 [] ByteArray.empty y39 x5 x6) else (p75 n x5 x6 y37 y38 (fun y40 y41 y42=>bif (y42 != 0) then (k0 [] ByteArray.empty y42 y40 y41) else (l0 x1 x2 x3 x4 y40 y41 x7 (IntKind.i64.wrap (x8 + 1))))))) else none)) else none)) else none)) else none) else (k1 x4 x5 x6)
def Uei (n:Nat):Nat→LP→Int→LP→ByteArray→LP→ByteArray→Int→Int→(LP→ByteArray→Int→LP→ByteArray→O R)→(ByteArray→LP→ByteArray→O R)→O R
 | 0,_,_,_,_,_,_,_,_,_,_=>none
 | m + 1,x1,x2,x3,x4,x5,x6,x7,x8,k0,k1=>UiQ n (fun x1 x2 x3 x4 x5 x6 x7 x8=>Uei n m x1 x2 x3 x4 x5 x6 x7 x8 k0 k1) x1 x2 x3 x4 x5 x6 x7 x8 k0 k1
def UyT (n:Nat) (x1:LP) (x2:Int) (x3:LP) (x4:ByteArray) (x5:LP) (x6:ByteArray) (x7 x8:Int) (k0:LP→ByteArray→Int→LP→ByteArray→O R) (k1:ByteArray→LP→ByteArray→O R):O R:=Uei n n x1 x2 x3 x4 x5 x6 x7 x8 k0 k1
def p30 (n:Nat) (x1:Int) (x2 x3:LP) (k0:LP→ByteArray→Int→O R):O R :=
 UyT n x3 x1 x2 ByteArray.empty [] ⟨#[48]⟩ ((x2).length:Int) 0 (fun y4 y5 y6 y7 y8=>k0 y4 y5 y6) (fun y9 y10 y11=>k0 y10 y11 0)
abbrev E30 (n:Nat):Code→Fr→Kc R→O R:=evC Tryz.prog (UBh n) UhX n (59,[])
noncomputable def Uxh:Code:=Jj4 (Jll Tryz.f30) [1,1,0,1,0,0]
abbrev Uho:Sl (List SV):=(cH (.c (sBx 24 (cI (cH .n))) (.c (sBx 43 (.c sNl (cS .n))) (.c (sBx 43 (cH (cS .n))) (cI (cI .n))))))
abbrev Us1 (n m:Nat) (K:Kc R):Uho.T (O R):=fun x1 x2 x3 x4 x5 x6 x7 x8=>Uei n m x1 x2 x3 x4 x5 x6 x7 x8 (fun y1 y2 y3 y4 y5=>xL UhX 3 K .ret [.bx 43 [vH y1,vS y2],vI y3,.bx 43 [vH y4,vS y5]]) (fun y1 y2 y3=>xL UhX 3 K (.exit 0) [.bx 43 [.nl,vS y1],dD,.bx 43 [vH y2,vS y3]])
abbrev UEe (n:Nat) (K:Kc R) (l0:Uho.T (O R)):Uho.T (O R):=fun x1 x2 x3 x4 x5 x6 x7 x8=>UiQ n l0 x1 x2 x3 x4 x5 x6 x7 x8 (fun y1 y2 y3 y4 y5=>xL UhX 3 K .ret [.bx 43 [vH y1,vS y2],vI y3,.bx 43 [vH y4,vS y5]]) (fun y1 y2 y3=>xL UhX 3 K (.exit 0) [.bx 43 [.nl,vS y1],dD,.bx 43 [vH y2,vS y3]])
abbrev UOx (n:Nat):Orc R:=oL UhX (E30 n) n 3 Uxh Uho (Us1 n n) oN
abbrev UNi (n:Nat):Orc R:=oN
abbrev K30 (R:Type) (n:Nat):=JcH (R:=R) Tryz.prog (UBh n) UhX n (59,[]) (UOx n) (UNi n)
theorem UHy (n:Nat):K30 R n (false,3,Uxh):=JkF (lo:=UOx n) (cu:=UNi n) (pO pN (by kernel_rfl)) Uho (Us1 n n) (JiE (F:=Us1 n) Uho (UEe n) (fun K _ _ _ _ _ _ _ _=>rfl) (fun _ _=>rfl) (fun L K _ _ _ _ _ _ _ _=>by show _=_; kernel_rfl) n) fun _ _=>rfl
theorem USd (n:Nat):Je6 (K30 R n) (JaJ UhX (Jll Tryz.f30)):=pO (pC (UHy n) pN) (by kernel_rfl)
abbrev t30:Sl (List SV):=(.c (sP (JlI (.c (Jlv .i64) (.c sSh .n)))) (cH .n))
abbrev f30 (n:Nat) (K:List SV→O R):t30.T (O R):=fun x1 x2 x3=>p30 n x1 x2 x3 (fun y1 y2 y3=>K [.p (.agg [.sh y1,.v (.string y2)]),vI y3])
abbrev UIM (n:Nat):FS:=fT [false,false] t30 (f30 n)
theorem ULh (n:Nat):FSound Tryz.prog GI 30 (UIM n):=gd UhX n (Urv n) Tryz.func30 (.cons (Urv n) t30 (f30 n) (fun K _ _ _=>(Jkq (c:=Jll Tryz.f30) (by kernel_rfl) (USd n) K).trans (by kernel_rfl)) .nil) (by kernel_rfl)
def UoP:Ann:={ loops:=[],cuts:=[(3,ids [1,2,4],ids [4,5])],frz:=[],rm:=[.id,.id] }
abbrev UBd (n:Nat):Env:=eC 66 (UJ8 n) (eC 65 (UIS n) (eC 30 (UIM n) eN))
theorem Urp (n:Nat):EnvOK Tryz.prog GI (UBd n):=.cons (.cons (.cons (.nil) (ULh n)) (ULn n)) (UOZ n)
def UyO (n:Nat) (x1:LP) (x2:Int) (x3:LP) (x4:ByteArray) (k0:LP→ByteArray→Int→O R):O R :=
 bif (((x1).length:Int) != ((x3).length:Int)) then (k0 [] ByteArray.empty 6) else (p30 n x2 x3 x1 (fun y5 y6 y7=>k0 y5 y6 y7))
def p23 (n:Nat) (x1:Int) (x2 x3:LP) (k0:LP→ByteArray→Int→O R):O R :=
 p65 n x1 x2 (fun y4=>bif (y4 != 0) then (k0 [] ByteArray.empty 3) else (p66 n x3 (fun y5=>bif (bif false then true else (!y5)) then (k0 [] ByteArray.empty 3) else (UyO n x3 x1 x2 ByteArray.empty (fun y6 y7 y8=>k0 y6 y7 y8)))))
abbrev E23 (n:Nat):Code→Fr→Kc R→O R:=evC Tryz.prog (UBd n) UoP n (27,[])
noncomputable def Ux:Code:=Jj4 (Jll Tryz.f23) [1,1]
abbrev Uu3:Sl (List SV):=(cH (.c (sBx 24 (cI (cH .n))) (.c (sBx 43 (.c sNl (cS .n))) .n)))
abbrev Uyh (n:Nat) (K:Kc R):Uu3.T (O R):=fun x1 x2 x3 x4=>UyO n x1 x2 x3 x4 (fun y1 y2 y3=>xC UoP 3 K .ret [.bx 43 [vH y1,vS y2],vI y3])
abbrev UOv (n:Nat):Orc R:=oN
abbrev UNg (n:Nat):Orc R:=oC UoP (E23 n) 3 Ux Uu3 (Uyh n) oN
abbrev K23 (R:Type) (n:Nat):=JcH (R:=R) Tryz.prog (UBd n) UoP n (27,[]) (UOv n) (UNg n)
theorem UHo (n:Nat):K23 R n (true,3,Ux):=JkW (lo:=UOv n) (cu:=UNg n) (pO pN (by kernel_rfl)) Uu3 (Uyh n) (fun K _ _ _ _=>by show _=_; kernel_rfl) fun _ _=>rfl
theorem UR8 (n:Nat):Je6 (K23 R n) (JaJ UoP (Jll Tryz.f23)):=pO (pC (UHo n) pN) (by kernel_rfl)
abbrev t23:Sl (List SV):=(.c (sP (JlI (.c (Jlv .i64) (.c sSh .n)))) (cH .n))
abbrev f23 (n:Nat) (K:List SV→O R):t23.T (O R):=fun x1 x2 x3=>p23 n x1 x2 x3 (fun y1 y2 y3=>K [.p (.agg [.sh y1,.v (.string y2)]),vI y3])
abbrev UNS (n:Nat):FS:=fT [false,false] t23 (f23 n)
theorem URk (n:Nat):FSound Tryz.prog GI 23 (UNS n):=gd UoP n (Urp n) Tryz.func23 (.cons (Urp n) t23 (f23 n) (fun K _ _ _=>(Jkq (c:=Jll Tryz.f23) (by kernel_rfl) (UR8 n) K).trans (by kernel_rfl)) .nil) (by kernel_rfl)
def UhY:Ann:={ loops:=[(2,ids [1,2,8,9],ids [4])],cuts:=[],frz:=[],rm:=[.id] }
abbrev UBi (n:Nat):Env:=eC 19 (UBZ n) eN
theorem Urw (n:Nat):EnvOK Tryz.prog GI (UBi n):=.cons (.nil) (UDQ n)
def UiR (n:Nat) (l0:LP→Int→LP→Int→Int→O R) (x1:LP) (x2:Int) (x3:LP) (x4 x5:Int) (k0:Bool→O R) (k1:O R):O R :=
 bif (decide (x5<x4)) then (bif (inR x5 ((x3).length)) then (Jh2 ((x3).getD ((x5:Int).toNat) (.v (.bool false))) fun a6=>JdT a6 fun h7 t8=>Jkr h7 fun e9=>JdT t8 fun h10 t11=>Jj3 h10 fun e12=>JdT t11 fun h13 t14=>Jj2 h13 fun e15=>JdT t14 fun h16 t17=>Jj .i64 h16 fun e18=>Ji2 t17 (bif (!e15) then (bif (inR x5 ((x1).length)) then (Jj3 ((x1).getD ((x5:Int).toNat) (.v (.bool false))) fun e19=>p19 n e19 ⟨#[48]⟩ (fun y20=>bif (bif true then (decide (y20<0)) else false) then (k0 false) else (l0 x1 x2 x3 x4 (IntKind.i64.wrap (x5 + 1))))) else none) else (l0 x1 x2 x3 x4 (IntKind.i64.wrap (x5 + 1))))) else none) else (k1)
def Uej (n:Nat):Nat→LP→Int→LP→Int→Int→(Bool→O R)→(O R)→O R
 | 0,_,_,_,_,_,_,_=>none
 | m + 1,x1,x2,x3,x4,x5,k0,k1=>UiR n (fun x1 x2 x3 x4 x5=>Uej n m x1 x2 x3 x4 x5 k0 k1) x1 x2 x3 x4 x5 k0 k1
def UyU (n:Nat) (x1:LP) (x2:Int) (x3:LP) (x4 x5:Int) (k0:Bool→O R) (k1:O R):O R:=Uej n n x1 x2 x3 x4 x5 k0 k1
def p31 (n:Nat) (x1:Int) (x2 x3:LP) (k0:Bool→O R):O R :=
 UyU n x3 x1 x2 ((x2).length:Int) 0 (fun y4=>k0 y4) (k0 true)
abbrev E31 (n:Nat):Code→Fr→Kc R→O R:=evC Tryz.prog (UBi n) UhY n (28,[])
noncomputable def Uxi:Code:=Jj4 (Jll Tryz.f31) [1,0,1,0,0]
abbrev Uhp:Sl (List SV):=(cH (.c (sBx 24 (cI (cH .n))) (cI (cI .n))))
abbrev Us2 (n m:Nat) (K:Kc R):Uhp.T (O R):=fun x1 x2 x3 x4 x5=>Uej n m x1 x2 x3 x4 x5 (fun y1=>xL UhY 2 K .ret [vB y1]) (xL UhY 2 K (.exit 0) [dD])
abbrev UEf (n:Nat) (K:Kc R) (l0:Uhp.T (O R)):Uhp.T (O R):=fun x1 x2 x3 x4 x5=>UiR n l0 x1 x2 x3 x4 x5 (fun y1=>xL UhY 2 K .ret [vB y1]) (xL UhY 2 K (.exit 0) [dD])
abbrev UOy (n:Nat):Orc R:=oL UhY (E31 n) n 2 Uxi Uhp (Us2 n n) oN
abbrev UNj (n:Nat):Orc R:=oN
abbrev K31 (R:Type) (n:Nat):=JcH (R:=R) Tryz.prog (UBi n) UhY n (28,[]) (UOy n) (UNj n)
theorem UHz (n:Nat):K31 R n (false,2,Uxi):=JkF (lo:=UOy n) (cu:=UNj n) (pO pN (by kernel_rfl)) Uhp (Us2 n n) (JiE (F:=Us2 n) Uhp (UEf n) (fun K _ _ _ _ _=>rfl) (fun _ _=>rfl) (fun L K _ _ _ _ _=>by show _=_; kernel_rfl) n) fun _ _=>rfl
theorem USe (n:Nat):Je6 (K31 R n) (JaJ UhY (Jll Tryz.f31)):=pO (pC (UHz n) pN) (by kernel_rfl)
abbrev t31:Sl (List SV):=(.c (sP (JlI (.c (Jlv .i64) (.c sSh .n)))) (cH .n))
abbrev f31 (n:Nat) (K:List SV→O R):t31.T (O R):=fun x1 x2 x3=>p31 n x1 x2 x3 (fun y1=>K [vB y1])
abbrev UJ1 (n:Nat):FS:=fT [false,false] t31 (f31 n)
theorem UOS (n:Nat):FSound Tryz.prog GI 31 (UJ1 n):=gd UhY n (Urw n) Tryz.func31 (.cons (Urw n) t31 (f31 n) (fun K _ _ _=>(Jkq (c:=Jll Tryz.f31) (by kernel_rfl) (USe n) K).trans (by kernel_rfl)) .nil) (by kernel_rfl)
end
end Go.Proofs.YtmgfmlhdnadglaaGreatDoor
set_option linter.unusedVariables false
set_option linter.unusedSimpArgs false
namespace Go.Proofs.YtmgfmlhdnadglaaGreatDoor
open Go Th Go.Proofs
variable {R:Type}
theorem UGP:((5:Int) != 0)=true:=rfl
theorem UgQ:((0:Int) != 0)=false:=rfl
theorem Uax {l:List SpT} {i:Nat} {d:PV} (h:i<l.length) (K:Int→ByteArray→Option R) :
 (Jh2 ((tms (vt l)).getD i d) fun a=>JdT a fun h1 t1=>Jj .i64 h1 fun e1=>JdT t1 fun h2 t2=>Jj3 h2 fun e2=>Ji2 t2 (K e1 e2))=K ((l[i]).1:Int) (bs (Uae (l[i]).2)):=by
 rw [Uas (by rw [Uak]; exact h),Uvq]
theorem UdY (acc:List SpT) (k:Nat) (y:Rat):tms (vt acc)++[.agg [.v (.int .i64 (k:Int)),.v (.string (bs (Uae y)))]]=tms (vt (acc++[(k,y)])):=by
 unfold tms vt
 rw [List.map_append,List.map_append]; rfl
theorem UQr (q:Rat):eqS (bs (Uae q)) (⟨#[48]⟩:ByteArray)=decide (q=0):=by
 rw [e48,Bool.eq_iff_iff,decide_eq_true_iff,decide_eq_true_iff,Ufi]
noncomputable def Uvx (k0:List PV→ByteArray→Int→Option R):Option SpR→Option R
 | none=>k0 [] (bs []) 5
 | some x=>k0 (tms (vt x.1)) (bs (Uae x.2)) 0
open Classical in
noncomputable def scS (q:Rat) (acc:List SpT) (t:SpT):Option (List SpT):=if fits (t.2 * q) then some (acc++[(t.1,t.2 * q)]) else none
theorem UuX (q:Rat):∀ (l acc:List SpT),Uan (scS q) acc l=(scO q l).map (acc++·)
 | [],acc=>by simp [Uan,scO]
 | t::l,acc=>by
  rw [Uan,scS]
  by_cases h:fits (t.2 * q)
  · rw [if_pos h,Option.bind_some,UuX q l]
    unfold scO
    by_cases h2:∀ x∈l,fits (x.2 * q)
    · rw [if_pos h2,if_pos (by intro x hx; rcases List.mem_cons.1 hx with rfl | hx; exact h; exact h2 x hx)]
      simp
    · rw [if_neg h2,if_neg (fun h3=>h2 fun x hx=>h3 x (List.mem_cons_of_mem _ hx))]; rfl
  · rw [if_neg h]
    unfold scO
    rw [if_neg (fun h3=>h (h3 t (List.mem_cons_self ..)))]; rfl
theorem UtF (n:Nat) (hn:10 ^ 1000≤n) {r:SpR} (hr:okF 2048 r) {q:Rat} (hq:fits q) (h0:q≠0) (k0:List PV→ByteArray→Int→Option R) :
 UJc n (tms (vt r.1)) (bs (Uae r.2)) (bs (Uae q)) k0=Uvx k0 (tmO q r):=by
 have hN:=Ual (Uat hn)
 have hL:=UaZ hr.1
 have hm:=fun (t:Rat) (ht:fits t) k=>Uw2 (R:=R) n hn t q ht hq k
 unfold UJc
 rw [UQr,decide_eq_false h0,Uaf,hm r.2 hr.2]
 unfold tmO
 by_cases hf:fits (r.2 * q)
 · rw [UcF hf,if_pos hf,UgQ,Uaf]
   have h:=UbL (R:=R) (l:=r.1) (step:=scS q) (kerr:=k0 [] (bs []) 5) (kend:=fun acc=>k0 (tms (vt acc)) (bs (Uae (r.2 * q))) 0) (Inv:=fun i acc=>acc.length=i)
    (fun m acc i=>Ucl n m (bs (Uae q)) ByteArray.empty (tms (vt acc)) (bs (Uae (r.2 * q))) (tms (vt r.1)) ((tms (vt r.1)).length:Int) (i:Int) (fun y6 y7 y8 y9=>k0 [] y6 y7) (fun y10 y11 y12=>k0 y11 y12 0))
    (fun m acc ha=>by simp only [Ucl,UfI]; simp (disch:=(first | omega | (simp only [JlE]; omega))) only [↓JlH,JlF,Ua,Uak])
    (fun acc acc' i hi ha he=>by
      unfold scS at he
      split at he
      · simp only [Option.some.injEq] at he
        rw [←he,List.length_append,ha]; rfl
      · cases he)
    (fun m acc i hi ha=>by
      have hv:=hm (r.1[i]).2 (hr.1.2 _ (List.getElem_mem hi)).2.1
      simp only [Ucl,UfI]
      unfold scS
      by_cases h1:fits ((r.1[i]).2 * q)
      · have hv':∀ k,p21 n (bs (Uae (r.1[i]).2)) (bs (Uae q)) k=k (bs (Uae ((r.1[i]).2 * q))) 0:=fun k=>by rw [hv,UcF h1]
        rw [if_pos h1]
        simp (disch:=(first | omega | (simp only [JlE]; omega))) only [↓JlH,JlF,Ua,Uak,Jji,Uax hi,i1,hv',UgQ,UdY]
        rfl
      · have hv':∀ k,p21 n (bs (Uae (r.1[i]).2)) (bs (Uae q)) k=k (bs []) 5:=fun k=>by rw [hv]; unfold Ukt; rw [if_neg h1]
        rw [if_neg h1]
        simp (disch:=(first | omega | (simp only [JlE]; omega))) only [↓JlH,JlF,Ua,Uak,Jji,Uax hi,i1,hv',UGP]
        rfl) r.1.length n 0 [] (by omega) (by omega) rfl
   rw [List.drop_zero,UuX] at h
   unfold Ut6
   refine Eq.trans h ?_
   cases scO q r.1 <;> rfl
 · unfold Ukt
   rw [if_neg hf,if_neg hf]; rfl
theorem UtE (n:Nat) (hn:10 ^ 1000≤n) {r:SpR} (hr:okF 2048 r) {q:Rat} (hq:fits q) (h0:q≠0) (k0:List PV→ByteArray→Int→Option R) :
 p74 n (tms (vt r.1)) (bs (Uae r.2)) (bs (Uae q)) k0=Uvx k0 (tmO q r):=by
 have hN:=Ual (Uat hn)
 unfold p74
 rw [Udq n (Uat hn) hr,UgQ,Uaf,Ucc n (Uat hn) _ (UgH hq),Udy hq]
 exact UtF n hn hr hq h0 k0
theorem UaS (n:Nat) (hn:10 ^ 1000≤n) {a b:List SpT} (ha:okS 2048 a) (hb:okS 2048 b) (x2 x4 x7:ByteArray) (k0:List PV→ByteArray→Int→Option R) (k1:ByteArray→List PV→ByteArray→Option R) :
 ∀ (d m i k:Nat) (acc:List SpT),a.length - i + (b.length - k)=d→i≤a.length→k≤b.length→d<m→acc.length≤i + k →
  UdG n m (tms (vt a)) x2 (tms (vt b)) x4 (bs []) (tms (vt acc)) x7 (i:Int) (k:Int) (fun y7 y8 y9 y10=>k0 [] y7 y8) k1 =
   match Ufp (a.drop i) (b.drop k) with
   | none=>k0 [] (bs []) 5
   | some r=>k1 (bs []) (tms (vt (acc++r))) x7
 | d,0,i,k,acc,hd,hi,hk,hm,hl=>by omega
 | d,m + 1,i,k,acc,hd,hi,hk,hm,hl=>by
  have la:=UaZ ha
  have lb:=UaZ hb
  have hN:=Ual (Uat hn)
  simp only [UdG,UiB]
  by_cases hi':i<a.length
  · have hda:=Uaz hi'
    by_cases hk':k<b.length
    · have hdb:=Uaz hk'
      have e1:((k:Int) == (b.length:Int))=false:=by simp; omega
      have e2:((i:Int) == (a.length:Int))=false:=by simp; omega
      by_cases hlt:(a[i]).1<(b[k]).1
      · have ih:=UaS n hn ha hb x2 x4 x7 k0 k1 (d - 1) m (i + 1) k (acc++[((a[i]).1,(a[i]).2)]) (by omega) (by omega) hk (by omega) (by simp; omega)
        simp (disch:=(first | omega | (simp only [JlE]; omega))) only [↓JlH,JlF,UaV,UaM,Ua,Uak,e1,Jji,Uax hi',Uax hk',UdY,i1]
        rw [ih,hda,hdb,Ufp,if_pos hlt]
        cases Ufp (a.drop (i + 1)) (b[k]::b.drop (k + 1)) <;> simp
      · by_cases hgt:(b[k]).1<(a[i]).1
        · have ih:=UaS n hn ha hb x2 x4 x7 k0 k1 (d - 1) m i (k + 1) (acc++[((b[k]).1,(b[k]).2)]) (by omega) hi (by omega) (by omega) (by simp; omega)
          simp (disch:=(first | omega | (simp only [JlE]; omega))) only [↓JlH,JlF,UaV,UaM,Ubh,Ua,Uak,e1,e2,Jji,Uax hi',Uax hk',UdY,i1]
          rw [ih,hda,hdb,Ufp,if_neg hlt,if_pos hgt]
          cases Ufp (a[i]::a.drop (i + 1)) (b.drop (k + 1)) <;> simp
        · have hv:=Upb (R:=R) n hn (a[i]).2 (b[k]).2 (ha.2 _ (List.getElem_mem hi')).2.1 (hb.2 _ (List.getElem_mem hk')).2.1
          rw [hda,hdb,Ufp,if_neg hlt,if_neg hgt]
          by_cases hf:fits ((a[i]).2 + (b[k]).2)
          · have hv':∀ kk,p22 n (bs (Uae (a[i]).2)) (bs (Uae (b[k]).2)) kk=kk (bs (Uae ((a[i]).2 + (b[k]).2))) 0:=fun kk=>by rw [hv,UcF hf]
            rw [if_pos hf]
            by_cases hz:(a[i]).2 + (b[k]).2=0
            · have ih:=UaS n hn ha hb x2 x4 x7 k0 k1 (d - 2) m (i + 1) (k + 1) acc (by omega) (by omega) (by omega) (by omega) (by omega)
              have e3:=Uj1 (Ufi.2 hz)
              simp (disch:=(first | omega | (simp only [JlE]; omega))) only [↓JlH,JlF,UaV,UaM,Ubh,Ucm,Ua,Uak,e1,e2,Jji,Uax hi',Uax hk',UdY,i1,hv',UgQ,e3]
              rw [ih]
              cases Ufp (a.drop (i + 1)) (b.drop (k + 1)) <;> simp
            · have ih:=UaS n hn ha hb x2 x4 x7 k0 k1 (d - 2) m (i + 1) (k + 1) (acc++[((a[i]).1,(a[i]).2 + (b[k]).2)]) (by omega) (by omega) (by omega) (by omega) (by simp; omega)
              have e3:=Ugi (fun q=>hz (Ufi.1 q))
              simp (disch:=(first | omega | (simp only [JlE]; omega))) only [↓JlH,JlF,UaV,UaM,Ubh,Ucm,Ua,Uak,e1,e2,Jji,Uax hi',Uax hk',UdY,i1,hv',UgQ,e3]
              rw [ih]
              cases Ufp (a.drop (i + 1)) (b.drop (k + 1)) <;> simp
          · have hv':∀ kk,p22 n (bs (Uae (a[i]).2)) (bs (Uae (b[k]).2)) kk=kk (bs []) 5:=fun kk=>by rw [hv]; unfold Ukt; rw [if_neg hf]
            rw [if_neg hf]
            simp (disch:=(first | omega | (simp only [JlE]; omega))) only [↓JlH,JlF,UaV,UaM,Ubh,Ucm,Ua,Uak,e1,e2,Jji,Uax hi',Uax hk',UdY,i1,hv',UGP]
    · have hk'':k=b.length:=by omega
      have e1:((k:Int) == (b.length:Int))=true:=by simp; omega
      have ih:=UaS n hn ha hb x2 x4 x7 k0 k1 (d - 1) m (i + 1) k (acc++[((a[i]).1,(a[i]).2)]) (by omega) (by omega) hk (by omega) (by simp; omega)
      simp (disch:=(first | omega | (simp only [JlE]; omega))) only [↓JlH,JlF,UaV,UaM,Ua,Uak,e1,Jji,Uax hi',UdY,i1]
      rw [ih,hda,List.drop_eq_nil_of_le (by omega:b.length≤k),UtR,UtR]
      simp only [List.append_assoc,List.singleton_append]
  · have hi'':i=a.length:=by omega
    have e2:((i:Int) == (a.length:Int))=true:=by simp; omega
    rw [List.drop_eq_nil_of_le (by omega:a.length≤i)]
    by_cases hk':k<b.length
    · have hdb:=Uaz hk'
      have e1:((k:Int) == (b.length:Int))=false:=by simp; omega
      have ih:=UaS n hn ha hb x2 x4 x7 k0 k1 (d - 1) m i (k + 1) (acc++[((b[k]).1,(b[k]).2)]) (by omega) hi (by omega) (by omega) (by simp; omega)
      rw [List.drop_eq_nil_of_le (by omega:a.length≤i)] at ih
      simp (disch:=(first | omega | (simp only [JlE]; omega))) only [↓JlH,JlF,UaV,UaM,Ubh,Ua,Uak,e1,e2,Jji,Uax hk',UdY,i1]
      rw [ih,hdb]
      simp only [Ufp,List.append_assoc,List.singleton_append]
    · simp (disch:=(first | omega | (simp only [JlE]; omega))) only [↓JlH,JlF,Ua,Uak]
      rw [List.drop_eq_nil_of_le (by omega:b.length≤k)]
      simp [Ufp,JfF]
theorem Uv0 (n:Nat) (hn:10 ^ 1000≤n) {a b:SpR} (ha:okF 2048 a) (hb:okF 2048 b) (k0:List PV→ByteArray→Int→Option R) :
 UJd n (tms (vt a.1)) (bs (Uae a.2)) (tms (vt b.1)) (bs (Uae b.2)) k0=Uvx k0 (plO a b):=by
 have hN:=Ual (Uat hn)
 have la:=UaZ ha.1
 have lb:=UaZ hb.1
 unfold UJd
 rw [Upb n hn a.2 b.2 ha.2 hb.2]
 unfold plO
 by_cases hf:fits (a.2 + b.2)
 · rw [UcF hf,if_pos hf,UgQ,Uaf]
   unfold Ut7
   refine Eq.trans (UaS n hn ha.1 hb.1 _ _ _ k0 _ (a.1.length + b.1.length) n 0 0 [] (by omega) (by omega) (by omega) (by omega) (by simp)) ?_
   rw [List.drop_zero,List.drop_zero]
   cases Ufp a.1 b.1 <;> rfl
 · unfold Ukt
   rw [if_neg hf,if_neg hf]; rfl
theorem UBM (n:Nat) (hn:10 ^ 1000≤n) {a b:SpR} (ha:okF 2048 a) (hb:okF 2048 b) (k0:List PV→ByteArray→Int→Option R) :
 p75 n (tms (vt a.1)) (bs (Uae a.2)) (tms (vt b.1)) (bs (Uae b.2)) k0=Uvx k0 (plO a b):=by
 unfold p75
 rw [Udq n (Uat hn) ha,UgQ,Uaf,Udq n (Uat hn) hb]
 exact Uv0 n hn ha hb k0
end Go.Proofs.YtmgfmlhdnadglaaGreatDoor
set_option linter.unusedVariables false
set_option maxRecDepth 100000
namespace Go.Proofs.YtmgfmlhdnadglaaGreatDoor
open Go Th Go.Proofs
noncomputable section
variable {R:Type}
def UcO:Ann:={ loops:=[(4,ids [1,2,17,18,19],ids [1,2,4,5]),(14,ids [1,9,47,48,49],ids [4,5,9])],cuts:=[(12,ids [1,2],ids [4,5])],frz:=[],rm:=[.id,.id] }
abbrev UBb (n:Nat):Env:=eC 53 (UB0 n) (eC 52 (UDM n) (eC 22 (UJ0 n) (eC 21 (UJZ n) eN)))
theorem Urk (n:Nat):EnvOK Tryz.prog GI (UBb n):=.cons (.cons (.cons (.cons (.nil) (UOQ n)) (UOR n)) (UG1 n)) (UDR n)
def UiM (n:Nat) (l0:LP→LP→ByteArray→LP→Int→Int→O R) (x1 x2:LP) (x3:ByteArray) (x4:LP) (x5 x6:Int) (k0:LP→LP→ByteArray→ByteArray→Int→O R) (k1:LP→LP→ByteArray→O R):O R :=
 bif (decide (x6<x5)) then (bif (inR x6 ((x4).length)) then (Jj3 ((x4).getD ((x6:Int).toNat) (.v (.bool false))) fun e7=>p53 n e7 (fun y8=>bif (!y8) then (k0 x1 x2 x3 ⟨#[]⟩ 3) else (l0 x1 x2 x3 x4 x5 (IntKind.i64.wrap (x6 + 1))))) else none) else (k1 x1 x2 x3)
def Ued (n:Nat):Nat→LP→LP→ByteArray→LP→Int→Int→(LP→LP→ByteArray→ByteArray→Int→O R)→(LP→LP→ByteArray→O R)→O R
 | 0,_,_,_,_,_,_,_,_=>none
 | m + 1,x1,x2,x3,x4,x5,x6,k0,k1=>UiM n (fun x1 x2 x3 x4 x5 x6=>Ued n m x1 x2 x3 x4 x5 x6 k0 k1) x1 x2 x3 x4 x5 x6 k0 k1
def UyN (n:Nat) (x1 x2:LP) (x3:ByteArray) (x4:LP) (x5 x6:Int) (k0:LP→LP→ByteArray→ByteArray→Int→O R) (k1:LP→LP→ByteArray→O R):O R:=Ued n n x1 x2 x3 x4 x5 x6 k0 k1
def UfW (n:Nat) (l0:LP→ByteArray→LP→Int→Int→O R) (x1:LP) (x2:ByteArray) (x3:LP) (x4 x5:Int) (k0:ByteArray→Int→ByteArray→O R) (k1:ByteArray→O R):O R :=
 bif (decide (x5<x4)) then (bif (inR x5 ((x3).length)) then (Jh2 ((x3).getD ((x5:Int).toNat) (.v (.bool false))) fun a6=>JdT a6 fun h7 t8=>Jj .i64 h7 fun e9=>JdT t8 fun h10 t11=>Jj3 h10 fun e12=>Ji2 t11 (bif (inR e9 ((x1).length)) then (Jj3 ((x1).getD ((e9:Int).toNat) (.v (.bool false))) fun e13=>p21 n e12 e13 (fun y14 y15=>bif (y15 != 0) then (k0 ⟨#[]⟩ y15 x2) else (p22 n x2 y14 (fun y16 y17=>bif (y17 != 0) then (k0 ⟨#[]⟩ y17 y16) else (l0 x1 y16 x3 x4 (IntKind.i64.wrap (x5 + 1))))))) else none)) else none) else (k1 x2)
def Ucx (n:Nat):Nat→LP→ByteArray→LP→Int→Int→(ByteArray→Int→ByteArray→O R)→(ByteArray→O R)→O R
 | 0,_,_,_,_,_,_,_=>none
 | m + 1,x1,x2,x3,x4,x5,k0,k1=>UfW n (fun x1 x2 x3 x4 x5=>Ucx n m x1 x2 x3 x4 x5 k0 k1) x1 x2 x3 x4 x5 k0 k1
def Uun (n:Nat) (x1:LP) (x2:ByteArray) (x3:LP) (x4 x5:Int) (k0:ByteArray→Int→ByteArray→O R) (k1:ByteArray→O R):O R:=Ucx n n x1 x2 x3 x4 x5 k0 k1
def UbJ (n:Nat) (x1 x2:LP) (x3:ByteArray) (k0:ByteArray→Int→O R):O R :=
 Uun n x1 x3 x2 ((x2).length:Int) 0 (fun y4 y5 y6=>k0 y4 y5) (fun y7=>k0 y7 0)
def p18 (n:Nat) (x1:LP) (x2:ByteArray) (x3:LP) (k0:ByteArray→Int→O R):O R :=
 p52 n x1 x2 (fun y4=>bif (y4 != 0) then (k0 ⟨#[]⟩ 3) else (UyN n x3 x1 x2 x3 ((x3).length:Int) 0 (fun y5 y6 y7 y8 y9=>k0 y8 y9) (fun y10 y11 y12=>bif (decide (((y11).length:Int)>0)) then (let v13:=IntKind.i64.wrap (((y11).length:Int) - 1); bif (inR v13 ((y11).length)) then (Jh2 ((y11).getD ((v13:Int).toNat) (.v (.bool false))) fun a14=>JdT a14 fun h15 t16=>Jj .i64 h15 fun e17=>JdT t16 fun h18 t19=>Jj3 h18 fun e20=>Ji2 t19 (bif (bif true then (decide (e17≥((y10).length:Int))) else false) then (k0 ⟨#[]⟩ 2) else (UbJ n y10 y11 y12 (fun y21 y22=>k0 y21 y22)))) else none) else (UbJ n y10 y11 y12 (fun y23 y24=>k0 y23 y24)))))
abbrev E18 (n:Nat):Code→Fr→Kc R→O R:=evC Tryz.prog (UBb n) UcO n (78,[])
noncomputable def Uql:Code:=Jj4 (Jll Tryz.f18) [1,1,1,1]
abbrev Umc:Sl (List SV):=(cH (.c (sBx 43 (cH (cS .n))) .n))
abbrev UsS (n:Nat) (K:Kc R):Umc.T (O R):=fun x1 x2 x3=>UbJ n x1 x2 x3 (fun y1 y2=>xC UcO 12 K .ret [vS y1,vI y2])
noncomputable def Uw8:Code:=Jj4 (Jll Tryz.f18) [1,1,0,1,0,0]
abbrev Uhj:Sl (List SV):=(cH (.c (sBx 43 (cH (cS .n))) (cH (cI (cI .n)))))
abbrev UsT (n m:Nat) (K:Kc R):Uhj.T (O R):=fun x1 x2 x3 x4 x5 x6=>Ued n m x1 x2 x3 x4 x5 x6 (fun y1 y2 y3 y4 y5=>xL UcO 4 K .ret [vH y1,.bx 43 [vH y2,vS y3],vS y4,vI y5]) (fun y1 y2 y3=>xL UcO 4 K (.exit 0) [vH y1,.bx 43 [vH y2,vS y3],dD,dD])
abbrev UE (n:Nat) (K:Kc R) (l0:Uhj.T (O R)):Uhj.T (O R):=fun x1 x2 x3 x4 x5 x6=>UiM n l0 x1 x2 x3 x4 x5 x6 (fun y1 y2 y3 y4 y5=>xL UcO 4 K .ret [vH y1,.bx 43 [vH y2,vS y3],vS y4,vI y5]) (fun y1 y2 y3=>xL UcO 4 K (.exit 0) [vH y1,.bx 43 [vH y2,vS y3],dD,dD])
noncomputable def Uqm:Code:=Jj4 (Jll Tryz.f18) [1,1,1,1,1,0,1,0,0]
abbrev Ue8:Sl (List SV):=(cH (cS (cH (cI (cI .n)))))
abbrev Uln (n m:Nat) (K:Kc R):Ue8.T (O R):=fun x1 x2 x3 x4 x5=>Ucx n m x1 x2 x3 x4 x5 (fun y1 y2 y3=>xL UcO 14 K .ret [vS y1,vI y2,vS y3]) (fun y1=>xL UcO 14 K (.exit 2) [dD,dD,vS y1])
abbrev UAE (n:Nat) (K:Kc R) (l0:Ue8.T (O R)):Ue8.T (O R):=fun x1 x2 x3 x4 x5=>UfW n l0 x1 x2 x3 x4 x5 (fun y1 y2 y3=>xL UcO 14 K .ret [vS y1,vI y2,vS y3]) (fun y1=>xL UcO 14 K (.exit 2) [dD,dD,vS y1])
abbrev UIV (n:Nat):Orc R:=oL UcO (E18 n) n 14 Uqm Ue8 (Uln n n) (oL UcO (E18 n) n 4 Uw8 Uhj (UsT n n) oN)
abbrev UIG (n:Nat):Orc R:=oC UcO (E18 n) 12 Uql Umc (UsS n) oN
abbrev K18 (R:Type) (n:Nat):=JcH (R:=R) Tryz.prog (UBb n) UcO n (78,[]) (UIV n) (UIG n)
theorem UHm (n:Nat):K18 R n (false,4,Uw8):=JkF (lo:=UIV n) (cu:=UIG n) (pO pN (by kernel_rfl)) Uhj (UsT n n) (JiE (F:=UsT n) Uhj (UE n) (fun K _ _ _ _ _ _=>rfl) (fun _ _=>rfl) (fun L K _ _ _ _ _ _=>by show _=_; kernel_rfl) n) fun _ _=>rfl
theorem UC9 (n:Nat):K18 R n (false,14,Uqm):=JkF (lo:=UIV n) (cu:=UIG n) (pO pN (by kernel_rfl)) Ue8 (Uln n n) (JiE (F:=Uln n) Ue8 (UAE n) (fun K _ _ _ _ _=>rfl) (fun _ _=>rfl) (fun L K _ _ _ _ _=>by show _=_; kernel_rfl) n) fun _ _=>rfl
theorem UC8 (n:Nat):K18 R n (true,12,Uql):=JkW (lo:=UIV n) (cu:=UIG n) (pO (pC (UC9 n) pN) (by kernel_rfl)) Umc (UsS n) (fun K _ _ _=>by show _=_; kernel_rfl) fun _ _=>rfl
theorem UR3 (n:Nat):Je6 (K18 R n) (JaJ UcO (Jll Tryz.f18)):=pO (pC (UHm n) (pC (UC8 n) pN)) (by kernel_rfl)
abbrev t18:Sl (List SV):=(.c (sP (JlI (.c sSh (.c Jly .n)))) (cH .n))
abbrev f18 (n:Nat) (K:List SV→O R):t18.T (O R):=fun x1 x2 x3=>p18 n x1 x2 x3 (fun y1 y2=>K [vS y1,vI y2])
abbrev UJY (n:Nat):FS:=fT [false,false] t18 (f18 n)
theorem UOP (n:Nat):FSound Tryz.prog GI 18 (UJY n):=gd UcO n (Urk n) Tryz.func18 (.cons (Urk n) t18 (f18 n) (fun K _ _ _=>(Jkq (c:=Jll Tryz.f18) (by kernel_rfl) (UR3 n) K).trans (by kernel_rfl)) .nil) (by kernel_rfl)
def Uh2:Ann:={ loops:=[(2,ids [1,12,13,14],ids [4,5])],cuts:=[],frz:=[],rm:=[.id,.id] }
abbrev UBp (n:Nat):Env:=eC 19 (UBZ n) (eC 18 (UJY n) eN)
theorem UrO (n:Nat):EnvOK Tryz.prog GI (UBp n):=.cons (.cons (.nil) (UOP n)) (UDQ n)
def Ui0 (n:Nat) (l0:LP→LP→Int→Int→O R) (x1 x2:LP) (x3 x4:Int) (k0:Int→Int→O R) (k1:O R):O R :=
 bif (decide (x4<x3)) then (bif (inR x4 ((x2).length)) then (Jh2 ((x2).getD ((x4:Int).toNat) (.v (.bool false))) fun a5=>JdT a5 fun h6 t7=>Jkr h6 fun e8=>JdT t7 fun h9 t10=>Jj3 h9 fun e11=>JdT t10 fun h12 t13=>Jj2 h12 fun e14=>JdT t13 fun h15 t16=>Jj .i64 h15 fun e17=>Ji2 t16 (p18 n e8 e11 x1 (fun y18 y19=>bif (y19 != 0) then (k0 0 y19) else (p19 n y18 ⟨#[48]⟩ (fun y20=>bif (decide (y20<0)) then (k0 x4 0) else (bif (decide (y20>0)) then (bif (bif false then true else (bif true then e14 else false)) then (k0 x4 0) else (l0 x1 x2 x3 (IntKind.i64.wrap (x4 + 1)))) else (l0 x1 x2 x3 (IntKind.i64.wrap (x4 + 1))))))))) else none) else (k1)
def Ueq (n:Nat):Nat→LP→LP→Int→Int→(Int→Int→O R)→(O R)→O R
 | 0,_,_,_,_,_,_=>none
 | m + 1,x1,x2,x3,x4,k0,k1=>Ui0 n (fun x1 x2 x3 x4=>Ueq n m x1 x2 x3 x4 k0 k1) x1 x2 x3 x4 k0 k1
def Uy0 (n:Nat) (x1 x2:LP) (x3 x4:Int) (k0:Int→Int→O R) (k1:O R):O R:=Ueq n n x1 x2 x3 x4 k0 k1
def p51 (n:Nat) (x1:Int) (x2 x3:LP) (k0:Int→Int→O R):O R :=
 Uy0 n x3 x2 ((x2).length:Int) 0 (fun y4 y5=>k0 y4 y5) (k0 (-1) 0)
abbrev E51 (n:Nat):Code→Fr→Kc R→O R:=evC Tryz.prog (UBp n) Uh2 n (46,[])
noncomputable def Uxr:Code:=Jj4 (Jll Tryz.f51) [1,0,1,0,0]
abbrev Uhv:Sl (List SV):=(cH (cH (cI (cI .n))))
abbrev Uta (n m:Nat) (K:Kc R):Uhv.T (O R):=fun x1 x2 x3 x4=>Ueq n m x1 x2 x3 x4 (fun y1 y2=>xL Uh2 2 K .ret [vI y1,vI y2]) (xL Uh2 2 K (.exit 0) [dD,dD])
abbrev UEl (n:Nat) (K:Kc R) (l0:Uhv.T (O R)):Uhv.T (O R):=fun x1 x2 x3 x4=>Ui0 n l0 x1 x2 x3 x4 (fun y1 y2=>xL Uh2 2 K .ret [vI y1,vI y2]) (xL Uh2 2 K (.exit 0) [dD,dD])
abbrev UOC (n:Nat):Orc R:=oL Uh2 (E51 n) n 2 Uxr Uhv (Uta n n) oN
abbrev UNn (n:Nat):Orc R:=oN
abbrev K51 (R:Type) (n:Nat):=JcH (R:=R) Tryz.prog (UBp n) Uh2 n (46,[]) (UOC n) (UNn n)
theorem UHK (n:Nat):K51 R n (false,2,Uxr):=JkF (lo:=UOC n) (cu:=UNn n) (pO pN (by kernel_rfl)) Uhv (Uta n n) (JiE (F:=Uta n) Uhv (UEl n) (fun K _ _ _ _=>rfl) (fun _ _=>rfl) (fun L K _ _ _ _=>by show _=_; kernel_rfl) n) fun _ _=>rfl
theorem USw (n:Nat):Je6 (K51 R n) (JaJ Uh2 (Jll Tryz.f51)):=pO (pC (UHK n) pN) (by kernel_rfl)
abbrev t51:Sl (List SV):=(.c (sP (JlI (.c (Jlv .i64) (.c sSh .n)))) (cH .n))
abbrev f51 (n:Nat) (K:List SV→O R):t51.T (O R):=fun x1 x2 x3=>p51 n x1 x2 x3 (fun y1 y2=>K [vI y1,vI y2])
abbrev UN9 (n:Nat):FS:=fT [false,false] t51 (f51 n)
theorem URB (n:Nat):FSound Tryz.prog GI 51 (UN9 n):=gd Uh2 n (UrO n) Tryz.func51 (.cons (UrO n) t51 (f51 n) (fun K _ _ _=>(Jkq (c:=Jll Tryz.f51) (by kernel_rfl) (USw n) K).trans (by kernel_rfl)) .nil) (by kernel_rfl)
def UzA:Ann:={ loops:=[],cuts:=[],frz:=[],rm:=[.id,.id] }
abbrev UE5 (n:Nat):Env:=eC 51 (UN9 n) (eC 49 (UJ5 n) (eC 48 (UN7 n) eN))
theorem Urj (n:Nat):EnvOK Tryz.prog GI (UE5 n):=.cons (.cons (.cons (.nil) (URz n)) (UOW n)) (URB n)
def p17 (n:Nat) (x1:Int) (x2 x3:LP) (k0:Bool→Int→O R):O R :=
 p48 n x1 x2 x3 (fun y4=>bif (y4 != 0) then (k0 false y4) else (Uwk n x3 (fun y5=>bif y5 then (k0 false 0) else (p51 n x1 x2 x3 (fun y6 y7=>bif (y7 == 0) then (k0 (bif true then (decide (y6<0)) else false) y7) else (k0 false y7))))))
abbrev UQw (n:Nat):Orc R:=oN
abbrev UPL (n:Nat):Orc R:=oN
abbrev K17 (R:Type) (n:Nat):=JcH (R:=R) Tryz.prog (UE5 n) UzA n (30,[]) (UQw n) (UPL n)
theorem UR2 (n:Nat):Je6 (K17 R n) (JaJ UzA (Jll Tryz.f17)):=pO pN (by kernel_rfl)
abbrev t17:Sl (List SV):=(.c (sP (JlI (.c (Jlv .i64) (.c sSh .n)))) (cH .n))
abbrev f17 (n:Nat) (K:List SV→O R):t17.T (O R):=fun x1 x2 x3=>p17 n x1 x2 x3 (fun y1 y2=>K [vB y1,vI y2])
abbrev UNQ (n:Nat):FS:=fT [false,false] t17 (f17 n)
theorem URi (n:Nat):FSound Tryz.prog GI 17 (UNQ n):=gd UzA n (Urj n) Tryz.func17 (.cons (Urj n) t17 (f17 n) (fun K _ _ _=>(Jkq (c:=Jll Tryz.f17) (by kernel_rfl) (UR2 n) K).trans (by kernel_rfl)) .nil) (by kernel_rfl)
def UhW:Ann:={ loops:=[(5,ids [0,1,4,18,19,20],ids [0,1,2,3,4])],cuts:=[],frz:=[],rm:=[.id,.id] }
abbrev UBg (n:Nat):Env:=eC 31 (UJ1 n) (eC 30 (UIM n) (eC 19 (UBZ n) eN))
theorem Uru (n:Nat):EnvOK Tryz.prog GI (UBg n):=.cons (.cons (.cons (.nil) (UDQ n)) (ULh n)) (UOS n)
def Uuq (n:Nat) (l0:Int→LP→LP→LP→ByteArray→LP→Int→Int→O R) (x1:Int) (x2 x3 x4:LP) (x5:ByteArray) (x6:LP) (x7 x8:Int) (k0:Int→LP→LP→Bool→Int→LP→ByteArray→O R) (k1:Int→LP→LP→LP→ByteArray→O R):O R :=
 bif (decide (x8<x7)) then (bif (inR x8 ((x6).length)) then (Jh2 ((x6).getD ((x8:Int).toNat) (.v (.bool false))) fun a9=>JdT a9 fun h10 t11=>Jj .i64 h10 fun e12=>JdT t11 fun h13 t14=>Jj3 h13 fun e15=>Ji2 t14 (p19 n e15 ⟨#[48]⟩ (fun y16=>bif (decide (y16>0)) then (k0 x1 x2 x3 false 0 x4 x5) else (l0 x1 x2 x3 x4 x5 x6 x7 (IntKind.i64.wrap (x8 + 1)))))) else none) else (k1 x1 x2 x3 x4 x5)
def UlE (n:Nat):Nat→Int→LP→LP→LP→ByteArray→LP→Int→Int→(Int→LP→LP→Bool→Int→LP→ByteArray→O R)→(Int→LP→LP→LP→ByteArray→O R)→O R
 | 0,_,_,_,_,_,_,_,_,_,_=>none
 | m + 1,x1,x2,x3,x4,x5,x6,x7,x8,k0,k1=>Uuq n (fun x1 x2 x3 x4 x5 x6 x7 x8=>UlE n m x1 x2 x3 x4 x5 x6 x7 x8 k0 k1) x1 x2 x3 x4 x5 x6 x7 x8 k0 k1
def UHd (n:Nat) (x1:Int) (x2 x3 x4:LP) (x5:ByteArray) (x6:LP) (x7 x8:Int) (k0:Int→LP→LP→Bool→Int→LP→ByteArray→O R) (k1:Int→LP→LP→LP→ByteArray→O R):O R:=UlE n n x1 x2 x3 x4 x5 x6 x7 x8 k0 k1
def p29 (n:Nat) (x1:Int) (x2 x3:LP) (k0:Bool→Int→O R):O R :=
 p30 n x1 x2 x3 (fun y4 y5 y6=>bif (y6 != 0) then (k0 false y6) else (UHd n x1 x2 x3 y4 y5 y4 ((y4).length:Int) 0 (fun y7 y8 y9 y10 y11 y12 y13=>k0 y10 y11) (fun y14 y15 y16 y17 y18=>p31 n y14 y15 y16 (fun y19=>bif y19 then (p19 n y18 ⟨#[48]⟩ (fun y20=>k0 (bif true then (decide (y20<0)) else false) 0)) else (k0 false 0)))))
abbrev E29 (n:Nat):Code→Fr→Kc R→O R:=evC Tryz.prog (UBg n) UhW n (38,[])
noncomputable def Uxg:Code:=Jj4 (Jll Tryz.f29) [1,1,1,0,1,0,0]
abbrev Uhn:Sl (List SV):=(.c (sP (sFb (.c (Jlv .i64) (.c sSh .n)))) (.c (sP (sFb (.c sSh .n))) (.c (sBx 43 (cH (cS .n))) (cH (cI (cI .n))))))
abbrev Us0 (n m:Nat) (K:Kc R):Uhn.T (O R):=fun x1 x2 x3 x4 x5 x6 x7 x8=>UlE n m x1 x2 x3 x4 x5 x6 x7 x8 (fun y1 y2 y3 y4 y5 y6 y7=>xL UhW 5 K .ret [.p (.fb [.v (.int .i64 y1),.sh y2]),.p (.fb [.sh y3]),vB y4,vI y5,.bx 43 [vH y6,vS y7]]) (fun y1 y2 y3 y4 y5=>xL UhW 5 K (.exit 0) [.p (.fb [.v (.int .i64 y1),.sh y2]),.p (.fb [.sh y3]),dD,dD,.bx 43 [vH y4,vS y5]])
abbrev UEd (n:Nat) (K:Kc R) (l0:Uhn.T (O R)):Uhn.T (O R):=fun x1 x2 x3 x4 x5 x6 x7 x8=>Uuq n l0 x1 x2 x3 x4 x5 x6 x7 x8 (fun y1 y2 y3 y4 y5 y6 y7=>xL UhW 5 K .ret [.p (.fb [.v (.int .i64 y1),.sh y2]),.p (.fb [.sh y3]),vB y4,vI y5,.bx 43 [vH y6,vS y7]]) (fun y1 y2 y3 y4 y5=>xL UhW 5 K (.exit 0) [.p (.fb [.v (.int .i64 y1),.sh y2]),.p (.fb [.sh y3]),dD,dD,.bx 43 [vH y4,vS y5]])
abbrev UOw (n:Nat):Orc R:=oL UhW (E29 n) n 5 Uxg Uhn (Us0 n n) oN
abbrev UNh (n:Nat):Orc R:=oN
abbrev K29 (R:Type) (n:Nat):=JcH (R:=R) Tryz.prog (UBg n) UhW n (38,[]) (UOw n) (UNh n)
theorem UHx (n:Nat):K29 R n (false,5,Uxg):=JkF (lo:=UOw n) (cu:=UNh n) (pO pN (by kernel_rfl)) Uhn (Us0 n n) (JiE (F:=Us0 n) Uhn (UEd n) (fun K _ _ _ _ _ _ _ _=>rfl) (fun _ _=>rfl) (fun L K _ _ _ _ _ _ _ _=>by show _=_; kernel_rfl) n) fun _ _=>rfl
theorem USc (n:Nat):Je6 (K29 R n) (JaJ UhW (Jll Tryz.f29)):=pO (pC (UHx n) pN) (by kernel_rfl)
abbrev t29:Sl (List SV):=(.c (sP (sFb (.c (Jlv .i64) (.c sSh .n)))) (.c (sP (sFb (.c sSh .n))) .n))
abbrev f29 (n:Nat) (K:List SV→O R):t29.T (O R):=fun x1 x2 x3=>p29 n x1 x2 x3 (fun y1 y2=>K [vB y1,vI y2])
abbrev UNX (n:Nat):FS:=fT [false,false] t29 (f29 n)
theorem URp (n:Nat):FSound Tryz.prog GI 29 (UNX n):=gd UhW n (Uru n) Tryz.func29 (.cons (Uru n) t29 (f29 n) (fun K _ _ _=>(Jkq (c:=Jll Tryz.f29) (by kernel_rfl) (USc n) K).trans (by kernel_rfl)) .nil) (by kernel_rfl)
def UzG:Ann:={ loops:=[],cuts:=[],frz:=[],rm:=[.id,.id] }
abbrev UFa (n:Nat):Env:=eC 18 (UJY n) eN
theorem UrA (n:Nat):EnvOK Tryz.prog GI (UFa n):=.cons (.nil) (UOP n)
def p36 (n:Nat) (x1 x2:LP) (k0:ByteArray→Int→O R):O R :=
 p18 n x1 ⟨#[48]⟩ x2 (fun y3 y4=>k0 y3 y4)
abbrev UQC (n:Nat):Orc R:=oN
abbrev UPR (n:Nat):Orc R:=oN
abbrev K36 (R:Type) (n:Nat):=JcH (R:=R) Tryz.prog (UFa n) UzG n (12,[]) (UQC n) (UPR n)
theorem USi (n:Nat):Je6 (K36 R n) (JaJ UzG (Jll Tryz.f36)):=pO pN (by kernel_rfl)
abbrev t36:Sl (List SV):=(cH (cH .n))
abbrev f36 (n:Nat) (K:List SV→O R):t36.T (O R):=fun x1 x2=>p36 n x1 x2 (fun y1 y2=>K [vS y1,vI y2])
abbrev UJ2 (n:Nat):FS:=fT [false,false] t36 (f36 n)
theorem UOT (n:Nat):FSound Tryz.prog GI 36 (UJ2 n):=gd UzG n (UrA n) Tryz.func36 (.cons (UrA n) t36 (f36 n) (fun K _ _=>(Jkq (c:=Jll Tryz.f36) (by kernel_rfl) (USi n) K).trans (by kernel_rfl)) .nil) (by kernel_rfl)
def Upo:Ann:={ loops:=[],cuts:=[],frz:=[],rm:=[.id] }
abbrev Ux2 (n:Nat):Env:=eN
theorem Unn (n:Nat):EnvOK Tryz.prog GI (Ux2 n):=.nil
def UyJ (n:Nat) (x1:Int) (x2:ByteArray) (x3:Int) (k0:Int→O R):O R :=
 k0 (IntKind.i64.wrap (x1 - x3))
abbrev UKp (n:Nat):Orc R:=oN
abbrev UJC (n:Nat):Orc R:=oN
abbrev UPw (R:Type) (n:Nat):=JcH (R:=R) Tryz.prog (Ux2 n) Upo n (9,[]) (UKp n) (UJC n)
theorem ULQ (n:Nat):Je6 (UPw R n) (JaJ Upo (Jll Tryz.f118)):=pO pN (by kernel_rfl)
abbrev UMv:Sl (List SV):=(.c (sP (JlI (.c (Jlv .i64) (.c Jly .n)))) (cI .n))
abbrev f118 (n:Nat) (K:List SV→O R):UMv.T (O R):=fun x1 x2 x3=>UyJ n x1 x2 x3 (fun y1=>K [vI y1])
abbrev UF4 (n:Nat):FS:=fT [false,false] UMv (f118 n)
theorem UKV (n:Nat):FSound Tryz.prog GI 118 (UF4 n):=gd Upo n (Unn n) Tryz.func118 (.cons (Unn n) UMv (f118 n) (fun K _ _ _=>(Jkq (c:=Jll Tryz.f118) (by kernel_rfl) (ULQ n) K).trans (by kernel_rfl)) .nil) (by kernel_rfl)
def Ug:Ann:={ loops:=[(3,ids [0,1,2,8,9,10],ids [0,1,2,6,7,8,9])],cuts:=[],frz:=[],rm:=[.id,.id] }
abbrev UqX (n:Nat):Env:=eC 118 (UF4 n) eN
theorem Unm (n:Nat):EnvOK Tryz.prog GI (UqX n):=.cons (.nil) (UKV n)
def UdM (n:Nat) (l0:LP→Int→Int→Int→Int→O R) (x1:LP) (x2 x3 x4 x5:Int) (k0:LP→Int→Int→Int→O R):O R :=
 bif (decide (x4<x5)) then (let v6:=IntKind.u64.wrap (IntKind.i64.wrap (x4 + x5)); bif decide ((1:Int)<0) then none else (let v7:=Int.fdiv v6 (2 ^ (min ((1:Int)).toNat IntKind.u64.bits)); bif (inR (IntKind.i64.wrap (v7)) ((x1).length)) then (Jh2 ((x1).getD ((IntKind.i64.wrap (v7):Int).toNat) (.v (.bool false))) fun a8=>JdT a8 fun h9 t10=>Jj .i64 h9 fun e11=>JdT t10 fun h12 t13=>Jj3 h12 fun e14=>Ji2 t13 (UyJ n e11 e14 x2 (fun y15=>bif (decide (y15<0)) then (let v16:=IntKind.i64.wrap ((IntKind.i64.wrap (v7)) + 1); l0 x1 x2 x3 v16 x5) else (l0 x1 x2 x3 x4 (IntKind.i64.wrap (v7)))))) else none)) else (k0 x1 x2 x3 x4)
def UbD (n:Nat):Nat→LP→Int→Int→Int→Int→(LP→Int→Int→Int→O R)→O R
 | 0,_,_,_,_,_,_=>none
 | m + 1,x1,x2,x3,x4,x5,k0=>UdM n (fun x1 x2 x3 x4 x5=>UbD n m x1 x2 x3 x4 x5 k0) x1 x2 x3 x4 x5 k0
def Ut9 (n:Nat) (x1:LP) (x2 x3 x4 x5:Int) (k0:LP→Int→Int→Int→O R):O R:=UbD n n x1 x2 x3 x4 x5 k0
def ULs (n:Nat) (x1:LP) (x2:Int) (k0:Int→Bool→O R):O R :=
 Ut9 n x1 x2 ((x1).length:Int) 0 ((x1).length:Int) (fun y3 y4 y5 y6=>bif (decide (y6<y5)) then (bif (inR y6 ((y3).length)) then (Jh2 ((y3).getD ((y6:Int).toNat) (.v (.bool false))) fun a7=>JdT a7 fun h8 t9=>Jj .i64 h8 fun e10=>JdT t9 fun h11 t12=>Jj3 h11 fun e13=>Ji2 t12 (UyJ n e10 e13 y4 (fun y14=>k0 y6 (bif true then (y14 == 0) else false)))) else none) else (k0 y6 false))
abbrev UPi (n:Nat):Code→Fr→Kc R→O R:=evC Tryz.prog (UqX n) Ug n (49,[])
noncomputable def UpY:Code:=Jj4 (Jll Tryz.f117) [1,1,1,0,0,0]
abbrev UeT:Sl (List SV):=(cH (cI (.c (sP (sFn 118)) (cI (cI (cI .n))))))
abbrev Uk9 (n m:Nat) (K:Kc R):UeT.T (O R):=fun x1 x2 x3 x4 x5=>UbD n m x1 x2 x3 x4 x5 (fun y1 y2 y3 y4=>xL Ug 3 K (.exit 0) [vH y1,vI y2,.p (.v (.func (.func 118) #[] #[])),dD,dD,vI y3,vI y4])
abbrev UAp (n:Nat) (K:Kc R) (l0:UeT.T (O R)):UeT.T (O R):=fun x1 x2 x3 x4 x5=>UdM n l0 x1 x2 x3 x4 x5 (fun y1 y2 y3 y4=>xL Ug 3 K (.exit 0) [vH y1,vI y2,.p (.v (.func (.func 118) #[] #[])),dD,dD,vI y3,vI y4])
abbrev UGC (n:Nat):Orc R:=oL Ug (UPi n) n 3 UpY UeT (Uk9 n n) oN
abbrev UEP (n:Nat):Orc R:=oN
abbrev UM6 (R:Type) (n:Nat):=JcH (R:=R) Tryz.prog (UqX n) Ug n (49,[]) (UGC n) (UEP n)
theorem UCL (n:Nat):UM6 R n (false,3,UpY):=JkF (lo:=UGC n) (cu:=UEP n) (pO pN (by kernel_rfl)) UeT (Uk9 n n) (JiE (F:=Uk9 n) UeT (UAp n) (fun K _ _ _ _ _=>rfl) (fun _ _=>rfl) (fun L K _ _ _ _ _=>by show _=_; kernel_rfl) n) fun _ _=>rfl
theorem ULP (n:Nat):Je6 (UM6 R n) (JaJ Ug (Jll Tryz.f117)):=pO (pC (UCL n) pN) (by kernel_rfl)
abbrev t117:Sl (List SV):=(cH (cI (.c (sP (sFn 118)) .n)))
abbrev f117 (n:Nat) (K:List SV→O R):t117.T (O R):=fun x1 x2=>ULs n x1 x2 (fun y1 y2=>K [vI y1,vB y2])
abbrev UF3 (n:Nat):FS:=fT [false,false,false] t117 (f117 n)
theorem UKU (n:Nat):FSound Tryz.prog GI 117 (UF3 n):=gd Ug n (Unm n) Tryz.func117 (.cons (Unm n) t117 (f117 n) (fun K _ _=>(Jkq (c:=Jll Tryz.f117) (by kernel_rfl) (ULP n) K).trans (by kernel_rfl)) .nil) (by kernel_rfl)
def Uz7:Ann:={ loops:=[],cuts:=[],frz:=[],rm:=[.id,.id] }
abbrev UFB (n:Nat):Env:=eC 117 (UF3 n) eN
theorem Usf (n:Nat):EnvOK Tryz.prog GI (UFB n):=.cons (.nil) (UKU n)
def p81 (n:Nat) (x1:LP) (x2:ByteArray) (x3:Int) (k0:Int→Bool→O R):O R :=
 ULs n x1 x3 (fun y4 y5=>k0 y4 y5)
abbrev UQ3 (n:Nat):Orc R:=oN
abbrev UQh (n:Nat):Orc R:=oN
abbrev K81 (R:Type) (n:Nat):=JcH (R:=R) Tryz.prog (UFB n) Uz7 n (12,[]) (UQ3 n) (UQh n)
theorem USY (n:Nat):Je6 (K81 R n) (JaJ Uz7 (Jll Tryz.f81)):=pO pN (by kernel_rfl)
abbrev t81:Sl (List SV):=(.c (sP (JlI (.c sSh (.c Jly .n)))) (cI .n))
abbrev f81 (n:Nat) (K:List SV→O R):t81.T (O R):=fun x1 x2 x3=>p81 n x1 x2 x3 (fun y1 y2=>K [vI y1,vB y2])
abbrev UOk (n:Nat):FS:=fT [false,false] t81 (f81 n)
theorem URN (n:Nat):FSound Tryz.prog GI 81 (UOk n):=gd Uz7 n (Usf n) Tryz.func81 (.cons (Usf n) t81 (f81 n) (fun K _ _ _=>(Jkq (c:=Jll Tryz.f81) (by kernel_rfl) (USY n) K).trans (by kernel_rfl)) .nil) (by kernel_rfl)
def UoQ:Ann:={ loops:=[],cuts:=[(3,ids [1,2],ids [4])],frz:=[],rm:=[.id] }
abbrev UBl (n:Nat):Env:=eC 81 (UOk n) (eC 80 (UKb n) (eC 52 (UDM n) eN))
theorem UrC (n:Nat):EnvOK Tryz.prog GI (UBl n):=.cons (.cons (.cons (.nil) (UG1 n)) (UO3 n)) (URN n)
def Uuu (n:Nat) (x1:Int) (x2:LP) (x3:ByteArray) (k0:ByteArray→O R):O R :=
 p81 n x2 x3 x1 (fun y4 y5=>bif y5 then (bif (inR y4 ((x2).length)) then (Jh2 ((x2).getD ((y4:Int).toNat) (.v (.bool false))) fun a6=>JdT a6 fun h7 t8=>Jj .i64 h7 fun e9=>JdT t8 fun h10 t11=>Jj3 h10 fun e12=>Ji2 t11 (k0 e12)) else none) else (k0 ⟨#[48]⟩))
def p38 (n:Nat) (x1:LP) (x2:ByteArray) (x3:Int) (k0:ByteArray→O R):O R :=
 p52 n x1 x2 (fun y4=>bif (y4 != 0) then (k0 ⟨#[48]⟩) else (p80 n x3 (fun y5=>bif (bif false then true else (!y5)) then (k0 ⟨#[48]⟩) else (Uuu n x3 x1 x2 (fun y6=>k0 y6)))))
abbrev E38 (n:Nat):Code→Fr→Kc R→O R:=evC Tryz.prog (UBl n) UoQ n (28,[])
noncomputable def Uxm:Code:=Jj4 (Jll Tryz.f38) [1,1]
abbrev Uu8:Sl (List SV):=(cI (.c (sBx 43 (cH (cS .n))) .n))
abbrev Uym (n:Nat) (K:Kc R):Uu8.T (O R):=fun x1 x2 x3=>Uuu n x1 x2 x3 (fun y1=>xC UoQ 3 K .ret [vS y1])
abbrev UOA (n:Nat):Orc R:=oN
abbrev UNl (n:Nat):Orc R:=oC UoQ (E38 n) 3 Uxm Uu8 (Uym n) oN
abbrev K38 (R:Type) (n:Nat):=JcH (R:=R) Tryz.prog (UBl n) UoQ n (28,[]) (UOA n) (UNl n)
theorem UHF (n:Nat):K38 R n (true,3,Uxm):=JkW (lo:=UOA n) (cu:=UNl n) (pO pN (by kernel_rfl)) Uu8 (Uym n) (fun K _ _ _=>by show _=_; kernel_rfl) fun _ _=>rfl
theorem USk (n:Nat):Je6 (K38 R n) (JaJ UoQ (Jll Tryz.f38)):=pO (pC (UHF n) pN) (by kernel_rfl)
abbrev t38:Sl (List SV):=(.c (sP (JlI (.c sSh (.c Jly .n)))) (cI .n))
abbrev f38 (n:Nat) (K:List SV→O R):t38.T (O R):=fun x1 x2 x3=>p38 n x1 x2 x3 (fun y1=>K [vS y1])
abbrev UN1 (n:Nat):FS:=fT [false,false] t38 (f38 n)
theorem URt (n:Nat):FSound Tryz.prog GI 38 (UN1 n):=gd UoQ n (UrC n) Tryz.func38 (.cons (UrC n) t38 (f38 n) (fun K _ _ _=>(Jkq (c:=Jll Tryz.f38) (by kernel_rfl) (USk n) K).trans (by kernel_rfl)) .nil) (by kernel_rfl)
def Uh0:Ann:={ loops:=[(9,ids [2,6,9,40,41],ids [4,5,9])],cuts:=[(8,ids [0,2,6,9],ids [4,5])],frz:=[],rm:=[.id,.id] }
abbrev UBk (n:Nat):Env:=eC 38 (UN1 n) (eC 37 (UN0 n) (eC 36 (UJ2 n) (eC 31 (UJ1 n) (eC 30 (UIM n) (eC 19 (UBZ n) eN)))))
theorem Urz (n:Nat):EnvOK Tryz.prog GI (UBk n):=.cons (.cons (.cons (.cons (.cons (.cons (.nil) (UDQ n)) (ULh n)) (UOS n)) (UOT n)) (URs n)) (URt n)
def UiV (n:Nat) (l0:LP→LP→ByteArray→Bool→Int→Int→O R) (x1 x2:LP) (x3:ByteArray) (x4:Bool) (x5 x6:Int) (k0:Bool→O R):O R :=
 bif (decide (x6<x5)) then (bif x4 then (bif true then (bif true then (p38 n x2 x3 x6 (fun y7=>bif true then (bif true then (bif true then (bif true then (p38 n x1 ⟨#[48]⟩ x6 (fun y8=>bif true then (p19 n y7 y8 (fun y9=>bif true then (l0 x1 x2 x3 (bif true then (decide (y9≤0)) else false) x5 (IntKind.i64.wrap (x6 + 1))) else none)) else none)) else none) else none) else none) else none)) else none) else none) else (bif false then none else (bif false then none else (bif false then none else (bif false then none else (bif false then none else (bif false then none else (bif false then none else (bif false then none else (bif false then none else (l0 x1 x2 x3 false x5 (IntKind.i64.wrap (x6 + 1))))))))))))) else (k0 x4)
def Uen (n:Nat):Nat→LP→LP→ByteArray→Bool→Int→Int→(Bool→O R)→O R
 | 0,_,_,_,_,_,_,_=>none
 | m + 1,x1,x2,x3,x4,x5,x6,k0=>UiV n (fun x1 x2 x3 x4 x5 x6=>Uen n m x1 x2 x3 x4 x5 x6 k0) x1 x2 x3 x4 x5 x6 k0
def Uut (n:Nat) (x1 x2:LP) (x3:ByteArray) (x4:Bool) (x5 x6:Int) (k0:Bool→O R):O R:=Uen n n x1 x2 x3 x4 x5 x6 k0
def Ukj (n:Nat) (x1:Int) (x2 x3 x4:LP) (x5:ByteArray) (x6:Bool) (k0:Bool→Int→O R):O R :=
 Uut n x3 x4 x5 x6 x1 0 (fun y7=>k0 y7 0)
def p35 (n:Nat) (x1:Int) (x2 x3 x4 x5:LP) (k0:Bool→Int→O R):O R :=
 p30 n x1 x2 x3 (fun y6 y7 y8=>bif (y8 != 0) then (k0 false y8) else (p36 n x4 x5 (fun y9 y10=>bif (y10 != 0) then (k0 false y10) else (p31 n x1 x2 x3 (fun y11=>bif y11 then (bif true then (bif true then (bif true then (p37 n y7 (fun y12=>bif true then (Ukj n x1 x2 x4 y6 y7 (bif true then eqS y9 y12 else false) (fun y13 y14=>k0 y13 y14)) else none)) else none) else none) else none) else (bif false then none else (bif false then none else (bif false then none else (bif false then none else (bif false then none else (Ukj n x1 x2 x4 y6 y7 false (fun y15 y16=>k0 y15 y16))))))))))))
abbrev E35 (n:Nat):Code→Fr→Kc R→O R:=evC Tryz.prog (UBk n) Uh0 n (58,[])
noncomputable def Uxk:Code:=Jj4 (Jll Tryz.f35) [1,1,1,1,1,1]
abbrev Uu7:Sl (List SV):=(.c (sP (sFb (.c (Jlv .i64) (.c sSh .n)))) (.c (sP (sFb (.c sSh .n))) (.c (sBx 43 (cH (cS .n))) (cB .n))))
abbrev Uyl (n:Nat) (K:Kc R):Uu7.T (O R):=fun x1 x2 x3 x4 x5 x6=>Ukj n x1 x2 x3 x4 x5 x6 (fun y1 y2=>xC Uh0 8 K .ret [vB y1,vI y2])
noncomputable def Uxl:Code:=Jj4 (Jll Tryz.f35) [1,1,1,1,1,1,0,1,0,0]
abbrev Uhr:Sl (List SV):=(.c (sP (sFb (.c sSh .n))) (.c (sBx 43 (cH (cS .n))) (cB (cI (cI .n)))))
abbrev Us7 (n m:Nat) (K:Kc R):Uhr.T (O R):=fun x1 x2 x3 x4 x5 x6=>Uen n m x1 x2 x3 x4 x5 x6 (fun y1=>xL Uh0 9 K (.exit 0) [dD,dD,vB y1])
abbrev UEh (n:Nat) (K:Kc R) (l0:Uhr.T (O R)):Uhr.T (O R):=fun x1 x2 x3 x4 x5 x6=>UiV n l0 x1 x2 x3 x4 x5 x6 (fun y1=>xL Uh0 9 K (.exit 0) [dD,dD,vB y1])
abbrev UKC (n:Nat):Orc R:=oL Uh0 (E35 n) n 9 Uxl Uhr (Us7 n n) oN
abbrev UJP (n:Nat):Orc R:=oC Uh0 (E35 n) 8 Uxk Uu7 (Uyl n) oN
abbrev K35 (R:Type) (n:Nat):=JcH (R:=R) Tryz.prog (UBk n) Uh0 n (58,[]) (UKC n) (UJP n)
theorem UHE (n:Nat):K35 R n (false,9,Uxl):=JkF (lo:=UKC n) (cu:=UJP n) (pO pN (by kernel_rfl)) Uhr (Us7 n n) (JiE (F:=Us7 n) Uhr (UEh n) (fun K _ _ _ _ _ _=>rfl) (fun _ _=>rfl) (fun L K _ _ _ _ _ _=>by show _=_; kernel_rfl) n) fun _ _=>rfl
theorem UHD (n:Nat):K35 R n (true,8,Uxk):=JkW (lo:=UKC n) (cu:=UJP n) (pO (pC (UHE n) pN) (by kernel_rfl)) Uu7 (Uyl n) (fun K _ _ _ _ _ _=>by show _=_; kernel_rfl) fun _ _=>rfl
theorem USh (n:Nat):Je6 (K35 R n) (JaJ Uh0 (Jll Tryz.f35)):=pO (pC (UHD n) pN) (by kernel_rfl)
abbrev t35:Sl (List SV):=(.c (sP (sFb (.c (Jlv .i64) (.c sSh .n)))) (.c (sP (sFb (.c sSh .n))) (.c (sP (sFb (.c sSh .n))) (.c (sP (sFb (.c sSh .n))) .n))))
abbrev f35 (n:Nat) (K:List SV→O R):t35.T (O R):=fun x1 x2 x3 x4 x5=>p35 n x1 x2 x3 x4 x5 (fun y1 y2=>K [vB y1,vI y2])
abbrev UNZ (n:Nat):FS:=fT [false,false,false,false] t35 (f35 n)
theorem URr (n:Nat):FSound Tryz.prog GI 35 (UNZ n):=gd Uh0 n (Urz n) Tryz.func35 (.cons (Urz n) t35 (f35 n) (fun K _ _ _ _ _=>(Jkq (c:=Jll Tryz.f35) (by kernel_rfl) (USh n) K).trans (by kernel_rfl)) .nil) (by kernel_rfl)
def Ufm:Ann:={ loops:=[(3,ids [0,1,2,5,15,16,17],ids [0,1,2,3,4,5]),(8,ids [0,2,5,29,30,31],ids [0,2,3,4,5])],cuts:=[],frz:=[],rm:=[.id,.id] }
abbrev UBu (n:Nat):Env:=eC 36 (UJ2 n) (eC 19 (UBZ n) eN)
theorem UrW (n:Nat):EnvOK Tryz.prog GI (UBu n):=.cons (.cons (.nil) (UDQ n)) (UOT n)
def Uuw (n:Nat) (l0:LP→Int→LP→LP→Bool→LP→Int→Int→O R) (x1:LP) (x2:Int) (x3 x4:LP) (x5:Bool) (x6:LP) (x7 x8:Int) (k0:LP→Int→LP→LP→Bool→O R):O R :=
 bif (decide (x8<x7)) then (bif (inR x8 ((x6).length)) then (Jj3 ((x6).getD ((x8:Int).toNat) (.v (.bool false))) fun e9=>bif x5 then (bif true then (p19 n e9 ⟨#[48]⟩ (fun y10=>bif true then (l0 x1 x2 x3 x4 (bif true then (decide (y10≥0)) else false) x6 x7 (IntKind.i64.wrap (x8 + 1))) else none)) else none) else (bif false then none else (bif false then none else (bif false then none else (l0 x1 x2 x3 x4 false x6 x7 (IntKind.i64.wrap (x8 + 1))))))) else none) else (k0 x1 x2 x3 x4 x5)
def UlJ (n:Nat):Nat→LP→Int→LP→LP→Bool→LP→Int→Int→(LP→Int→LP→LP→Bool→O R)→O R
 | 0,_,_,_,_,_,_,_,_,_=>none
 | m + 1,x1,x2,x3,x4,x5,x6,x7,x8,k0=>Uuw n (fun x1 x2 x3 x4 x5 x6 x7 x8=>UlJ n m x1 x2 x3 x4 x5 x6 x7 x8 k0) x1 x2 x3 x4 x5 x6 x7 x8 k0
def UHg (n:Nat) (x1:LP) (x2:Int) (x3 x4:LP) (x5:Bool) (x6:LP) (x7 x8:Int) (k0:LP→Int→LP→LP→Bool→O R):O R:=UlJ n n x1 x2 x3 x4 x5 x6 x7 x8 k0
def Uux (n:Nat) (l0:LP→LP→Bool→LP→Int→Int→O R) (x1 x2:LP) (x3:Bool) (x4:LP) (x5 x6:Int) (k0:LP→LP→Bool→Int→Bool→O R) (k1:LP→LP→Bool→O R):O R :=
 bif (decide (x6<x5)) then (bif (inR x6 ((x4).length)) then (Jh2 ((x4).getD ((x6:Int).toNat) (.v (.bool false))) fun a7=>JdT a7 fun h8 t9=>Jkr h8 fun e10=>JdT t9 fun h11 t12=>Jj3 h11 fun e13=>JdT t12 fun h14 t15=>Jj2 h14 fun e16=>JdT t15 fun h17 t18=>Jj .i64 h17 fun e19=>Ji2 t18 (p36 n e10 x1 (fun y20 y21=>bif (y21 != 0) then (k0 x1 x2 false y21 x3) else (p19 n y20 ⟨#[48]⟩ (fun y22=>bif x3 then (bif true then (bif true then (bif (y22 == 0) then (bif true then (bif true then (bif true then (bif true then (bif true then (l0 x1 x2 true x4 x5 (IntKind.i64.wrap (x6 + 1))) else none) else none) else none) else none) else none) else (bif false then none else (bif false then none else (bif (decide (y22>0)) then (bif true then (bif true then (bif false then none else (bif true then (l0 x1 x2 (bif true then (bif false then true else (bif true then (!e16) else false)) else false) x4 x5 (IntKind.i64.wrap (x6 + 1))) else none)) else none) else none) else (bif false then none else (bif false then none else (bif false then none else (bif false then none else (bif true then (l0 x1 x2 false x4 x5 (IntKind.i64.wrap (x6 + 1))) else none))))))))) else none) else none) else (bif false then none else (bif false then none else (bif false then none else (bif false then none else (l0 x1 x2 false x4 x5 (IntKind.i64.wrap (x6 + 1)))))))))))) else none) else (k1 x1 x2 x3)
def UlK (n:Nat):Nat→LP→LP→Bool→LP→Int→Int→(LP→LP→Bool→Int→Bool→O R)→(LP→LP→Bool→O R)→O R
 | 0,_,_,_,_,_,_,_,_=>none
 | m + 1,x1,x2,x3,x4,x5,x6,k0,k1=>Uux n (fun x1 x2 x3 x4 x5 x6=>UlK n m x1 x2 x3 x4 x5 x6 k0 k1) x1 x2 x3 x4 x5 x6 k0 k1
def UHh (n:Nat) (x1 x2:LP) (x3:Bool) (x4:LP) (x5 x6:Int) (k0:LP→LP→Bool→Int→Bool→O R) (k1:LP→LP→Bool→O R):O R:=UlK n n x1 x2 x3 x4 x5 x6 k0 k1
def p59 (n:Nat) (x1:LP) (x2:Int) (x3 x4:LP) (k0:Bool→Int→O R):O R :=
 UHg n x1 x2 x3 x4 true x1 ((x1).length:Int) 0 (fun y5 y6 y7 y8 y9=>UHh n y5 y8 y9 y7 ((y7).length:Int) 0 (fun y10 y11 y12 y13 y14=>k0 y12 y13) (fun y15 y16 y17=>p36 n y16 y15 (fun y18 y19=>bif y17 then (bif true then (p19 n y18 ⟨#[48]⟩ (fun y20=>bif true then (k0 (bif true then (decide (y20<0)) else false) y19) else none)) else none) else (bif false then none else (bif false then none else (bif false then none else (k0 false y19)))))))
abbrev E59 (n:Nat):Code→Fr→Kc R→O R:=evC Tryz.prog (UBu n) Ufm n (75,[])
noncomputable def Uxw:Code:=Jj4 (Jll Tryz.f59) [1,1,0,1,0,0]
abbrev UhA:Sl (List SV):=(.c (sP (sFb (.c sSh .n))) (.c (sP (sFb (.c (Jlv .i64) (.c sSh .n)))) (.c (sP (sFb (.c sSh .n))) (cB (cH (cI (cI .n)))))))
abbrev Utg (n m:Nat) (K:Kc R):UhA.T (O R):=fun x1 x2 x3 x4 x5 x6 x7 x8=>UlJ n m x1 x2 x3 x4 x5 x6 x7 x8 (fun y1 y2 y3 y4 y5=>xL Ufm 3 K (.exit 0) [.p (.fb [.sh y1]),.p (.fb [.v (.int .i64 y2),.sh y3]),.p (.fb [.sh y4]),dD,dD,vB y5])
abbrev UEq (n:Nat) (K:Kc R) (l0:UhA.T (O R)):UhA.T (O R):=fun x1 x2 x3 x4 x5 x6 x7 x8=>Uuw n l0 x1 x2 x3 x4 x5 x6 x7 x8 (fun y1 y2 y3 y4 y5=>xL Ufm 3 K (.exit 0) [.p (.fb [.sh y1]),.p (.fb [.v (.int .i64 y2),.sh y3]),.p (.fb [.sh y4]),dD,dD,vB y5])
noncomputable def Uxx:Code:=Jj4 (Jll Tryz.f59) [1,1,1,0,1,0,0]
abbrev UhB:Sl (List SV):=(.c (sP (sFb (.c sSh .n))) (.c (sP (sFb (.c sSh .n))) (cB (cH (cI (cI .n))))))
abbrev Uth (n m:Nat) (K:Kc R):UhB.T (O R):=fun x1 x2 x3 x4 x5 x6=>UlK n m x1 x2 x3 x4 x5 x6 (fun y1 y2 y3 y4 y5=>xL Ufm 8 K .ret [.p (.fb [.sh y1]),.p (.fb [.sh y2]),vB y3,vI y4,vB y5]) (fun y1 y2 y3=>xL Ufm 8 K (.exit 2) [.p (.fb [.sh y1]),.p (.fb [.sh y2]),dD,dD,vB y3])
abbrev UEr (n:Nat) (K:Kc R) (l0:UhB.T (O R)):UhB.T (O R):=fun x1 x2 x3 x4 x5 x6=>Uux n l0 x1 x2 x3 x4 x5 x6 (fun y1 y2 y3 y4 y5=>xL Ufm 8 K .ret [.p (.fb [.sh y1]),.p (.fb [.sh y2]),vB y3,vI y4,vB y5]) (fun y1 y2 y3=>xL Ufm 8 K (.exit 2) [.p (.fb [.sh y1]),.p (.fb [.sh y2]),dD,dD,vB y3])
abbrev UKF (n:Nat):Orc R:=oL Ufm (E59 n) n 8 Uxx UhB (Uth n n) (oL Ufm (E59 n) n 3 Uxw UhA (Utg n n) oN)
abbrev UJS (n:Nat):Orc R:=oN
abbrev K59 (R:Type) (n:Nat):=JcH (R:=R) Tryz.prog (UBu n) Ufm n (75,[]) (UKF n) (UJS n)
theorem UHP (n:Nat):K59 R n (false,3,Uxw):=JkF (lo:=UKF n) (cu:=UJS n) (pO pN (by kernel_rfl)) UhA (Utg n n) (JiE (F:=Utg n) UhA (UEq n) (fun K _ _ _ _ _ _ _ _=>rfl) (fun _ _=>rfl) (fun L K _ _ _ _ _ _ _ _=>by show _=_; kernel_rfl) n) fun _ _=>rfl
theorem UHQ (n:Nat):K59 R n (false,8,Uxx):=JkF (lo:=UKF n) (cu:=UJS n) (pO pN (by kernel_rfl)) UhB (Uth n n) (JiE (F:=Uth n) UhB (UEr n) (fun K _ _ _ _ _ _=>rfl) (fun _ _=>rfl) (fun L K _ _ _ _ _ _=>by show _=_; kernel_rfl) n) fun _ _=>rfl
theorem USE (n:Nat):Je6 (K59 R n) (JaJ Ufm (Jll Tryz.f59)):=pO (pC (UHP n) (pC (UHQ n) pN)) (by kernel_rfl)
abbrev t59:Sl (List SV):=(.c (sP (sFb (.c sSh .n))) (.c (sP (sFb (.c (Jlv .i64) (.c sSh .n)))) (.c (sP (sFb (.c sSh .n))) .n)))
abbrev f59 (n:Nat) (K:List SV→O R):t59.T (O R):=fun x1 x2 x3 x4=>p59 n x1 x2 x3 x4 (fun y1 y2=>K [vB y1,vI y2])
abbrev UOa (n:Nat):FS:=fT [false,false,false] t59 (f59 n)
theorem URD (n:Nat):FSound Tryz.prog GI 59 (UOa n):=gd Ufm n (UrW n) Tryz.func59 (.cons (UrW n) t59 (f59 n) (fun K _ _ _ _=>(Jkq (c:=Jll Tryz.f59) (by kernel_rfl) (USE n) K).trans (by kernel_rfl)) .nil) (by kernel_rfl)
def Uah:Ann:={ loops:=[(4,ids [1,31,32,33],ids [1,2]),(10,ids [1,42,43,44],ids [1,2])],cuts:=[(3,ids [1],ids [2]),(17,ids [1],ids [2]),(23,ids [1],ids [2])],frz:=[],rm:=[.id] }
abbrev Uif (n:Nat):Env:=eC 76 (UOi n) (eC 66 (UJ8 n) (eC 65 (UIS n) (eC 59 (UOa n) (eC 35 (UNZ n) (eC 29 (UNX n) (eC 17 (UNQ n) eN))))))
theorem Uig (n:Nat):EnvOK Tryz.prog GI (Uif n):=.cons (.cons (.cons (.cons (.cons (.cons (.cons (.nil) (URi n)) (URp n)) (URr n)) (URD n)) (ULn n)) (UOZ n)) (URL n)
def Uus (n:Nat) (l0:Int→LP→LP→LP→LP→Bool→Int→LP→LP→LP→Int→Int→O R) (x1:Int) (x2 x3 x4 x5:LP) (x6:Bool) (x7:Int) (x8 x9 x10:LP) (x11 x12:Int) (k0:Int→LP→LP→LP→LP→Bool→Int→LP→LP→Int→O R) (k1:Int→LP→LP→LP→LP→Bool→Int→LP→LP→O R):O R :=
 bif (decide (x12<x11)) then (bif (inR x12 ((x10).length)) then (Jkr ((x10).getD ((x12:Int).toNat) (.v (.bool false))) fun e13=>p66 n e13 (fun y14=>bif (!y14) then (k0 x1 x2 x3 x4 x5 x6 x7 x8 x9 3) else (l0 x1 x2 x3 x4 x5 x6 x7 x8 x9 x10 x11 (IntKind.i64.wrap (x12 + 1))))) else none) else (k1 x1 x2 x3 x4 x5 x6 x7 x8 x9)
def UlH (n:Nat):Nat→Int→LP→LP→LP→LP→Bool→Int→LP→LP→LP→Int→Int→(Int→LP→LP→LP→LP→Bool→Int→LP→LP→Int→O R)→(Int→LP→LP→LP→LP→Bool→Int→LP→LP→O R)→O R
 | 0,_,_,_,_,_,_,_,_,_,_,_,_,_,_=>none
 | m + 1,x1,x2,x3,x4,x5,x6,x7,x8,x9,x10,x11,x12,k0,k1=>Uus n (fun x1 x2 x3 x4 x5 x6 x7 x8 x9 x10 x11 x12=>UlH n m x1 x2 x3 x4 x5 x6 x7 x8 x9 x10 x11 x12 k0 k1) x1 x2 x3 x4 x5 x6 x7 x8 x9 x10 x11 x12 k0 k1
def UHe (n:Nat) (x1:Int) (x2 x3 x4 x5:LP) (x6:Bool) (x7:Int) (x8 x9 x10:LP) (x11 x12:Int) (k0:Int→LP→LP→LP→LP→Bool→Int→LP→LP→Int→O R) (k1:Int→LP→LP→LP→LP→Bool→Int→LP→LP→O R):O R:=UlH n n x1 x2 x3 x4 x5 x6 x7 x8 x9 x10 x11 x12 k0 k1
def Uov (n:Nat) (l0:Int→LP→LP→LP→LP→Bool→Int→LP→LP→LP→Int→Int→O R) (x1:Int) (x2 x3 x4 x5:LP) (x6:Bool) (x7:Int) (x8 x9 x10:LP) (x11 x12:Int) (k0:Int→LP→LP→LP→LP→Bool→Int→LP→LP→Int→O R) (k1:Int→LP→LP→LP→LP→Bool→Int→LP→LP→O R):O R :=
 bif (decide (x12<x11)) then (bif (inR x12 ((x10).length)) then (Jkr ((x10).getD ((x12:Int).toNat) (.v (.bool false))) fun e13=>bif (((e13).length:Int) != x1) then (k0 x1 x2 x3 x4 x5 x6 x7 x8 x9 6) else (l0 x1 x2 x3 x4 x5 x6 x7 x8 x9 x10 x11 (IntKind.i64.wrap (x12 + 1)))) else none) else (k1 x1 x2 x3 x4 x5 x6 x7 x8 x9)
def UiT (n:Nat):Nat→Int→LP→LP→LP→LP→Bool→Int→LP→LP→LP→Int→Int→(Int→LP→LP→LP→LP→Bool→Int→LP→LP→Int→O R)→(Int→LP→LP→LP→LP→Bool→Int→LP→LP→O R)→O R
 | 0,_,_,_,_,_,_,_,_,_,_,_,_,_,_=>none
 | m + 1,x1,x2,x3,x4,x5,x6,x7,x8,x9,x10,x11,x12,k0,k1=>Uov n (fun x1 x2 x3 x4 x5 x6 x7 x8 x9 x10 x11 x12=>UiT n m x1 x2 x3 x4 x5 x6 x7 x8 x9 x10 x11 x12 k0 k1) x1 x2 x3 x4 x5 x6 x7 x8 x9 x10 x11 x12 k0 k1
def UCm (n:Nat) (x1:Int) (x2 x3 x4 x5:LP) (x6:Bool) (x7:Int) (x8 x9 x10:LP) (x11 x12:Int) (k0:Int→LP→LP→LP→LP→Bool→Int→LP→LP→Int→O R) (k1:Int→LP→LP→LP→LP→Bool→Int→LP→LP→O R):O R:=UiT n n x1 x2 x3 x4 x5 x6 x7 x8 x9 x10 x11 x12 k0 k1
def UlG (n:Nat) (x1:Int) (x2 x3 x4 x5:LP) (x6:Bool) (x7:Int) (x8 x9:LP) (k0:Int→O R):O R :=
 p29 n x7 x8 x9 (fun y10 y11=>bif (y11 != 0) then (k0 y11) else (bif (!y10) then (k0 16) else (k0 0)))
def UlF (n:Nat) (x1:Int) (x2 x3 x4 x5:LP) (x6:Bool) (x7:Int) (x8 x9:LP) (k0:Int→O R):O R :=
 bif (decide (((x4).length:Int)>0)) then (bif (inR 0 ((x4).length)) then (Jkr ((x4).getD ((0:Int).toNat) (.v (.bool false))) fun e10=>p17 n x1 x2 e10 (fun y11 y12=>bif (y12 != 0) then (k0 y12) else (bif (!y11) then (k0 15) else (UlG n x1 x2 x3 x4 x5 x6 x7 x8 x9 (fun y13=>k0 y13))))) else none) else (UlG n x1 x2 x3 x4 x5 x6 x7 x8 x9 (fun y14=>k0 y14))
def UyV (n:Nat) (x1:Int) (x2 x3 x4 x5:LP) (x6:Bool) (x7:Int) (x8 x9:LP) (k0:Int→O R):O R :=
 UHe n x1 x2 x3 x4 x5 x6 x7 x8 x9 x4 ((x4).length:Int) 0 (fun y10 y11 y12 y13 y14 y15 y16 y17 y18 y19=>k0 y19) (fun y20 y21 y22 y23 y24 y25 y26 y27 y28=>UCm n y20 y21 y22 y23 y24 y25 y26 y27 y28 y23 ((y23).length:Int) 0 (fun y29 y30 y31 y32 y33 y34 y35 y36 y37 y38=>k0 y38) (fun y39 y40 y41 y42 y43 y44 y45 y46 y47=>bif y44 then (bif (bif true then (((y43).length:Int) != ((y40).length:Int)) else false) then (k0 6) else (UlF n y39 y40 y41 y42 y43 y44 y45 y46 y47 (fun y48=>k0 y48))) else (UlF n y39 y40 y41 y42 y43 y44 y45 y46 y47 (fun y49=>k0 y49))))
def p32 (n:Nat) (x1:Int) (x2 x3 x4 x5:LP) (x6:Bool) (x7:Int) (x8 x9:LP) (k0:Int→O R):O R :=
 p65 n x1 x2 (fun y10=>bif (y10 != 0) then (k0 3) else (p76 n x1 x3 (fun y11=>bif (bif false then true else (!y11)) then (k0 3) else (p66 n x5 (fun y12=>bif (bif false then true else (!y12)) then (k0 3) else (UyV n x1 x2 x3 x4 x5 x6 x7 x8 x9 (fun y13=>k0 y13)))))))
def UgB (n:Nat) (l0:Int→LP→LP→LP→LP→Bool→Int→LP→LP→LP→LP→LP→Int→Int→O R) (x1:Int) (x2 x3 x4 x5:LP) (x6:Bool) (x7:Int) (x8 x9 x10 x11 x12:LP) (x13 x14:Int) (k0:Int→LP→LP→LP→LP→Bool→Int→LP→LP→LP→LP→Int→O R) (k1:Int→LP→LP→LP→LP→Bool→Int→LP→LP→LP→LP→O R):O R :=
 bif (decide (x14<x13)) then (bif (inR x14 ((x12).length)) then (Jkr ((x12).getD ((x14:Int).toNat) (.v (.bool false))) fun e15=>p66 n e15 (fun y16=>bif (!y16) then (k0 x1 x2 x3 x4 x5 x6 x7 x8 x9 x10 x11 3) else (l0 x1 x2 x3 x4 x5 x6 x7 x8 x9 x10 x11 x12 x13 (IntKind.i64.wrap (x14 + 1))))) else none) else (k1 x1 x2 x3 x4 x5 x6 x7 x8 x9 x10 x11)
def UdS (n:Nat):Nat→Int→LP→LP→LP→LP→Bool→Int→LP→LP→LP→LP→LP→Int→Int→(Int→LP→LP→LP→LP→Bool→Int→LP→LP→LP→LP→Int→O R)→(Int→LP→LP→LP→LP→Bool→Int→LP→LP→LP→LP→O R)→O R
 | 0,_,_,_,_,_,_,_,_,_,_,_,_,_,_,_,_=>none
 | m + 1,x1,x2,x3,x4,x5,x6,x7,x8,x9,x10,x11,x12,x13,x14,k0,k1=>UgB n (fun x1 x2 x3 x4 x5 x6 x7 x8 x9 x10 x11 x12 x13 x14=>UdS n m x1 x2 x3 x4 x5 x6 x7 x8 x9 x10 x11 x12 x13 x14 k0 k1) x1 x2 x3 x4 x5 x6 x7 x8 x9 x10 x11 x12 x13 x14 k0 k1
def Uow (n:Nat) (x1:Int) (x2 x3 x4 x5:LP) (x6:Bool) (x7:Int) (x8 x9 x10 x11 x12:LP) (x13 x14:Int) (k0:Int→LP→LP→LP→LP→Bool→Int→LP→LP→LP→LP→Int→O R) (k1:Int→LP→LP→LP→LP→Bool→Int→LP→LP→LP→LP→O R):O R:=UdS n n x1 x2 x3 x4 x5 x6 x7 x8 x9 x10 x11 x12 x13 x14 k0 k1
def Uek (n:Nat) (l0:Int→LP→LP→LP→LP→Bool→Int→LP→LP→LP→LP→LP→Int→Int→O R) (x1:Int) (x2 x3 x4 x5:LP) (x6:Bool) (x7:Int) (x8 x9 x10 x11 x12:LP) (x13 x14:Int) (k0:Int→LP→LP→LP→LP→Bool→Int→LP→LP→LP→LP→Int→O R) (k1:Int→LP→LP→LP→LP→Bool→Int→LP→LP→LP→LP→O R):O R :=
 bif (decide (x14<x13)) then (bif (inR x14 ((x12).length)) then (Jkr ((x12).getD ((x14:Int).toNat) (.v (.bool false))) fun e15=>bif (((e15).length:Int) != x1) then (k0 x1 x2 x3 x4 x5 x6 x7 x8 x9 x10 x11 6) else (l0 x1 x2 x3 x4 x5 x6 x7 x8 x9 x10 x11 x12 x13 (IntKind.i64.wrap (x14 + 1)))) else none) else (k1 x1 x2 x3 x4 x5 x6 x7 x8 x9 x10 x11)
def Ucz (n:Nat):Nat→Int→LP→LP→LP→LP→Bool→Int→LP→LP→LP→LP→LP→Int→Int→(Int→LP→LP→LP→LP→Bool→Int→LP→LP→LP→LP→Int→O R)→(Int→LP→LP→LP→LP→Bool→Int→LP→LP→LP→LP→O R)→O R
 | 0,_,_,_,_,_,_,_,_,_,_,_,_,_,_,_,_=>none
 | m + 1,x1,x2,x3,x4,x5,x6,x7,x8,x9,x10,x11,x12,x13,x14,k0,k1=>Uek n (fun x1 x2 x3 x4 x5 x6 x7 x8 x9 x10 x11 x12 x13 x14=>Ucz n m x1 x2 x3 x4 x5 x6 x7 x8 x9 x10 x11 x12 x13 x14 k0 k1) x1 x2 x3 x4 x5 x6 x7 x8 x9 x10 x11 x12 x13 x14 k0 k1
def Ukh (n:Nat) (x1:Int) (x2 x3 x4 x5:LP) (x6:Bool) (x7:Int) (x8 x9 x10 x11 x12:LP) (x13 x14:Int) (k0:Int→LP→LP→LP→LP→Bool→Int→LP→LP→LP→LP→Int→O R) (k1:Int→LP→LP→LP→LP→Bool→Int→LP→LP→LP→LP→O R):O R:=Ucz n n x1 x2 x3 x4 x5 x6 x7 x8 x9 x10 x11 x12 x13 x14 k0 k1
def UdR (n:Nat) (x1:Int) (x2 x3 x4 x5:LP) (x6:Bool) (x7:Int) (x8 x9 x10 x11:LP) (k0:Int→O R):O R :=
 p35 n x7 x8 x9 x10 x11 (fun y12 y13=>bif (y13 != 0) then (k0 y13) else (bif (!y12) then (k0 16) else (k0 0)))
def UdQ (n:Nat) (x1:Int) (x2 x3 x4 x5:LP) (x6:Bool) (x7:Int) (x8 x9 x10 x11:LP) (k0:Int→O R):O R :=
 bif (decide (((x4).length:Int)>0)) then (bif (inR 0 ((x4).length)) then (Jkr ((x4).getD ((0:Int).toNat) (.v (.bool false))) fun e12=>p17 n x1 x2 e12 (fun y13 y14=>bif (y14 != 0) then (k0 y14) else (bif (!y13) then (k0 15) else (UdR n x1 x2 x3 x4 x5 x6 x7 x8 x9 x10 x11 (fun y15=>k0 y15))))) else none) else (UdR n x1 x2 x3 x4 x5 x6 x7 x8 x9 x10 x11 (fun y16=>k0 y16))
def UiS (n:Nat) (x1:Int) (x2 x3 x4 x5:LP) (x6:Bool) (x7:Int) (x8 x9 x10 x11:LP) (k0:Int→O R):O R :=
 Uow n x1 x2 x3 x4 x5 x6 x7 x8 x9 x10 x11 x4 ((x4).length:Int) 0 (fun y12 y13 y14 y15 y16 y17 y18 y19 y20 y21 y22 y23=>k0 y23) (fun y24 y25 y26 y27 y28 y29 y30 y31 y32 y33 y34=>Ukh n y24 y25 y26 y27 y28 y29 y30 y31 y32 y33 y34 y27 ((y27).length:Int) 0 (fun y35 y36 y37 y38 y39 y40 y41 y42 y43 y44 y45 y46=>k0 y46) (fun y47 y48 y49 y50 y51 y52 y53 y54 y55 y56 y57=>bif y52 then (bif (bif true then (((y51).length:Int) != ((y48).length:Int)) else false) then (k0 6) else (UdQ n y47 y48 y49 y50 y51 y52 y53 y54 y55 y56 y57 (fun y58=>k0 y58))) else (UdQ n y47 y48 y49 y50 y51 y52 y53 y54 y55 y56 y57 (fun y59=>k0 y59))))
def UCn (n:Nat) (x1:Int) (x2 x3 x4 x5:LP) (x6:Bool) (x7:Int) (x8 x9 x10 x11:LP) (k0:Int→O R):O R :=
 p65 n x1 x2 (fun y12=>bif (y12 != 0) then (k0 3) else (p76 n x1 x3 (fun y13=>bif (bif false then true else (!y13)) then (k0 3) else (p66 n x5 (fun y14=>bif (bif false then true else (!y14)) then (k0 3) else (UiS n x1 x2 x3 x4 x5 x6 x7 x8 x9 x10 x11 (fun y15=>k0 y15)))))))
def Uki (n:Nat) (l0:Int→LP→LP→LP→LP→Bool→LP→Int→LP→LP→LP→Int→Int→O R) (x1:Int) (x2 x3 x4 x5:LP) (x6:Bool) (x7:LP) (x8:Int) (x9 x10 x11:LP) (x12 x13:Int) (k0:Int→LP→LP→LP→LP→Bool→LP→Int→LP→LP→Int→O R) (k1:Int→LP→LP→LP→LP→Bool→LP→Int→LP→LP→O R):O R :=
 bif (decide (x13<x12)) then (bif (inR x13 ((x11).length)) then (Jkr ((x11).getD ((x13:Int).toNat) (.v (.bool false))) fun e14=>p66 n e14 (fun y15=>bif (!y15) then (k0 x1 x2 x3 x4 x5 x6 x7 x8 x9 x10 3) else (l0 x1 x2 x3 x4 x5 x6 x7 x8 x9 x10 x11 x12 (IntKind.i64.wrap (x13 + 1))))) else none) else (k1 x1 x2 x3 x4 x5 x6 x7 x8 x9 x10)
def UgC (n:Nat):Nat→Int→LP→LP→LP→LP→Bool→LP→Int→LP→LP→LP→Int→Int→(Int→LP→LP→LP→LP→Bool→LP→Int→LP→LP→Int→O R)→(Int→LP→LP→LP→LP→Bool→LP→Int→LP→LP→O R)→O R
 | 0,_,_,_,_,_,_,_,_,_,_,_,_,_,_,_=>none
 | m + 1,x1,x2,x3,x4,x5,x6,x7,x8,x9,x10,x11,x12,x13,k0,k1=>Uki n (fun x1 x2 x3 x4 x5 x6 x7 x8 x9 x10 x11 x12 x13=>UgC n m x1 x2 x3 x4 x5 x6 x7 x8 x9 x10 x11 x12 x13 k0 k1) x1 x2 x3 x4 x5 x6 x7 x8 x9 x10 x11 x12 x13 k0 k1
def Uwj (n:Nat) (x1:Int) (x2 x3 x4 x5:LP) (x6:Bool) (x7:LP) (x8:Int) (x9 x10 x11:LP) (x12 x13:Int) (k0:Int→LP→LP→LP→LP→Bool→LP→Int→LP→LP→Int→O R) (k1:Int→LP→LP→LP→LP→Bool→LP→Int→LP→LP→O R):O R:=UgC n n x1 x2 x3 x4 x5 x6 x7 x8 x9 x10 x11 x12 x13 k0 k1
def Ug7 (n:Nat) (l0:Int→LP→LP→LP→LP→Bool→LP→Int→LP→LP→LP→Int→Int→O R) (x1:Int) (x2 x3 x4 x5:LP) (x6:Bool) (x7:LP) (x8:Int) (x9 x10 x11:LP) (x12 x13:Int) (k0:Int→LP→LP→LP→LP→Bool→LP→Int→LP→LP→Int→O R) (k1:Int→LP→LP→LP→LP→Bool→LP→Int→LP→LP→O R):O R :=
 bif (decide (x13<x12)) then (bif (inR x13 ((x11).length)) then (Jkr ((x11).getD ((x13:Int).toNat) (.v (.bool false))) fun e14=>bif (((e14).length:Int) != x1) then (k0 x1 x2 x3 x4 x5 x6 x7 x8 x9 x10 6) else (l0 x1 x2 x3 x4 x5 x6 x7 x8 x9 x10 x11 x12 (IntKind.i64.wrap (x13 + 1)))) else none) else (k1 x1 x2 x3 x4 x5 x6 x7 x8 x9 x10)
def Uel (n:Nat):Nat→Int→LP→LP→LP→LP→Bool→LP→Int→LP→LP→LP→Int→Int→(Int→LP→LP→LP→LP→Bool→LP→Int→LP→LP→Int→O R)→(Int→LP→LP→LP→LP→Bool→LP→Int→LP→LP→O R)→O R
 | 0,_,_,_,_,_,_,_,_,_,_,_,_,_,_,_=>none
 | m + 1,x1,x2,x3,x4,x5,x6,x7,x8,x9,x10,x11,x12,x13,k0,k1=>Ug7 n (fun x1 x2 x3 x4 x5 x6 x7 x8 x9 x10 x11 x12 x13=>Uel n m x1 x2 x3 x4 x5 x6 x7 x8 x9 x10 x11 x12 x13 k0 k1) x1 x2 x3 x4 x5 x6 x7 x8 x9 x10 x11 x12 x13 k0 k1
def Uur (n:Nat) (x1:Int) (x2 x3 x4 x5:LP) (x6:Bool) (x7:LP) (x8:Int) (x9 x10 x11:LP) (x12 x13:Int) (k0:Int→LP→LP→LP→LP→Bool→LP→Int→LP→LP→Int→O R) (k1:Int→LP→LP→LP→LP→Bool→LP→Int→LP→LP→O R):O R:=Uel n n x1 x2 x3 x4 x5 x6 x7 x8 x9 x10 x11 x12 x13 k0 k1
def UgA (n:Nat) (x1:Int) (x2 x3 x4 x5:LP) (x6:Bool) (x7:LP) (x8:Int) (x9 x10:LP) (k0:Int→O R):O R :=
 p59 n x7 x8 x9 x10 (fun y11 y12=>bif (y12 != 0) then (k0 y12) else (bif (!y11) then (k0 16) else (k0 0)))
def Ugz (n:Nat) (x1:Int) (x2 x3 x4 x5:LP) (x6:Bool) (x7:LP) (x8:Int) (x9 x10:LP) (k0:Int→O R):O R :=
 bif (decide (((x4).length:Int)>0)) then (bif (inR 0 ((x4).length)) then (Jkr ((x4).getD ((0:Int).toNat) (.v (.bool false))) fun e11=>p17 n x1 x2 e11 (fun y12 y13=>bif (y13 != 0) then (k0 y13) else (bif (!y12) then (k0 15) else (UgA n x1 x2 x3 x4 x5 x6 x7 x8 x9 x10 (fun y14=>k0 y14))))) else none) else (UgA n x1 x2 x3 x4 x5 x6 x7 x8 x9 x10 (fun y15=>k0 y15))
def Uou (n:Nat) (x1:Int) (x2 x3 x4 x5:LP) (x6:Bool) (x7:LP) (x8:Int) (x9 x10:LP) (k0:Int→O R):O R :=
 Uwj n x1 x2 x3 x4 x5 x6 x7 x8 x9 x10 x4 ((x4).length:Int) 0 (fun y11 y12 y13 y14 y15 y16 y17 y18 y19 y20 y21=>k0 y21) (fun y22 y23 y24 y25 y26 y27 y28 y29 y30 y31=>Uur n y22 y23 y24 y25 y26 y27 y28 y29 y30 y31 y25 ((y25).length:Int) 0 (fun y32 y33 y34 y35 y36 y37 y38 y39 y40 y41 y42=>k0 y42) (fun y43 y44 y45 y46 y47 y48 y49 y50 y51 y52=>bif y48 then (bif (bif true then (((y47).length:Int) != ((y44).length:Int)) else false) then (k0 6) else (Ugz n y43 y44 y45 y46 y47 y48 y49 y50 y51 y52 (fun y53=>k0 y53))) else (Ugz n y43 y44 y45 y46 y47 y48 y49 y50 y51 y52 (fun y54=>k0 y54))))
def UHf (n:Nat) (x1:Int) (x2 x3 x4 x5:LP) (x6:Bool) (x7:LP) (x8:Int) (x9 x10:LP) (k0:Int→O R):O R :=
 p65 n x1 x2 (fun y11=>bif (y11 != 0) then (k0 3) else (p76 n x1 x3 (fun y12=>bif (bif false then true else (!y12)) then (k0 3) else (p66 n x5 (fun y13=>bif (bif false then true else (!y13)) then (k0 3) else (Uou n x1 x2 x3 x4 x5 x6 x7 x8 x9 x10 (fun y14=>k0 y14)))))))
abbrev E32 (n:Nat):Code→Fr→Kc R→O R:=evC Tryz.prog (Uif n) Uah n (97,[])
noncomputable def Uqp:Code:=Jj4 (Jll Tryz.f32) [1,1]
abbrev Umg:Sl (List SV):=(.c (sBx 74 (cI (cH (cH (cH (cH (cB (.c (sP (JlJ 29 (.c (sFb (.c (Jlv .i64) (.c sSh .n))) (.c (sFb (.c sSh .n)) .n)))) .n)))))))) .n)
abbrev Umh:Sl (List SV):=(.c (sBx 74 (cI (cH (cH (cH (cH (cB (.c (sP (JlJ 35 (.c (sFb (.c (Jlv .i64) (.c sSh .n))) (.c (sFb (.c sSh .n)) (.c (sFb (.c sSh .n)) (.c (sFb (.c sSh .n)) .n)))))) .n)))))))) .n)
abbrev Umi:Sl (List SV):=(.c (sBx 74 (cI (cH (cH (cH (cH (cB (.c (sP (JlJ 59 (.c (sFb (.c sSh .n)) (.c (sFb (.c (Jlv .i64) (.c sSh .n))) (.c (sFb (.c sSh .n)) .n))))) .n)))))))) .n)
abbrev Us3 (n:Nat) (K:Kc R):Umg.T (O R):=fun x1 x2 x3 x4 x5 x6 x7 x8 x9=>UyV n x1 x2 x3 x4 x5 x6 x7 x8 x9 (fun y1=>xC Uah 3 K .ret [vI y1])
abbrev Us4 (n:Nat) (K:Kc R):Umh.T (O R):=fun x1 x2 x3 x4 x5 x6 x7 x8 x9 x10 x11=>UiS n x1 x2 x3 x4 x5 x6 x7 x8 x9 x10 x11 (fun y1=>xC Uah 3 K .ret [vI y1])
abbrev Us5 (n:Nat) (K:Kc R):Umi.T (O R):=fun x1 x2 x3 x4 x5 x6 x7 x8 x9 x10=>Uou n x1 x2 x3 x4 x5 x6 x7 x8 x9 x10 (fun y1=>xC Uah 3 K .ret [vI y1])
noncomputable def UkR:Code:=Jj4 (Jll Tryz.f32) [1,1,1,1,1]
abbrev UjP:Sl (List SV):=(.c (sBx 74 (cI (cH (cH (cH (cH (cB (.c (sP (JlJ 29 (.c (sFb (.c (Jlv .i64) (.c sSh .n))) (.c (sFb (.c sSh .n)) .n)))) .n)))))))) .n)
abbrev UjQ:Sl (List SV):=(.c (sBx 74 (cI (cH (cH (cH (cH (cB (.c (sP (JlJ 35 (.c (sFb (.c (Jlv .i64) (.c sSh .n))) (.c (sFb (.c sSh .n)) (.c (sFb (.c sSh .n)) (.c (sFb (.c sSh .n)) .n)))))) .n)))))))) .n)
abbrev UjR:Sl (List SV):=(.c (sBx 74 (cI (cH (cH (cH (cH (cB (.c (sP (JlJ 59 (.c (sFb (.c sSh .n)) (.c (sFb (.c (Jlv .i64) (.c sSh .n))) (.c (sFb (.c sSh .n)) .n))))) .n)))))))) .n)
abbrev Un5 (n:Nat) (K:Kc R):UjP.T (O R):=fun x1 x2 x3 x4 x5 x6 x7 x8 x9=>UlF n x1 x2 x3 x4 x5 x6 x7 x8 x9 (fun y1=>xC Uah 17 K .ret [vI y1])
abbrev Un6 (n:Nat) (K:Kc R):UjQ.T (O R):=fun x1 x2 x3 x4 x5 x6 x7 x8 x9 x10 x11=>UdQ n x1 x2 x3 x4 x5 x6 x7 x8 x9 x10 x11 (fun y1=>xC Uah 17 K .ret [vI y1])
abbrev Un7 (n:Nat) (K:Kc R):UjR.T (O R):=fun x1 x2 x3 x4 x5 x6 x7 x8 x9 x10=>Ugz n x1 x2 x3 x4 x5 x6 x7 x8 x9 x10 (fun y1=>xC Uah 17 K .ret [vI y1])
noncomputable def UkS:Code:=Jj4 (Jll Tryz.f32) [1,1,1,1,1,1]
abbrev UjS:Sl (List SV):=(.c (sBx 74 (cI (cH (cH (cH (cH (cB (.c (sP (JlJ 29 (.c (sFb (.c (Jlv .i64) (.c sSh .n))) (.c (sFb (.c sSh .n)) .n)))) .n)))))))) .n)
abbrev UjT:Sl (List SV):=(.c (sBx 74 (cI (cH (cH (cH (cH (cB (.c (sP (JlJ 35 (.c (sFb (.c (Jlv .i64) (.c sSh .n))) (.c (sFb (.c sSh .n)) (.c (sFb (.c sSh .n)) (.c (sFb (.c sSh .n)) .n)))))) .n)))))))) .n)
abbrev UjU:Sl (List SV):=(.c (sBx 74 (cI (cH (cH (cH (cH (cB (.c (sP (JlJ 59 (.c (sFb (.c sSh .n)) (.c (sFb (.c (Jlv .i64) (.c sSh .n))) (.c (sFb (.c sSh .n)) .n))))) .n)))))))) .n)
abbrev Un8 (n:Nat) (K:Kc R):UjS.T (O R):=fun x1 x2 x3 x4 x5 x6 x7 x8 x9=>UlG n x1 x2 x3 x4 x5 x6 x7 x8 x9 (fun y1=>xC Uah 23 K .ret [vI y1])
abbrev Un9 (n:Nat) (K:Kc R):UjT.T (O R):=fun x1 x2 x3 x4 x5 x6 x7 x8 x9 x10 x11=>UdR n x1 x2 x3 x4 x5 x6 x7 x8 x9 x10 x11 (fun y1=>xC Uah 23 K .ret [vI y1])
abbrev Uo (n:Nat) (K:Kc R):UjU.T (O R):=fun x1 x2 x3 x4 x5 x6 x7 x8 x9 x10=>UgA n x1 x2 x3 x4 x5 x6 x7 x8 x9 x10 (fun y1=>xC Uah 23 K .ret [vI y1])
noncomputable def UgW:Code:=Jj4 (Jll Tryz.f32) [1,1,0,1,0,0]
abbrev Uc8:Sl (List SV):=(.c (sBx 74 (cI (cH (cH (cH (cH (cB (.c (sP (JlJ 29 (.c (sFb (.c (Jlv .i64) (.c sSh .n))) (.c (sFb (.c sSh .n)) .n)))) .n)))))))) (cH (cI (cI .n))))
abbrev Uc9:Sl (List SV):=(.c (sBx 74 (cI (cH (cH (cH (cH (cB (.c (sP (JlJ 35 (.c (sFb (.c (Jlv .i64) (.c sSh .n))) (.c (sFb (.c sSh .n)) (.c (sFb (.c sSh .n)) (.c (sFb (.c sSh .n)) .n)))))) .n)))))))) (cH (cI (cI .n))))
abbrev Ud:Sl (List SV):=(.c (sBx 74 (cI (cH (cH (cH (cH (cB (.c (sP (JlJ 59 (.c (sFb (.c sSh .n)) (.c (sFb (.c (Jlv .i64) (.c sSh .n))) (.c (sFb (.c sSh .n)) .n))))) .n)))))))) (cH (cI (cI .n))))
abbrev Uin (n m:Nat) (K:Kc R):Uc8.T (O R):=fun x1 x2 x3 x4 x5 x6 x7 x8 x9 x10 x11 x12=>UlH n m x1 x2 x3 x4 x5 x6 x7 x8 x9 x10 x11 x12 (fun y1 y2 y3 y4 y5 y6 y7 y8 y9 y10=>xL Uah 4 K .ret [.bx 74 [vI y1,vH y2,vH y3,vH y4,vH y5,vB y6,.p (.clo 29 [.fb [.v (.int .i64 y7),.sh y8],.fb [.sh y9]])],vI y10]) (fun y1 y2 y3 y4 y5 y6 y7 y8 y9=>xL Uah 4 K (.exit 0) [.bx 74 [vI y1,vH y2,vH y3,vH y4,vH y5,vB y6,.p (.clo 29 [.fb [.v (.int .i64 y7),.sh y8],.fb [.sh y9]])],dD])
abbrev UAH (n:Nat) (K:Kc R) (l0:Uc8.T (O R)):Uc8.T (O R):=fun x1 x2 x3 x4 x5 x6 x7 x8 x9 x10 x11 x12=>Uus n l0 x1 x2 x3 x4 x5 x6 x7 x8 x9 x10 x11 x12 (fun y1 y2 y3 y4 y5 y6 y7 y8 y9 y10=>xL Uah 4 K .ret [.bx 74 [vI y1,vH y2,vH y3,vH y4,vH y5,vB y6,.p (.clo 29 [.fb [.v (.int .i64 y7),.sh y8],.fb [.sh y9]])],vI y10]) (fun y1 y2 y3 y4 y5 y6 y7 y8 y9=>xL Uah 4 K (.exit 0) [.bx 74 [vI y1,vH y2,vH y3,vH y4,vH y5,vB y6,.p (.clo 29 [.fb [.v (.int .i64 y7),.sh y8],.fb [.sh y9]])],dD])
abbrev Uio (n m:Nat) (K:Kc R):Uc9.T (O R):=fun x1 x2 x3 x4 x5 x6 x7 x8 x9 x10 x11 x12 x13 x14=>UdS n m x1 x2 x3 x4 x5 x6 x7 x8 x9 x10 x11 x12 x13 x14 (fun y1 y2 y3 y4 y5 y6 y7 y8 y9 y10 y11 y12=>xL Uah 4 K .ret [.bx 74 [vI y1,vH y2,vH y3,vH y4,vH y5,vB y6,.p (.clo 35 [.fb [.v (.int .i64 y7),.sh y8],.fb [.sh y9],.fb [.sh y10],.fb [.sh y11]])],vI y12]) (fun y1 y2 y3 y4 y5 y6 y7 y8 y9 y10 y11=>xL Uah 4 K (.exit 0) [.bx 74 [vI y1,vH y2,vH y3,vH y4,vH y5,vB y6,.p (.clo 35 [.fb [.v (.int .i64 y7),.sh y8],.fb [.sh y9],.fb [.sh y10],.fb [.sh y11]])],dD])
abbrev UAI (n:Nat) (K:Kc R) (l0:Uc9.T (O R)):Uc9.T (O R):=fun x1 x2 x3 x4 x5 x6 x7 x8 x9 x10 x11 x12 x13 x14=>UgB n l0 x1 x2 x3 x4 x5 x6 x7 x8 x9 x10 x11 x12 x13 x14 (fun y1 y2 y3 y4 y5 y6 y7 y8 y9 y10 y11 y12=>xL Uah 4 K .ret [.bx 74 [vI y1,vH y2,vH y3,vH y4,vH y5,vB y6,.p (.clo 35 [.fb [.v (.int .i64 y7),.sh y8],.fb [.sh y9],.fb [.sh y10],.fb [.sh y11]])],vI y12]) (fun y1 y2 y3 y4 y5 y6 y7 y8 y9 y10 y11=>xL Uah 4 K (.exit 0) [.bx 74 [vI y1,vH y2,vH y3,vH y4,vH y5,vB y6,.p (.clo 35 [.fb [.v (.int .i64 y7),.sh y8],.fb [.sh y9],.fb [.sh y10],.fb [.sh y11]])],dD])
abbrev Uip (n m:Nat) (K:Kc R):Ud.T (O R):=fun x1 x2 x3 x4 x5 x6 x7 x8 x9 x10 x11 x12 x13=>UgC n m x1 x2 x3 x4 x5 x6 x7 x8 x9 x10 x11 x12 x13 (fun y1 y2 y3 y4 y5 y6 y7 y8 y9 y10 y11=>xL Uah 4 K .ret [.bx 74 [vI y1,vH y2,vH y3,vH y4,vH y5,vB y6,.p (.clo 59 [.fb [.sh y7],.fb [.v (.int .i64 y8),.sh y9],.fb [.sh y10]])],vI y11]) (fun y1 y2 y3 y4 y5 y6 y7 y8 y9 y10=>xL Uah 4 K (.exit 0) [.bx 74 [vI y1,vH y2,vH y3,vH y4,vH y5,vB y6,.p (.clo 59 [.fb [.sh y7],.fb [.v (.int .i64 y8),.sh y9],.fb [.sh y10]])],dD])
abbrev UAJ (n:Nat) (K:Kc R) (l0:Ud.T (O R)):Ud.T (O R):=fun x1 x2 x3 x4 x5 x6 x7 x8 x9 x10 x11 x12 x13=>Uki n l0 x1 x2 x3 x4 x5 x6 x7 x8 x9 x10 x11 x12 x13 (fun y1 y2 y3 y4 y5 y6 y7 y8 y9 y10 y11=>xL Uah 4 K .ret [.bx 74 [vI y1,vH y2,vH y3,vH y4,vH y5,vB y6,.p (.clo 59 [.fb [.sh y7],.fb [.v (.int .i64 y8),.sh y9],.fb [.sh y10]])],vI y11]) (fun y1 y2 y3 y4 y5 y6 y7 y8 y9 y10=>xL Uah 4 K (.exit 0) [.bx 74 [vI y1,vH y2,vH y3,vH y4,vH y5,vB y6,.p (.clo 59 [.fb [.sh y7],.fb [.v (.int .i64 y8),.sh y9],.fb [.sh y10]])],dD])
noncomputable def Ud4:Code:=Jj4 (Jll Tryz.f32) [1,1,1,0,1,0,0]
abbrev UbO:Sl (List SV):=(.c (sBx 74 (cI (cH (cH (cH (cH (cB (.c (sP (JlJ 29 (.c (sFb (.c (Jlv .i64) (.c sSh .n))) (.c (sFb (.c sSh .n)) .n)))) .n)))))))) (cH (cI (cI .n))))
abbrev UbP:Sl (List SV):=(.c (sBx 74 (cI (cH (cH (cH (cH (cB (.c (sP (JlJ 35 (.c (sFb (.c (Jlv .i64) (.c sSh .n))) (.c (sFb (.c sSh .n)) (.c (sFb (.c sSh .n)) (.c (sFb (.c sSh .n)) .n)))))) .n)))))))) (cH (cI (cI .n))))
abbrev UbQ:Sl (List SV):=(.c (sBx 74 (cI (cH (cH (cH (cH (cB (.c (sP (JlJ 59 (.c (sFb (.c sSh .n)) (.c (sFb (.c (Jlv .i64) (.c sSh .n))) (.c (sFb (.c sSh .n)) .n))))) .n)))))))) (cH (cI (cI .n))))
abbrev Ufv (n m:Nat) (K:Kc R):UbO.T (O R):=fun x1 x2 x3 x4 x5 x6 x7 x8 x9 x10 x11 x12=>UiT n m x1 x2 x3 x4 x5 x6 x7 x8 x9 x10 x11 x12 (fun y1 y2 y3 y4 y5 y6 y7 y8 y9 y10=>xL Uah 10 K .ret [.bx 74 [vI y1,vH y2,vH y3,vH y4,vH y5,vB y6,.p (.clo 29 [.fb [.v (.int .i64 y7),.sh y8],.fb [.sh y9]])],vI y10]) (fun y1 y2 y3 y4 y5 y6 y7 y8 y9=>xL Uah 10 K (.exit 2) [.bx 74 [vI y1,vH y2,vH y3,vH y4,vH y5,vB y6,.p (.clo 29 [.fb [.v (.int .i64 y7),.sh y8],.fb [.sh y9]])],dD])
abbrev UvI (n:Nat) (K:Kc R) (l0:UbO.T (O R)):UbO.T (O R):=fun x1 x2 x3 x4 x5 x6 x7 x8 x9 x10 x11 x12=>Uov n l0 x1 x2 x3 x4 x5 x6 x7 x8 x9 x10 x11 x12 (fun y1 y2 y3 y4 y5 y6 y7 y8 y9 y10=>xL Uah 10 K .ret [.bx 74 [vI y1,vH y2,vH y3,vH y4,vH y5,vB y6,.p (.clo 29 [.fb [.v (.int .i64 y7),.sh y8],.fb [.sh y9]])],vI y10]) (fun y1 y2 y3 y4 y5 y6 y7 y8 y9=>xL Uah 10 K (.exit 2) [.bx 74 [vI y1,vH y2,vH y3,vH y4,vH y5,vB y6,.p (.clo 29 [.fb [.v (.int .i64 y7),.sh y8],.fb [.sh y9]])],dD])
abbrev Ufw (n m:Nat) (K:Kc R):UbP.T (O R):=fun x1 x2 x3 x4 x5 x6 x7 x8 x9 x10 x11 x12 x13 x14=>Ucz n m x1 x2 x3 x4 x5 x6 x7 x8 x9 x10 x11 x12 x13 x14 (fun y1 y2 y3 y4 y5 y6 y7 y8 y9 y10 y11 y12=>xL Uah 10 K .ret [.bx 74 [vI y1,vH y2,vH y3,vH y4,vH y5,vB y6,.p (.clo 35 [.fb [.v (.int .i64 y7),.sh y8],.fb [.sh y9],.fb [.sh y10],.fb [.sh y11]])],vI y12]) (fun y1 y2 y3 y4 y5 y6 y7 y8 y9 y10 y11=>xL Uah 10 K (.exit 2) [.bx 74 [vI y1,vH y2,vH y3,vH y4,vH y5,vB y6,.p (.clo 35 [.fb [.v (.int .i64 y7),.sh y8],.fb [.sh y9],.fb [.sh y10],.fb [.sh y11]])],dD])
abbrev UvJ (n:Nat) (K:Kc R) (l0:UbP.T (O R)):UbP.T (O R):=fun x1 x2 x3 x4 x5 x6 x7 x8 x9 x10 x11 x12 x13 x14=>Uek n l0 x1 x2 x3 x4 x5 x6 x7 x8 x9 x10 x11 x12 x13 x14 (fun y1 y2 y3 y4 y5 y6 y7 y8 y9 y10 y11 y12=>xL Uah 10 K .ret [.bx 74 [vI y1,vH y2,vH y3,vH y4,vH y5,vB y6,.p (.clo 35 [.fb [.v (.int .i64 y7),.sh y8],.fb [.sh y9],.fb [.sh y10],.fb [.sh y11]])],vI y12]) (fun y1 y2 y3 y4 y5 y6 y7 y8 y9 y10 y11=>xL Uah 10 K (.exit 2) [.bx 74 [vI y1,vH y2,vH y3,vH y4,vH y5,vB y6,.p (.clo 35 [.fb [.v (.int .i64 y7),.sh y8],.fb [.sh y9],.fb [.sh y10],.fb [.sh y11]])],dD])
abbrev Ufx (n m:Nat) (K:Kc R):UbQ.T (O R):=fun x1 x2 x3 x4 x5 x6 x7 x8 x9 x10 x11 x12 x13=>Uel n m x1 x2 x3 x4 x5 x6 x7 x8 x9 x10 x11 x12 x13 (fun y1 y2 y3 y4 y5 y6 y7 y8 y9 y10 y11=>xL Uah 10 K .ret [.bx 74 [vI y1,vH y2,vH y3,vH y4,vH y5,vB y6,.p (.clo 59 [.fb [.sh y7],.fb [.v (.int .i64 y8),.sh y9],.fb [.sh y10]])],vI y11]) (fun y1 y2 y3 y4 y5 y6 y7 y8 y9 y10=>xL Uah 10 K (.exit 2) [.bx 74 [vI y1,vH y2,vH y3,vH y4,vH y5,vB y6,.p (.clo 59 [.fb [.sh y7],.fb [.v (.int .i64 y8),.sh y9],.fb [.sh y10]])],dD])
abbrev UvK (n:Nat) (K:Kc R) (l0:UbQ.T (O R)):UbQ.T (O R):=fun x1 x2 x3 x4 x5 x6 x7 x8 x9 x10 x11 x12 x13=>Ug7 n l0 x1 x2 x3 x4 x5 x6 x7 x8 x9 x10 x11 x12 x13 (fun y1 y2 y3 y4 y5 y6 y7 y8 y9 y10 y11=>xL Uah 10 K .ret [.bx 74 [vI y1,vH y2,vH y3,vH y4,vH y5,vB y6,.p (.clo 59 [.fb [.sh y7],.fb [.v (.int .i64 y8),.sh y9],.fb [.sh y10]])],vI y11]) (fun y1 y2 y3 y4 y5 y6 y7 y8 y9 y10=>xL Uah 10 K (.exit 2) [.bx 74 [vI y1,vH y2,vH y3,vH y4,vH y5,vB y6,.p (.clo 59 [.fb [.sh y7],.fb [.v (.int .i64 y8),.sh y9],.fb [.sh y10]])],dD])
abbrev UgP (n:Nat):Orc R:=fun i vs K=>JfK (Nat.beq i 10) (Jjg (UbO.ap vs (Ufv n n K)) (Jjg (UbP.ap vs (Ufw n n K)) (Jjg (UbQ.ap vs (Ufx n n K)) (JcB Uah 10 (E32 n Ud4) n vs K)))) ((fun i vs K=>JfK (Nat.beq i 4) (Jjg (Uc8.ap vs (Uin n n K)) (Jjg (Uc9.ap vs (Uio n n K)) (Jjg (Ud.ap vs (Uip n n K)) (JcB Uah 4 (E32 n UgW) n vs K)))) (oN i vs K)) i vs K)
abbrev UgO (n:Nat):Orc R:=fun i vs K=>JfK (Nat.beq i 23) (Jjg (UjS.ap vs (Un8 n K)) (Jjg (UjT.ap vs (Un9 n K)) (Jjg (UjU.ap vs (Uo n K)) (Jki Uah 23 (E32 n UkS) vs K)))) ((fun i vs K=>JfK (Nat.beq i 17) (Jjg (UjP.ap vs (Un5 n K)) (Jjg (UjQ.ap vs (Un6 n K)) (Jjg (UjR.ap vs (Un7 n K)) (Jki Uah 17 (E32 n UkR) vs K)))) ((fun i vs K=>JfK (Nat.beq i 3) (Jjg (Umg.ap vs (Us3 n K)) (Jjg (Umh.ap vs (Us4 n K)) (Jjg (Umi.ap vs (Us5 n K)) (Jki Uah 3 (E32 n Uqp) vs K)))) (oN i vs K)) i vs K)) i vs K)
abbrev K32 (R:Type) (n:Nat):=JcH (R:=R) Tryz.prog (Uif n) Uah n (97,[]) (UgP n) (UgO n)
theorem UlN (n:Nat):Je6 (K32 R n) (JaJ Uah UgW):=pO pN (by kernel_rfl)
theorem UA4 (n:Nat):∀ m (K:Kc R),Uc8.all (fun vs r=>JcB Uah 4 (JcU Tryz.prog (Uif n) Uah (97,[]) (UgP n) (UgO n) UgW) m vs K=r) (Uin n m K):=JiE (F:=Uin n) Uc8 (UAH n) (fun K _ _ _ _ _ _ _ _ _ _ _ _=>rfl) (fun _ _=>rfl) (fun L K _ _ _ _ _ _ _ _ _ _ _ _=>by show _=_; kernel_rfl)
theorem UA5 (n:Nat):∀ m (K:Kc R),Uc9.all (fun vs r=>JcB Uah 4 (JcU Tryz.prog (Uif n) Uah (97,[]) (UgP n) (UgO n) UgW) m vs K=r) (Uio n m K):=JiE (F:=Uio n) Uc9 (UAI n) (fun K _ _ _ _ _ _ _ _ _ _ _ _ _ _=>rfl) (fun _ _=>rfl) (fun L K _ _ _ _ _ _ _ _ _ _ _ _ _ _=>by show _=_; kernel_rfl)
theorem UA6 (n:Nat):∀ m (K:Kc R),Ud.all (fun vs r=>JcB Uah 4 (JcU Tryz.prog (Uif n) Uah (97,[]) (UgP n) (UgO n) UgW) m vs K=r) (Uip n m K):=JiE (F:=Uip n) Ud (UAJ n) (fun K _ _ _ _ _ _ _ _ _ _ _ _ _=>rfl) (fun _ _=>rfl) (fun L K _ _ _ _ _ _ _ _ _ _ _ _ _=>by show _=_; kernel_rfl)
theorem UHB (n:Nat):K32 R n (false,4,UgW):=JkF (lo:=UgP n) (cu:=UgO n) (UlN n) Uc8 (Uin n n) (UA4 n n) (JkF (lo:=UgP n) (cu:=UgO n) (UlN n) Uc9 (Uio n n) (UA5 n n) (JkF (lo:=UgP n) (cu:=UgO n) (UlN n) Ud (Uip n n) (UA6 n n) fun _ _=>rfl))
theorem Ujo (n:Nat):Je6 (K32 R n) (JaJ Uah Ud4):=pO pN (by kernel_rfl)
theorem UvV (n:Nat):∀ m (K:Kc R),UbO.all (fun vs r=>JcB Uah 10 (JcU Tryz.prog (Uif n) Uah (97,[]) (UgP n) (UgO n) Ud4) m vs K=r) (Ufv n m K):=JiE (F:=Ufv n) UbO (UvI n) (fun K _ _ _ _ _ _ _ _ _ _ _ _=>rfl) (fun _ _=>rfl) (fun L K _ _ _ _ _ _ _ _ _ _ _ _=>by show _=_; kernel_rfl)
theorem UvW (n:Nat):∀ m (K:Kc R),UbP.all (fun vs r=>JcB Uah 10 (JcU Tryz.prog (Uif n) Uah (97,[]) (UgP n) (UgO n) Ud4) m vs K=r) (Ufw n m K):=JiE (F:=Ufw n) UbP (UvJ n) (fun K _ _ _ _ _ _ _ _ _ _ _ _ _ _=>rfl) (fun _ _=>rfl) (fun L K _ _ _ _ _ _ _ _ _ _ _ _ _ _=>by show _=_; kernel_rfl)
theorem UvX (n:Nat):∀ m (K:Kc R),UbQ.all (fun vs r=>JcB Uah 10 (JcU Tryz.prog (Uif n) Uah (97,[]) (UgP n) (UgO n) Ud4) m vs K=r) (Ufx n m K):=JiE (F:=Ufx n) UbQ (UvK n) (fun K _ _ _ _ _ _ _ _ _ _ _ _ _=>rfl) (fun _ _=>rfl) (fun L K _ _ _ _ _ _ _ _ _ _ _ _ _=>by show _=_; kernel_rfl)
theorem UDc (n:Nat):K32 R n (false,10,Ud4):=JkF (lo:=UgP n) (cu:=UgO n) (Ujo n) UbO (Ufv n n) (UvV n n) (JkF (lo:=UgP n) (cu:=UgO n) (Ujo n) UbP (Ufw n n) (UvW n n) (JkF (lo:=UgP n) (cu:=UgO n) (Ujo n) UbQ (Ufx n n) (UvX n n) fun _ _=>rfl))
theorem Ujn (n:Nat):Je6 (K32 R n) (JaJ Uah UkS):=pO pN (by kernel_rfl)
theorem UDb (n:Nat):K32 R n (true,23,UkS):=JkW (lo:=UgP n) (cu:=UgO n) (Ujn n) UjS (Un8 n) (fun K _ _ _ _ _ _ _ _ _=>by show _=_; kernel_rfl) (JkW (lo:=UgP n) (cu:=UgO n) (Ujn n) UjT (Un9 n) (fun K _ _ _ _ _ _ _ _ _ _ _=>by show _=_; kernel_rfl) (JkW (lo:=UgP n) (cu:=UgO n) (Ujn n) UjU (Uo n) (fun K _ _ _ _ _ _ _ _ _ _=>by show _=_; kernel_rfl) fun _ _=>rfl))
theorem Ujm (n:Nat):Je6 (K32 R n) (JaJ Uah UkR):=pO (pC (UDb n) pN) (by kernel_rfl)
theorem UDa (n:Nat):K32 R n (true,17,UkR):=JkW (lo:=UgP n) (cu:=UgO n) (Ujm n) UjP (Un5 n) (fun K _ _ _ _ _ _ _ _ _=>by show _=_; kernel_rfl) (JkW (lo:=UgP n) (cu:=UgO n) (Ujm n) UjQ (Un6 n) (fun K _ _ _ _ _ _ _ _ _ _ _=>by show _=_; kernel_rfl) (JkW (lo:=UgP n) (cu:=UgO n) (Ujm n) UjR (Un7 n) (fun K _ _ _ _ _ _ _ _ _ _=>by show _=_; kernel_rfl) fun _ _=>rfl))
theorem UlM (n:Nat):Je6 (K32 R n) (JaJ Uah Uqp):=pO (pC (UHB n) (pC (UDc n) (pC (UDa n) pN))) (by kernel_rfl)
theorem UHA (n:Nat):K32 R n (true,3,Uqp):=JkW (lo:=UgP n) (cu:=UgO n) (UlM n) Umg (Us3 n) (fun K _ _ _ _ _ _ _ _ _=>by show _=_; kernel_rfl) (JkW (lo:=UgP n) (cu:=UgO n) (UlM n) Umh (Us4 n) (fun K _ _ _ _ _ _ _ _ _ _ _=>by show _=_; kernel_rfl) (JkW (lo:=UgP n) (cu:=UgO n) (UlM n) Umi (Us5 n) (fun K _ _ _ _ _ _ _ _ _ _=>by show _=_; kernel_rfl) fun _ _=>rfl))
theorem UMe (n:Nat):Je6 (K32 R n) (JaJ Uah (Jll Tryz.f32)):=pO (pC (UHA n) pN) (by kernel_rfl)
abbrev UMN:Sl (List SV):=(.c (sP (JlI (.c (Jlv .i64) (.c sSh (.c sSh (.c sSh (.c sSh (.c Jlf (.c (JlJ 29 (.c (sFb (.c (Jlv .i64) (.c sSh .n))) (.c (sFb (.c sSh .n)) .n))) .n))))))))) .n)
abbrev UNC (n:Nat) (K:List SV→O R):UMN.T (O R):=fun x1 x2 x3 x4 x5 x6 x7 x8 x9=>p32 n x1 x2 x3 x4 x5 x6 x7 x8 x9 (fun y1=>K [vI y1])
abbrev UMO:Sl (List SV):=(.c (sP (JlI (.c (Jlv .i64) (.c sSh (.c sSh (.c sSh (.c sSh (.c Jlf (.c (JlJ 35 (.c (sFb (.c (Jlv .i64) (.c sSh .n))) (.c (sFb (.c sSh .n)) (.c (sFb (.c sSh .n)) (.c (sFb (.c sSh .n)) .n))))) .n))))))))) .n)
abbrev UND (n:Nat) (K:List SV→O R):UMO.T (O R):=fun x1 x2 x3 x4 x5 x6 x7 x8 x9 x10 x11=>UCn n x1 x2 x3 x4 x5 x6 x7 x8 x9 x10 x11 (fun y1=>K [vI y1])
abbrev UMP:Sl (List SV):=(.c (sP (JlI (.c (Jlv .i64) (.c sSh (.c sSh (.c sSh (.c sSh (.c Jlf (.c (JlJ 59 (.c (sFb (.c sSh .n)) (.c (sFb (.c (Jlv .i64) (.c sSh .n))) (.c (sFb (.c sSh .n)) .n)))) .n))))))))) .n)
abbrev UNE (n:Nat) (K:List SV→O R):UMP.T (O R):=fun x1 x2 x3 x4 x5 x6 x7 x8 x9 x10=>UHf n x1 x2 x3 x4 x5 x6 x7 x8 x9 x10 (fun y1=>K [vI y1])
abbrev UIN (n:Nat):FS:={ om:=[false],run:=fun args K=>Jjg (UMN.ap args (UNC n K)) (Jjg (UMO.ap args (UND n K)) (Jjg (UMP.ap args (UNE n K)) none)) }
theorem ULi (n:Nat):FSound Tryz.prog GI 32 (UIN n):=gd Uah n (Uig n) Tryz.func32 (.cons (Uig n) UMN (UNC n) (fun K _ _ _ _ _ _ _ _ _=>(Jkq (c:=Jll Tryz.f32) (by kernel_rfl) (UMe n) K).trans (by kernel_rfl)) (.cons (Uig n) UMO (UND n) (fun K _ _ _ _ _ _ _ _ _ _ _=>(Jkq (c:=Jll Tryz.f32) (by kernel_rfl) (UMe n) K).trans (by kernel_rfl)) (.cons (Uig n) UMP (UNE n) (fun K _ _ _ _ _ _ _ _ _ _=>(Jkq (c:=Jll Tryz.f32) (by kernel_rfl) (UMe n) K).trans (by kernel_rfl)) .nil))) (by kernel_rfl)
def Uzy:Ann:={ loops:=[],cuts:=[],frz:=[],rm:=[.id] }
abbrev UE3 (n:Nat):Env:=eC 32 (UIN n) eN
theorem Urf (n:Nat):EnvOK Tryz.prog GI (UE3 n):=.cons (.nil) (ULi n)
def p12 (n:Nat) (x1:Int) (x2 x3:LP) (k0:Int→O R):O R :=
 p32 n x1 x2 [] [] x3 true x1 x2 x3 (fun y4=>k0 y4)
abbrev UQu (n:Nat):Orc R:=oN
abbrev UPJ (n:Nat):Orc R:=oN
abbrev K12 (R:Type) (n:Nat):=JcH (R:=R) Tryz.prog (UE3 n) Uzy n (10,[]) (UQu n) (UPJ n)
theorem URY (n:Nat):Je6 (K12 R n) (JaJ Uzy (Jll Tryz.f12)):=pO pN (by kernel_rfl)
abbrev t12:Sl (List SV):=(.c (sP (JlI (.c (Jlv .i64) (.c sSh .n)))) (cH .n))
abbrev f12 (n:Nat) (K:List SV→O R):t12.T (O R):=fun x1 x2 x3=>p12 n x1 x2 x3 (fun y1=>K [vI y1])
abbrev UNN (n:Nat):FS:=fT [false,false] t12 (f12 n)
theorem URf (n:Nat):FSound Tryz.prog GI 12 (UNN n):=gd Uzy n (Urf n) Tryz.func12 (.cons (Urf n) t12 (f12 n) (fun K _ _ _=>(Jkq (c:=Jll Tryz.f12) (by kernel_rfl) (URY n) K).trans (by kernel_rfl)) .nil) (by kernel_rfl)
end
end Go.Proofs.YtmgfmlhdnadglaaGreatDoor
set_option linter.unusedVariables false
set_option linter.unusedSimpArgs false
namespace Go.Proofs.YtmgfmlhdnadglaaGreatDoor
open Go Th Go.Proofs
variable {R:Type}
theorem Ud6 {p:Rat}:Ud2 p 0<0↔p<0:=by
 rcases tri p 0 with h | h | h
 · rw [Uic h]; exact ⟨fun _=>h,fun _=>by decide⟩
 · rw [h,Ubn]; exact ⟨fun q=>absurd q (by decide),fun q=>absurd q (by decide)⟩
 · rw [Uib h]; exact ⟨fun q=>absurd q (by decide),fun q=>absurd (Rat.le_of_lt h) (Rat.not_le.2 q)⟩
theorem UqB {p:Rat}:Ud2 p 0>0↔0<p:=by
 rcases tri p 0 with h | h | h
 · rw [Uic h]; exact ⟨fun q=>absurd q (by decide),fun q=>absurd (Rat.le_of_lt h) (Rat.not_le.2 q)⟩
 · rw [h,Ubn]; exact ⟨fun q=>absurd q (by decide),fun q=>absurd q (by decide)⟩
 · rw [Uib h]; exact ⟨fun _=>h,fun _=>by decide⟩
theorem UJw (n:Nat) (hn:10 ^ 1000≤n) (p:Rat) (hp:fits p) (k0:Int→Option R):p19 n (bs (Uae p)) (bs [48]) k0=k0 (Ud2 p 0):=by
 rw [←Ufq]; exact Upc n hn p 0 hp UbV k0
structure okRM (cols:Int) (rows:List RowT) (mult:List (List UInt8)):Prop where
 hc:cols≤2048
 few:rows.length≤2048
 len:mult.length=rows.length
 hr:∀ r∈rows,okR cols r=true
 hm:∀ m∈mult,qb m=true
noncomputable def zsR (rows:List RowT) (mult:List (List UInt8)):List (SpR × Rat):=(rows.zip mult).map fun x=>(spR x.1,rq x.2)
theorem Ucg {a b:Int} (h:a≤b) {r:SpR} (hr:okF a r):okF b r:=⟨⟨hr.1.1,UfB h hr.1.2⟩,hr.2⟩
theorem UMW {cols:Int} {rows:List RowT} {mult:List (List UInt8)} (h:okRM cols rows mult):∀ y∈zsR rows mult,okF cols y.1:=by
 intro y hy
 obtain ⟨x,hx,rfl⟩:=List.mem_map.1 hy
 exact (Ub4 (h.hr _ (List.of_mem_zip hx).1)).1
theorem Umt:∀ {cols:Int},okF cols ([],0):=fun {cols}=>⟨⟨trivial,fun t ht=>(by cases ht)⟩,UbV⟩
theorem Ugp {α β σ:Type} (f:α→β) (step:σ→β→Option σ):∀ (l:List α) (s:σ),Uan (fun s a=>step s (f a)) s l=Uan step s (l.map f)
 | [],s=>rfl
 | a::l,s=>by
  rw [List.map_cons,Uan,Uan]
  congr 1
  funext s'
  exact Ugp f step l s'
theorem UgY:∀ (l:List (SpR × Rat)) (s:SpR),Ub1 l s=Uan (fun s x=>Ufs x.2 x.1 s) s l
 | [],s=>rfl
 | x::l,s=>by
  rw [Ub1,Uan]
  congr 1
  funext s'
  exact UgY l s'
theorem UDx {cols:Int} {q:Rat} {r s x:SpR} (hr:okF cols r) (hs:okF cols s) (he:Ufs q r s=some x):okF cols x:=by
 unfold Ufs at he
 by_cases h0:q=0
 · rw [if_pos h0,Option.some.injEq] at he; rwa [←he]
 · rw [if_neg h0] at he
   obtain ⟨w,f1,f2⟩:=Option.bind_eq_some_iff.1 he
   exact (UCp hs (UwX h0 hr f1).1 f2).1
theorem UoS (n:Nat) (hn:10 ^ 1000≤n) (cols:Int) (rows:List RowT) (mult:List (List UInt8)) (h:okRM cols rows mult) (k0:List PV→ByteArray→Int→Option R) :
 p30 n cols (rws rows) (sl mult) k0=Uvx k0 (Ub1 (zsR rows mult) ([],0)):=by
 have hN:=Ual (Uat hn)
 have hlen:(rows.zip mult).length=rows.length:=by rw [List.length_zip,h.len]; omega
 have hf:=h.few
 have hl:=h.len
 unfold p30 UyT
 have H:=UbL (R:=R) (l:=rows.zip mult) (step:=fun s x=>Ufs (rq x.2) (spR x.1) s) (kerr:=k0 [] (bs []) 5) (kend:=fun s=>k0 (tms (vt s.1)) (bs (Uae s.2)) 0) (Inv:=fun i s=>okF 2048 s)
  (fun m s i=>Uei n m (sl mult) cols (rws rows) ByteArray.empty (tms (vt s.1)) (bs (Uae s.2)) ((rws rows).length:Int) (i:Int) (fun y4 y5 y6 y7 y8=>k0 y4 y5 y6) (fun y9 y10 y11=>k0 y10 y11 0))
  (fun m s hs=>by
    simp only [Uei,UiQ]
    rw [hlen]
    simp (disch:=(first | omega | (simp only [JlE]; omega))) only [↓JlH,JlF,Uab])
  (fun s s' i hi hs he=>by
    have hr:=h.hr _ (List.of_mem_zip (List.getElem_mem hi)).1
    exact UDx (Ucg h.hc (Ub4 hr).1) hs he)
  (fun m s i hi hs=>by
    have hi1:i<rows.length:=by omega
    have hi2:i<mult.length:=by omega
    have e0:(rows.zip mult)[i]=(rows[i],mult[i]):=List.getElem_zip
    rw [e0]
    have hr:=h.hr rows[i] (List.getElem_mem hi1)
    have hq:=h.hm mult[i] (List.getElem_mem hi2)
    obtain ⟨o1,o2,o3⟩:=Ub4 hr
    obtain ⟨m1,m2⟩:=UjX hq
    have o1':=Ucg h.hc o1
    simp only [Uei,UiQ]
    show _=UDJ _ _ (Ufs (rq mult[i]) (spR rows[i]) s)
    unfold Ufs
    by_cases h0:rq mult[i]=0
    · have e3:(mult[i] == [48])=true:=Uj1 (by rw [m2,h0,Ufq])
      rw [if_pos h0]
      simp (disch:=(first | omega | (simp only [JlE]; omega))) only [↓JlH,JlF,Uab,Uac,Jji,UaO hi2,i1,e3]
      rfl
    · have e3:(mult[i] == [48])=false:=Ugi (by rw [m2]; exact fun q=>h0 (Ufi.1 q))
      have g1:∀ k:List PV→ByteArray→Int→Option R,p74 n (tms (rows[i]).tm) (bs (rows[i]).c) (bs mult[i]) k=Uvx k (tmO (rq mult[i]) (spR rows[i])):=fun k=>by
       rw [o2,o3,m2]
       have:=UtE (R:=R) n hn o1' m1 h0 k
       rw [←m2,←o2,←o3] at this ⊢
       exact this
      rw [if_neg h0]
      simp (disch:=(first | omega | (simp only [JlE]; omega))) only [↓JlH,JlF,Uab,Uac,Jji,UaO hi2,Uau hi1,i1,e3,g1]
      cases h1:tmO (rq mult[i]) (spR rows[i]) with
      | none=>rfl
      | some x =>
       have hx:=(UwX h0 o1' h1).1
       have g2:∀ k:List PV→ByteArray→Int→Option R,p75 n (tms (vt s.1)) (bs (Uae s.2)) (tms (vt x.1)) (bs (Uae x.2)) k=Uvx k (plO s x):=fun k=>UBM n hn hs hx k
       simp only [Uvx,UgQ,Uaf,g2,Option.bind_some]
       cases plO s x <;> rfl) rows.length n 0 ([],0) (by omega) (by omega) Umt
 rw [List.drop_zero,Ugp (fun x:RowT × List UInt8=>(spR x.1,rq x.2)) (fun s x=>Ufs x.2 x.1 s),←UgY] at H
 have e48:(⟨#[48]⟩:ByteArray)=bs (Uae 0):=by rw [Ufq]; rfl
 rw [e48]
 refine Eq.trans H ?_
 unfold zsR
 cases Ub1 ((rows.zip mult).map fun x=>(spR x.1,rq x.2)) ([],0) <;> rfl
noncomputable def Uzw (x:RowT × List UInt8):Bool:=x.1.eq||!decide (rq x.2<0)
noncomputable def adm (rows:List RowT) (mult:List (List UInt8)):Bool:=(rows.zip mult).all Uzw
theorem UhT (n:Nat) (hn:10 ^ 1000≤n) (cols:Int) (rows:List RowT) (mult:List (List UInt8)) (h:okRM cols rows mult) (k0:Bool→Option R) :
 p31 n cols (rws rows) (sl mult) k0=k0 (adm rows mult):=by
 have hN:=Ual (Uat hn)
 have hlen:(rows.zip mult).length=rows.length:=by rw [List.length_zip,h.len]; omega
 have hf:=h.few
 have hl:=h.len
 unfold p31 UyU
 have H:=Uaj (R:=R) (l:=rows.zip mult) (ok:=Uzw) (kbad:=k0 false) (kend:=k0 true)
  (fun m i=>Uej n m (sl mult) cols (rws rows) ((rws rows).length:Int) (i:Int) (fun y4=>k0 y4) (k0 true))
  (fun m=>by
    simp only [Uej,UiR]
    rw [hlen]
    simp (disch:=(first | omega | (simp only [JlE]; omega))) only [↓JlH,JlF,Uab])
  (fun m i hi=>by
    have hi1:i<rows.length:=by omega
    have hi2:i<mult.length:=by omega
    have e0:(rows.zip mult)[i]=(rows[i],mult[i]):=List.getElem_zip
    rw [e0]
    obtain ⟨m1,m2⟩:=UjX (h.hm mult[i] (List.getElem_mem hi2))
    have g1:∀ k:Int→Option R,p19 n (bs mult[i]) (bs [48]) k=k (Ud2 (rq mult[i]) 0):=fun k=>by
     have:=UJw (R:=R) n hn (rq mult[i]) m1 k
     rw [←m2] at this
     exact this
    simp only [Uej,UiR,Uzw]
    rcases Bool.eq_false_or_eq_true (rows[i]).eq with he | he
    · simp (disch:=(first | omega | (simp only [JlE]; omega))) only [↓JlH,JlF,Uab,Uac,Jji,UaO hi2,Uau hi1,i1,he]
      simp [he]
    · by_cases h0:rq mult[i]<0
      · have h0':=Ud6.2 h0
        simp (disch:=(first | omega | (simp only [JlE]; omega))) only [↓JlH,JlF,Uab,Uac,Jji,UaO hi2,Uau hi1,i1,he,g1]
        simp [h0]
      · have h0':¬ Ud2 (rq mult[i]) 0<0:=fun q=>h0 (Ud6.1 q)
        simp (disch:=(first | omega | (simp only [JlE]; omega))) only [↓JlH,JlF,Uab,Uac,Jji,UaO hi2,Uau hi1,i1,he,g1]
        simp [h0]) rows.length n 0 (by omega) (by omega)
 rw [List.drop_zero] at H
 refine Eq.trans H ?_
 unfold adm
 cases (rows.zip mult).all Uzw <;> rfl
theorem Ujw {cols:Int} {rows:List RowT} (h:Ufj cols rows=0):0≤cols∧cols≤2048∧rows.length≤2048∧∀ r∈rows,okR cols r=true:=by
 unfold Ufj at h
 by_cases h1:cols<0
 · rw [if_pos h1] at h; cases h
 rw [if_neg h1] at h
 by_cases h2:cols>2048
 · rw [if_pos h2] at h; cases h
 rw [if_neg h2] at h
 by_cases h3:rows.length>2048
 · rw [if_pos h3] at h; cases h
 rw [if_neg h3] at h
 cases h4:rows.all (okR cols) with
 | false=>rw [h4] at h; cases h
 | true=>exact ⟨by omega,by omega,by omega,fun r hr=>List.all_eq_true.1 h4 r hr⟩
theorem UtV {cols:Int} {rows:List RowT} {mult:List (List UInt8)} (h:Ufj cols rows=0) (hm:Ude mult=true) (hl:mult.length=rows.length):okRM cols rows mult:=by
 obtain ⟨a,b,c,d⟩:=Ujw h
 exact ⟨b,c,hl,d,fun m hm'=>List.all_eq_true.1 hm m hm'⟩
end Go.Proofs.YtmgfmlhdnadglaaGreatDoor
set_option linter.unusedVariables false
set_option maxRecDepth 100000
namespace Go.Proofs.YtmgfmlhdnadglaaGreatDoor
open Go Th Go.Proofs
noncomputable section
variable {R:Type}
def UzM:Ann:={ loops:=[],cuts:=[],frz:=[],rm:=[.id] }
abbrev UFg (n:Nat):Env:=eC 90 (UIU n) eN
theorem UrJ (n:Nat):EnvOK Tryz.prog GI (UFg n):=.cons (.nil) (ULp n)
def p45 (n:Nat) (x1:Bool) (x2:LP) (x3:Bool) (x4:LP) (k0:Bool→LP→Bool→LP→O R):O R :=
 p90 n x1 x2 (fun y5 y6=>k0 y5 y6 x3 x4)
abbrev UQI (n:Nat):Orc R:=oN
abbrev UPX (n:Nat):Orc R:=oN
abbrev K45 (R:Type) (n:Nat):=JcH (R:=R) Tryz.prog (UFg n) UzM n (9,[]) (UQI n) (UPX n)
theorem USr (n:Nat):Je6 (K45 R n) (JaJ UzM (Jll Tryz.f45)):=pO pN (by kernel_rfl)
abbrev t45:Sl (List SV):=(.c (sP (JlI (.c Jlf (.c sSh (.c Jlf (.c sSh .n)))))) .n)
abbrev f45 (n:Nat) (K:List SV→O R):t45.T (O R):=fun x1 x2 x3 x4=>p45 n x1 x2 x3 x4 (fun y1 y2 y3 y4=>K [.p (.agg [.v (.bool y1),.sh y2,.v (.bool y3),.sh y4])])
abbrev UN6 (n:Nat):FS:=fT [false] t45 (f45 n)
theorem URy (n:Nat):FSound Tryz.prog GI 45 (UN6 n):=gd UzM n (UrJ n) Tryz.func45 (.cons (UrJ n) t45 (f45 n) (fun K _ _ _ _=>(Jkq (c:=Jll Tryz.f45) (by kernel_rfl) (USr n) K).trans (by kernel_rfl)) .nil) (by kernel_rfl)
def Upn:Ann:={ loops:=[],cuts:=[],frz:=[],rm:=[.id] }
abbrev Ux1 (n:Nat):Env:=eN
theorem Ung (n:Nat):EnvOK Tryz.prog GI (Ux1 n):=.nil
def UJb (n:Nat) (x1:Bool) (x2:LP) (k0:Bool→O R):O R :=
 k0 (decide (((x2).length:Int)>400))
abbrev UKo (n:Nat):Orc R:=oN
abbrev UJB (n:Nat):Orc R:=oN
abbrev UPv (R:Type) (n:Nat):=JcH (R:=R) Tryz.prog (Ux1 n) Upn n (7,[]) (UKo n) (UJB n)
theorem ULJ (n:Nat):Je6 (UPv R n) (JaJ Upn (Jll Tryz.f111)):=pO pN (by kernel_rfl)
abbrev UMq:Sl (List SV):=(.c (sP (JlI (.c Jlf (.c sSh .n)))) .n)
abbrev f111 (n:Nat) (K:List SV→O R):UMq.T (O R):=fun x1 x2=>UJb n x1 x2 (fun y1=>K [vB y1])
abbrev UFY (n:Nat):FS:=fT [false] UMq (f111 n)
theorem UKP (n:Nat):FSound Tryz.prog GI 111 (UFY n):=gd Upn n (Ung n) Tryz.func111 (.cons (Ung n) UMq (f111 n) (fun K _ _=>(Jkq (c:=Jll Tryz.f111) (by kernel_rfl) (ULJ n) K).trans (by kernel_rfl)) .nil) (by kernel_rfl)
def UzZ:Ann:={ loops:=[],cuts:=[],frz:=[],rm:=[.id] }
abbrev UFt (n:Nat):Env:=eC 111 (UFY n) eN
theorem Ur6 (n:Nat):EnvOK Tryz.prog GI (UFt n):=.cons (.nil) (UKP n)
def p71 (n:Nat) (x1:Bool) (x2:LP) (x3:Bool) (x4:LP) (k0:Bool→O R):O R :=
 UJb n x1 x2 (fun y5=>bif y5 then (k0 true) else (UJb n x3 x4 (fun y6=>k0 (bif false then true else y6))))
abbrev UQV (n:Nat):Orc R:=oN
abbrev UQ (n:Nat):Orc R:=oN
abbrev K71 (R:Type) (n:Nat):=JcH (R:=R) Tryz.prog (UFt n) UzZ n (11,[]) (UQV n) (UQ n)
theorem USO (n:Nat):Je6 (K71 R n) (JaJ UzZ (Jll Tryz.f71)):=pO pN (by kernel_rfl)
abbrev t71:Sl (List SV):=(.c (sP (JlI (.c Jlf (.c sSh (.c Jlf (.c sSh .n)))))) .n)
abbrev f71 (n:Nat) (K:List SV→O R):t71.T (O R):=fun x1 x2 x3 x4=>p71 n x1 x2 x3 x4 (fun y1=>K [vB y1])
abbrev UIT (n:Nat):FS:=fT [false] t71 (f71 n)
theorem ULo (n:Nat):FSound Tryz.prog GI 71 (UIT n):=gd UzZ n (Ur6 n) Tryz.func71 (.cons (Ur6 n) t71 (f71 n) (fun K _ _ _ _=>(Jkq (c:=Jll Tryz.f71) (by kernel_rfl) (USO n) K).trans (by kernel_rfl)) .nil) (by kernel_rfl)
def UAa:Ann:={ loops:=[],cuts:=[],frz:=[],rm:=[.id] }
abbrev UFF (n:Nat):Env:=eC 124 (UBU n) (eC 123 (UtD n) (eC 89 (UGv n) eN))
theorem Usp (n:Nat):EnvOK Tryz.prog GI (UFF n):=.cons (.cons (.cons (.nil) (UI8 n)) (Uwh n)) (UGV n)
def p91 (n:Nat) (x1:Bool) (x2:LP) (x3:Bool) (x4:LP) (x5:Bool) (x6:LP) (x7:Bool) (x8:LP) (k0:Bool→LP→Bool→LP→O R):O R :=
 p89 n x1 x2 x7 x8 (fun y9 y10=>p89 n x5 x6 x3 x4 (fun y11 y12=>UG9 n y9 y10 y11 y12 (fun y13 y14=>p89 n x3 x4 x7 x8 (fun y15 y16=>UyK n y13 y14 y15 y16 (fun y17 y18 y19 y20=>k0 y17 y18 y19 y20)))))
abbrev UQ7 (n:Nat):Orc R:=oN
abbrev UQl (n:Nat):Orc R:=oN
abbrev K91 (R:Type) (n:Nat):=JcH (R:=R) Tryz.prog (UFF n) UAa n (22,[]) (UQ7 n) (UQl n)
theorem US8 (n:Nat):Je6 (K91 R n) (JaJ UAa (Jll Tryz.f91)):=pO pN (by kernel_rfl)
abbrev t91:Sl (List SV):=(.c (sP (JlI (.c Jlf (.c sSh (.c Jlf (.c sSh .n)))))) (.c (sP (JlI (.c Jlf (.c sSh (.c Jlf (.c sSh .n)))))) .n))
abbrev f91 (n:Nat) (K:List SV→O R):t91.T (O R):=fun x1 x2 x3 x4 x5 x6 x7 x8=>p91 n x1 x2 x3 x4 x5 x6 x7 x8 (fun y1 y2 y3 y4=>K [.p (.agg [.v (.bool y1),.sh y2,.v (.bool y3),.sh y4])])
abbrev UGw (n:Nat):FS:=fT [false,false] t91 (f91 n)
theorem UI9 (n:Nat):FSound Tryz.prog GI 91 (UGw n):=gd UAa n (Usp n) Tryz.func91 (.cons (Usp n) t91 (f91 n) (fun K _ _ _ _ _ _ _ _=>(Jkq (c:=Jll Tryz.f91) (by kernel_rfl) (US8 n) K).trans (by kernel_rfl)) .nil) (by kernel_rfl)
def Upl:Ann:={ loops:=[],cuts:=[],frz:=[],rm:=[.id] }
abbrev UxZ (n:Nat):Env:=eC 123 (UtD n) (eC 89 (UGv n) eN)
theorem Und (n:Nat):EnvOK Tryz.prog GI (UxZ n):=.cons (.cons (.nil) (UI8 n)) (Uwh n)
def UyH (n:Nat) (x1:Bool) (x2:LP) (x3:Bool) (x4:LP) (x5:Bool) (x6:LP) (x7:Bool) (x8:LP) (k0:Bool→LP→Bool→LP→O R):O R :=
 p89 n x1 x2 x5 x6 (fun y9 y10=>p89 n x3 x4 x7 x8 (fun y11 y12=>UyK n y9 y10 y11 y12 (fun y13 y14 y15 y16=>k0 y13 y14 y15 y16)))
abbrev UKm (n:Nat):Orc R:=oN
abbrev UJz (n:Nat):Orc R:=oN
abbrev UPt (R:Type) (n:Nat):=JcH (R:=R) Tryz.prog (UxZ n) Upl n (16,[]) (UKm n) (UJz n)
theorem ULG (n:Nat):Je6 (UPt R n) (JaJ Upl (Jll Tryz.f108)):=pO pN (by kernel_rfl)
abbrev UMo:Sl (List SV):=(.c (sP (JlI (.c Jlf (.c sSh (.c Jlf (.c sSh .n)))))) (.c (sP (JlI (.c Jlf (.c sSh (.c Jlf (.c sSh .n)))))) .n))
abbrev f108 (n:Nat) (K:List SV→O R):UMo.T (O R):=fun x1 x2 x3 x4 x5 x6 x7 x8=>UyH n x1 x2 x3 x4 x5 x6 x7 x8 (fun y1 y2 y3 y4=>K [.p (.agg [.v (.bool y1),.sh y2,.v (.bool y3),.sh y4])])
abbrev Uv2 (n:Nat):FS:=fT [false,false] UMo (f108 n)
theorem UCf (n:Nat):FSound Tryz.prog GI 108 (Uv2 n):=gd Upl n (Und n) Tryz.func108 (.cons (Und n) UMo (f108 n) (fun K _ _ _ _ _ _ _ _=>(Jkq (c:=Jll Tryz.f108) (by kernel_rfl) (ULG n) K).trans (by kernel_rfl)) .nil) (by kernel_rfl)
def UzL:Ann:={ loops:=[],cuts:=[],frz:=[],rm:=[.id] }
abbrev UFf (n:Nat):Env:=eC 89 (UGv n) (eC 88 (UKe n) eN)
theorem UrI (n:Nat):EnvOK Tryz.prog GI (UFf n):=.cons (.cons (.nil) (UO6 n)) (UI8 n)
def p44 (n:Nat) (x1:Bool) (x2:LP) (x3:Bool) (x4:LP) (x5:Bool) (x6:LP) (x7:Bool) (x8:LP) (k0:Int→O R):O R :=
 p89 n x1 x2 x7 x8 (fun y9 y10=>p89 n x5 x6 x3 x4 (fun y11 y12=>p88 n y9 y10 y11 y12 (fun y13=>k0 y13)))
abbrev UQH (n:Nat):Orc R:=oN
abbrev UPW (n:Nat):Orc R:=oN
abbrev K44 (R:Type) (n:Nat):=JcH (R:=R) Tryz.prog (UFf n) UzL n (16,[]) (UQH n) (UPW n)
theorem USq (n:Nat):Je6 (K44 R n) (JaJ UzL (Jll Tryz.f44)):=pO pN (by kernel_rfl)
abbrev t44:Sl (List SV):=(.c (sP (JlI (.c Jlf (.c sSh (.c Jlf (.c sSh .n)))))) (.c (sP (JlI (.c Jlf (.c sSh (.c Jlf (.c sSh .n)))))) .n))
abbrev f44 (n:Nat) (K:List SV→O R):t44.T (O R):=fun x1 x2 x3 x4 x5 x6 x7 x8=>p44 n x1 x2 x3 x4 x5 x6 x7 x8 (fun y1=>K [vI y1])
abbrev UN5 (n:Nat):FS:=fT [false,false] t44 (f44 n)
theorem URx (n:Nat):FSound Tryz.prog GI 44 (UN5 n):=gd UzL n (UrI n) Tryz.func44 (.cons (UrI n) t44 (f44 n) (fun K _ _ _ _ _ _ _ _=>(Jkq (c:=Jll Tryz.f44) (by kernel_rfl) (USq n) K).trans (by kernel_rfl)) .nil) (by kernel_rfl)
def Uz0:Ann:={ loops:=[],cuts:=[],frz:=[],rm:=[.id] }
abbrev UFu (n:Nat):Env:=eC 77 (UGt n) eN
theorem Ur7 (n:Nat):EnvOK Tryz.prog GI (UFu n):=.cons (.nil) (UI6 n)
def p72 (n:Nat) (x1:Bool) (x2:LP) (x3:Bool) (x4:LP) (k0:Bool→O R):O R :=
 p77 n x1 x2 (fun y5=>k0 y5)
abbrev UQW (n:Nat):Orc R:=oN
abbrev UQa (n:Nat):Orc R:=oN
abbrev K72 (R:Type) (n:Nat):=JcH (R:=R) Tryz.prog (UFu n) Uz0 n (6,[]) (UQW n) (UQa n)
theorem USP (n:Nat):Je6 (K72 R n) (JaJ Uz0 (Jll Tryz.f72)):=pO pN (by kernel_rfl)
abbrev t72:Sl (List SV):=(.c (sP (JlI (.c Jlf (.c sSh (.c Jlf (.c sSh .n)))))) .n)
abbrev f72 (n:Nat) (K:List SV→O R):t72.T (O R):=fun x1 x2 x3 x4=>p72 n x1 x2 x3 x4 (fun y1=>K [vB y1])
abbrev UJ9 (n:Nat):FS:=fT [false] t72 (f72 n)
theorem UO0 (n:Nat):FSound Tryz.prog GI 72 (UJ9 n):=gd Uz0 n (Ur7 n) Tryz.func72 (.cons (Ur7 n) t72 (f72 n) (fun K _ _ _ _=>(Jkq (c:=Jll Tryz.f72) (by kernel_rfl) (USP n) K).trans (by kernel_rfl)) .nil) (by kernel_rfl)
end
end Go.Proofs.YtmgfmlhdnadglaaGreatDoor
set_option linter.unusedVariables false
set_option linter.unusedSimpArgs false
namespace Go.Proofs.YtmgfmlhdnadglaaGreatDoor
open Go Th Go.Proofs
variable {R:Type}
theorem UaR {q:Rat}:fits q↔ll q.num.natAbs≤400∧ll q.den≤400:=by
 unfold fits; rw [UcY,UcY]
theorem UgV (p q:Rat):Rat.divInt (p.num * q.den + q.num * p.den) ((p.den * q.den:Nat):Int)=p + q:=by rw [Rat.divInt_ofNat,UyE]
theorem Ug4 (p q:Rat):Rat.divInt (p.num * q.num) ((p.den * q.den:Nat):Int)=p * q:=by rw [Rat.divInt_ofNat,UyF]
theorem Ub3 {x y:Int} {i j:Nat} (hx:ll x.natAbs≤i) (hy:ll y.natAbs≤j):ll (x * y).natAbs≤i + j:=by
 rw [Int.natAbs_mul]
 exact Nat.le_trans (Ug1 _ _) (Nat.add_le_add hx hy)
theorem UtN {x y:Int} {i:Nat} (hx:ll x.natAbs≤i) (hy:ll y.natAbs≤i):ll (x + y).natAbs≤i + 1 :=
 Nat.le_trans (UaT (Int.natAbs_add_le x y)) (UyB hx hy)
theorem Uap (a:Nat):ll ((a:Int)).natAbs=ll a:=by rw [Int.natAbs_natCast]
section
variable (n:Nat) (hn:10 ^ 1000≤n) (p q:Rat) (hp:fits p) (hq:fits q)
include hp hq
theorem UGO:ll (p * q).num.natAbs≤800∧ll (p * q).den≤800:=by
 obtain ⟨a1,a2⟩:=UaR.1 hp
 obtain ⟨b1,b2⟩:=UaR.1 hq
 have hw:((p.den * q.den:Nat):Int)≠0:=by have:=Nat.mul_ne_zero p.den_nz q.den_nz; omega
 rw [←Ug4]
 constructor
 · exact Nat.le_trans (UaT (UtT _ _ hw)) (Nat.le_trans (Ub3 a1 b1) (by omega))
 · exact Nat.le_trans (UaT (UqJ _ _ hw)) (by rw [Uap]; exact Nat.le_trans (Ug1 _ _) (by omega))
include hn
theorem Uc (k0:Bool→List PV→Bool→List PV→Option R):p91 n (sg p.num) (II p.num.natAbs) false (II p.den) (sg q.num) (II q.num.natAbs) false (II q.den) k0=k0 (sg (p + q).num) (II (p + q).num.natAbs) false (II (p + q).den):=by
 obtain ⟨a1,a2⟩:=UaR.1 hp
 obtain ⟨b1,b2⟩:=UaR.1 hq
 have hN:=Ual (Uat hn)
 have hw:((p.den * q.den:Nat):Int)≠0:=by have:=Nat.mul_ne_zero p.den_nz q.den_nz; omega
 have m1:=fun k=>Ubf (R:=R) n p.num (q.den:Int) (by omega) (by rw [Uap]; omega) hN k
 have m2:=fun k=>Ubf (R:=R) n q.num (p.den:Int) (by omega) (by rw [Uap]; omega) hN k
 have m3:=fun k=>Ubf (R:=R) n (p.den:Int) (q.den:Int) (by rw [Uap]; omega) (by rw [Uap]; omega) hN k
 have l1:ll (p.num * (q.den:Int)).natAbs≤800:=Ub3 a1 (by rw [Uap]; exact b2)
 have l2:ll (q.num * (p.den:Int)).natAbs≤800:=Ub3 b1 (by rw [Uap]; exact a2)
 have l3:=UtN l1 l2
 have l4:ll ((p.den * q.den:Nat):Int).natAbs≤800:=by rw [Uap]; exact Nat.le_trans (Ug1 _ _) (by omega)
 have m4:=fun k=>UlO (R:=R) n (p.num * (q.den:Int)) (q.num * (p.den:Int)) (by omega) (by omega) hN k
 have m5:=fun k=>Uol (R:=R) n (p.num * (q.den:Int) + q.num * (p.den:Int)) ((p.den * q.den:Nat):Int) hw (by omega) (by omega) hN (by rw [Int.natAbs_natCast]; exact UI1 hn hp.2 hq.2) k
 rw [UgV] at m5
 have e:(p.den:Int) * (q.den:Int)=((p.den * q.den:Nat):Int):=by rw [Int.natCast_mul]
 rw [e] at m3
 simp only [Ubr,Int.natAbs_natCast] at m1 m2 m3 m5
 simp only [p91,m1,m2,m3,m4,m5]
theorem UdW (k0:Bool→List PV→Bool→List PV→Option R):UyH n (sg p.num) (II p.num.natAbs) false (II p.den) (sg q.num) (II q.num.natAbs) false (II q.den) k0=k0 (sg (p * q).num) (II (p * q).num.natAbs) false (II (p * q).den):=by
 obtain ⟨a1,a2⟩:=UaR.1 hp
 obtain ⟨b1,b2⟩:=UaR.1 hq
 have hN:=Ual (Uat hn)
 have hw:((p.den * q.den:Nat):Int)≠0:=by have:=Nat.mul_ne_zero p.den_nz q.den_nz; omega
 have m1:=fun k=>Ubf (R:=R) n p.num q.num (by omega) (by omega) hN k
 have m3:=fun k=>Ubf (R:=R) n (p.den:Int) (q.den:Int) (by rw [Uap]; omega) (by rw [Uap]; omega) hN k
 have l1:ll (p.num * q.num).natAbs≤800:=Ub3 a1 b1
 have l4:ll ((p.den * q.den:Nat):Int).natAbs≤800:=by rw [Uap]; exact Nat.le_trans (Ug1 _ _) (by omega)
 have m5:=fun k=>Uol (R:=R) n (p.num * q.num) ((p.den * q.den:Nat):Int) hw (by omega) (by omega) hN (by rw [Int.natAbs_natCast]; exact UI1 hn hp.2 hq.2) k
 rw [Ug4] at m5
 have e:(p.den:Int) * (q.den:Int)=((p.den * q.den:Nat):Int):=by rw [Int.natCast_mul]
 rw [e] at m3
 simp only [Ubr,Int.natAbs_natCast] at m1 m3 m5
 simp only [UyH,m1,m3,m5]
theorem Ukq (k0:Int→Option R):p44 n (sg p.num) (II p.num.natAbs) false (II p.den) (sg q.num) (II q.num.natAbs) false (II q.den) k0=k0 (UgS (p.num * q.den) (q.num * p.den)):=by
 obtain ⟨a1,a2⟩:=UaR.1 hp
 obtain ⟨b1,b2⟩:=UaR.1 hq
 have hN:=Ual (Uat hn)
 have m1:=fun k=>Ubf (R:=R) n p.num (q.den:Int) (by omega) (by rw [Uap]; omega) hN k
 have m2:=fun k=>Ubf (R:=R) n q.num (p.den:Int) (by omega) (by rw [Uap]; omega) hN k
 have l1:ll (p.num * (q.den:Int)).natAbs≤800:=Ub3 a1 (by rw [Uap]; exact b2)
 have l2:ll (q.num * (p.den:Int)).natAbs≤800:=Ub3 b1 (by rw [Uap]; exact a2)
 have m4:=fun k=>UoC (R:=R) n (p.num * (q.den:Int)) (q.num * (p.den:Int)) (by omega) (by omega) hN k
 simp only [Ubr,Int.natAbs_natCast] at m1 m2
 simp only [p44,m1,m2,m4]
end
theorem UuQ (n:Nat) (hn:200000≤n) (q:Rat) (hq:fits q) (k0:Bool→List PV→Bool→List PV→Option R):p45 n (sg q.num) (II q.num.natAbs) false (II q.den) k0=k0 (sg (-q).num) (II (-q).num.natAbs) false (II (-q).den):=by
 obtain ⟨b1,b2⟩:=UaR.1 hq
 have m1:=fun k=>UgF (R:=R) n q.num (by omega) hn k
 simp only [p45,m1,Rat.neg_num,Rat.neg_den]
end Go.Proofs.YtmgfmlhdnadglaaGreatDoor
set_option linter.unusedVariables false
set_option maxRecDepth 100000
namespace Go.Proofs.YtmgfmlhdnadglaaGreatDoor
open Go Th Go.Proofs
noncomputable section
variable {R:Type}
def Uge:Ann:={ loops:=[(3,[(1,.id),(5,.own 66),(6,.id)],ids [1,2,3,4,5])],cuts:=[(4,ids [1,5,6],ids [1,2,3,4,5,6])],frz:=[],rm:=[.sh,.id,.id] }
abbrev UBe (n:Nat):Env:=eC 73 (UK n) (eC 72 (UJ9 n) (eC 71 (UIT n) eN))
theorem Urr (n:Nat):EnvOK Tryz.prog GI (UBe n):=.cons (.cons (.cons (.nil) (ULo n)) (UO0 n)) (UO1 n)
def Ug6 (n:Nat) (x1:LP) (x2:Bool) (x3:LP) (x4:Bool) (x5 x6:LP) (x7:Int) (k0:LP→Bool→LP→Bool→LP→LP→Int→O R):O R :=
 k0 x1 x2 x3 x4 x5 x6 (IntKind.i64.wrap (x7 + 1))
def Ueg (n:Nat) (l0:LP→Bool→LP→Bool→LP→LP→Int→O R) (x1:LP) (x2:Bool) (x3:LP) (x4:Bool) (x5 x6:LP) (x7:Int) (k0:LP→Bool→LP→Bool→LP→ByteArray→Int→LP→O R) (k1:LP→Bool→LP→Bool→LP→LP→O R):O R :=
 bif (decide (x7<((x1).length:Int))) then (bif (inR x7 ((x1).length)) then (Jh2 ((x1).getD ((x7:Int).toNat) (.v (.bool false))) fun a8=>JdT a8 fun h9 t10=>Jj2 h9 fun e11=>JdT t10 fun h12 t13=>Jkr h12 fun e14=>JdT t13 fun h15 t16=>Jj2 h15 fun e17=>JdT t16 fun h18 t19=>Jkr h18 fun e20=>Ji2 t19 (p71 n e11 e14 e17 e20 (fun y21=>bif y21 then (k0 x1 x2 x3 x4 x5 ⟨#[]⟩ 5 x6) else (bif (inR x7 ((x1).length)) then (Jh2 ((x1).getD ((x7:Int).toNat) (.v (.bool false))) fun a22=>JdT a22 fun h23 t24=>Jj2 h23 fun e25=>JdT t24 fun h26 t27=>Jkr h26 fun e28=>JdT t27 fun h29 t30=>Jj2 h29 fun e31=>JdT t30 fun h32 t33=>Jkr h32 fun e34=>Ji2 t33 (p72 n e25 e28 e31 e34 (fun y35=>bif (!y35) then (bif (inR x7 ((x1).length)) then (Jh2 ((x1).getD ((x7:Int).toNat) (.v (.bool false))) fun a36=>JdT a36 fun h37 t38=>Jj2 h37 fun e39=>JdT t38 fun h40 t41=>Jkr h40 fun e42=>JdT t41 fun h43 t44=>Jj2 h43 fun e45=>JdT t44 fun h46 t47=>Jkr h46 fun e48=>Ji2 t47 (p73 n e39 e42 e45 e48 (fun y49=>bif (Jbu ((x6).length + 1) 24) then (Ug6 n x1 x2 x3 x4 x5 (x6++([.agg [.v (.int .i64 x7),.v (.string y49)]]:LP)) x7 (fun y50 y51 y52 y53 y54 y55 y56=>l0 y50 y51 y52 y53 y54 y55 y56)) else none))) else none) else (Ug6 n x1 x2 x3 x4 x5 x6 x7 (fun y57 y58 y59 y60 y61 y62 y63=>l0 y57 y58 y59 y60 y61 y62 y63))))) else none)))) else none) else (k1 x1 x2 x3 x4 x5 x6)
def Ub9 (n:Nat):Nat→LP→Bool→LP→Bool→LP→LP→Int→(LP→Bool→LP→Bool→LP→ByteArray→Int→LP→O R)→(LP→Bool→LP→Bool→LP→LP→O R)→O R
 | 0,_,_,_,_,_,_,_,_,_=>none
 | m + 1,x1,x2,x3,x4,x5,x6,x7,k0,k1=>Ueg n (fun x1 x2 x3 x4 x5 x6 x7=>Ub9 n m x1 x2 x3 x4 x5 x6 x7 k0 k1) x1 x2 x3 x4 x5 x6 x7 k0 k1
def UyQ (n:Nat) (x1:LP) (x2:Bool) (x3:LP) (x4:Bool) (x5 x6:LP) (x7:Int) (k0:LP→Bool→LP→Bool→LP→ByteArray→Int→LP→O R) (k1:LP→Bool→LP→Bool→LP→LP→O R):O R:=Ub9 n n x1 x2 x3 x4 x5 x6 x7 k0 k1
def p25 (n:Nat) (x1:LP) (x2:Bool) (x3:LP) (x4:Bool) (x5:LP) (k0:LP→ByteArray→Int→O R):O R :=
 UyQ n x1 x2 x3 x4 x5 [] 0 (fun y6 y7 y8 y9 y10 y11 y12 y13=>k0 [] y11 y12) (fun y14 y15 y16 y17 y18 y19=>p71 n y15 y16 y17 y18 (fun y20=>bif y20 then (k0 [] ⟨#[]⟩ 5) else (p73 n y15 y16 y17 y18 (fun y21=>k0 y19 y21 0))))
abbrev E25 (n:Nat):Code→Fr→Kc R→O R:=evC Tryz.prog (UBe n) Uge n (45,[])
noncomputable def Uxb:Code:=Jj4 (Jll Tryz.f25) [1,1,0,1,0,0,1,1]
abbrev Uu5:Sl (List SV):=(.c (sBx 59 (cH (cB (cH (cB (cH .n)))))) (cO 66 (cI .n)))
abbrev Uyj (n:Nat) (K:Kc R):Uu5.T (O R):=fun x1 x2 x3 x4 x5 x6 x7=>Ug6 n x1 x2 x3 x4 x5 x6 x7 (fun y1 y2 y3 y4 y5 y6 y7=>xC Uge 4 K .normal [.bx 59 [vH y1,vB y2,vH y3,vB y4,vH y5],dD,dD,dD,.own 66 y6,vI y7])
noncomputable def Uxc:Code:=Jj4 (Jll Tryz.f25) [1,1,0,1,0,0]
abbrev Uhk:Sl (List SV):=(.c (sBx 59 (cH (cB (cH (cB (cH .n)))))) (cO 66 (cI .n)))
abbrev UsX (n m:Nat) (K:Kc R):Uhk.T (O R):=fun x1 x2 x3 x4 x5 x6 x7=>Ub9 n m x1 x2 x3 x4 x5 x6 x7 (fun y1 y2 y3 y4 y5 y6 y7 y8=>xL Uge 3 K .ret [.bx 59 [vH y1,vB y2,vH y3,vB y4,vH y5],.nl,vS y6,vI y7,.own 66 y8]) (fun y1 y2 y3 y4 y5 y6=>xL Uge 3 K (.exit 0) [.bx 59 [vH y1,vB y2,vH y3,vB y4,vH y5],dD,dD,dD,.own 66 y6])
abbrev UEa (n:Nat) (K:Kc R) (l0:Uhk.T (O R)):Uhk.T (O R):=fun x1 x2 x3 x4 x5 x6 x7=>Ueg n l0 x1 x2 x3 x4 x5 x6 x7 (fun y1 y2 y3 y4 y5 y6 y7 y8=>xL Uge 3 K .ret [.bx 59 [vH y1,vB y2,vH y3,vB y4,vH y5],.nl,vS y6,vI y7,.own 66 y8]) (fun y1 y2 y3 y4 y5 y6=>xL Uge 3 K (.exit 0) [.bx 59 [vH y1,vB y2,vH y3,vB y4,vH y5],dD,dD,dD,.own 66 y6])
abbrev UKB (n:Nat):Orc R:=oL Uge (E25 n) n 3 Uxc Uhk (UsX n n) oN
abbrev UJO (n:Nat):Orc R:=oC Uge (E25 n) 4 Uxb Uu5 (Uyj n) oN
abbrev K25 (R:Type) (n:Nat):=JcH (R:=R) Tryz.prog (UBe n) Uge n (45,[]) (UKB n) (UJO n)
theorem UHs (n:Nat):K25 R n (true,4,Uxb):=JkW (lo:=UKB n) (cu:=UJO n) (pO pN (by kernel_rfl)) Uu5 (Uyj n) (fun K _ _ _ _ _ _ _=>by show _=_; kernel_rfl) fun _ _=>rfl
theorem UHt (n:Nat):K25 R n (false,3,Uxc):=JkF (lo:=UKB n) (cu:=UJO n) (pO (pC (UHs n) pN) (by kernel_rfl)) Uhk (UsX n n) (JiE (F:=UsX n) Uhk (UEa n) (fun K _ _ _ _ _ _ _=>rfl) (fun _ _=>rfl) (fun L K _ _ _ _ _ _ _=>by show _=_; kernel_rfl) n) fun _ _=>rfl
theorem US (n:Nat):Je6 (K25 R n) (JaJ Uge (Jll Tryz.f25)):=pO (pC (UHt n) pN) (by kernel_rfl)
abbrev t25:Sl (List SV):=(.c (sP (JlI (.c sSh (.c Jlf (.c sSh (.c Jlf (.c sSh .n))))))) .n)
abbrev f25 (n:Nat) (K:List SV→O R):t25.T (O R):=fun x1 x2 x3 x4 x5=>p25 n x1 x2 x3 x4 x5 (fun y1 y2 y3=>K [vH y1,vS y2,vI y3])
abbrev UNU (n:Nat):FS:=fT [false] t25 (f25 n)
theorem URm (n:Nat):FSound Tryz.prog GI 25 (UNU n):=gd Uge n (Urr n) Tryz.func25 (.cons (Urr n) t25 (f25 n) (fun K _ _ _ _ _=>(Jkq (c:=Jll Tryz.f25) (by kernel_rfl) (US n) K).trans (by kernel_rfl)) .nil) (by kernel_rfl)
end
end Go.Proofs.YtmgfmlhdnadglaaGreatDoor
