/- Proved: part 5 of the proof that the law CertifyCombines returns true at all its arguments (no further conditions). -/
import Derived.Test.YtmgfmlhdnadglaaGreatDoorMCertifyCombines0
set_option linter.unusedVariables false
set_option linter.unusedSimpArgs false
namespace Go.Proofs.YtmgfmlhdnadglaaGreatDoor
open Go Th Go.Proofs
variable {R:Type}
theorem UoD (n:Nat) (xs q:List PV) (lv:List Nat) (hv:∀ d∈lv,d<1000000000) (g i:Nat) (hg:g<1000000000) (hi:i<2 ^ 40) (hlv:lv.length<2 ^ 40) :
 ∀ (d m j:Nat) (o:List Nat) (c s:Nat),d + j=lv.length→d<m→i + lv.length≤o.length→o.length<2 ^ 41→(∀ x∈o,x<1000000000)→c<1000000000→s≤1 →
  ∃ (o':List Nat) (c' s':Nat),(∀ k0:List PV→List PV→List PV→Int→List PV→Int→Int→Int→Int→Option R,UaJ n m xs (nl .u32 o) (nl .u32 lv) lv.length q i g c s lv.length j k0=k0 xs (nl .u32 o') (nl .u32 lv) lv.length q i g c' s') ∧
   o'.length=o.length∧(∀ x∈o',x<1000000000)∧c'<1000000000∧s'≤1∧o'.drop (i + lv.length)=o.drop (i + lv.length) ∧
   val 1000000000 o' + 1000000000 ^ (i + j) * (c + s) + g * (1000000000 ^ (i + j) * val 1000000000 (lv.drop j))=val 1000000000 o + 1000000000 ^ (i + lv.length) * (c' + s')
 | 0,m + 1,j,o,c,s,hd,hm,ho,ho2,hlt,hc,hs=>by
  have hk:j=lv.length:=by omega
  subst hk
  refine ⟨o,c,s,fun k0=>?_,rfl,hlt,hc,hs,rfl,?_⟩
  · simp only [UaJ,Uc3]
    simp (disch:=(first | omega | (simp only [JlE]; omega))) only [↓JlH,JlF,JlG]
  · rw [List.drop_length]; simp [val]
 | d + 1,m + 1,j,o,c,s,hd,hm,ho,ho2,hlt,hc,hs=>by
  have hx:=Uab hB2 hv j
  have hz:=Uab hB2 hlt (i + j)
  have hxy:g * lv.getD j 0≤999999999 * 999999999:=Nat.mul_le_mul (by omega) (by omega)
  obtain ⟨t,ht⟩:∃ t,t=c + g * lv.getD j 0:=⟨_,rfl⟩
  have ht2:t / 1000000000<1000000000:=by omega
  have htm:t % 1000000000<1000000000:=Nat.mod_lt _ (by omega)
  obtain ⟨b,hb⟩:∃ b:Nat,b=if o.getD (i + j) 0<t % 1000000000 + s then 1 else 0:=⟨_,rfl⟩
  obtain ⟨r,hr⟩:∃ r:Nat,r + (t % 1000000000 + s)=o.getD (i + j) 0 + 1000000000 * b:=⟨o.getD (i + j) 0 + 1000000000 * b - (t % 1000000000 + s),by split at hb <;> omega⟩
  have hr2:r<1000000000:=by split at hb <;> omega
  have hb1:b≤1:=by split at hb <;> omega
  obtain ⟨o',c',s',h1,h2,h3,h4,h5,h6,h7⟩:=UoD n xs q lv hv g i hg hi hlv d m (j + 1) (o.set (i + j) r) (t / 1000000000) b (by omega) (by omega) (by rw [List.length_set]; exact ho) (by rw [List.length_set]; exact ho2) (Ubf hlt hr2 _) ht2 hb1
  refine ⟨o',c',s',fun k0=>?_,by rw [h2,List.length_set],h3,h4,h5,by rw [h6,List.drop_set_of_lt (by omega)],?_⟩
  · rw [←h1 k0]
    have e1:(i:Int) + (j:Int)=((i + j:Nat):Int):=by omega
    have e2:(j:Int) + 1=((j + 1:Nat):Int):=by omega
    have e4:(g:Int) * ((lv.getD j 0:Nat):Int)=((g * lv.getD j 0:Nat):Int):=by rw [Int.natCast_mul]
    generalize g * lv.getD j 0=xy at *
    have e3:(c:Int) + (xy:Int)=(t:Int):=by omega
    have e5:((o.getD (i + j) 0:Nat):Int) - ((t % 1000000000:Nat):Int) - (s:Int)=(r:Int) - 1000000000 * (b:Int):=by omega
    generalize hzz:o.getD (i + j) 0=z at *
    have hm1:t<2 ^ 62:=by omega
    generalize hq:t / 1000000000=tq at *
    generalize hq2:t % 1000000000=tr at *
    simp only [UaJ,Uc3,UeF]
    by_cases hbb:z<tr + s
    · rw [if_pos hbb] at hb
      subst hb
      have e6:(r:Int) - 1000000000 * ((1:Nat):Int) + 1000000000=(r:Int):=by omega
      simp (disch:=(first | omega | (simp only [JlE]; omega))) only [↓JlH,JlF,JlG,e1,e2,e4,e3,JlB,JlC,hq,hq2,hzz,e5,e6]
      rfl
    · rw [if_neg hbb] at hb
      subst hb
      have e6:(r:Int) - 1000000000 * ((0:Nat):Int)=(r:Int):=by omega
      simp (disch:=(first | omega | (simp only [JlE]; omega))) only [↓JlH,JlF,JlG,e1,e2,e4,e3,JlB,JlC,hq,hq2,hzz,e5,e6]
      rfl
  · rw [Ubl (by omega:j<lv.length)]
    have hvs:=Uee 1000000000 r (l:=o) (i:=i + j) (by omega)
    have hmd:=Nat.mod_add_div t 1000000000
    rw [show i + (j + 1)=(i + j) + 1 from by omega,Nat.pow_succ] at h7
    generalize 1000000000 ^ (i + j)=P at *
    generalize val 1000000000 (List.drop (j + 1) lv)=V at *
    generalize val 1000000000 (o.set (i + j) r)=W at *
    generalize val 1000000000 o=U at *
    generalize 1000000000 ^ (i + lv.length)=Q at *
    generalize t % 1000000000=tr at *
    generalize t / 1000000000=tq at *
    generalize lv.getD j 0=y at *
    generalize o.getD (i + j) 0=z at *
    clear h1 h3 h4 h5 hlt hv hb
    have h8:P * r + P * (tr + s)=P * z + P * (1000000000 * b):=by rw [←Nat.mul_add,←Nat.mul_add,hr]
    have h9:P * tr + P * (1000000000 * tq)=P * c + P * (g * y):=by rw [←Nat.mul_add,←Nat.mul_add,hmd,ht]
    grind
theorem Ulh (n:Nat) (xs q:List PV) (lv:List Nat) (hv:∀ d∈lv,d<1000000000) (g i:Nat) (y:Int) (hi:i<2 ^ 40) (hlv:lv.length<2 ^ 40) :
 ∀ (d m j:Nat) (o:List Nat) (c:Nat),d + j=lv.length→d<m→i + lv.length≤o.length→o.length<2 ^ 41→(∀ x∈o,x<1000000000)→c≤1 →
  ∃ (o':List Nat) (c':Nat),(∀ k0:List PV→List PV→List PV→Int→List PV→Int→Int→Int→Int→Option R,Ua3 n m xs (nl .u32 o) (nl .u32 lv) lv.length q i g y c lv.length j k0=k0 xs (nl .u32 o') (nl .u32 lv) lv.length q i g y c') ∧
   o'.length=o.length∧(∀ x∈o',x<1000000000)∧c'≤1∧o'.drop (i + lv.length)=o.drop (i + lv.length) ∧
   val 1000000000 o' + 1000000000 ^ (i + lv.length) * c'=val 1000000000 o + 1000000000 ^ (i + j) * c + 1000000000 ^ (i + j) * val 1000000000 (lv.drop j)
 | 0,m + 1,j,o,c,hd,hm,ho,ho2,hlt,hc=>by
  have hk:j=lv.length:=by omega
  subst hk
  refine ⟨o,c,fun k0=>?_,rfl,hlt,hc,rfl,?_⟩
  · simp only [Ua3,Uc4]
    simp (disch:=(first | omega | (simp only [JlE]; omega))) only [↓JlH,JlF,JlG]
  · rw [List.drop_length]; simp [val]
 | d + 1,m + 1,j,o,c,hd,hm,ho,ho2,hlt,hc=>by
  have hx:=Uab hB2 hv j
  have hz:=Uab hB2 hlt (i + j)
  obtain ⟨t,ht⟩:∃ t,t=c + (o.getD (i + j) 0 + lv.getD j 0):=⟨_,rfl⟩
  have ht2:t / 1000000000≤1:=by omega
  have htm:t % 1000000000<1000000000:=Nat.mod_lt _ (by omega)
  obtain ⟨o',c',h1,h2,h3,h4,h5,h6⟩:=Ulh n xs q lv hv g i y hi hlv d m (j + 1) (o.set (i + j) (t % 1000000000)) (t / 1000000000) (by omega) (by omega) (by rw [List.length_set]; exact ho) (by rw [List.length_set]; exact ho2) (Ubf hlt htm _) ht2
  refine ⟨o',c',fun k0=>?_,by rw [h2,List.length_set],h3,h4,by rw [h5,List.drop_set_of_lt (by omega)],?_⟩
  · rw [←h1 k0]
    have e1:(i:Int) + (j:Int)=((i + j:Nat):Int):=by omega
    have e2:(j:Int) + 1=((j + 1:Nat):Int):=by omega
    have e3:(c:Int) + (((o.getD (i + j) 0:Nat):Int) + ((lv.getD j 0:Nat):Int))=(t:Int):=by omega
    simp only [Ua3,Uc4]
    simp (disch:=(first | omega | (simp only [JlE]; omega))) only [↓JlH,JlF,JlG,e1,e2,e3,JlB,JlC]
  · rw [h6,Ubl (by omega:j<lv.length)]
    have hvs:=Uee 1000000000 (t % 1000000000) (l:=o) (i:=i + j) (by omega)
    have hmd:=Nat.mod_add_div t 1000000000
    rw [show i + (j + 1)=(i + j) + 1 from by omega,Nat.pow_succ]
    generalize 1000000000 ^ (i + j)=P at *
    generalize val 1000000000 (List.drop (j + 1) lv)=V at *
    generalize val 1000000000 (o.set (i + j) (t % 1000000000))=W at *
    generalize val 1000000000 o=U at *
    generalize 1000000000 ^ (i + lv.length)=Q at *
    generalize t % 1000000000=tr at *
    generalize t / 1000000000=tq at *
    generalize lv.getD j 0=y at *
    generalize o.getD (i + j) 0=z at *
    clear h1 h3 h4 h5 hlt hv
    have h9:P * tr + P * (1000000000 * tq)=P * c + (P * z + P * y):=by rw [←Nat.mul_add,←Nat.mul_add,←Nat.mul_add,hmd,ht]
    grind
theorem Uiz (n:Nat) (xs q:List PV) (lu lv:List Nat) (hu:∀ d∈lu,d<1000000000) (hv:∀ d∈lv,d<1000000000) (i:Nat) (hi:i<2 ^ 40) (hlv:lv.length<2 ^ 40) (h2:2≤lv.length) (hul:i + lv.length<lu.length) (hul2:lu.length<2 ^ 41)
 (v1 v2 u3 U2:Nat) (hv1:lv.getD (lv.length - 1) 0=v1) (hv2:lv.getD (lv.length - 2) 0=v2) (hu3:lu.getD (i + lv.length - 2) 0=u3) (hU2:U2<v1 * 1000000000 + 1000000000) :
 ∀ (m g r:Nat),g<2 ^ 31→r<1000000000→1000000000≤r + m * v1→g * v1 + r=U2→(∀ x,x<1000000000→x * (v1 * 1000000000 + v2)≤U2 * 1000000000 + u3→x≤g) →
  ∃ g':Nat,(∀ k0:List PV→List PV→List PV→Int→List PV→Int→Int→Option R,Ua2 n m xs (nl .u32 lu) (nl .u32 lv) lv.length q i g r k0=k0 xs (nl .u32 lu) (nl .u32 lv) lv.length q i g') ∧
   g'<1000000000∧g' * (v1 * 1000000000 + v2)≤U2 * 1000000000 + u3∧(∀ x,x<1000000000→x * (v1 * 1000000000 + v2)≤U2 * 1000000000 + u3→x≤g')
 | 0,g,r,hg,hr,hm,hinv,hmax=>by omega
 | m + 1,g,r,hg,hr,hm,hinv,hmax=>by
  have hb1:v1<1000000000:=by rw [←hv1]; exact Uab hB2 hv _
  have hb2:v2<1000000000:=by rw [←hv2]; exact Uab hB2 hv _
  have hb3:u3<1000000000:=by rw [←hu3]; exact Uab hB2 hu _
  have e1:(lv.length:Int) - 1=((lv.length - 1:Nat):Int):=by omega
  have e2:(lv.length:Int) - 2=((lv.length - 2:Nat):Int):=by omega
  have e3:(i:Int) + (lv.length:Int)=((i + lv.length:Nat):Int):=by omega
  have e4:((i + lv.length:Nat):Int) - 2=((i + lv.length - 2:Nat):Int):=by omega
  have e5:(g:Int) * (v2:Int)=((g * v2:Nat):Int):=by rw [Int.natCast_mul]
  have e6:(r:Int) * 1000000000=((r * 1000000000:Nat):Int):=by omega
  have e7:((r * 1000000000:Nat):Int) + (u3:Int)=((r * 1000000000 + u3:Nat):Int):=by omega
  have e8:(r:Int) + (v1:Int)=((r + v1:Nat):Int):=by omega
  have hgv:g * v2≤2 ^ 31 * 1000000000:=Nat.mul_le_mul (by omega) (by omega)
  have hkey:g * (v1 * 1000000000 + v2) + r * 1000000000=U2 * 1000000000 + g * v2:=by rw [←hinv]; grind
  by_cases hc:1000000000≤g∨r * 1000000000 + u3<g * v2
  · have hg1:1≤g:=by
     rcases Nat.eq_zero_or_pos g with h0 | h0
     · subst h0; simp at hc
     · exact h0
    obtain ⟨p,rfl⟩:∃ p,g=p + 1:=⟨g - 1,by omega⟩
    have e9:((p + 1:Nat):Int) - 1=(p:Int):=by omega
    have hinv':p * v1 + (r + v1)=U2:=by rw [←hinv,Nat.succ_mul]; omega
    have hkey':p * (v1 * 1000000000 + v2) + (r + v1) * 1000000000=U2 * 1000000000 + p * v2:=by rw [←hinv']; grind
    have hmax':∀ x,x<1000000000→x * (v1 * 1000000000 + v2)≤U2 * 1000000000 + u3→x≤p:=by
     intro x hx hxu
     have:=hmax x hx hxu
     by_cases hxp:x=p + 1
     · subst hxp; exfalso; omega
     · omega
    by_cases hr2:1000000000≤r + v1
    · have hpb:p<1000000000:=by
       apply Nat.lt_of_not_le
       intro hp
       have:1000000000 * v1≤p * v1:=Nat.mul_le_mul_right _ hp
       omega
      have hpv:p * v2≤1000000000 * 1000000000:=Nat.mul_le_mul (by omega) (by omega)
      refine ⟨p,fun k0=>?_,hpb,by omega,hmax'⟩
      simp only [Ua2,UbM,Uc1]
      by_cases h1:1000000000≤p + 1
      · simp (disch:=(first | omega | (simp only [JlE]; omega))) only [↓JlH,JlF,JlG,e1,e2,e3,e4,hv1,hv2,hu3,e5,e6,e7,e8,e9]
      · simp (disch:=(first | omega | (simp only [JlE]; omega))) only [↓JlH,JlF,JlG,e1,e2,e3,e4,hv1,hv2,hu3,e5,e6,e7,e8,e9]
    · obtain ⟨g',h1,h3,h4,h5⟩:=Uiz n xs q lu lv hu hv i hi hlv h2 hul hul2 v1 v2 u3 U2 hv1 hv2 hu3 hU2 m p (r + v1) (by omega) (by omega) (by rw [Nat.succ_mul] at hm; omega) hinv' hmax'
      refine ⟨g',fun k0=>?_,h3,h4,h5⟩
      rw [←h1 k0]
      simp only [Ua2,UbM,Uc1]
      by_cases h1:1000000000≤p + 1
      · simp (disch:=(first | omega | (simp only [JlE]; omega))) only [↓JlH,JlF,JlG,e1,e2,e3,e4,hv1,hv2,hu3,e5,e6,e7,e8,e9]
      · simp (disch:=(first | omega | (simp only [JlE]; omega))) only [↓JlH,JlF,JlG,e1,e2,e3,e4,hv1,hv2,hu3,e5,e6,e7,e8,e9]
  · have hc1:g<1000000000:=by omega
    have hc2:g * v2≤r * 1000000000 + u3:=by omega
    refine ⟨g,fun k0=>?_,hc1,by omega,hmax⟩
    simp only [Ua2,UbM]
    simp (disch:=(first | omega | (simp only [JlE]; omega))) only [↓JlH,JlF,JlG,e1,e2,e3,e4,hv1,hv2,hu3,e5,e6,e7,e8]
end Go.Proofs.YtmgfmlhdnadglaaGreatDoor
set_option linter.unusedVariables false
namespace Go.Proofs.YtmgfmlhdnadglaaGreatDoor
theorem UFF {B D U P Vl Wl V W g:Nat} (hV:V=D * P + Vl) (hW:W=U * P + Wl) (hVl:Vl<P) (hWl:Wl<P) (hD:B≤D) (hg:g<B) (hgU:g * D≤U)
 (hmax:∀ x,x<B→x * D≤U→x≤g) (hWV:W<B * V):W / V≤g∧g * V<W + V:=by
 have hP:0<P:=by omega
 have hD0:0<D:=by omega
 have hDP:0<D * P:=Nat.mul_pos hD0 hP
 have hV0:0<V:=by omega
 constructor
 · apply hmax
   · exact Nat.div_lt_of_lt_mul (by rw [Nat.mul_comm]; exact hWV)
   · have h1:W / V * V≤W:=Nat.div_mul_le_self W V
     generalize W / V=Q at *
     apply Nat.le_of_not_lt
     intro h
     have h2:(U + 1) * P≤Q * D * P:=Nat.mul_le_mul_right _ h
     rw [hV,Nat.mul_add,←Nat.mul_assoc] at h1
     rw [Nat.succ_mul] at h2
     have h3:0≤Q * Vl:=Nat.zero_le _
     omega
 · have h1:g * D * P≤U * P:=Nat.mul_le_mul_right _ hgU
   have h2:g * Vl≤B * P:=Nat.mul_le_mul (by omega) (by omega)
   have h3:B * P≤D * P:=Nat.mul_le_mul_right _ hD
   have h4:g * Vl<B * P∨g * Vl=0:=by
    rcases Nat.eq_zero_or_pos Vl with h0 | h0
    · right; rw [h0,Nat.mul_zero]
    · left; exact Nat.mul_lt_mul_of_lt_of_lt hg hVl
   rw [hV,Nat.mul_add,←Nat.mul_assoc,hW]
   rcases h4 with h4 | h4 <;> omega
theorem Uae (b:Nat) (l:List Nat) (i:Nat):val b (l.drop i)=l.getD i 0 + b * val b (l.drop (i + 1)):=by
 by_cases h:i<l.length
 · rw [List.drop_eq_getElem_cons h,val,List.getD_eq_getElem?_getD,List.getElem?_eq_getElem h]; rfl
 · rw [List.drop_eq_nil_of_le (by omega),List.drop_eq_nil_of_le (by omega),Ubm (by omega)]; simp [val]
theorem Ude {b:Nat} (hb:2≤b) (l:List Nat) (k:Nat) (h:val b l<b ^ k):val b (l.drop k)=0:=by
 by_cases hk:k≤l.length
 · have h1:=Uao b l k hk
   rcases Nat.eq_zero_or_pos (val b (l.drop k)) with h0 | h0
   · exact h0
   · have:b ^ k * 1≤b ^ k * val b (l.drop k):=Nat.mul_le_mul_left _ h0
     omega
 · rw [List.drop_eq_nil_of_le (by omega)]; rfl
theorem Uyi {B:Nat} (hB:2≤B) (o lv:List Nat) (ho:∀ d∈o,d<B) (hv:∀ d∈lv,d<B) (i:Nat) (h2:2≤lv.length) (hi:i + lv.length<o.length) (hW:val B (o.drop i)<B * val B lv) :
 ∃ Vl Wl,val B lv=(lv.getD (lv.length - 1) 0 * B + lv.getD (lv.length - 2) 0) * B ^ (lv.length - 2) + Vl∧Vl<B ^ (lv.length - 2) ∧
  val B (o.drop i)=((o.getD (i + lv.length) 0 * B + o.getD (i + lv.length - 1) 0) * B + o.getD (i + lv.length - 2) 0) * B ^ (lv.length - 2) + Wl∧Wl<B ^ (lv.length - 2) ∧
  o.getD (i + lv.length) 0 * B + o.getD (i + lv.length - 1) 0<lv.getD (lv.length - 1) 0 * B + B:=by
 have hVlt:=Uej hB lv hv
 have hWlt:val B (o.drop i)<B ^ (lv.length + 1):=by
  rw [Nat.pow_succ,Nat.mul_comm _ B]
  exact Nat.lt_of_lt_of_le hW (Nat.mul_le_mul_left _ (Nat.le_of_lt hVlt))
 have hz:=Ude hB _ _ hWlt
 rw [List.drop_drop] at hz
 have hoi:∀ d∈o.drop i,d<B:=fun d hd=>ho d (List.mem_of_mem_drop hd)
 have a1:=Uao B lv (lv.length - 2) (by omega)
 have a2:=Uae B lv (lv.length - 2)
 have a3:=Uae B lv (lv.length - 1)
 rw [show lv.length - 2 + 1=lv.length - 1 from by omega] at a2
 rw [show lv.length - 1 + 1=lv.length from by omega,List.drop_length,show val B []=0 from rfl,Nat.mul_zero,Nat.add_zero] at a3
 rw [a3] at a2; rw [a2] at a1
 have b1:=Uao B (o.drop i) (lv.length - 2) (by rw [List.length_drop]; omega)
 rw [List.drop_drop] at b1
 have b2:=Uae B o (i + (lv.length - 2))
 have b3:=Uae B o (i + lv.length - 1)
 have b4:=Uae B o (i + lv.length)
 rw [show i + (lv.length - 2) + 1=i + lv.length - 1 from by omega] at b2
 rw [show i + lv.length - 1 + 1=i + lv.length from by omega] at b3
 rw [show i + lv.length + 1=i + (lv.length + 1) from by omega,hz,Nat.mul_zero,Nat.add_zero] at b4
 rw [show i + (lv.length - 2)=i + lv.length - 2 from by omega] at b2 b1
 rw [b4] at b3; rw [b3] at b2; rw [b2] at b1
 have c1:=Uaj hB hv (i:=lv.length - 2) (by omega)
 have c2:=Uaj hB hoi (i:=lv.length - 2) (by rw [List.length_drop]; omega)
 have hP:0<B ^ (lv.length - 2):=Nat.pow_pos (by omega)
 have hv2:lv.getD (lv.length - 2) 0<B:=Uab hB hv _
 generalize B ^ (lv.length - 2)=P at *
 generalize val B (List.take (lv.length - 2) lv)=Vl at *
 generalize val B (List.take (lv.length - 2) (o.drop i))=Wl at *
 generalize val B lv=V at *
 generalize val B (o.drop i)=W at *
 generalize lv.getD (lv.length - 1) 0=v1 at *
 generalize lv.getD (lv.length - 2) 0=v2 at *
 generalize o.getD (i + lv.length) 0=z at *
 generalize o.getD (i + lv.length - 1) 0=z1 at *
 generalize o.getD (i + lv.length - 2) 0=z2 at *
 clear a2 a3 b2 b3 b4 hz hVlt hWlt
 refine ⟨Vl,Wl,by rw [a1]; grind,c1,by rw [b1]; grind,c2,?_⟩
 apply Nat.lt_of_not_le
 intro h
 have d1:(v1 * B + B) * (B * P)≤(z * B + z1) * (B * P):=Nat.mul_le_mul_right _ h
 have d2:V<(v1 + 1) * (B * P):=by
  have:v2 * P + P≤B * P:=by rw [←Nat.succ_mul]; exact Nat.mul_le_mul_right _ hv2
  rw [a1]; grind
 have d3:B * V<B * ((v1 + 1) * (B * P)):=Nat.mul_lt_mul_of_pos_left d2 (by omega)
 grind
theorem UAG {Bi P V W g t1 z cs vo vo1 lo:Nat} (r2:vo1=t1 + P * z) (r3:vo=lo + Bi * W) (r4:lo<Bi) (r5:t1<P) (q7:vo1 + g * (Bi * V)=vo + P * cs) :
 (cs≤z→g * V≤W)∧(z<cs→W<g * V):=by
 have e:g * (Bi * V)=Bi * (g * V):=by grind
 rw [e] at q7
 constructor
 · intro h
   have h1:P * cs≤P * z:=Nat.mul_le_mul_left _ h
   have h2:Bi * (g * V)<Bi * (W + 1):=by rw [Nat.mul_succ]; omega
   exact Nat.le_of_lt_succ (Nat.lt_of_mul_lt_mul_left h2)
 · intro h
   have h1:P * (z + 1)≤P * cs:=Nat.mul_le_mul_left _ h
   rw [Nat.mul_succ] at h1
   have h2:Bi * W<Bi * (g * V):=by omega
   exact Nat.lt_of_mul_lt_mul_left h2
end Go.Proofs.YtmgfmlhdnadglaaGreatDoor
set_option linter.unusedVariables false
set_option linter.unusedSimpArgs false
namespace Go.Proofs.YtmgfmlhdnadglaaGreatDoor
open Go Th Go.Proofs
variable {R:Type}
theorem UKD {B Bi BL P V W p r t2 z cs c2 vo vo1 vo2 lo:Nat} (hBi:0<Bi) (hP:P=Bi * BL) (r7:vo2=t2 + P * z) (r8:t2<P) (r3:vo=lo + Bi * W) (r4:lo<Bi) (hm1:W=p * V + r) (hm2:r<BL)
 (q7:vo1 + (p + 1) * (Bi * V)=vo + P * cs) (d6:vo2 + P * c2=vo1 + Bi * V):z + c2=cs∧t2 + Bi * (p * V)=vo:=by
 have e1:(p + 1) * (Bi * V)=Bi * (p * V) + Bi * V:=by grind
 rw [e1] at q7
 have e2:Bi * W=Bi * (p * V) + Bi * r:=by rw [hm1,Nat.mul_add]
 have e3:Bi * r + Bi≤P:=by rw [hP,←Nat.mul_succ]; exact Nat.mul_le_mul_left _ hm2
 have e4:t2 + P * z + P * c2=lo + Bi * r + P * cs:=by omega
 rw [Nat.add_assoc,←Nat.mul_add] at e4
 have h0:0<P:=by omega
 have h1:z + c2=cs:=by
  have a1:(t2 + P * (z + c2)) / P=z + c2:=by rw [Nat.add_mul_div_left _ _ h0,Nat.div_eq_of_lt r8,Nat.zero_add]
  have a2:(lo + Bi * r + P * cs) / P=cs:=by rw [Nat.add_mul_div_left _ _ h0,Nat.div_eq_of_lt (by omega),Nat.zero_add]
  rw [←a1,e4,a2]
 refine ⟨h1,?_⟩
 rw [h1] at e4
 omega
set_option maxHeartbeats 4000000 in
set_option maxHeartbeats 4000000 in
theorem UsZ (n m:Nat) (xs:List PV) (o lv lq:List Nat) (ho:∀ d∈o,d<1000000000) (hv:∀ d∈lv,d<1000000000) (hq:∀ d∈lq,d<1000000000) (i:Nat) (h2:2≤lv.length) (hil:i + lv.length<o.length) (hiq:i<lq.length) (hol:o.length<2 ^ 40)
 (hn:lv.length + 2<n) (hv1:500000000≤lv.getD (lv.length - 1) 0) (hW:val 1000000000 (o.drop i)<1000000000 * val 1000000000 lv) :
 ∃ o':List Nat,(∀ k0:List PV→List PV→List PV→Option R,UaA n (m + 1) xs (nl .u32 o) (nl .u32 lv) lv.length (nl .u32 lq) i k0=UaA n m xs (nl .u32 o') (nl .u32 lv) lv.length (nl .u32 (lq.set i (val 1000000000 (o.drop i) / val 1000000000 lv))) ((i:Int) - 1) k0) ∧
  o'.length=o.length∧(∀ d∈o',d<1000000000)∧val 1000000000 o' + 1000000000 ^ i * (val 1000000000 (o.drop i) / val 1000000000 lv * val 1000000000 lv)=val 1000000000 o:=by
 obtain ⟨Vl,Wl,f1,f2,f3,f4,f5⟩:=Uyi hB2 o lv ho hv i h2 hil hW
 have hb1:=Uab hB2 hv (lv.length - 1)
 have hb2:=Uab hB2 hv (lv.length - 2)
 have hbz:=Uab hB2 ho (i + lv.length)
 have hbz1:=Uab hB2 ho (i + lv.length - 1)
 have hbz2:=Uab hB2 ho (i + lv.length - 2)
 obtain ⟨U2,hU2⟩:∃ U2,U2=o.getD (i + lv.length) 0 * 1000000000 + o.getD (i + lv.length - 1) 0:=⟨_,rfl⟩
 rw [←hU2] at f3 f5
 obtain ⟨v1,hv1e⟩:∃ v1,lv.getD (lv.length - 1) 0=v1:=⟨_,rfl⟩
 obtain ⟨v2,hv2e⟩:∃ v2,lv.getD (lv.length - 2) 0=v2:=⟨_,rfl⟩
 obtain ⟨u3,hu3e⟩:∃ u3,o.getD (i + lv.length - 2) 0=u3:=⟨_,rfl⟩
 obtain ⟨z,hze⟩:∃ z,o.getD (i + lv.length) 0=z:=⟨_,rfl⟩
 obtain ⟨z1,hz1e⟩:∃ z1,o.getD (i + lv.length - 1) 0=z1:=⟨_,rfl⟩
 rw [hv1e,hv2e] at f1
 rw [hu3e] at f3
 rw [hv1e] at f5 hb1 hv1
 rw [hv2e] at hb2; rw [hze] at hbz hU2; rw [hz1e] at hbz1 hU2; rw [hu3e] at hbz2
 have hdm:=Nat.div_add_mod' U2 v1
 have hmod:U2 % v1<v1:=Nat.mod_lt _ (by omega)
 have hdv0:U2<v1 * 2147483648:=Nat.lt_of_lt_of_le f5 (by rw [show v1 * 2147483648=v1 * 1000000000 + v1 * 1147483648 from by rw [←Nat.mul_add]]; exact Nat.add_le_add_left (by clear f1 f2 f3 f4 f5 hdm hmod hU2; omega) _)
 have hdv:U2 / v1<2147483648:=Nat.div_lt_of_lt_mul hdv0
 obtain ⟨g,hg1,hg2,hg3,hg4⟩:=Uiz (R:=R) n xs (nl .u32 lq) o lv ho hv i (by omega) (by omega) h2 hil (by omega) v1 v2 u3 U2 hv1e hv2e hu3e f5 n (U2 / v1) (U2 % v1) hdv (by omega)
  (by have:3 * v1≤n * v1:=Nat.mul_le_mul_right _ (by omega)
      omega) hdm
  (by intro x hx hxu
      rw [Nat.le_div_iff_mul_le (by omega)]
      apply Nat.le_of_not_lt
      intro h
      have h3:(U2 + 1) * 1000000000≤x * v1 * 1000000000:=Nat.mul_le_mul_right _ h
      rw [Nat.mul_add,←Nat.mul_assoc] at hxu
      have:0≤x * v2:=Nat.zero_le _
      omega)
 obtain ⟨k1,k2⟩:=UFF (B:=1000000000) f1 f3 f2 f4 (by omega) hg2 hg3 hg4 hW
 obtain ⟨o1,c1,s1,q1,q2,q3,q4,q5,q6,q7⟩:=UoD (R:=R) n xs (nl .u32 lq) lv hv g i hg2 (by omega) (by omega) lv.length n 0 o 0 0 (by omega) (by omega) (by omega) (by omega) ho (by omega) (by omega)
 have hz':o1.getD (i + lv.length) 0=z:=by
  rw [←hze]
  have h:=congrArg (fun l=>l.getD 0 0) q6
  simpa [List.getD_eq_getElem?_getD] using h
 have r1:=Uao 1000000000 o (i + lv.length) (by omega)
 have r2:=Uao 1000000000 o1 (i + lv.length) (by omega)
 have r3:=Uao 1000000000 o i (by omega)
 have r4:=Uaj hB2 ho (i:=i) (by omega)
 have r5:=Uaj hB2 q3 (i:=i + lv.length) (by omega)
 rw [q6] at r2
 have r6:val 1000000000 (o.drop (i + lv.length))=z:=by
  have hWlt:val 1000000000 (o.drop i)<1000000000 ^ (lv.length + 1):=by
   rw [Nat.pow_succ,Nat.mul_comm _ 1000000000]
   exact Nat.lt_of_lt_of_le hW (Nat.mul_le_mul_left _ (Nat.le_of_lt (Uej hB2 lv hv)))
  have hz:=Ude hB2 _ _ hWlt
  rw [List.drop_drop] at hz
  rw [Uae,show i + lv.length + 1=i + (lv.length + 1) from by omega,hz,hze,Nat.mul_zero,Nat.add_zero]
 rw [r6] at r1 r2
 simp only [Nat.add_zero,Nat.mul_zero,List.drop_zero] at q7
 obtain ⟨b1,b2⟩:=UAG r2 r3 r4 r5 q7
 have hV0:0<val 1000000000 lv:=by
  rcases Nat.eq_zero_or_pos (val 1000000000 lv) with h0 | h0
  · rw [h0] at hW; omega
  · exact h0
 by_cases hcs:c1 + s1≤z
 · have hQ:val 1000000000 (o.drop i) / val 1000000000 lv=g:=Nat.le_antisymm k1 ((Nat.le_div_iff_mul_le hV0).2 (b1 hcs))
   rw [hQ]
   have hgu:g<4294967296:=by omega
   have w1:(i:Int) + (lv.length:Int)=((i + lv.length:Nat):Int):=by omega
   have w2:((i + lv.length:Nat):Int) - 1=((i + lv.length - 1:Nat):Int):=by omega
   have w3:(lv.length:Int) - 1=((lv.length - 1:Nat):Int):=by omega
   have w4:(z:Int) * 1000000000 + (z1:Int)=(U2:Int):=by omega
   have w5:(z:Int) - (c1:Int) - (s1:Int)=((z - (c1 + s1):Nat):Int):=by omega
   refine ⟨o1.set (i + lv.length) (z - (c1 + s1)),fun k0=>?_,by rw [List.length_set,q2],Ubf q3 (by omega) _,?_⟩
   · clear f1 f2 f3 f4 f5 hg3 hg4 q7 r1 r2 r3 r4 r5 r6 b1 b2 hQ hW k1 k2 hdm q6 q3 hq ho hv
     have q1':∀ k0:List PV→List PV→List PV→Int→List PV→Int→Int→Int→Int→Option R,UaJ n n xs (nl .u32 o) (nl .u32 lv) lv.length (nl .u32 lq) i g 0 0 lv.length 0 k0=k0 xs (nl .u32 o1) (nl .u32 lv) lv.length (nl .u32 lq) i g c1 s1:=q1
     have t1:Int.tdiv (U2:Int) (v1:Int)=((U2 / v1:Nat):Int):=Jlj _ _
     have t2:Int.tmod (U2:Int) (v1:Int)=((U2 % v1:Nat):Int):=Jlk _ _
     generalize U2 / v1=g0 at *
     generalize U2 % v1=r0 at *
     clear q1
     simp only [UaA,UbL,Uhg,Uhh,Uc2,Uc0]
     simp (disch:=(first | omega | (simp only [JlE]; omega))) only [↓JlH,JlF,JlG,w1,w2,w3,hze,hz1e,hv1e,w4,t1,t2,hg1,q1',hz',w5,q2]
   · have hs:=Uee 1000000000 (z - (c1 + s1)) (l:=o1) (i:=i + lv.length) (by omega)
     rw [hz'] at hs
     have e2:1000000000 ^ (i + lv.length) * z=1000000000 ^ (i + lv.length) * (z - (c1 + s1)) + 1000000000 ^ (i + lv.length) * (c1 + s1):=by rw [←Nat.mul_add]; congr 1; omega
     have e3:g * (1000000000 ^ i * val 1000000000 lv)=1000000000 ^ i * (g * val 1000000000 lv):=by grind
     rw [e3] at q7
     generalize 1000000000 ^ (i + lv.length) * z=A1 at *
     omega
 · have hQ:val 1000000000 (o.drop i) / val 1000000000 lv + 1=g:=by
    have h1:=b2 (Nat.lt_of_not_le hcs)
    have h3:val 1000000000 (o.drop i) / val 1000000000 lv<g:=(Nat.div_lt_iff_lt_mul hV0).2 h1
    obtain ⟨p,rfl⟩:∃ p,g=p + 1:=⟨g - 1,(Nat.succ_pred_eq_of_pos (Nat.lt_of_le_of_lt (Nat.zero_le _) h3)).symm⟩
    have h4:p≤val 1000000000 (o.drop i) / val 1000000000 lv:=(Nat.le_div_iff_mul_le hV0).2 (by rw [Nat.succ_mul] at k2; omega)
    omega
   obtain ⟨p,rfl⟩:∃ p,g=p + 1:=⟨val 1000000000 (o.drop i) / val 1000000000 lv,hQ.symm⟩
   have hQ':val 1000000000 (o.drop i) / val 1000000000 lv=p:=by omega
   rw [hQ']
   obtain ⟨o2,c2,d1,d2,d3,d4,d5,d6⟩:=Ulh (R:=R) n xs (nl .u32 lq) lv hv p i ((z:Int) - (c1:Int) - (s1:Int)) (by omega) (by omega) lv.length n 0 o1 0 (by omega) (by omega) (by omega) (by omega) q3 (by omega)
   simp only [Nat.add_zero,Nat.mul_zero,List.drop_zero] at d6
   have hz2:o2.getD (i + lv.length) 0=z:=by
    rw [←hz']
    have h:=congrArg (fun l=>l.getD 0 0) d5
    simpa [List.getD_eq_getElem?_getD] using h
   have r7:=Uao 1000000000 o2 (i + lv.length) (by omega)
   have r8:=Uaj hB2 d3 (i:=i + lv.length) (by omega)
   rw [d5,q6,r6] at r7
   have hm1:val 1000000000 (o.drop i)=p * val 1000000000 lv + val 1000000000 (o.drop i) % val 1000000000 lv:=by
    rw [←hQ',Nat.div_add_mod']
   have hm2:val 1000000000 (o.drop i) % val 1000000000 lv<1000000000 ^ lv.length:=Nat.lt_trans (Nat.mod_lt _ hV0) (Uej hB2 lv hv)
   obtain ⟨top,low⟩:=UKD (B:=1000000000) (Nat.pow_pos (by omega):0<1000000000 ^ i) (by rw [Nat.pow_add]) r7 r8 r3 r4 hm1 hm2 q7 d6
   have hs:=Uee 1000000000 0 (l:=o2) (i:=i + lv.length) (by omega)
   rw [hz2,Nat.mul_zero,Nat.add_zero] at hs
   refine ⟨o2.set (i + lv.length) 0,fun k0=>?_,by rw [List.length_set,d2,q2],Ubf d3 (by omega) _,?_⟩
   · have w1:(i:Int) + (lv.length:Int)=((i + lv.length:Nat):Int):=by omega
     have w2:((i + lv.length:Nat):Int) - 1=((i + lv.length - 1:Nat):Int):=by omega
     have w3:(lv.length:Int) - 1=((lv.length - 1:Nat):Int):=by omega
     have w4:(z:Int) * 1000000000 + (z1:Int)=(U2:Int):=by omega
     have w5:((p + 1:Nat):Int) - 1=(p:Int):=by omega
     have w6:(z:Int) - (c1:Int) - (s1:Int) + (c2:Int)=((0:Nat):Int):=by omega
     have hgu:p + 1<4294967296:=by omega
     clear f1 f2 f3 f4 f5 hg3 hg4 q7 r1 r2 r3 r4 r5 r6 b1 b2 hQ hQ' hW k1 k2 hdm q6 q3 hq ho hv r7 r8 hm1 hm2 low hs d3 d5 d6
     have q1':∀ k0:List PV→List PV→List PV→Int→List PV→Int→Int→Int→Int→Option R,UaJ n n xs (nl .u32 o) (nl .u32 lv) lv.length (nl .u32 lq) i ((p + 1:Nat):Int) 0 0 lv.length 0 k0=k0 xs (nl .u32 o1) (nl .u32 lv) lv.length (nl .u32 lq) i ((p + 1:Nat):Int) c1 s1:=q1
     have d1':∀ k0:List PV→List PV→List PV→Int→List PV→Int→Int→Int→Int→Option R,Ua3 n n xs (nl .u32 o1) (nl .u32 lv) lv.length (nl .u32 lq) i p ((z:Int) - (c1:Int) - (s1:Int)) 0 lv.length 0 k0=k0 xs (nl .u32 o2) (nl .u32 lv) lv.length (nl .u32 lq) i p ((z:Int) - (c1:Int) - (s1:Int)) c2:=d1
     have t1:Int.tdiv (U2:Int) (v1:Int)=((U2 / v1:Nat):Int):=Jlj _ _
     have t2:Int.tmod (U2:Int) (v1:Int)=((U2 % v1:Nat):Int):=Jlk _ _
     generalize U2 / v1=g0 at *
     generalize U2 % v1=r0 at *
     clear q1 d1
     simp only [UaA,UbL,Uhg,Uhh,Umv,Uc2,Uc0]
     simp (disch:=(first | omega | (simp only [JlE]; omega))) only [↓JlH,JlF,JlG,w1,w2,w3,hze,hz1e,hv1e,w4,t1,t2,hg1,q1',hz',w5,d1',w6,q2,d2]
   · generalize 1000000000 ^ (i + lv.length) * z=A1 at *
     generalize 1000000000 ^ i * (p * val 1000000000 lv)=A2 at *
     omega
theorem Uli (n:Nat) (xs:List PV) (lv:List Nat) (hv:∀ d∈lv,d<1000000000) (h2:2≤lv.length) (hn:lv.length + 2<n) (hv1:500000000≤lv.getD (lv.length - 1) 0) (U:Nat) :
 ∀ (d m:Nat) (o lq:List Nat),(∀ x∈o,x<1000000000)→(∀ x∈lq,x<1000000000)→lq.length + lv.length=o.length→d≤lq.length→d<m→o.length<2 ^ 40→val 1000000000 (o.drop d)<val 1000000000 lv →
  val 1000000000 o + 1000000000 ^ d * (val 1000000000 lv * val 1000000000 (lq.drop d))=U →
  ∃ o' lq':List Nat,(∀ k0:List PV→List PV→List PV→Option R,UaA n m xs (nl .u32 o) (nl .u32 lv) lv.length (nl .u32 lq) ((d:Int) - 1) k0=k0 xs (nl .u32 o') (nl .u32 lq'))∧o'.length=o.length∧lq'.length=lq.length ∧
   (∀ x∈o',x<1000000000)∧(∀ x∈lq',x<1000000000)∧val 1000000000 o'<val 1000000000 lv∧val 1000000000 o' + val 1000000000 lv * val 1000000000 lq'=U
 | 0,m + 1,o,lq,ho,hq,hl,hd,hm,h40,hlt,hU=>by
  rw [List.drop_zero] at hlt hU
  rw [Nat.pow_zero,Nat.one_mul] at hU
  refine ⟨o,lq,fun k0=>?_,rfl,rfl,ho,hq,hlt,hU⟩
  simp only [UaA,UbL]
  simp (disch:=(first | omega | (simp only [JlE]; omega))) only [↓JlH,JlF,JlG]
 | d + 1,m + 1,o,lq,ho,hq,hl,hd,hm,h40,hlt,hU=>by
  have hod:=Uab hB2 ho d
  have hW:val 1000000000 (o.drop d)<1000000000 * val 1000000000 lv:=by
   rw [Uae]
   have:1000000000 * val 1000000000 (o.drop (d + 1)) + 1000000000≤1000000000 * val 1000000000 lv:=by rw [←Nat.mul_succ]; exact Nat.mul_le_mul_left _ hlt
   omega
  obtain ⟨o',s1,s2,s3,s4⟩:=UsZ (R:=R) n m xs o lv lq ho hv hq d h2 (by omega) (by omega) h40 hn hv1 hW
  have hV0:0<val 1000000000 lv:=by omega
  have hpB:val 1000000000 (o.drop d) / val 1000000000 lv<1000000000:=Nat.div_lt_of_lt_mul (by rw [Nat.mul_comm]; exact hW)
  obtain ⟨p,hp⟩:∃ p,val 1000000000 (o.drop d) / val 1000000000 lv=p:=⟨_,rfl⟩
  have r1:=Uao 1000000000 o d (by omega)
  have r2:=Uao 1000000000 o' d (by omega)
  have r3:=Uaj hB2 ho (i:=d) (by omega)
  have r4:=Uaj hB2 s3 (i:=d) (by omega)
  have hdm:=Nat.div_add_mod' (val 1000000000 (o.drop d)) (val 1000000000 lv)
  have hmod:val 1000000000 (o.drop d) % val 1000000000 lv<val 1000000000 lv:=Nat.mod_lt _ hV0
  rw [hp] at s1 s4 hpB hdm
  have hrest:val 1000000000 (o'.drop d)=val 1000000000 (o.drop d) % val 1000000000 lv:=by
   have h0:0<1000000000 ^ d:=Nat.pow_pos (by omega)
   generalize 1000000000 ^ d=P at *
   rw [r1,r2,←hdm,Nat.mul_add] at s4
   have e:val 1000000000 (List.take d o') + P * val 1000000000 (List.drop d o')=val 1000000000 (List.take d o) + P * (val 1000000000 (o.drop d) % val 1000000000 lv):=by
    omega
   have a1:(val 1000000000 (List.take d o') + P * val 1000000000 (List.drop d o')) / P=val 1000000000 (List.drop d o'):=by rw [Nat.add_mul_div_left _ _ h0,Nat.div_eq_of_lt r4,Nat.zero_add]
   have a2:(val 1000000000 (List.take d o) + P * (val 1000000000 (o.drop d) % val 1000000000 lv)) / P=val 1000000000 (o.drop d) % val 1000000000 lv:=by rw [Nat.add_mul_div_left _ _ h0,Nat.div_eq_of_lt r3,Nat.zero_add]
   rw [←a1,e,a2]
  have hqv:val 1000000000 ((lq.set d p).drop d)=p + 1000000000 * val 1000000000 (lq.drop (d + 1)):=by
   rw [Uae,List.drop_set_of_lt (by omega),List.getD_eq_getElem?_getD,List.getElem?_set_self (by omega)]; rfl
  obtain ⟨o2,lq2,t1,t2,t3,t4,t5,t6,t7⟩:=Uli n xs lv hv h2 hn hv1 U d m o' (lq.set d p) s3 (Ubf hq hpB _) (by rw [List.length_set,s2]; exact hl) (by rw [List.length_set]; omega) (by omega) (by omega) (by rw [hrest]; exact hmod)
   (by
     rw [hqv,←hU,←s4,Nat.pow_succ]
     generalize 1000000000 ^ d=P
     generalize val 1000000000 (lq.drop (d + 1))=Q
     generalize val 1000000000 lv=V
     grind)
  refine ⟨o2,lq2,fun k0=>?_,by rw [t2,s2],by rw [t3,List.length_set],t4,t5,t6,t7⟩
  rw [←t1 k0,←s1 k0,show ((d + 1:Nat):Int) - 1=(d:Int) from by omega]
theorem Utg (B t:Nat) (hB:B=1000000000) (ht:1≤t) (htB:t<B):500000000≤B / (t + 1) * t∧B / (t + 1) * (t + 1)≤B∧1≤B / (t + 1):=by
 have h1:B / (t + 1) * (t + 1)≤B:=Nat.div_mul_le_self _ _
 have h2:1≤B / (t + 1):=(Nat.le_div_iff_mul_le (by omega)).2 (by omega)
 have h3:=Nat.div_add_mod' B (t + 1)
 have h4:B % (t + 1)<t + 1:=Nat.mod_lt _ (by omega)
 refine ⟨?_,h1,h2⟩
 generalize B / (t + 1)=q at *
 generalize B % (t + 1)=r at *
 rw [Nat.mul_succ] at h3
 by_cases c1:q=1
 · subst c1; omega
 by_cases c2:t=1
 · subst c2; omega
 obtain ⟨s,rfl⟩:∃ s,t=s + 2:=⟨t - 2,by omega⟩
 have h5:2 * (s + 1)≤q * (s + 1):=Nat.mul_le_mul_right _ (by omega)
 have h6:q * (s + 2)=q * (s + 1) + q:=by grind
 omega
theorem Ued {b:Nat} (hb:2≤b) {x:Nat} (h0:x≠0) (hx:x<b):toL b x=[x]:=by
 rw [UbA hb h0,Nat.mod_eq_of_lt hx,Nat.div_eq_of_lt hx,Uai]
theorem Uil {b:Nat} (hb:2≤b) {x:Nat} (h0:x≠0):1≤(toL b x).length∧(toL b x).getD ((toL b x).length - 1) 0 * b ^ ((toL b x).length - 1)≤x∧x<((toL b x).getD ((toL b x).length - 1) 0 + 1) * b ^ ((toL b x).length - 1)∧1≤(toL b x).getD ((toL b x).length - 1) 0:=by
 have hl:1≤(toL b x).length:=by
  rcases Nat.eq_zero_or_pos (toL b x).length with h | h
  · exact absurd ((Ubg hb).1 (List.eq_nil_of_length_eq_zero h)) h0
  · exact h
 have h1:=Uao b (toL b x) ((toL b x).length - 1) (by omega)
 rw [Uae,show (toL b x).length - 1 + 1=(toL b x).length from by omega,List.drop_length,show val b []=0 from rfl,Nat.mul_zero,Nat.add_zero,Uan hb] at h1
 have h2:=Uaj hb (UaK hb x) (i:=(toL b x).length - 1) (by omega)
 have h3:=UmR hb x
 rw [List.getLast?_eq_getElem?] at h3
 have h4:1≤(toL b x).getD ((toL b x).length - 1) 0:=by
  apply Nat.one_le_iff_ne_zero.2
  intro h
  rw [List.getD_eq_getElem?_getD,List.getElem?_eq_getElem (by omega)] at h
  rw [List.getElem?_eq_getElem (by omega)] at h3
  exact h3 (congrArg some h)
 refine ⟨hl,?_,?_,h4⟩
 · rw [Nat.mul_comm]; omega
 · rw [Nat.succ_mul,Nat.mul_comm]; omega
theorem Unh {b:Nat} (hb:2≤b) {x k:Nat} (h:k<(toL b x).length):b ^ k≤x:=by
 apply Nat.le_of_not_lt
 intro q
 have:=(Uah hb x k).2 q
 omega
set_option maxHeartbeats 2000000 in
theorem UoC (n a b:Nat) (hb:0<b) (hla:(toL 1000000000 a).length<2 ^ 20) (hlb:(toL 1000000000 b).length<2 ^ 20) (hn:(toL 1000000000 a).length + (toL 1000000000 b).length + 10<n) (k0:List PV→List PV→Option R) :
 Uz4 n (NN a) (NN b) k0=k0 (NN (a / b)) (NN (a % b)):=by
 have hc:=fun k0=>UuK (R:=R) n a b (by omega) (by omega) (by omega) k0
 unfold Uz4
 simp only [hc]
 by_cases hab:a<b
 · have e:UfF a b=-1:=by unfold UfF; rw [if_pos hab]
   have e0:NN 0=[]:=by unfold NN; rw [Uai]; rfl
   rw [Nat.div_eq_of_lt hab,Nat.mod_eq_of_lt hab,e0]
   simp (disch:=(first | omega | (simp only [JlE]; omega))) only [↓JlH,JlF,JlG,e]
 have e:0≤UfF a b:=by unfold UfF; rw [if_neg hab]; split <;> omega
 obtain ⟨tl,t0,t1,t2⟩:=Uil hB2 (x:=b) (by omega)
 have hbt:=Uab hB2 (UaK hB2 b) ((toL 1000000000 b).length - 1)
 have hN:NN b=nl .u32 (toL 1000000000 b):=rfl
 by_cases h1:(toL 1000000000 b).length=1
 · have hb1:b<1000000000:=by
    have:=(Uah hB2 b 1).1 (by omega)
    rwa [Nat.pow_one] at this
   have hone:=Ued hB2 (x:=b) (by omega) hb1
   have hs:=fun k0=>UmP (R:=R) n a b hb (by omega) (by omega) (by omega) k0
   have hmod:a % b<b:=Nat.mod_lt _ hb
   have ht:=fun k0=>UbS (R:=R) n [a % b] (by simp; omega) (by simp; omega) (by simp) k0
   rw [show val 1000000000 [a % b]=a % b from by simp [val]] at ht
   have hN1:NN b=nl .u32 [b]:=by rw [hN,hone]
   have e1:([b].getD 0 0)=b:=rfl
   simp only [Uhf]
   rw [hN1]
   have hcond:((([b]:List Nat).length:Int) == 1)=true:=rfl
   have hg:∀ (K:Int→Option R),Jj .u32 ((nl .u32 [b]).getD (0:Int).toNat (PV.v (Value.bool false))) K=K (b:Int):=fun K=>Jhl (l:=[b]) (i:=0) (by simp)
   simp (disch:=(first | omega | (simp only [JlE]; omega))) only [↓JlH,JlF,JlG,hcond,hg,hs,Jln,ht]
   rfl
 obtain ⟨L,hL⟩:∃ L,(toL 1000000000 b).length=L:=⟨_,rfl⟩
 obtain ⟨t,htop⟩:∃ t,(toL 1000000000 b).getD ((toL 1000000000 b).length - 1) 0=t:=⟨_,rfl⟩
 rw [htop] at t0 t1 t2 hbt
 rw [hL] at htop t0 t1 hlb hn tl h1
 obtain ⟨n1,n2,n3⟩:=Utg 1000000000 t rfl t2 hbt
 obtain ⟨f,hf⟩:∃ f,f=1000000000 / (t + 1):=⟨_,rfl⟩
 rw [←hf] at n1 n2 n3
 have hfB:f<1000000000:=by
  have:f * 2≤f * (t + 1):=Nat.mul_le_mul_left _ (by omega)
  omega
 have hNf:[PV.v (.int .u32 (f:Int))]=NN f:=by unfold NN; rw [Ued hB2 (by omega) hfB,Jln]
 have hfl:(toL 1000000000 f).length=1:=by rw [Ued hB2 (by omega) hfB]; rfl
 have hPL:1000000000 ^ L=1000000000 ^ (L - 1) * 1000000000:=by rw [←Nat.pow_succ]; congr 1; omega
 have hvlt:b * f<1000000000 ^ L:=by
  have a1:b * f<(t + 1) * 1000000000 ^ (L - 1) * f:=Nat.mul_lt_mul_of_pos_right t1 (by omega)
  have a2:(t + 1) * 1000000000 ^ (L - 1) * f≤1000000000 ^ (L - 1) * 1000000000:=by
   have:(t + 1) * 1000000000 ^ (L - 1) * f=1000000000 ^ (L - 1) * (f * (t + 1)):=by grind
   rw [this]; exact Nat.mul_le_mul_left _ n2
  omega
 have hvge:500000000 * 1000000000 ^ (L - 1)≤b * f:=by
  have a1:t * 1000000000 ^ (L - 1) * f≤b * f:=Nat.mul_le_mul_right _ t0
  have a2:t * 1000000000 ^ (L - 1) * f=f * t * 1000000000 ^ (L - 1):=by grind
  have a3:500000000 * 1000000000 ^ (L - 1)≤f * t * 1000000000 ^ (L - 1):=Nat.mul_le_mul_right _ n1
  omega
 have hP0:0<1000000000 ^ (L - 1):=Nat.pow_pos (by omega)
 have hvl:(toL 1000000000 (b * f)).length=L:=by
  have a1:=(Uah hB2 (b * f) L).2 hvlt
  have a2:¬ (toL 1000000000 (b * f)).length≤L - 1:=fun h=>by
   have:=(Uah hB2 (b * f) (L - 1)).1 h
   omega
  omega
 obtain ⟨_,_,v2,_⟩:=Uil hB2 (x:=b * f) (by omega)
 rw [hvl] at v2
 have hvtop:500000000≤(toL 1000000000 (b * f)).getD (L - 1) 0:=by
  apply Nat.le_of_not_lt
  intro h
  have:((toL 1000000000 (b * f)).getD (L - 1) 0 + 1) * 1000000000 ^ (L - 1)≤500000000 * 1000000000 ^ (L - 1):=Nat.mul_le_mul_right _ h
  omega
 have hle:b * f≤a * f:=Nat.mul_le_mul_right _ (by omega)
 obtain ⟨A,hA⟩:∃ A,(toL 1000000000 (a * f)).length=A:=⟨_,rfl⟩
 have hA1:L≤A:=by
  rw [←hvl,←hA]
  exact (Uah hB2 (b * f) _).2 (Nat.lt_of_le_of_lt hle ((Uah hB2 (a * f) _).1 (Nat.le_refl _)))
 have hA2:A≤(toL 1000000000 a).length + 1:=by
  rw [←hA]
  apply (Uah hB2 (a * f) _).2
  rw [Nat.pow_succ]
  exact Nat.mul_lt_mul_of_lt_of_lt ((Uah hB2 a _).1 (Nat.le_refl _)) hfB
 obtain ⟨o,ho⟩:∃ o,o=toL 1000000000 (a * f)++[0]:=⟨_,rfl⟩
 have hol:o.length=A + 1:=by rw [ho,List.length_append,hA]; rfl
 have hod:∀ x∈o,x<1000000000:=by
  intro x hx
  rw [ho] at hx
  rcases List.mem_append.1 hx with h | h
  · exact UaK hB2 _ x h
  · simp at h; omega
 have hov:val 1000000000 o=a * f:=by rw [ho,Udf,Uan hB2]
 have hdrop:val 1000000000 (o.drop (A + 1 - L))<val 1000000000 (toL 1000000000 (b * f)):=by
  rw [Uan hB2]
  have a1:=Uao 1000000000 o (A + 1 - L) (by omega)
  have a2:a * f<1000000000 ^ A:=by rw [←hA]; exact (Uah hB2 _ _).1 (Nat.le_refl _)
  have a3:1000000000 ^ A=1000000000 ^ (A + 1 - L) * 1000000000 ^ (L - 1):=by rw [←Nat.pow_add]; congr 1; omega
  rw [hov] at a1
  have a4:1000000000 ^ (A + 1 - L) * val 1000000000 (o.drop (A + 1 - L))<1000000000 ^ (A + 1 - L) * 1000000000 ^ (L - 1):=by omega
  have a5:=Nat.lt_of_mul_lt_mul_left a4
  omega
 obtain ⟨o',lq',q1,q2,q3,q4,q5,q6,q7⟩:=Uli (R:=R) n (NN f) (toL 1000000000 (b * f)) (UaK hB2 _) (by omega) (by omega) (by rw [hvl]; exact hvtop) (a * f) (A + 1 - L) n o (List.replicate (A + 1 - L) 0) hod (Uf1 hB2 _) (by rw [List.length_replicate]; omega) (by rw [List.length_replicate]; omega) (by omega) (by omega) hdrop
  (by rw [List.drop_replicate,Nat.sub_self,hov]; simp [val])
 rw [Uan hB2] at q6 q7
 have hbf:0<b * f:=Nat.mul_pos hb (by omega)
 have hq:val 1000000000 lq'=a / b:=by
  have:a * f / (b * f)=val 1000000000 lq':=by rw [←q7,Nat.add_mul_div_left _ _ hbf,Nat.div_eq_of_lt q6,Nat.zero_add]
  rw [←this,Nat.mul_div_mul_right _ _ (by omega)]
 have hr:val 1000000000 o'=a % b * f:=by
  have:a * f % (b * f)=val 1000000000 o':=by rw [←q7,Nat.add_mul_mod_self_left,Nat.mod_eq_of_lt q6]
  rw [←this,Nat.mul_mod_mul_right]
 have m1:=fun k0=>Ubz (R:=R) n a f (by omega) (by omega) (by omega) k0
 have m2:=fun k0=>Ubz (R:=R) n b f (by omega) (by omega) (by omega) k0
 have m3:=fun k0=>UbS (R:=R) n o' q4 (by omega) (by omega) k0
 have m4:=fun k0=>UbS (R:=R) n lq' q5 (by rw [q3,List.length_replicate]; omega) (by rw [q3,List.length_replicate]; omega) k0
 have hrl:(toL 1000000000 (a % b * f)).length≤L:=by
  apply (Uah hB2 _ _).2
  rw [←hr]
  exact Nat.lt_trans q6 hvlt
 have m5:=fun k0=>UmP (R:=R) n (a % b * f) f (by omega) (by omega) (by omega) (by omega) k0
 rw [hr] at m3
 rw [hq] at m4
 rw [Nat.mul_div_cancel _ (by omega)] at m5
 have w1:((L:Int) == 1)=false:=by simp; omega
 have w2:(L:Int) - 1=((L - 1:Nat):Int):=by omega
 have w3:(t:Int) + 1=((t + 1:Nat):Int):=by omega
 have w4:Int.tdiv 1000000000 ((t + 1:Nat):Int)=(f:Int):=by rw [hf]; exact Jlj 1000000000 (t + 1)
 have w5:((0 + A + (0 + 1):Nat):Int) - (L:Int)=((A + 1 - L:Nat):Int):=by omega
 have w6:nl .u32 (toL 1000000000 (a * f))++([.v (.int .u32 0)]:List PV)=nl .u32 o:=by
  rw [ho,←Jjc]; rfl
 have hNa:NN (a * f)=nl .u32 (toL 1000000000 (a * f)):=rfl
 have hNb:NN (b * f)=nl .u32 (toL 1000000000 (b * f)):=rfl
 have w7:((A + 1:Nat):Int) - (L:Int)=((A + 1 - L:Nat):Int):=by omega
 rw [hvl] at q1
 have hg:∀ (K:Int→Option R),Jj .u32 ((NN f).getD (0:Int).toNat (PV.v (Value.bool false))) K=K (f:Int):=fun K=>by rw [←hNf]; rfl
 have hNl:(NN f).length=1:=by rw [←hNf]; rfl
 simp only [Uhf,UjO,UjP,UjQ,UjR,Uhd,Uhe,Umu]
 rw [hN]
 clear hdrop hvge hvlt n1 n2 hPL q6 q7 t0 t1 v2 hle hr hq hbf hP0 hov
 simp (disch:=(first | omega | (simp only [JlE]; omega))) only [↓JlH,JlF,JlG,w1,hL,htop,w2,w3,w4,hNf,m1]
 rw [←hN]
 simp (disch:=(first | omega | (simp only [JlE]; omega))) only [↓JlH,JlF,JlG,m2,hNa,hNb,hA,hvl,w5,List.nil_append,w6,hol,w7,q1,m3,hNl,hg,m5,m4]
theorem Umk (n:Nat) (k0:List PV→Option R):∀ (m a b:Nat),b<m→(toL 1000000000 a).length<2 ^ 19→(toL 1000000000 b).length<2 ^ 19→(toL 1000000000 a).length + (toL 1000000000 b).length + 10<n→(toL 1000000000 b).length + (toL 1000000000 b).length + 10<n →
 UcV n m (NN a) (NN b) k0=k0 (NN (Nat.gcd b a))
 | m + 1,a,b,hm,ha,hb,hn,hn2=>by
  simp only [UcV,Ug9]
  have hN:(NN b).length=(toL 1000000000 b).length:=by unfold NN; rw [Jjd]
  by_cases h0:b=0
  · subst h0
    rw [Uai] at hN
    have hN':(NN 0).length=0:=hN
    simp (disch:=(first | omega | (simp only [JlE]; omega))) only [↓JlH,JlF,JlG,hN',Nat.gcd_zero_left]
  · have hl:1≤(toL 1000000000 b).length:=(Uil hB2 h0).1
    have hd:=fun k0=>UoC (R:=R) n a b (by omega) (by omega) (by omega) (by omega) k0
    have hlt:a % b<b:=Nat.mod_lt _ (by omega)
    have hlr:(toL 1000000000 (a % b)).length≤(toL 1000000000 b).length:=(Uah hB2 _ _).2 (Nat.lt_trans hlt ((Uah hB2 _ _).1 (Nat.le_refl _)))
    have ih:=Umk n k0 m b (a % b) (by omega) hb (by omega) (by omega) (by omega)
    simp (disch:=(first | omega | (simp only [JlE]; omega))) only [↓JlH,JlF,JlG,hN,hd]
    rw [ih,←Nat.gcd_rec]
theorem Uvh (n a b:Nat) (hbn:b<n) (ha:(toL 1000000000 a).length<2 ^ 19) (hb:(toL 1000000000 b).length<2 ^ 19) (hn:(toL 1000000000 a).length + (toL 1000000000 b).length + 10<n) (hn2:(toL 1000000000 b).length + (toL 1000000000 b).length + 10<n) (k0:List PV→Option R) :
 UCF n (NN a) (NN b) k0=k0 (NN (Nat.gcd b a)):=by
 unfold UCF Urt
 exact Umk n _ n a b hbn ha hb hn hn2
theorem Ute (l k:Nat):JkU 0 ((l:Int) - (k:Int))=((l - k:Nat):Int):=by
 unfold JkU; split <;> omega
theorem UnE {s:List UInt8} (h:∀ c∈s,isD c=true) (h0:s≠[]) (hl:s.length≤18) (K:Int→Option R):Jib (bs s) K=K (ofD s:Int):=by
 unfold Jib
 rw [Jg7,UsI s h h0 hl,Jd4,decide_eq_true (by omega)]; rfl
theorem UfZ (n:Nat):∀ (m:Nat) (s:List UInt8) (o:List Nat),(∀ c∈s,isD c=true)→(∀ d∈o,d<1000000000)→s.length<m→s.length + o.length<2 ^ 30 →
 ∃ o':List Nat,(∀ k0:List PV→Option R,UdM n m (bs s) (nl .u32 o) k0=k0 (nl .u32 o'))∧(∀ d∈o',d<1000000000)∧o'.length≤o.length + s.length∧val 1000000000 o'=val 1000000000 o + 1000000000 ^ o.length * ofD s
 | m + 1,s,o,hs,ho,hm,hl=>by
  by_cases h0:s=[]
  · subst h0
    refine ⟨o,fun k0=>?_,ho,by omega,by rw [show ofD []=0 from rfl]; simp⟩
    simp only [UdM,UhN]
    simp (disch:=(first | omega | (simp only [JlE]; omega))) only [↓JlH,JlF,JlG]
  · have hpos:0<s.length:=List.length_pos_iff.2 h0
    obtain ⟨k,hk⟩:∃ k,k=s.length - 9:=⟨_,rfl⟩
    have h1:∀ c∈s.take k,isD c=true:=fun c h=>hs c (List.mem_of_mem_take h)
    have h2:∀ c∈s.drop k,isD c=true:=fun c h=>hs c (List.mem_of_mem_drop h)
    have h3:(s.drop k).length≤9:=by rw [List.length_drop]; omega
    have h4:s.drop k≠[]:=by intro e; have:=congrArg List.length e; rw [List.length_drop,List.length_nil] at this; omega
    have h5:ofD (s.drop k)<1000000000:=Nat.lt_of_lt_of_le (Urq h2) (Nat.pow_le_pow_right (n:=10) (by omega) h3)
    have h6:ofD s=ofD (s.take k) * 1000000000 + ofD (s.drop k):=by
     conv=>lhs; rw [←List.take_append_drop k s]
     rw [Un]
     by_cases hk0:k=0
     · subst hk0
       rw [List.take_zero,show ofD []=0 from rfl,Nat.zero_mul,Nat.zero_mul]
     · rw [List.length_drop,show s.length - k=9 from by omega]
    obtain ⟨o',q1,q2,q3,q4⟩:=UfZ n m (s.take k) (o++[ofD (s.drop k)]) h1 (by
     intro d hd
     rcases List.mem_append.1 hd with h | h
     · exact ho d h
     · rw [List.mem_singleton.1 h]; exact h5) (by rw [List.length_take]; omega) (by rw [List.length_take,List.length_append,List.length_singleton]; omega)
    refine ⟨o',fun k0=>?_,q2,by rw [List.length_append,List.length_singleton,List.length_take] at q3; omega,?_⟩
    · rw [←q1 k0]
      have w1:JkU 0 ((s.length:Int) - 9)=(k:Int):=by rw [hk]; exact Ute s.length 9
      have w2:List.drop k (List.take s.length s)=s.drop k:=by rw [List.take_length]
      have w3:=fun K=>UnE (R:=R) h2 h4 (by omega) K
      have w4:List.drop 0 (List.take k s)=s.take k:=rfl
      simp only [UdM,UhN]
      simp (disch:=(first | omega | (simp only [JlE]; omega))) only [↓JlH,JlF,JlG,w1,w2,w3,Jln]
    · rw [q4,Ua7,h6,List.length_append,List.length_singleton,Nat.pow_succ]
      grind
theorem UhR (n:Nat) (s:List UInt8) (hs:∀ c∈s,isD c=true) (hl:s.length<2 ^ 20) (hn:s.length<n) (k0:List PV→Option R):p98 n (bs s) k0=k0 (NN (ofD s)):=by
 obtain ⟨o',q1,q2,q3,q4⟩:=UfZ (R:=R) n n s [] hs (by intro d h; cases h) hn (by simp; omega)
 rw [List.length_nil] at q3
 have ht:=UbS (R:=R) n o' q2 (by omega) (by omega) k0
 rw [q4,show val 1000000000 []=0 from rfl,List.length_nil,Nat.pow_zero,Nat.one_mul,Nat.zero_add] at ht
 unfold p98 UvW
 rw [show ([]:List PV)=nl .u32 [] from rfl,q1,ht]
theorem Umo (d:Nat) (h:d<1000000000):JiB (d:Int)=bs (dec d):=by
 unfold JiB Lib.itoa
 rw [if_neg (by omega),Int.toNat_natCast]; rfl
theorem Uml (d:Nat) (h:d<1000000000):JkT (d:Int)=true:=by
 unfold JkT; simp; omega
theorem UtR (k:Nat):Lib.repeatL [48] k=List.replicate k 48:=by
 induction k with
 | zero=>rfl
 | succ k ih=>rw [Lib.repeatL,ih]; rfl
theorem UIH {d:Nat} (h:d<1000000000):(dec d).length≤9:=(Ubk d 9 (by omega)).2 h
theorem UiV (n:Nat) (l:List Nat) (hl:∀ d∈l,d<1000000000) (h30:l.length<2 ^ 30) (k0:ByteArray→Option R):∀ (i m:Nat),i<l.length→i<m→val 1000000000 (l.drop i)≠0→(dec (val 1000000000 (l.drop i))).length≤9 * (l.length - i) →
 UaW n m (nl .u32 l) (bs (dec (val 1000000000 (l.drop i)))) ((i:Int) - 1) k0=k0 (bs (dec (val 1000000000 l)))
 | 0,m + 1,hi,hm,h0,hb=>by
  rw [List.drop_zero] at *
  simp only [UaW,Ub2]
  simp (disch:=(first | omega | (simp only [JlE]; omega))) only [↓JlH,JlF,JlG]
 | i + 1,m + 1,hi,hm,h0,hb=>by
  have hd:=Uab hB2 hl i
  have hv:=Uae 1000000000 l i
  have hstep:=Ulc 9 (val 1000000000 (l.drop (i + 1))) (l.getD i 0) h0 hd
  have e:val 1000000000 (l.drop (i + 1)) * 10 ^ 9 + l.getD i 0=val 1000000000 (l.drop i):=by rw [hv]; omega
  rw [e] at hstep
  have h9:=UIH hd
  have hp:=UvX 8 (l.getD i 0) hd
  have hlp:(pad 9 (l.getD i 0)).length=9:=by rw [←hp,List.length_append,List.length_replicate]; omega
  have hlen:(dec (val 1000000000 (l.drop i))).length≤9 * (l.length - i):=by rw [hstep,List.length_append,hlp]; omega
  have ih:=UiV n l hl h30 k0 i m (by omega) (by omega) (by rw [hv]; omega) hlen
  rw [hstep,←hp] at ih
  have w1:((i + 1:Nat):Int) - 1=(i:Int):=by omega
  have w2:=Umo _ hd
  have w3:=Uml _ hd
  have w4:((9:Int) - ((dec (l.getD i 0)).length:Int))=((8 + 1 - (dec (l.getD i 0)).length:Nat):Int):=by omega
  have w5:Jld (bs [48]) ((8 + 1 - (dec (l.getD i 0)).length:Nat):Int)=bs (List.replicate (8 + 1 - (dec (l.getD i 0)).length) 48):=by
   rw [Jle,Int.toNat_natCast,UtR]
  have w6:(⟨#[48]⟩:ByteArray).size=1:=rfl
  simp only [UaW,Ub2,Ucu]
  simp (disch:=(first | omega | (simp only [JlE]; omega))) only [↓JlH,JlF,JlG,w1,w2,w3,w4,w5,w6,ih]
theorem Usw (n a:Nat) (hl:(toL 1000000000 a).length<2 ^ 30) (hn:(toL 1000000000 a).length<n) (k0:ByteArray→Option R):UCH n (NN a) k0=k0 (bs (dec a)):=by
 unfold UCH NN
 by_cases h0:a=0
 · subst h0
   rw [Uai,Ual]
   rfl
 obtain ⟨t1,t2,t3,t4⟩:=Uil hB2 h0
 have hlt:=UaK hB2 a
 have hval:=Uan hB2 a
 generalize toL 1000000000 a=l at *
 obtain ⟨m,rfl⟩:∃ m,n=m + 1:=⟨n - 1,by omega⟩
 have hd:=Uab hB2 hlt (l.length - 1)
 have hv:=Uae 1000000000 l (l.length - 1)
 rw [show l.length - 1 + 1=l.length from by omega,List.drop_length,show val 1000000000 []=0 from rfl,Nat.mul_zero,Nat.add_zero] at hv
 have h9:=UIH hd
 have ih:=UiV (m + 1) l hlt hl k0 (l.length - 1) m (by omega) (by omega) (by omega) (by rw [hv]; omega)
 rw [hv,hval] at ih
 have w0:((l.length:Int) == 0)=false:=by simp; intro e; rw [e] at t1; simp at t1
 have w1:((l.length:Int) - 1)=((l.length - 1:Nat):Int):=by omega
 have w2:=Umo _ hd
 have w3:=Uml _ hd
 simp only [UrD,UeG,Uhi,Ucu]
 simp (disch:=(first | omega | (simp only [JlE]; omega))) only [↓JlH,JlF,JlG,w0,w1,w2,w3,List.nil_append,ih]
def UKd (a b:Nat):Prop:=a≠0∧(10 ^ 400≤a / Nat.gcd a b∨10 ^ 400≤b / Nat.gcd a b)
instance (a b:Nat):Decidable (UKd a b):=by unfold UKd; infer_instance
def zs (neg:Bool) (a:Nat):Int:=if neg then -(a:Int) else a
theorem Uat (neg:Bool) (a:Nat):(zs neg a).natAbs=a:=by cases neg <;> simp [zs]
theorem Ueg (z:Int):zs (decide (z<0)) z.natAbs=z:=by
 unfold zs; split <;> rename_i h <;> simp at h <;> omega
theorem UzM (neg:Bool):zs neg 0=0:=by cases neg <;> rfl
theorem Ug7 (neg:Bool) {a:Nat} (h:a≠0):Lib.itoa (zs neg a)=(if neg then [45] else [])++dec a:=by
 unfold Lib.itoa
 cases neg
 · rw [if_neg (by simp [zs])]; simp [zs]
 · rw [if_pos (by simp [zs]; omega)]; simp [zs]
theorem UbV (a:Nat):Lib.itoa (a:Int)=dec a:=by unfold Lib.itoa; rw [if_neg (by omega),Int.toNat_natCast]
theorem Ums (neg:Bool) (a b:Nat) (hb:b≠0):(mkRat (zs neg a) b).num=zs neg (a / Nat.gcd b a):=by
 rw [Rat.num_mkRat,if_neg hb,Uat]
 cases neg
 · simp [zs]
 · simp only [zs,if_true]
   rw [Int.neg_ediv_of_dvd (Int.natCast_dvd_natCast.2 (Nat.gcd_dvd_right b a))]
   rfl
theorem Umr (neg:Bool) (a b:Nat) (hb:b≠0):(mkRat (zs neg a) b).den=b / Nat.gcd b a:=by
 rw [Rat.den_mkRat,if_neg hb,Uat]
def Uag (q:Rat):List UInt8:=Lib.itoa q.num++if q.den=1 then [] else 47::dec q.den
def fits (q:Rat):Prop:=q.num.natAbs<10 ^ 400∧q.den<10 ^ 400
instance (q:Rat):Decidable (fits q):=by unfold fits; infer_instance
theorem Use:Uag 0=[48]:=by
 unfold Uag
 rw [show (0:Rat).num=((0:Nat):Int) from rfl,UbV,Ual]; rfl
theorem Uv5:NN 0=[]:=by unfold NN; rw [Uai]; rfl
theorem Ut3 (a:Nat):(NN a).length=(toL 1000000000 a).length:=by unfold NN; rw [Jjd]
theorem UgB {a:Nat} (h0:a≠0) (h:a<1000000000):NN a=[PV.v (.int .u32 (a:Int))]:=by unfold NN; rw [Ued hB2 h0 h,Jln]
theorem UAb:NN 1=[PV.v (.int .u32 1)]:=UgB (by omega) (by omega)
theorem ULi {a k:Nat} (h:a<1000000000 ^ k):(toL 1000000000 a).length≤k:=(Uah hB2 a k).2 h
theorem UbI {a b k:Nat} (h:(toL 1000000000 b).length≤k) (hab:a≤b):(toL 1000000000 a).length≤k:=(Uah hB2 a k).2 (Nat.lt_of_le_of_lt hab ((Uah hB2 b k).1 h))
theorem Usc (n:Nat) (neg t:Bool) (a b g:Nat) (hg:g≠0) (ht:t=false→g=1) (ha:(toL 1000000000 a).length<2 ^ 18) (hb:(toL 1000000000 b).length<2 ^ 18) (hgl:(toL 1000000000 g).length<2 ^ 18) (hn:2 ^ 20<n) (k0:Bool→List PV→List PV→Option R) :
 UfX n neg (NN a) (NN b) (NN g) t k0=k0 neg (NN (a / g)) (NN (b / g)):=by
 unfold UfX
 cases t
 · rw [ht rfl,Nat.div_one,Nat.div_one]; rfl
 · have d1:=fun k0=>UoC (R:=R) n a g (by omega) (by omega) (by omega) (by omega) k0
   have d2:=fun k0=>UoC (R:=R) n b g (by omega) (by omega) (by omega) (by omega) k0
   simp only [cond_true,d1,d2]
theorem Unc (n:Nat) (neg:Bool) (a b:Nat) (hb0:b≠0) (ha:(toL 1000000000 a).length<2 ^ 18) (hb:(toL 1000000000 b).length<2 ^ 18) (hn:2 ^ 20<n) (hbn:b<n) (k0:ByteArray→Int→Option R) :
 p79 n neg (NN a) (NN b) k0=if fits (mkRat (zs neg a) b) then k0 (bs (Uag (mkRat (zs neg a) b))) 0 else k0 (bs []) 5:=by
 unfold p79
 by_cases h0:a=0
 · subst h0
   rw [UzM,Rat.zero_mkRat]
   rw [if_pos (by decide +kernel),Uv5,Use]
   rfl
 have hg:=fun k0=>Uvh (R:=R) n a b hbn (by omega) (by omega) (by omega) (by omega) k0
 have hg0:Nat.gcd b a≠0:=fun e=>h0 (Nat.gcd_eq_zero_iff.1 e).2
 have hgl:(toL 1000000000 (Nat.gcd b a)).length≤(toL 1000000000 a).length:=UbI (Nat.le_refl _) (Nat.le_of_dvd (by omega) (Nat.gcd_dvd_right b a))
 obtain ⟨g,hge⟩:∃ g,Nat.gcd b a=g:=⟨_,rfl⟩
 have hal:¬ (toL 1000000000 a).length=0:=fun e=>h0 ((Ubg hB2).1 (List.eq_nil_of_length_eq_zero e))
 have hda:g ∣ a:=by rw [←hge]; exact Nat.gcd_dvd_right b a
 have hdb:g ∣ b:=by rw [←hge]; exact Nat.gcd_dvd_left b a
 have hag:a / g≠0:=by
  have:=Nat.div_mul_cancel hda
  intro e; rw [e] at this; omega
 have hbg:b / g≠0:=by
  have:=Nat.div_mul_cancel hdb
  intro e; rw [e] at this; omega
 have hla:(toL 1000000000 (a / g)).length<2 ^ 18:=Nat.lt_of_le_of_lt (UbI (Nat.le_refl _) (Nat.div_le_self a g)) ha
 have hlb:(toL 1000000000 (b / g)).length<2 ^ 18:=Nat.lt_of_le_of_lt (UbI (Nat.le_refl _) (Nat.div_le_self b g)) hb
 have e0:(((toL 1000000000 a).length:Int) == 0)=false:=by rw [Jk0]; simpa using hal
 have key:∀ t:Bool,(t=false→g=1)→UfX n neg (NN a) (NN b) (NN g) t (fun (y5:Bool) (y6:List PV) (y7:List PV)=>UiI n y5 y6 y7 (fun (y8:ByteArray) (y9:Int)=>k0 y8 y9))=if fits (mkRat (zs neg a) b) then k0 (bs (Uag (mkRat (zs neg a) b))) 0 else k0 (bs []) 5:=by
  intro t ht
  rw [Usc n neg t a b g (by omega) ht ha hb (by rw [←hge]; omega) hn]
  unfold UiI
  have t1:=fun k0=>Usw (R:=R) n (a / g) (by omega) (by omega) k0
  have t2:=fun k0=>Usw (R:=R) n (b / g) (by omega) (by omega) k0
  simp only [t1,t2]
  have hf:fits (mkRat (zs neg a) b)↔((dec (a / g)).length≤400∧(dec (b / g)).length≤400):=by
   unfold fits
   rw [Ums neg a b hb0,Umr neg a b hb0,Uat,hge,Ubk _ _ (by omega),Ubk _ _ (by omega)]
  have hr:Uag (mkRat (zs neg a) b)=(if neg then [45] else [])++dec (a / g)++if b / g=1 then [] else 47::dec (b / g):=by
   unfold Uag
   rw [Ums neg a b hb0,Umr neg a b hb0,hge,Ug7 neg hag]
  by_cases c1:400<(dec (a / g)).length
  · rw [if_neg (by rw [hf]; omega)]
    simp (disch:=(first | omega | (simp only [JlE]; omega))) only [↓JlH,JlF,JlG]
  by_cases c2:400<(dec (b / g)).length
  · rw [if_neg (by rw [hf]; omega)]
    simp (disch:=(first | omega | (simp only [JlE]; omega))) only [↓JlH,JlF,JlG]
  rw [if_pos (by rw [hf]; omega),hr]
  have e1:(dec (b / g) == [49])=decide (b / g=1):=by
   rw [Bool.eq_iff_iff,beq_iff_eq,decide_eq_true_iff]
   constructor
   · intro e; exact Ucp (e.trans (UaZ (by omega:1<10)).symm)
   · intro e; rw [e,UaZ (by omega)]; rfl
  simp only [Uj7,UhI,UhJ]
  cases neg
  · by_cases c3:b / g=1
    · have e2:(dec (b / g) == [49])=true:=by rw [e1]; simpa using c3
      rw [if_pos c3]
      simp (disch:=(first | omega | (simp only [JlE]; omega))) only [↓JlH,JlF,JlG,e2]
      simp
    · have e2:(dec (b / g) == [49])=false:=by rw [e1]; simpa using c3
      rw [if_neg c3]
      simp (disch:=(first | omega | (simp only [JlE]; omega))) only [↓JlH,JlF,JlG,e2]
      simp
  · by_cases c3:b / g=1
    · have e2:(dec (b / g) == [49])=true:=by rw [e1]; simpa using c3
      rw [if_pos c3]
      simp (disch:=(first | omega | (simp only [JlE]; omega))) only [↓JlH,JlF,JlG,e2]
      simp
    · have e2:(dec (b / g) == [49])=false:=by rw [e1]; simpa using c3
      rw [if_neg c3]
      simp (disch:=(first | omega | (simp only [JlE]; omega))) only [↓JlH,JlF,JlG,e2]
      simp
 simp only [hg,hge,Ut3]
 by_cases c:1<(toL 1000000000 g).length
 · have:1000000000 ^ 1≤g:=Unh hB2 c
   simp (disch:=(first | omega | (simp only [JlE]; omega))) only [↓JlH,JlF,JlG,e0,key true (fun h=>by cases h)]
 · have hg1:g<1000000000:=by
    have:=(Uah hB2 g 1).1 (by omega)
    rwa [Nat.pow_one] at this
   have hgl1:(toL 1000000000 g).length=1:=by rw [Ued hB2 (by omega) hg1]; rfl
   have hgi:∀ (K:Int→Option R),Jj .u32 ((NN g).getD (0:Int).toNat (PV.v (Value.bool false))) K=K (g:Int):=fun K=>by rw [UgB (by omega) hg1]; rfl
   have e3:decide ((g:Int)>1)=false→g=1:=by intro h; simp at h; omega
   simp (disch:=(first | omega | (simp only [JlE]; omega))) only [↓JlH,JlF,JlG,e0,hgi,hgl1]
   exact key _ e3
def Uio (s:List UInt8):Bool:=!s.isEmpty&&decide (s.length≤400)&&!(s.head? == some 48&&decide (1<s.length))&&s.all isD
theorem Uix (c:UInt8):([48,49,50,51,52,53,54,55,56,57]:List UInt8).contains c=isD c:=by
 rw [Bool.eq_iff_iff,Uax]
 simp only [List.contains_eq_mem,List.mem_cons,List.not_mem_nil,or_false,decide_eq_true_eq,←UInt8.toNat_inj]
 have e:∀ k:Nat,k<256→(UInt8.ofNat k).toNat=k:=fun k h=>by rw [UInt8.toNat_ofNat']; omega
 show (c.toNat=48∨c.toNat=49∨c.toNat=50∨c.toNat=51∨c.toNat=52∨c.toNat=53∨c.toNat=54∨c.toNat=55∨c.toNat=56∨c.toNat=57)↔_
 omega
theorem UcU {α:Type} (p:α→Bool) (l:List α) {x:α} (h:x∈l):p x=true∨x∈l.dropWhile p:=by
 induction l with
 | nil=>cases h
 | cons a r ih =>
  rw [List.dropWhile_cons]
  by_cases ha:p a=true
  · rw [if_pos ha]
    rcases List.mem_cons.1 h with rfl | h
    · exact Or.inl ha
    · exact ih h
  · rw [if_neg ha]; exact Or.inr h
theorem UgQ {α:Type} (p:α→Bool) (l:List α):l.dropWhile p=[]↔∀ x∈l,p x=true:=by
 constructor
 · intro h x hx
   rcases UcU p l hx with h1 | h1
   · exact h1
   · rw [h] at h1; cases h1
 · intro h
   induction l with
   | nil=>rfl
   | cons a r ih=>rw [List.dropWhile_cons,if_pos (h a (List.mem_cons_self ..)),ih fun x hx=>h x (List.mem_cons_of_mem _ hx)]
theorem Ut1 (s:List UInt8):((Lib.trimS s [48,49,50,51,52,53,54,55,56,57]) == [])=s.all isD:=by
 have hp:(([48,49,50,51,52,53,54,55,56,57]:List UInt8).contains ·)=isD:=funext Uix
 unfold Lib.trimS Lib.trimLeftS Lib.trimRightS
 rw [hp,Bool.eq_iff_iff,beq_iff_eq,UgQ,List.all_eq_true]
 constructor
 · intro h c hc
   rcases UcU isD s.reverse (List.mem_reverse.2 hc) with h1 | h1
   · exact h1
   · exact h c (List.mem_reverse.2 h1)
 · intro h c hc
   have:c∈s.reverse:=(List.dropWhile_sublist _).subset (List.mem_reverse.1 hc)
   exact h c (List.mem_reverse.1 this)
theorem Ut0 (s:List UInt8):eqS (JkL (bs s) (bs [48,49,50,51,52,53,54,55,56,57])) (bs [])=s.all isD:=by
 rw [←Ut1]; rfl
theorem Usz (s:List UInt8) (h:s.length≤400):Jjj (bs s) (bs [48,49,50,51,52,53,54,55,56,57])=true:=by
 unfold Jjj
 rw [Jd4,decide_eq_true (by omega)]; rfl
theorem Uxi (c:UInt8) (r:List UInt8):Jc6 (bs (c::r)) 0=(c.toNat:Int):=rfl
theorem Uxh (c d:UInt8):(((c.toNat:Nat):Int) == ((d.toNat:Nat):Int))=(c == d):=JlD
theorem Ue9 (n:Nat) (s:List UInt8) (hs:s.length<2 ^ 40) (k0:Bool→Option R):p99 n (bs s) k0=k0 (Uio s):=by
 unfold p99
 cases s with
 | nil=>rfl
 | cons c r =>
  have e0:eqS (bs (c::r)) (⟨#[]⟩:ByteArray)=false:=rfl
  rw [List.length_cons] at hs
  by_cases h4:400<r.length + 1
  · have e1:Uio (c::r)=false:=by
     unfold Uio
     rw [List.length_cons,decide_eq_false (by omega)]; simp
    have e0':((c::r) == ([]:List UInt8))=false:=rfl
    simp (disch:=(first | omega | (simp only [JlE]; omega))) only [↓JlH,JlF,JlG,e0,e1,List.length_cons,e0']
  have e0':((c::r) == ([]:List UInt8))=false:=rfl
  have t1:=Usz (c::r) (by rw [List.length_cons]; omega)
  have t2:=Ut0 (c::r)
  by_cases hc:c=48
  · subst hc
    have e2:(Jc6 (bs (48::r)) 0 == 48)=true:=rfl
    by_cases h5:1<r.length + 1
    · have e1:Uio (48::r)=false:=by
       unfold Uio
       rw [List.length_cons,decide_eq_true h5]; simp
      simp (disch:=(first | omega | (simp only [JlE]; omega))) only [↓JlH,JlF,JlG,e0,e1,e2,List.length_cons,e0']
    · have e1:Uio (48::r)=(48::r).all isD:=by
       unfold Uio
       rw [List.length_cons,decide_eq_false h5,decide_eq_true (by omega)]; simp
      simp (disch:=(first | omega | (simp only [JlE]; omega))) only [↓JlH,JlF,JlG,e0,e1,e2,List.length_cons,e0',t1,t2]
  · have e2:(Jc6 (bs (c::r)) 0 == 48)=false:=by
     rw [Uxi]
     have:=Uxh c 48
     rw [show ((48:UInt8).toNat:Int)=48 from rfl] at this
     rw [this]; simpa using hc
    have e1:Uio (c::r)=(c::r).all isD:=by
     unfold Uio
     rw [List.length_cons,decide_eq_true (by omega:r.length + 1≤400)]
     simp [hc]
    simp (disch:=(first | omega | (simp only [JlE]; omega))) only [↓JlH,JlF,JlG,e0,e1,e2,List.length_cons,e0',t1,t2]
def UbU (s:List UInt8):Bool × List UInt8:=match s with
 | 45::r=>(true,r)
 | s=>(false,s)
theorem Ula (s:List UInt8):(UbU s).2.length≤s.length:=by
 unfold UbU; split <;> simp
theorem Ube (c:UInt8) (r:List UInt8):UbU (c::r)=if c=45 then (true,r) else (false,c::r):=by
 unfold UbU
 by_cases h:c=45
 · subst h; rfl
 · rw [if_neg h]
   split
   · rename_i e; injection e with e1 _; exact absurd e1 h
   · rfl
theorem Uiy (n:Nat) (s:List UInt8) (hs:s.length<2 ^ 40) (k0:ByteArray→Bool→Option R):UEK n (bs s) ⟨#[45]⟩ k0=k0 (bs (UbU s).2) (UbU s).1:=by
 unfold UEK UGP UGR
 cases s with
 | nil=>rfl
 | cons c r =>
  rw [List.length_cons] at hs
  have hz:((⟨#[45]⟩:ByteArray)).size=1:=rfl
  have e1:List.take (0 + 1) (c::r)=[c]:=rfl
  have e3:List.drop (0 + 1) (c::List.take r.length r)=r:=by rw [List.take_length]; rfl
  have e2:([c] == [45])=decide (c=45):=by
   rw [Bool.eq_iff_iff]; simp
  rw [Ube]
  by_cases hc:c=45
  · rw [if_pos hc]
    simp (disch:=(first | omega | (simp only [JlE]; omega))) only [↓JlH,JlF,JlG,hz,List.length_cons,e1,e2,List.length_nil,List.take_succ_cons,e3]
  · rw [if_neg hc]
    simp (disch:=(first | omega | (simp only [JlE]; omega))) only [↓JlH,JlF,JlG,hz,List.length_cons,e1,e2,List.length_nil,List.take_succ_cons,e3]
def Ui3 (s:List UInt8):Bool:=Uio (UbU s).2&&!((UbU s).1&&(UbU s).2 == [48])
theorem Udm (n:Nat) (s:List UInt8) (hs:s.length<2 ^ 40) (k0:Bool→ByteArray→Bool→Option R):p97 n (bs s) k0=k0 (UbU s).1 (bs (UbU s).2) (Ui3 s):=by
 have hl:=Ula s
 have h1:=fun k0=>Uiy (R:=R) n s hs k0
 have h2:=fun k0=>Ue9 (R:=R) n (UbU s).2 (by omega) k0
 unfold p97
 simp only [h1,h2,Ui3]
 generalize (UbU s).1=neg
 generalize (UbU s).2=r
 cases Uio r
 · rfl
 · cases neg
   · rfl
   · rfl
theorem Ulf {a:Nat} (h:a<10 ^ 400):Uio (dec a)=true:=by
 have h1:=(Ubk a 400 (by omega)).2 h
 have h2:=UoA a
 have h3:=Ulb a
 unfold Uio
 rw [decide_eq_true h1]
 have e1:(dec a).isEmpty=false:=by simpa using h2
 have e2:(dec a).all isD=true:=List.all_eq_true.2 (UaY a)
 have e3:((dec a).head? == some 48&&decide (1<(dec a).length))=false:=by
  rcases h3 with h3 | h3
  · have:((dec a).head? == some 48)=false:=by simpa using h3
    rw [this]; rfl
  · rw [h3]; simp
 rw [e1,e2,e3]; rfl
theorem Ulg {s:List UInt8} (h:Uio s=true):ofD s<10 ^ 400∧s=dec (ofD s):=by
 unfold Uio at h
 simp only [Bool.and_eq_true,Bool.not_eq_true',List.isEmpty_eq_false_iff,decide_eq_true_eq] at h
 obtain ⟨⟨⟨h1,h2⟩,h3⟩,h4⟩:=h
 have h4':∀ c∈s,isD c=true:=List.all_eq_true.1 h4
 have e:dec (ofD s)=s:=UoB h4' h1 (by
  by_cases h5:s.head? = some 48
  · right
    rw [h5] at h3
    simp at h3
    have:=List.length_pos_iff.2 h1
    omega
  · exact Or.inl h5)
 refine ⟨(Ubk (ofD s) 400 (by omega)).1 ?_,e.symm⟩
 rw [e]; exact h2
theorem UsY (a:Nat):UbU (dec a)=(false,dec a):=by
 have h:=UaY a
 cases hd:dec a with
 | nil=>rfl
 | cons c r =>
  rw [Ube,if_neg]
  intro e
  rw [hd] at h
  have:=h c (List.mem_cons_self ..)
  rw [e] at this
  exact absurd this (by decide)
theorem Uaq (z:Int):UbU (Lib.itoa z)=(decide (z<0),dec z.natAbs):=by
 unfold Lib.itoa
 by_cases h:z<0
 · rw [if_pos h,decide_eq_true h]; rfl
 · rw [if_neg h,decide_eq_false h]
   have:z.toNat=z.natAbs:=by omega
   rw [this]; exact UsY _
theorem Ufe {z:Int} (h:z.natAbs<10 ^ 400):Ui3 (Lib.itoa z)=true:=by
 unfold Ui3
 rw [Uaq]
 simp only [Ulf h,Bool.true_and]
 by_cases hz:z<0
 · have:(dec z.natAbs == [48])=false:=by
    simp only [beq_eq_false_iff_ne,ne_eq]
    intro e
    have:=Ucp (e.trans Ual.symm)
    omega
   rw [this]; simp
 · simp [hz]
theorem Udk (s:List UInt8):s=(if (UbU s).1 then [45] else [])++(UbU s).2:=by
 cases s with
 | nil=>rfl
 | cons c r =>
  rw [Ube]
  by_cases h:c=45
  · rw [if_pos h,h]; rfl
  · rw [if_neg h]; rfl
theorem Uet {s:List UInt8} (h:Ui3 s=true):∃ z:Int,z.natAbs<10 ^ 400∧s=Lib.itoa z:=by
 unfold Ui3 at h
 simp only [Bool.and_eq_true,Bool.not_eq_true'] at h
 obtain ⟨h1,h2⟩:=h
 obtain ⟨h3,h4⟩:=Ulg h1
 have h5:=Udk s
 refine ⟨zs (UbU s).1 (ofD (UbU s).2),by rw [Uat]; exact h3,?_⟩
 by_cases h0:ofD (UbU s).2=0
 · rw [h0] at h4
   have e:(UbU s).1=false:=by
    rw [h4,Ual] at h2
    simpa using h2
   rw [h0,e]
   rw [e,h4] at h5
   rw [h5]
   exact (UbV 0).symm
 · rw [Ug7 _ h0,←h4]; exact h5
theorem UcO (z w:Int):Rat.divInt z w=mkRat (zs (!(decide (z<0) == decide (w<0))) z.natAbs) w.natAbs:=by
 by_cases hw:w<0
 · obtain ⟨b,rfl⟩:∃ b:Nat,w=-(b:Int):=⟨w.natAbs,by omega⟩
   rw [Rat.divInt_neg',Rat.divInt_ofNat,Int.natAbs_neg,Int.natAbs_natCast]
   congr 1
   rw [decide_eq_true hw]
   by_cases hz:z<0
   · simp [hz,zs]; omega
   · simp [hz,zs]; omega
 · obtain ⟨b,rfl⟩:∃ b:Nat,w=(b:Int):=⟨w.natAbs,by omega⟩
   rw [Rat.divInt_ofNat,Int.natAbs_natCast]
   congr 1
   rw [decide_eq_false hw]
   by_cases hz:z<0
   · simp [hz,zs]; omega
   · simp [hz,zs]; omega
theorem Ua9 {a:Nat} (h:a<10 ^ 400):(toL 1000000000 a).length≤45 :=
 ULi (Nat.lt_of_lt_of_le h (by decide +kernel))
theorem Udl {a:Nat} (h:a<10 ^ 400):(dec a).length≤400:=(Ubk a 400 (by omega)).2 h
theorem Uyk {r d k:Nat} (h:ll r≤k) (hd:d<10):ll (10 * r + d)≤k + 1:=by
 rw [Udn] at *
 rw [Nat.pow_succ]; omega
theorem Uoz {a k:Nat} (h:ll a≤k):(dec a).length≤k + 1:=by
 rw [Ubk _ _ (by omega),Nat.pow_succ]
 have:=Udn.1 h
 omega
theorem UAK {a b:Nat} (h:b≤a):0≤UfF a b:=by unfold UfF; rw [if_neg (by omega)]; split <;> omega
theorem UAL {a b:Nat} (h:a<b):UfF a b=-1:=by unfold UfF; rw [if_pos h]
theorem Usb (n b:Nat) (hb:0<b) (hbl:ll b≤50000) (hn:200000≤n) (x1:Bool) (x2:List PV) (x3 x5 x6:Bool) (x9:List PV) (x10:Int) (k0:Bool→List PV→Bool→List PV→Bool→Bool→Bool→List PV→List PV→Int→Int→Option R) :
 ∀ (m r c:Nat),r / b<m→ll r≤50002→c + r / b<2 ^ 40→UbN n m x1 x2 x3 (II b) x5 x6 false (II r) x9 x10 c k0=k0 x1 x2 x3 (II b) x5 x6 false (II (r % b)) x9 x10 ((c + r / b:Nat):Int)
 | m + 1,r,c,hm,hr,hc=>by
  have h1:=fun k0=>Usa (R:=R) n r b (by omega) (by omega) (by omega) k0
  simp only [UbN,Ufl,h1]
  by_cases h:b≤r
  · have hge:=UAK h
    obtain ⟨l,q1,q2,q3,q4⟩:=UeV (R:=R) n r b (-1) (Or.inr rfl) (by omega) (by omega) (by omega) (by omega)
    have e2:vb l=r - b:=by omega
    have hm0:=fun k0=>Uay (R:=R) n false l q2 (by omega) (by omega) k0
    rw [e2] at hm0
    have d1:=Nat.div_eq_sub_div hb h
    have d2:=Nat.mod_eq_sub_mod h
    have ih:=Usb n b hb hbl hn x1 x2 x3 x5 x6 x9 x10 k0 m (r - b) (c + 1) (by omega) (Nat.le_trans (Ua1 (Nat.sub_le _ _)) hr) (by omega)
    have e3:(c:Int) + 1=((c + 1:Nat):Int):=by omega
    have e4:c + 1 + (r - b) / b=c + r / b:=by omega
    rw [e4,←d2] at ih
    have hc1:c + 1<2 ^ 40:=by
     rw [d1] at hc
     clear d1 d2 e4 ih hm
     generalize (r - b) / b=p at *
     omega
    clear d1 d2 e4 hc hm q3
    simp (disch:=(first | omega | (simp only [JlE]; omega))) only [↓JlH,JlF,JlG,q1,hm0,e3,ih]
  · rw [Nat.div_eq_of_lt (by omega),Nat.mod_eq_of_lt (by omega),UAL (by omega)]
    rfl
theorem UiQ (n b:Nat) (hb:0<b) (hbl:ll b≤50000) (hn:200000≤n) (x1 x3 x5 x6:Bool) (la:List Nat) (hla:∀ d∈la,d<10) (hl:la.length≤50000) :
 ∀ (d m i r:Nat) (lq:List Nat),d + i=la.length→d<m→r<b→lq.length=i→(∀ x∈lq,x<10)→vb (la.take i)=vb lq * b + r →
  ∃ lq':List Nat,(∀ k0:Bool→List PV→Bool→List PV→Bool→Bool→Bool→List PV→List PV→Option R,Ubq n m x1 (nl .i64 la) x3 (II b) x5 x6 false (II r) (nl .i64 lq) i k0=k0 x1 (nl .i64 la) x3 (II b) x5 x6 false (II (vb la % b)) (nl .i64 lq'))∧(∀ x∈lq',x<10)∧lq'.length=la.length∧vb lq'=vb la / b
 | 0,m + 1,i,r,lq,hd,hm,hr,hq,hqd,hv=>by
  rw [List.take_of_length_le (by omega)] at hv
  have e1:vb la % b=r:=by rw [hv,Nat.mul_comm,Nat.mul_add_mod,Nat.mod_eq_of_lt hr]
  have e2:vb la / b=vb lq:=by rw [hv,Nat.mul_comm,Nat.mul_add_div hb,Nat.div_eq_of_lt hr,Nat.add_zero]
  refine ⟨lq,fun k0=>?_,hqd,by omega,e2.symm⟩
  rw [e1]
  simp only [Ubq,UeM]
  simp (disch:=(first | omega | (simp only [JlE]; omega))) only [↓JlH,JlF,JlG]
 | d + 1,m + 1,i,r,lq,hd,hm,hr,hq,hqd,hv=>by
  have hai:=Uab hT2 hla i
  have hrl:ll r≤50000:=Nat.le_trans (Ua1 (Nat.le_of_lt hr)) hbl
  obtain ⟨s,hs⟩:∃ s,s=10 * r + la.getD i 0:=⟨_,rfl⟩
  have hsq:s / b<10:=Nat.div_lt_of_lt_mul (by rw [Nat.mul_comm]; omega)
  have hsm:s % b<b:=Nat.mod_lt _ hb
  have hsl:ll s≤50002:=by
   rw [hs]; exact Nat.le_trans (Uyk hrl hai) (by omega)
  have hdm:=Nat.div_add_mod s b
  have hmk:=fun k0=>Uay (R:=R) n false (DL r++[la.getD i 0]) (by
   intro x hx
   rcases List.mem_append.1 hx with h | h
   · exact Uek r x h
   · rw [List.mem_singleton.1 h]; exact hai) (by rw [List.length_append,Uaa,List.length_singleton]; omega) (by rw [List.length_append,Uaa,List.length_singleton]; omega) k0
  rw [UkK,UfE,←hs] at hmk
  obtain ⟨lq',q1,q2⟩:=UiQ n b hb hbl hn x1 x3 x5 x6 la hla hl d m (i + 1) (s % b) (lq++[s / b]) (by omega) (by omega) hsm (by rw [List.length_append,hq]; rfl) (by
   intro x hx
   rcases List.mem_append.1 hx with h | h
   · exact hqd x h
   · rw [List.mem_singleton.1 h]; exact hsq) (by
   rw [UbT (by omega:i<la.length),UkK,hv]
   generalize s / b=q at *
   generalize s % b=t at *
   generalize la.getD i 0=x at *
   clear hmk
   grind)
  have h2:=fun k0=>Usb (R:=R) n b hb hbl hn x1 (nl .i64 la) x3 x5 x6 (nl .i64 lq) i k0 n s 0 (by omega) hsl (by omega)
  rw [Nat.zero_add,show ((0:Nat):Int)=0 from rfl] at h2
  refine ⟨lq',fun k0=>?_,q2⟩
  rw [←q1 k0]
  have w1:(i:Int) + 1=((i + 1:Nat):Int):=by omega
  have w2:II r++nl .i64 [la.getD i 0]=nl .i64 (DL r++[la.getD i 0]):=by unfold II; rw [Jjc]
  have w3:Jgx 1 (II r)=true:=Jhm _ _
  simp only [Ubq,UeM,Umy]
  simp (disch:=(first | omega | (simp only [JlE]; omega))) only [↓JlH,JlF,JlG,w1,w3,Uap,Jln,w2,hmk,h2]
theorem Us8 (n:Nat) (hn:200000≤n) (k0:Bool→List PV→Option R):UGQ n 1 k0=k0 false (II 1):=by
 obtain ⟨m,rfl⟩:∃ m,n=m + 2:=⟨n - 2,by omega⟩
 have h:=fun k0=>Uay (R:=R) (m + 2) false [1] (by simp) (by simp) (by simp) k0
 have e:vb [1]=1:=rfl
 rw [e] at h
 exact h k0
theorem UbQ (a:Nat):sg (a:Int)=false:=by simp [sg]
theorem UEb (neg:Bool) (a:Nat):sg (zs neg a)=(neg&&!(a == 0)):=by
 cases neg
 · simp [zs,sg]
 · rw [Bool.eq_iff_iff]; simp [zs,sg]; omega
theorem Uzx (n:Nat) (x:Int) (b:Nat) (hb:0<b) (hx:ll x.natAbs≤20000) (hbl:ll b≤20000) (hn:200000≤n) (k0:Bool→List PV→Bool→List PV→Option R) :
 Uyv n (sg x) (II x.natAbs) false (II b) k0=k0 (sg (x / b)) (II (x / b).natAbs) (sg (x % b)) (II (x % b).natAbs):=by
 have hmod:x.natAbs % b<b:=Nat.mod_lt _ hb
 have hdm:=Nat.div_add_mod x.natAbs b
 obtain ⟨q,hq⟩:∃ q,q=x.natAbs / b:=⟨_,rfl⟩
 have hql:ll q≤20000:=Nat.le_trans (Ua1 (by rw [hq]; exact Nat.div_le_self _ _)) hx
 have fin:∀ z:Int,ll z.natAbs≤20001→z=x / b→Ub6 n (sg x) (II x.natAbs) false (II b) false false (sg z) (II z.natAbs) k0=k0 (sg (x / b)) (II (x / b).natAbs) (sg (x % b)) (II (x % b).natAbs):=by
  intro z hz hzx
  have m1:=fun k0=>UdN (R:=R) n z (b:Int) (by omega) (by rw [Int.natAbs_natCast]; omega) hn k0
  rw [UbQ,Int.natAbs_natCast] at m1
  have hzb:ll (z * (b:Int)).natAbs≤50000:=by
   rw [Int.natAbs_mul,Int.natAbs_natCast]
   exact Nat.le_trans (Ump _ _) (by omega)
  have m2:=fun k0=>Ukd (R:=R) n x (z * (b:Int)) (by omega) hzb hn k0
  unfold Ub6
  simp only [m1,m2]
  rw [Int.emod_def,←hzx,Int.mul_comm]
 obtain ⟨lq,l1,l2,l3,l4⟩:=UiQ (R:=R) n b hb (by omega) hn (sg x) false false false (DL x.natAbs) (Uek _) (by rw [Uaa]; omega) (ll x.natAbs) n 0 0 [] (by rw [Uaa]; omega) (by omega) hb rfl (by intro d h; cases h) (by simp [UmS])
 rw [UfE] at l1 l4
 rw [Uaa] at l3
 rw [←hq] at l4 hdm
 have hmk:=fun k0=>Uay (R:=R) n (!(sg x == false)) lq l2 (by omega) (by omega) k0
 have e1:(!(sg x == false))=sg x:=by cases sg x <;> rfl
 rw [e1,l4,←UEb,←Uat (sg x) q] at hmk
 rw [Uat] at hmk
 unfold Uyv UrK
 have l1':∀ k0:Bool→List PV→Bool→List PV→Bool→Bool→Bool→List PV→List PV→Option R,Ubq n n (sg x) (II x.natAbs) false (II b) false false false [] [] 0 k0=k0 (sg x) (II x.natAbs) false (II b) false false false (II (x.natAbs % b)) (nl .i64 lq):=by
  intro k0
  have h:=l1 k0
  rw [show ((0:Nat):Int)=0 from rfl,Jlm,Unk] at h
  exact h
 rw [l1']
 rw [e1,hmk,Uap]
 obtain ⟨z0,hz0⟩:∃ z0,z0=zs (sg x) q:=⟨_,rfl⟩
 have hz0n:z0.natAbs=q:=by rw [hz0,Uat]
 rw [←hz0]
 by_cases hr:x.natAbs % b=0
 · have e2:ll (x.natAbs % b)=0:=by rw [hr,UbJ]
   have hz:z0=x / b:=by
    symm
    have:=(Int.ediv_emod_unique (a:=x) (b:=(b:Int)) (r:=0) (q:=z0) (by omega)).2 ⟨by
     rw [hr,Nat.add_zero] at hdm
     have hc:(b:Int) * (q:Int)=(x.natAbs:Int):=by rw [←hdm]; push_cast; rfl
     rw [hz0]; unfold zs sg
     by_cases hx0:x<0
     · rw [if_pos (by simpa using hx0),Int.mul_neg,hc]; omega
     · rw [if_neg (by simpa using hx0),hc]; omega,by omega,by omega⟩
    exact this.1
   have f:=fin z0 (by rw [hz0n]; omega) hz
   rw [hz0n] at f
   simp (disch:=(first | omega | (simp only [JlE]; omega))) only [↓JlH,JlF,JlG,e2,f]
 · have e2:0<ll (x.natAbs % b):=by
    have:ll (x.natAbs % b)≠0:=fun h=>hr (UcT.1 h)
    omega
   by_cases hx0:x<0
   · have e3:sg x=true:=by simpa [sg] using hx0
     have hz:z0 - 1=x / b:=by
      symm
      have:=(Int.ediv_emod_unique (a:=x) (b:=(b:Int)) (r:=(b:Int) - (x.natAbs % b:Nat)) (q:=z0 - 1) (by omega)).2 ⟨by
       have hc:(b:Int) * (q:Int) + ((x.natAbs % b:Nat):Int)=(x.natAbs:Int):=by
        have:=congrArg (fun k:Nat=>(k:Int)) hdm
        push_cast at this ⊢
        exact this
       rw [hz0]; unfold zs
       rw [if_pos e3,Int.mul_sub,Int.mul_neg]; omega,by omega,by omega⟩
      exact this.1
     have s1:=fun k0=>Ukd (R:=R) n z0 ((1:Nat):Int) (by rw [hz0n]; omega) (by rw [Int.natAbs_natCast]; unfold ll; rw [UfD (by omega) (by omega)]; decide) hn k0
     rw [UbQ,Int.natAbs_natCast,hz0n] at s1
     have f:=fin (z0 - 1) (by
      have:(z0 - 1).natAbs≤q + 1:=by omega
      exact Nat.le_trans (Ua1 this) (Uvo hql (by unfold ll; rw [UfD (by omega) (by omega)]; decide))) hz
     have f1:=fun k0=>Us8 (R:=R) n hn k0
     rw [e3] at f ⊢
     have e4:(sg z0:Bool)=decide (z0<0):=rfl
     have s1':∀ k0:Bool→List PV→Option R,Uyu n (sg z0) (II q) false (II 1) k0=k0 (sg (z0 - 1)) (II (z0 - 1).natAbs):=s1
     generalize sg z0=g0 at *
     generalize sg (z0 - 1)=g1 at *
     simp (disch:=(first | omega | (simp only [JlE]; omega))) only [↓JlH,JlF,JlG,e2,f1,s1',f]
   · have e3:sg x=false:=by simpa [sg] using hx0
     have hz:z0=x / b:=by
      symm
      have:=(Int.ediv_emod_unique (a:=x) (b:=(b:Int)) (r:=(x.natAbs % b:Nat)) (q:=z0) (by omega)).2 ⟨by
       have hc:(b:Int) * (q:Int) + ((x.natAbs % b:Nat):Int)=(x.natAbs:Int):=by
        have:=congrArg (fun k:Nat=>(k:Int)) hdm
        push_cast at this ⊢
        exact this
       rw [hz0]; unfold zs
       rw [if_neg (by rw [e3]; simp)]; omega,by omega,by omega⟩
      exact this.1
     have f:=fin z0 (by rw [hz0n]; omega) hz
     rw [hz0n] at f
     rw [e3] at f ⊢
     generalize sg z0=g0 at *
     simp (disch:=(first | omega | (simp only [JlE]; omega))) only [↓JlH,JlF,JlG,e2,f]
end Go.Proofs.YtmgfmlhdnadglaaGreatDoor
set_option linter.unusedVariables false
set_option maxRecDepth 100000
namespace Go.Proofs.YtmgfmlhdnadglaaGreatDoor
open Go Th Go.Proofs
noncomputable section
variable {R:Type}
def Ubd:Ann:={ loops:=[(8,ids [0,3],ids [2])],cuts:=[(5,ids [0],ids [2]),(7,ids [0],ids [2])],frz:=[],rm:=[.id] }
abbrev UoU (n:Nat):Env:=eN
theorem UlL (n:Nat):EnvOK Tryz.prog GI (UoU n):=.nil
def UeK (n:Nat) (l0:ByteArray→Int→O R) (x1:ByteArray) (x2:Int) (k0:Bool→O R) (k1:O R):O R :=
 bif (decide (x2<((x1).size:Int))) then (bif (inR x2 (x1).size) then (bif (decide (Jc6 x1 x2<48)) then (k0 false) else (bif (inR x2 (x1).size) then (bif (bif false then true else (decide (Jc6 x1 x2>57))) then (k0 false) else (l0 x1 (IntKind.i64.wrap (x2 + 1)))) else none)) else none) else (k1)
def Ub4 (n:Nat):Nat→ByteArray→Int→(Bool→O R)→(O R)→O R
 | 0,_,_,_,_=>none
 | m + 1,x1,x2,k0,k1=>UeK n (fun x1 x2=>Ub4 n m x1 x2 k0 k1) x1 x2 k0 k1
def UrH (n:Nat) (x1:ByteArray) (x2:Int) (k0:Bool→O R) (k1:O R):O R:=Ub4 n n x1 x2 k0 k1
def UjS (n:Nat) (x1:ByteArray) (k0:Bool→O R):O R :=
 UrH n x1 0 (fun y2=>k0 y2) (k0 true)
def Udp (n:Nat) (x1:ByteArray) (k0:Bool→O R):O R :=
 bif (decide (((x1).size:Int)<1)) then (k0 false) else (bif (bif false then true else (decide (((x1).size:Int)>400))) then (k0 false) else (bif (inR 0 (x1).size) then (bif (bif false then true else (Jc6 x1 0 == 48)) then (k0 false) else (UjS n x1 (fun y2=>k0 y2))) else none))
def UCK (n:Nat) (x1:ByteArray) (k0:Bool→O R):O R :=
 bif (eqS x1 (⟨#[48]⟩:ByteArray)) then (k0 true) else (bif (decide (((x1).size:Int)>0)) then (bif (inR 0 (x1).size) then (bif (bif true then (Jc6 x1 0 == 45) else false) then (bif (Je5 1 ((x1).size:Int) (x1).size) then (Udp n (ByteArray.extract x1 (1:Int).toNat (((x1).size:Int):Int).toNat) (fun y2=>k0 y2)) else none) else (Udp n x1 (fun y3=>k0 y3))) else none) else (Udp n x1 (fun y4=>k0 y4)))
abbrev UEP (n:Nat):Code→Fr→Kc R→O R:=evC Tryz.prog (UoU n) Ubd n (45,[])
noncomputable def Un5:Code:=Jj4 (Jll Tryz.f136) [1,1,1]
abbrev Ukq:Sl (List SV):=(cS .n)
abbrev Uqo (n:Nat) (K:Kc R):Ukq.T (O R):=fun x1=>Udp n x1 (fun y1=>xC Ubd 5 K .ret [vB y1])
noncomputable def Un6:Code:=Jj4 (Jll Tryz.f136) [1,1,1,1]
abbrev Ukr:Sl (List SV):=(cS .n)
abbrev Uqp (n:Nat) (K:Kc R):Ukr.T (O R):=fun x1=>UjS n x1 (fun y1=>xC Ubd 7 K .ret [vB y1])
noncomputable def Un7:Code:=Jj4 (Jll Tryz.f136) [1,1,1,1,0,1,0,0]
abbrev Ud1:Sl (List SV):=(cS (cI .n))
abbrev Ujx (n m:Nat) (K:Kc R):Ud1.T (O R):=fun x1 x2=>Ub4 n m x1 x2 (fun y1=>xL Ubd 8 K .ret [vB y1]) (xL Ubd 8 K (.exit 0) [dD])
abbrev UwY (n:Nat) (K:Kc R) (l0:Ud1.T (O R)):Ud1.T (O R):=fun x1 x2=>UeK n l0 x1 x2 (fun y1=>xL Ubd 8 K .ret [vB y1]) (xL Ubd 8 K (.exit 0) [dD])
abbrev Utc (n:Nat):Orc R:=oL Ubd (UEP n) n 8 Un7 Ud1 (Ujx n n) oN
abbrev UsW (n:Nat):Orc R:=oC Ubd (UEP n) 7 Un6 Ukr (Uqp n) (oC Ubd (UEP n) 5 Un5 Ukq (Uqo n) oN)
abbrev UEg (R:Type) (n:Nat):=JcH (R:=R) Tryz.prog (UoU n) Ubd n (45,[]) (Utc n) (UsW n)
theorem Uy4 (n:Nat):UEg R n (false,8,Un7):=JkF (lo:=Utc n) (cu:=UsW n) (pO pN (by kernel_rfl)) Ud1 (Ujx n n) (JiE (F:=Ujx n) Ud1 (UwY n) (fun K _ _=>rfl) (fun _ _=>rfl) (fun L K _ _=>by show _=_; kernel_rfl) n) fun _ _=>rfl
theorem Uy3 (n:Nat):UEg R n (true,7,Un6):=JkW (lo:=Utc n) (cu:=UsW n) (pO (pC (Uy4 n) pN) (by kernel_rfl)) Ukr (Uqp n) (fun K _=>by show _=_; kernel_rfl) fun _ _=>rfl
theorem Uy2 (n:Nat):UEg R n (true,5,Un5):=JkW (lo:=Utc n) (cu:=UsW n) (pO (pC (Uy3 n) pN) (by kernel_rfl)) Ukq (Uqo n) (fun K _=>by show _=_; kernel_rfl) fun _ _=>rfl
theorem UHi (n:Nat):Je6 (UEg R n) (JaJ Ubd (Jll Tryz.f136)):=pO (pC (Uy2 n) pN) (by kernel_rfl)
abbrev UHU:Sl (List SV):=(cS .n)
abbrev f136 (n:Nat) (K:List SV→O R):UHU.T (O R):=fun x1=>UCK n x1 (fun y1=>K [vB y1])
abbrev UB2 (n:Nat):FS:=fT [false] UHU (f136 n)
theorem UGo (n:Nat):FSound Tryz.prog GI 136 (UB2 n):=gd Ubd n (UlL n) Tryz.func136 (.cons (UlL n) UHU (f136 n) (fun K _=>(Jkq (c:=Jll Tryz.f136) (by kernel_rfl) (UHi n) K).trans (by kernel_rfl)) .nil) (by kernel_rfl)
def Unq:Ann:={ loops:=[],cuts:=[],frz:=[],rm:=[.id] }
abbrev UuR (n:Nat):Env:=eN
theorem Ult (n:Nat):EnvOK Tryz.prog GI (UuR n):=.nil
def Utk (n:Nat)  (k0:Bool→LP→O R):O R :=
 k0 false ([.v (.int .i64 1)]:LP)
abbrev UFK (n:Nat):Orc R:=oN
abbrev UE0 (n:Nat):Orc R:=oN
abbrev UKr (R:Type) (n:Nat):=JcH (R:=R) Tryz.prog (UuR n) Unq n (3,[]) (UFK n) (UE0 n)
theorem UG1 (n:Nat):Je6 (UKr R n) (JaJ Unq (Jll Tryz.f110)):=pO pN (by kernel_rfl)
abbrev UHG:Sl (List SV):=.n
abbrev f110 (n:Nat) (K:List SV→O R):UHG.T (O R):=Utk n  (fun y1 y2=>K [.p (.agg [.v (.bool y1),.sh y2])])
abbrev Ur (n:Nat):FS:=fT [] UHG (f110 n)
theorem Uti (n:Nat):FSound Tryz.prog GI 110 (Ur n):=gd Unq n (Ult n) Tryz.func110 (.cons (Ult n) UHG (f110 n) (fun K=>(Jkq (c:=Jll Tryz.f110) (by kernel_rfl) (UG1 n) K).trans (by kernel_rfl)) .nil) (by kernel_rfl)
def Uwu:Ann:={ loops:=[],cuts:=[],frz:=[],rm:=[.id] }
abbrev UBk (n:Nat):Env:=eC 112 (UBQ n) (eC 110 (Ur n) (eC 88 (UJr n) eN))
theorem UpP (n:Nat):EnvOK Tryz.prog GI (UBk n):=.cons (.cons (.cons (.nil) (UMv n)) (Uti n)) (UGc n)
def p73 (n:Nat) (x1:Bool) (x2:LP) (x3:Bool) (x4:LP) (k0:ByteArray→O R):O R :=
 Utk n (fun y5 y6=>p88 n x3 x4 y5 y6 (fun y7=>bif (y7 == 0) then (Uz3 n x1 x2 (fun y8=>k0 y8)) else (Uz3 n x1 x2 (fun y9=>Jj0 y9 (⟨#[47]⟩:ByteArray) fun s10=>Uz3 n x3 x4 (fun y11=>Jj0 s10 y11 fun s12=>k0 s12)))))
abbrev ULH (n:Nat):Orc R:=oN
abbrev UK2 (n:Nat):Orc R:=oN
abbrev K73 (R:Type) (n:Nat):=JcH (R:=R) Tryz.prog (UBk n) Uwu n (19,[]) (ULH n) (UK2 n)
theorem UNn (n:Nat):Je6 (K73 R n) (JaJ Uwu (Jll Tryz.f73)):=pO pN (by kernel_rfl)
abbrev t73:Sl (List SV):=(.c (sP (JlI (.c Jlf (.c sSh (.c Jlf (.c sSh .n)))))) .n)
abbrev f73 (n:Nat) (K:List SV→O R):t73.T (O R):=fun x1 x2 x3 x4=>p73 n x1 x2 x3 x4 (fun y1=>K [vS y1])
abbrev UFx (n:Nat):FS:=fT [false] t73 (f73 n)
theorem UJ2 (n:Nat):FSound Tryz.prog GI 73 (UFx n):=gd Uwu n (UpP n) Tryz.func73 (.cons (UpP n) t73 (f73 n) (fun K _ _ _ _=>(Jkq (c:=Jll Tryz.f73) (by kernel_rfl) (UNn n) K).trans (by kernel_rfl)) .nil) (by kernel_rfl)
def Uwx:Ann:={ loops:=[],cuts:=[],frz:=[],rm:=[.id] }
abbrev UBn (n:Nat):Env:=eN
theorem UpT (n:Nat):EnvOK Tryz.prog GI (UBn n):=.nil
def p77 (n:Nat) (x1:Bool) (x2:LP) (k0:Bool→O R):O R :=
 k0 (((x2).length:Int) == 0)
abbrev ULK (n:Nat):Orc R:=oN
abbrev UK5 (n:Nat):Orc R:=oN
abbrev K77 (R:Type) (n:Nat):=JcH (R:=R) Tryz.prog (UBn n) Uwx n (7,[]) (ULK n) (UK5 n)
theorem UNr (n:Nat):Je6 (K77 R n) (JaJ Uwx (Jll Tryz.f77)):=pO pN (by kernel_rfl)
abbrev t77:Sl (List SV):=(.c (sP (JlI (.c Jlf (.c sSh .n)))) .n)
abbrev f77 (n:Nat) (K:List SV→O R):t77.T (O R):=fun x1 x2=>p77 n x1 x2 (fun y1=>K [vB y1])
abbrev UEs (n:Nat):FS:=fT [false] t77 (f77 n)
theorem UGG (n:Nat):FSound Tryz.prog GI 77 (UEs n):=gd Uwx n (UpT n) Tryz.func77 (.cons (UpT n) t77 (f77 n) (fun K _ _=>(Jkq (c:=Jll Tryz.f77) (by kernel_rfl) (UNr n) K).trans (by kernel_rfl)) .nil) (by kernel_rfl)
def Uny:Ann:={ loops:=[],cuts:=[],frz:=[],rm:=[.id] }
abbrev UuZ (n:Nat):Env:=eN
theorem UlO (n:Nat):EnvOK Tryz.prog GI (UuZ n):=.nil
def UEM (n:Nat) (x1:Bool) (x2:LP) (k0:Bool→LP→O R):O R :=
 k0 false x2
abbrev UFS (n:Nat):Orc R:=oN
abbrev UE8 (n:Nat):Orc R:=oN
abbrev UKz (R:Type) (n:Nat):=JcH (R:=R) Tryz.prog (UuZ n) Uny n (6,[]) (UFS n) (UE8 n)
theorem UHl (n:Nat):Je6 (UKz R n) (JaJ Uny (Jll Tryz.f144)):=pO pN (by kernel_rfl)
abbrev UHW:Sl (List SV):=(.c (sP (JlI (.c Jlf (.c sSh .n)))) .n)
abbrev f144 (n:Nat) (K:List SV→O R):UHW.T (O R):=fun x1 x2=>UEM n x1 x2 (fun y1 y2=>K [.p (.agg [.v (.bool y1),.sh y2])])
abbrev UB9 (n:Nat):FS:=fT [false] UHW (f144 n)
theorem UGv (n:Nat):FSound Tryz.prog GI 144 (UB9 n):=gd Uny n (UlO n) Tryz.func144 (.cons (UlO n) UHW (f144 n) (fun K _ _=>(Jkq (c:=Jll Tryz.f144) (by kernel_rfl) (UHl n) K).trans (by kernel_rfl)) .nil) (by kernel_rfl)
def Ueh:Ann:={ loops:=[],cuts:=[(5,ids [2,3,4],ids [4]),(10,ids [4,6,8],ids [4])],frz:=[],rm:=[.id] }
abbrev UoR (n:Nat):Env:=eC 145 (Uy n) (eC 144 (UB9 n) (eC 143 (UB8 n) (eC 110 (Ur n) (eC 90 (UFA n) (eC 77 (UEs n) eN)))))
theorem UlE (n:Nat):EnvOK Tryz.prog GI (UoR n):=.cons (.cons (.cons (.cons (.cons (.cons (.nil) (UGG n)) (UJ5 n)) (Uti n)) (UGu n)) (UGv n)) (UCA n)
def UeI (n:Nat) (x1 x2 x3:Bool) (x4:LP) (x5:Bool) (x6:LP) (k0:Bool→LP→Bool→LP→O R):O R :=
 k0 x3 x4 x5 x6
def Ufj (n:Nat) (x1:Bool) (x2:LP) (x3:Bool) (x4:LP) (x5 x6:Bool) (k0:Bool→LP→Bool→LP→O R):O R :=
 UEM n x1 x2 (fun y7 y8=>UEL n y7 y8 x3 x4 (fun y9 y10=>UEM n x1 x2 (fun y11 y12=>Uyv n y11 y12 y9 y10 (fun y13 y14 y15 y16=>Uyv n x3 x4 y9 y10 (fun y17 y18 y19 y20=>bif x1 then (p90 n y13 y14 (fun y21 y22=>UeI n x5 x6 y21 y22 y17 y18 (fun y23 y24 y25 y26=>k0 y23 y24 y25 y26))) else (UeI n x5 x6 y13 y14 y17 y18 (fun y27 y28 y29 y30=>k0 y27 y28 y29 y30)))))))
def Uvx (n:Nat) (x1:Bool) (x2:LP) (x3:Bool) (x4:LP) (k0:Bool→LP→Bool→LP→O R):O R :=
 p77 n x1 x2 (fun y5=>bif y5 then (Utk n (fun y6 y7=>k0 x1 x2 y6 y7)) else (bif x3 then (p90 n x1 x2 (fun y8 y9=>p90 n x3 x4 (fun y10 y11=>Ufj n y8 y9 y10 y11 false false (fun y12 y13 y14 y15=>k0 y12 y13 y14 y15)))) else (Ufj n x1 x2 x3 x4 false false (fun y16 y17 y18 y19=>k0 y16 y17 y18 y19))))
abbrev UIb (n:Nat):Code→Fr→Kc R→O R:=evC Tryz.prog (UoR n) Ueh n (45,[])
noncomputable def Un1:Code:=Jj4 (Jll Tryz.f123) [1,1,1]
abbrev Uko:Sl (List SV):=(.c (sBx 55 (cB (cH .n))) (.c (sBx 55 (cB (cH .n))) (.c (sBx 57 (cB (.c sNl (cB (.c sNl .n))))) .n)))
abbrev Uqm (n:Nat) (K:Kc R):Uko.T (O R):=fun x1 x2 x3 x4 x5 x6=>Ufj n x1 x2 x3 x4 x5 x6 (fun y1 y2 y3 y4=>xC Ueh 5 K .ret [.bx 57 [vB y1,vH y2,vB y3,vH y4]])
noncomputable def Uk5:Code:=Jj4 (Jll Tryz.f123) [1,1,1,1,1,1,1]
abbrev Uib:Sl (List SV):=(.c (sBx 57 (cB (.c sNl (cB (.c sNl .n))))) (.c (sBx 55 (cB (cH .n))) (.c (sBx 55 (cB (cH .n))) .n)))
abbrev Uma (n:Nat) (K:Kc R):Uib.T (O R):=fun x1 x2 x3 x4 x5 x6=>UeI n x1 x2 x3 x4 x5 x6 (fun y1 y2 y3 y4=>xC Ueh 10 K .ret [.bx 57 [vB y1,vH y2,vB y3,vH y4]])
abbrev Uym (n:Nat):Orc R:=oN
abbrev Uxl (n:Nat):Orc R:=oC Ueh (UIb n) 10 Uk5 Uib (Uma n) (oC Ueh (UIb n) 5 Un1 Uko (Uqm n) oN)
abbrev UES (R:Type) (n:Nat):=JcH (R:=R) Tryz.prog (UoR n) Ueh n (45,[]) (Uym n) (Uxl n)
theorem UtI (n:Nat):UES R n (true,10,Uk5):=JkW (lo:=Uym n) (cu:=Uxl n) (pO pN (by kernel_rfl)) Uib (Uma n) (fun K _ _ _ _ _ _=>by show _=_; kernel_rfl) fun _ _=>rfl
theorem UyY (n:Nat):UES R n (true,5,Un1):=JkW (lo:=Uym n) (cu:=Uxl n) (pO (pC (UtI n) pN) (by kernel_rfl)) Uko (Uqm n) (fun K _ _ _ _ _ _=>by show _=_; kernel_rfl) fun _ _=>rfl
theorem UHb (n:Nat):Je6 (UES R n) (JaJ Ueh (Jll Tryz.f123)):=pO (pC (UyY n) pN) (by kernel_rfl)
abbrev UHP:Sl (List SV):=(.c (sP (JlI (.c Jlf (.c sSh .n)))) (.c (sP (JlI (.c Jlf (.c sSh .n)))) .n))
abbrev f123 (n:Nat) (K:List SV→O R):UHP.T (O R):=fun x1 x2 x3 x4=>Uvx n x1 x2 x3 x4 (fun y1 y2 y3 y4=>K [.p (.agg [.v (.bool y1),.sh y2,.v (.bool y3),.sh y4])])
abbrev Ura (n:Nat):FS:=fT [false,false] UHP (f123 n)
theorem Utj (n:Nat):FSound Tryz.prog GI 123 (Ura n):=gd Ueh n (UlE n) Tryz.func123 (.cons (UlE n) UHP (f123 n) (fun K _ _ _ _=>(Jkq (c:=Jll Tryz.f123) (by kernel_rfl) (UHb n) K).trans (by kernel_rfl)) .nil) (by kernel_rfl)
end
end Go.Proofs.YtmgfmlhdnadglaaGreatDoor
set_option linter.unusedVariables false
set_option linter.unusedSimpArgs false
namespace Go.Proofs.YtmgfmlhdnadglaaGreatDoor
open Go Th Go.Proofs
variable {R:Type}
theorem UhS (n a b:Nat) (hb:0<b) (ha:ll a≤20000) (hbl:ll b≤20000) (hn:200000≤n) (k0:Bool→List PV→Bool→List PV→Option R) :
 Uyv n false (II a) false (II b) k0=k0 false (II (a / b)) false (II (a % b)):=by
 have h:=Uzx (R:=R) n (a:Int) b hb (by rw [Int.natAbs_natCast]; exact ha) hbl hn k0
 have e1:(a:Int) / (b:Int)=((a / b:Nat):Int):=rfl
 have e2:(a:Int) % (b:Int)=((a % b:Nat):Int):=rfl
 rw [e1,e2,UbQ,UbQ,UbQ,Int.natAbs_natCast,Int.natAbs_natCast,Int.natAbs_natCast] at h
 exact h
theorem UiR (n:Nat) (hn:200000≤n) (x5:Bool) (k0:Bool→List PV→Bool→Option R):∀ (m a b:Nat),b<m→ll a≤20000→ll b≤20000→Uc6 n m false (II a) false (II b) x5 k0=k0 false (II (Nat.gcd b a)) x5
 | m + 1,a,b,hm,ha,hb=>by
  simp only [Uc6,Uhk]
  by_cases h0:b=0
  · subst h0
    simp (disch:=(first | omega | (simp only [JlE]; omega))) only [↓JlH,JlF,JlG,Uap,UbJ,Nat.gcd_zero_left]
  · have hl:0<ll b:=by
     have:ll b≠0:=fun e=>h0 (UcT.1 e)
     omega
    have hd:=fun k0=>UhS (R:=R) n a b (by omega) ha hb hn k0
    have hlt:a % b<b:=Nat.mod_lt _ (by omega)
    have ih:=UiR n hn x5 k0 m b (a % b) (by omega) hb (Nat.le_trans (Ua1 (Nat.le_of_lt hlt)) hb)
    simp (disch:=(first | omega | (simp only [JlE]; omega))) only [↓JlH,JlF,JlG,Uap,hd]
    rw [ih,←Nat.gcd_rec]
theorem UzA (n a b:Nat) (hbn:b<n) (ha:ll a≤20000) (hb:ll b≤20000) (hn:200000≤n) (k0:Bool→List PV→Option R):UEL n false (II a) false (II b) k0=k0 false (II (Nat.gcd b a)):=by
 have hg:ll (Nat.gcd b a)≤20000:=by
  by_cases h:b=0
  · subst h; rw [Nat.gcd_zero_left]; exact ha
  · exact Nat.le_trans (Ua1 (Nat.gcd_le_left _ (by omega))) hb
 unfold UEL UrJ
 rw [UiR n hn _ _ n a b hbn ha hb]
 unfold II
 rw [Uay n _ _ (Uek _) (by rw [Uaa]; omega) (by rw [Uaa]; omega),UfE]
 rfl
theorem Um4 (d:Nat) (h:d<10):List.drop d (List.take (d + 1) ([48,49,50,51,52,53,54,55,56,57]:List UInt8))=[ch d]:=by
 match d,h with
 | 0,_=>rfl
 | 1,_=>rfl
 | 2,_=>rfl
 | 3,_=>rfl
 | 4,_=>rfl
 | 5,_=>rfl
 | 6,_=>rfl
 | 7,_=>rfl
 | 8,_=>rfl
 | 9,_=>rfl
theorem Uf4 (n:Nat) (neg:Bool) (l:List Nat) (hl:∀ d∈l,d<10) (h40:l.length<2 ^ 40) (k0:ByteArray→Option R):∀ (d m i:Nat) (s:List UInt8),d + i=l.length→d<m→s.length<2 ^ 41 - d →
 UbZ n m neg (nl .i64 l) (bs s) i k0=k0 (bs (s++(l.drop i).map ch))
 | 0,m + 1,i,s,hd,hm,hs=>by
  rw [List.drop_eq_nil_of_le (by omega),List.map_nil,List.append_nil]
  simp only [UbZ,UeD]
  simp (disch:=(first | omega | (simp only [JlE]; omega))) only [↓JlH,JlF,JlG]
 | d + 1,m + 1,i,s,hd,hm,hs=>by
  have hi:=Uab hT2 hl i
  have ih:=Uf4 n neg l hl h40 k0 d m (i + 1) (s++[ch (l.getD i 0)]) (by omega) (by omega) (by rw [List.length_append,List.length_singleton]; omega)
  rw [UcP (by omega:i<l.length),List.map_cons]
  have e1:(i:Int) + 1=((i + 1:Nat):Int):=by omega
  have e2:((l.getD i 0:Nat):Int) + 1=((l.getD i 0 + 1:Nat):Int):=by omega
  have e3:=Um4 _ hi
  have hsz:(bs [48,49,50,51,52,53,54,55,56,57]).size=10:=rfl
  have hsz2:(⟨#[48,49,50,51,52,53,54,55,56,57]⟩:ByteArray).size=10:=rfl
  simp only [UbZ,UeD]
  simp (disch:=(first | omega | (simp only [JlE]; omega))) only [↓JlH,JlF,JlG,e1,e2,hsz,hsz2,e3,ih,List.append_assoc,List.singleton_append]
theorem UmO (n:Nat) (x:Int) (hx:ll x.natAbs≤50000) (hn:200000≤n) (k0:ByteArray→Option R):Uz3 n (sg x) (II x.natAbs) k0=k0 (bs (Lib.itoa x)):=by
 unfold Uz3
 rw [Uap,Jk0]
 by_cases h0:x=0
 · subst h0
   have e:(ll (0:Int).natAbs == 0)=true:=by rw [show (0:Int).natAbs=0 from rfl,UbJ]; rfl
   have e2:=UbV 0
   rw [Ual] at e2
   have e3:Lib.itoa 0=[48]:=e2
   rw [e,e3]; rfl
 · have e:(ll x.natAbs == 0)=false:=by simp only [beq_eq_false_iff_ne,ne_eq,UcT]; omega
   have hlp:=fun s hs=>Uf4 (R:=R) n (sg x) (DL x.natAbs) (Uek _) (by rw [Uaa]; omega) (fun (y4:ByteArray)=>k0 y4) (ll x.natAbs) n 0 s (by rw [Uaa]; omega) (by omega) hs
   rw [List.drop_zero,←Ucq _ (by omega:x.natAbs≠0)] at hlp
   rw [e,cond_false]
   simp only [Uhb,UrA]
   have hz:=Ug7 (sg x) (a:=x.natAbs) (by omega)
   rw [show zs (sg x) x.natAbs=x from Ueg x] at hz
   rw [hz]
   cases hs:sg x
   · rw [hs] at hlp
     exact hlp [] (by simp; omega)
   · rw [hs] at hlp
     exact hlp [45] (by simp; omega)
theorem UjM (n:Nat) (x2 x3:Bool) (s:List UInt8) (h40:s.length<2 ^ 30) (k0:Bool→Bool→List PV→Option R):∀ (d m i:Nat) (l:List Nat),d + i=s.length→d<m→(∀ c∈s.drop i,isD c=true)→l.length≤i →
 Ubo n m (bs s) x2 x3 (nl .i64 l) i k0=k0 x2 x3 (nl .i64 (l++dg (s.drop i)))
 | 0,m + 1,i,l,hd,hm,hs,hl=>by
  rw [List.drop_eq_nil_of_le (by omega),dg,List.map_nil,List.append_nil]
  simp only [Ubo,Uc5]
  simp (disch:=(first | omega | (simp only [JlE]; omega))) only [↓JlH,JlF,JlG]
 | d + 1,m + 1,i,l,hd,hm,hs,hl=>by
  have hi:i<s.length:=by omega
  have hdr:s.drop i=s[i]::s.drop (i + 1):=List.drop_eq_getElem_cons hi
  rw [hdr] at hs ⊢
  have hc:=Uax.1 (hs _ (List.mem_cons_self ..))
  have ih:=UjM n x2 x3 s h40 k0 d m (i + 1) (l++[s[i].toNat - 48]) (by omega) (by omega) (fun c h=>hs c (List.mem_cons_of_mem _ h)) (by rw [List.length_append,List.length_singleton]; omega)
  have e1:(i:Int) + 1=((i + 1:Nat):Int):=by omega
  have e2:Jc6 (bs s) (i:Int)=(s[i].toNat:Int):=JjZ hi
  have e3:((s[i].toNat:Int) == 45)=false:=by simp only [beq_eq_false_iff_ne,ne_eq]; omega
  have e4:(s[i].toNat:Int) - 48=((s[i].toNat - 48:Nat):Int):=by omega
  rw [dg,List.map_cons,←dg,show l++(s[i].toNat - 48)::dg (s.drop (i + 1))=l++[s[i].toNat - 48]++dg (s.drop (i + 1)) from by simp,←ih]
  simp only [Ubo,Uc5,Ufk]
  simp (disch:=(first | omega | (simp only [JlE]; omega))) only [↓JlH,JlF,JlG,e1,e2,e3,e4,Jln]
theorem Uth (n:Nat) (x:Int) (hx:ll x.natAbs≤50000) (hn:200000≤n) (k0:Bool→List PV→Option R):Uvy n (bs (Lib.itoa x)) k0=k0 (sg x) (II x.natAbs):=by
 have hdl:(dec x.natAbs).length≤50001:=Uoz hx
 have hdg:(dg (dec x.natAbs)).length≤50001:=by unfold dg; rw [List.length_map]; exact hdl
 have hm:=fun k0=>Uay (R:=R) n (sg x) (dg (dec x.natAbs)) (Uxo (UaY _)) (by omega) (by omega) k0
 rw [show vb (dg (dec x.natAbs))=x.natAbs from Uct _] at hm
 have e0:(sg x&&!(x.natAbs == 0))=sg x:=by
  rw [Bool.eq_iff_iff]; simp [sg]; omega
 rw [e0] at hm
 unfold Uvy UrF
 by_cases h:x<0
 · have hs:sg x=true:=by simpa [sg] using h
   have hi:Lib.itoa x=45::dec x.natAbs:=by unfold Lib.itoa; rw [if_pos h]
   rw [hi]
   obtain ⟨m,rfl⟩:∃ m,n=m + 1:=⟨n - 1,by omega⟩
   have hlp:=fun k0=>UjM (R:=R) (m + 1) false true (45::dec x.natAbs) (by rw [List.length_cons]; omega) k0 (dec x.natAbs).length m 1 [] (by rw [List.length_cons]) (by omega) (UaY _) (by simp)
   have e2:(Jc6 (bs (45::dec x.natAbs)) 0 == 45)=true:=rfl
   rw [Jlm,show ((1:Nat):Int)=0 + 1 from rfl] at hlp
   simp only [List.drop_succ_cons,List.drop_zero,List.nil_append] at hlp
   rw [hs] at hm ⊢
   simp only [Ubo,Uc5,Ufk]
   simp (disch:=(first | omega | (simp only [JlE]; omega))) only [↓JlH,JlF,JlG,List.length_cons,e2,hlp,hm]
 · have hs:sg x=false:=by simpa [sg] using h
   have hi:Lib.itoa x=dec x.natAbs:=by
    unfold Lib.itoa; rw [if_neg h]; congr 1; omega
   rw [hi]
   have hlp:=fun k0=>UjM (R:=R) n false false (dec x.natAbs) (by omega) k0 (dec x.natAbs).length n 0 [] (by omega) (by omega) (UaY _) (by simp)
   rw [Jlm,show ((0:Nat):Int)=0 from rfl,List.drop_zero,List.nil_append] at hlp
   rw [hs] at hm ⊢
   rw [hlp,hm]
theorem Unj:II 1=[PV.v (.int .i64 1)]:=by
 unfold II DL; rw [UfD (by omega) (by omega)]; rfl
theorem Urp (n:Nat) (z w:Int) (hw:w≠0) (hz:ll z.natAbs≤15000) (hwl:ll w.natAbs≤15000) (hn:200000≤n) (hnw:w.natAbs<n) (k0:Bool→List PV→Bool→List PV→Option R) :
 Uvx n (sg z) (II z.natAbs) (sg w) (II w.natAbs) k0=k0 (sg (Rat.divInt z w).num) (II (Rat.divInt z w).num.natAbs) false (II (Rat.divInt z w).den):=by
 have hnum:(Rat.divInt z w).num=zs (!(sg z == sg w)) (z.natAbs / Nat.gcd w.natAbs z.natAbs):=by
  rw [UcO,Ums _ _ _ (by omega)]
 have hden:(Rat.divInt z w).den=w.natAbs / Nat.gcd w.natAbs z.natAbs:=by
  rw [UcO,Umr _ _ _ (by omega)]
 rw [hnum,hden,Uat,UEb]
 obtain ⟨g,hg⟩:∃ g,g=Nat.gcd w.natAbs z.natAbs:=⟨_,rfl⟩
 rw [←hg]
 have hg0:0<g:=by rw [hg]; exact Nat.gcd_pos_of_pos_left _ (by omega)
 have hgw:g≤w.natAbs:=by rw [hg]; exact Nat.gcd_le_left _ (by omega)
 have hgl:ll g≤15000:=Nat.le_trans (Ua1 hgw) hwl
 simp only [Uvx,p77,Uap,Jk0]
 by_cases h0:z=0
 · subst h0
   have hgg:g=w.natAbs:=by rw [hg,show (0:Int).natAbs=0 from rfl,Nat.gcd_zero_right]
   have e:(ll (0:Int).natAbs == 0)=true:=by rw [show (0:Int).natAbs=0 from rfl,UbJ]; rfl
   simp only [e,cond_true]
   rw [show (0:Int).natAbs=0 from rfl,Nat.zero_div,hgg,Nat.div_self (by omega),Unj]
   simp [Utk,sg]
 · have e:(ll z.natAbs == 0)=false:=by simp only [beq_eq_false_iff_ne,ne_eq,UcT]; omega
   simp only [e,cond_false]
   have hzg:z.natAbs / g≠0:=by
    have hd:g ∣ z.natAbs:=by rw [hg]; exact Nat.gcd_dvd_right _ _
    have:=Nat.div_mul_cancel hd
    intro e; rw [e] at this; omega
   have e2:(z.natAbs / g == 0)=false:=by simpa using hzg
   have q1:=fun k0=>UzA (R:=R) n z.natAbs w.natAbs hnw (by omega) (by omega) hn k0
   rw [←hg] at q1
   have q2:=fun k0=>UhS (R:=R) n z.natAbs g hg0 (by omega) (by omega) hn k0
   have q3:=fun k0=>UhS (R:=R) n w.natAbs g hg0 (by omega) (by omega) hn k0
   have q4:=fun k0=>UhT (R:=R) n ((z.natAbs / g:Nat):Int) (by rw [Int.natAbs_natCast]; exact Nat.le_trans (Ua1 (Nat.div_le_self _ _)) (by omega)) hn k0
   rw [UbQ,Int.natAbs_neg,Int.natAbs_natCast] at q4
   have e5:sg (-((z.natAbs / g:Nat):Int))=true:=by
    have hp:=Nat.pos_of_ne_zero hzg
    simp only [sg,decide_eq_true_eq]
    generalize z.natAbs / g=y at hp ⊢
    omega
   rw [e5] at q4
   have r1:=fun k0=>UhT (R:=R) n z (by omega) hn k0
   have r2:=fun k0=>UhT (R:=R) n w (by omega) hn k0
   rw [Int.natAbs_neg] at r1 r2
   rw [e2]
   have core:∀ (neg:Bool) (k0:Bool→List PV→Bool→List PV→Option R),Ufj n neg (II z.natAbs) false (II w.natAbs) false false k0=k0 (neg) (II (z.natAbs / g)) false (II (w.natAbs / g)):=by
    intro neg k0
    unfold Ufj UEM UeI
    cases neg <;> simp only [q1,q2,q3,q4,cond_true,cond_false]
   by_cases hw0:w<0
   · have es:sg w=true:=by simpa [sg] using hw0
     have es2:sg (-w)=false:=by simp [sg]; omega
     have es3:sg (-z)=!(sg z):=by
      rw [Bool.eq_iff_iff]; simp [sg]; omega
     rw [es] at r2 ⊢
     simp only [cond_true,r1,r2,es2,es3,core]
     cases sg z <;> rfl
   · have es:sg w=false:=by simpa [sg] using hw0
     simp only [es,cond_false,core]
     cases sg z <;> rfl
theorem UiO (n:Nat) (q:Rat) (h1:ll q.num.natAbs≤15000) (h2:ll q.den≤15000) (hn:200000≤n) (k0:ByteArray→Option R):p73 n (sg q.num) (II q.num.natAbs) false (II q.den) k0=k0 (bs (Uag q)):=by
 have c1:=fun k0=>UtN (R:=R) n (q.den:Int) ((1:Nat):Int) (by rw [Int.natAbs_natCast]; omega) (by rw [Int.natAbs_natCast]; unfold ll; rw [UfD (by omega) (by omega)]; decide) hn k0
 rw [UbQ,UbQ,Int.natAbs_natCast,Int.natAbs_natCast] at c1
 have t1:=fun k0=>UmO (R:=R) n q.num (by omega) hn k0
 have t2:=fun k0=>UmO (R:=R) n (q.den:Int) (by rw [Int.natAbs_natCast]; omega) hn k0
 rw [UbQ,Int.natAbs_natCast,UbV] at t2
 have l1:(Lib.itoa q.num).length≤15002:=by
  have h:=Udk (Lib.itoa q.num)
  rw [Uaq] at h
  have hd:(dec q.num.natAbs).length≤15001:=Uoz h1
  rw [h,List.length_append]
  split <;> simp <;> omega
 have l2:(dec q.den).length≤15001:=Uoz h2
 simp only [p73,Utk,←Unj,c1]
 unfold Uag
 have hd:=q.den_nz
 by_cases h:q.den=1
 · have e:(UzT (q.den:Int) ((1:Nat):Int) == 0)=true:=by unfold UzT; rw [if_neg (by omega),if_pos (by omega)]; rfl
   simp only [e,cond_true,if_pos h,t1,List.append_nil]
 · have e:(UzT (q.den:Int) ((1:Nat):Int) == 0)=false:=by unfold UzT; rw [if_neg (by omega),if_neg (by omega)]; rfl
   simp only [e,cond_false,if_neg h,t1]
   simp (disch:=(first | omega | (simp only [JlE]; omega))) only [↓JlH,JlF,JlG,t2,List.length_cons,List.length_nil,List.append_assoc,List.singleton_append]
theorem UaL {α:Type} (a b:α):(bif true then a else b)=a:=(Eq.refl _).trans (Eq.refl _)
theorem Uam {α:Type} (a b:α):(bif false then a else b)=b:=(Eq.refl _).trans (Eq.refl _)
theorem UF5:(!true)=false:=(Eq.refl _).trans (Eq.refl _)
theorem UF4:(!false)=true:=(Eq.refl _).trans (Eq.refl _)
def Uf (t:List UInt8):Bool:=!t.isEmpty&&decide (t.length≤400)&&!(t.head? == some 48)&&t.all isD
theorem Ule (t:List UInt8):(Uio t&&!(t == [48]))=Uf t:=by
 unfold Uio Uf
 match t with
 | []=>rfl
 | [c] =>
  by_cases h:c=48
  · subst h; rfl
  · have e1:([c] == [48])=false:=by simpa using h
    have e2:(([c]:List UInt8).head? == some 48)=false:=by simpa using h
    rw [e1,e2]; simp
 | c::d::r =>
  have e1:((c::d::r) == [48])=false:=by simp
  rw [e1]
  by_cases h:c=48
  · subst h; simp
  · have e2:((c::d::r:List UInt8).head? == some 48)=false:=by simpa using h
    rw [e2]; simp
theorem UgA (n:Nat) (t:List UInt8) (h40:t.length<2 ^ 40) (k0:Bool→Option R) (k1:Option R):∀ (d m i:Nat),d + i=t.length→d<m→Ub4 n m (bs t) i k0 k1=if (t.drop i).all isD then k1 else k0 false
 | 0,m + 1,i,hd,hm=>by
  rw [List.drop_eq_nil_of_le (by omega),List.all_nil,if_pos rfl]
  simp only [Ub4,UeK]
  simp (disch:=(first | omega | (simp only [JlE]; omega))) only [↓JlH,JlF]
 | d + 1,m + 1,i,hd,hm=>by
  have hi:i<t.length:=by omega
  have hdr:t.drop i=t[i]::t.drop (i + 1):=List.drop_eq_getElem_cons hi
  have ih:=UgA n t h40 k0 k1 d m (i + 1) (by omega) (by omega)
  have e1:(i:Int) + 1=((i + 1:Nat):Int):=by omega
  have e2:Jc6 (bs t) (i:Int)=(t[i].toNat:Int):=JjZ hi
  rw [hdr,List.all_cons]
  simp only [Ub4,UeK]
  by_cases h:isD t[i]=true
  · have hc:=Uax.1 h
    rw [h,Bool.true_and,←ih]
    simp (disch:=(first | omega | (simp only [JlE]; omega))) only [↓JlH,JlF,e1,e2]
  · have hc:¬ (48≤t[i].toNat∧t[i].toNat≤57):=fun q=>h (Uax.2 q)
    have hf:isD t[i]=false:=by simpa using h
    rw [hf,Bool.false_and,if_neg (by simp)]
    by_cases h1:t[i].toNat<48
    · simp (disch:=(first | omega | (simp only [JlE]; omega))) only [↓JlH,JlF,e1,e2]
    · simp (disch:=(first | omega | (simp only [JlE]; omega))) only [↓JlH,JlF,e1,e2]
theorem Ui0 (n:Nat) (t:List UInt8) (ht:t.length<2 ^ 40) (hn:t.length<n) (k0:Bool→Option R):Udp n (bs t) k0=k0 (Uf t):=by
 cases t with
 | nil=>rfl
 | cons c r =>
  rw [List.length_cons] at ht hn
  unfold Udp
  by_cases h4:400<r.length + 1
  · have e1:Uf (c::r)=false:=by
     unfold Uf
     rw [List.length_cons,decide_eq_false (by omega)]; simp
    simp (disch:=(first | omega | (simp only [JlE]; omega))) only [↓JlH,JlF,e1,List.length_cons]
  have e0:Jc6 (bs (c::r)) 0=(c.toNat:Int):=rfl
  have hb:=Uxh c 48
  rw [show ((48:UInt8).toNat:Int)=48 from rfl] at hb
  by_cases hc:c=48
  · have e1:Uf (c::r)=false:=by unfold Uf; rw [hc]; simp
    have e2:(c == 48)=true:=by simpa using hc
    simp (disch:=(first | omega | (simp only [JlE]; omega))) only [↓JlH,JlF,e1,List.length_cons,e0,hb,e2]
  · have e1:Uf (c::r)=(c::r).all isD:=by
     have:((c::r:List UInt8).head? == some 48)=false:=by simpa using hc
     unfold Uf
     rw [List.length_cons,decide_eq_true (by omega),this]; simp
    have e2:(c == 48)=false:=by simpa using hc
    have hlp:=fun k0 k1=>UgA (R:=R) n (c::r) (by rw [List.length_cons]; omega) k0 k1 (r.length + 1) n 0 (by rw [List.length_cons]) (by omega)
    rw [List.drop_zero,show ((0:Nat):Int)=0 from rfl] at hlp
    rw [e1]
    simp (disch:=(first | omega | (simp only [JlE]; omega))) only [↓JlH,JlF,List.length_cons,e0,hb,e2,UjS,UrH,hlp]
    cases (c::r).all isD <;> rfl
theorem UeY (n:Nat) (s:List UInt8) (hs:s.length<2 ^ 40) (hn:s.length<n) (k0:Bool→Option R):UCK n (bs s) k0=k0 (Ui3 s):=by
 unfold UCK
 by_cases h0:s=[48]
 · subst h0
   have e:Ui3 [48]=true:=rfl
   rw [e]; rfl
 · have e0:(s == [48])=false:=by simpa using h0
   cases s with
   | nil=>rfl
   | cons c r =>
    rw [List.length_cons] at hs hn
    have e1:Jc6 (bs (c::r)) 0=(c.toNat:Int):=rfl
    have hb:=Uxh c 45
    rw [show ((45:UInt8).toNat:Int)=45 from rfl] at hb
    have e3:List.drop (1:Int).toNat (List.take (r.length + 1) (c::r))=r:=by
     show List.drop 1 (c::List.take r.length r)=r
     rw [List.take_length]; rfl
    by_cases hc:c=45
    · have e2:(c == 45)=true:=by simpa using hc
      have hv:=fun k0=>Ui0 (R:=R) n r (by omega) (by omega) k0
      have hI:Ui3 (c::r)=Uf r:=by
       unfold Ui3; rw [Ube,if_pos hc,←Ule]; simp
      rw [hI]
      simp (disch:=(first | omega | (simp only [JlE]; omega))) only [↓JlH,JlF,List.length_cons,e0,e1,hb,e2,Jji,e3,hv]
    · have e2:(c == 45)=false:=by simpa using hc
      have hv:=fun k0=>Ui0 (R:=R) n (c::r) (by rw [List.length_cons]; omega) (by rw [List.length_cons]; omega) k0
      have hI:Ui3 (c::r)=Uf (c::r):=by
       unfold Ui3; rw [Ube,if_neg hc,←Ule,e0]; simp
      rw [hI]
      simp (disch:=(first | omega | (simp only [JlE]; omega))) only [↓JlH,JlF,List.length_cons,e0,e1,hb,e2,hv]
def sl (l:List (List UInt8)):List PV:=l.map fun s=>PV.v (.string (bs s))
theorem Uaw (l:List (List UInt8)):(sl l).length=l.length:=by unfold sl; rw [List.length_map]
end Go.Proofs.YtmgfmlhdnadglaaGreatDoor
set_option linter.unusedVariables false
set_option maxRecDepth 100000
namespace Go.Proofs.YtmgfmlhdnadglaaGreatDoor
open Go Th Go.Proofs
noncomputable section
variable {R:Type}
def Uwl:Ann:={ loops:=[],cuts:=[],frz:=[],rm:=[.id,.id,.id] }
abbrev UBb (n:Nat):Env:=eC 95 (UFD n) eN
theorem Upy (n:Nat):EnvOK Tryz.prog GI (UBb n):=.cons (.nil) (UJ8 n)
def p54 (n:Nat) (x1 x2:ByteArray) (k0:Int→Int→Bool→O R):O R :=
 p95 n x1 (fun y3 y4=>p95 n x2 (fun y5 y6=>bif y4 then (k0 y3 y5 (bif true then y6 else false)) else (k0 y3 y5 false)))
abbrev ULy (n:Nat):Orc R:=oN
abbrev UKT (n:Nat):Orc R:=oN
abbrev K54 (R:Type) (n:Nat):=JcH (R:=R) Tryz.prog (UBb n) Uwl n (27,[]) (ULy n) (UKT n)
theorem UM7 (n:Nat):Je6 (K54 R n) (JaJ Uwl (Jll Tryz.f54)):=pO pN (by kernel_rfl)
abbrev t54:Sl (List SV):=(cS (cS .n))
abbrev f54 (n:Nat) (K:List SV→O R):t54.T (O R):=fun x1 x2=>p54 n x1 x2 (fun y1 y2 y3=>K [vI y1,vI y2,vB y3])
abbrev UEp (n:Nat):FS:=fT [false,false] t54 (f54 n)
theorem UGD (n:Nat):FSound Tryz.prog GI 54 (UEp n):=gd Uwl n (Upy n) Tryz.func54 (.cons (Upy n) t54 (f54 n) (fun K _ _=>(Jkq (c:=Jll Tryz.f54) (by kernel_rfl) (UM7 n) K).trans (by kernel_rfl)) .nil) (by kernel_rfl)
end
end Go.Proofs.YtmgfmlhdnadglaaGreatDoor
set_option linter.unusedVariables false
set_option linter.unusedSimpArgs false
namespace Go.Proofs.YtmgfmlhdnadglaaGreatDoor
open Go Th Go.Proofs
variable {R:Type}
theorem Uf0 (n:Nat) (neg:Bool) (t:List UInt8) (ht:t.length≤9):∀ (d m i acc:Nat),d + i=t.length→d<m→acc<10 ^ i →
 (∀ c∈t.drop i,isD c=true)→∀ (k0:Int→Bool→Bool→Int→Option R) (k1:Bool→Int→Option R),Ubs n m neg (bs t) acc t.length i k0 k1=k1 neg ((acc * 10 ^ (t.length - i) + ofD (t.drop i):Nat):Int)
 | 0,m + 1,i,acc,hd,hm,ha,hs,k0,k1=>by
  rw [List.drop_eq_nil_of_le (by omega),show t.length - i=0 from by omega,Nat.pow_zero,Nat.mul_one,show ofD []=0 from rfl,Nat.add_zero]
  simp only [Ubs,UdL]
  simp (disch:=(first | omega | (simp only [JlE]; omega))) only [↓JlH,JlF]
  rfl
 | d + 1,m + 1,i,acc,hd,hm,ha,hs,k0,k1=>by
  have hi:i<t.length:=by omega
  have hdr:t.drop i=t[i]::t.drop (i + 1):=List.drop_eq_getElem_cons hi
  rw [hdr] at hs ⊢
  have hc:=Uax.1 (hs _ (List.mem_cons_self ..))
  have hp:(10:Nat) ^ i≤10 ^ 9:=Nat.pow_le_pow_right (by omega) (by omega)
  have ih:=Uf0 n neg t ht d m (i + 1) (10 * acc + (t[i].toNat - 48)) (by omega) (by omega) (by rw [Nat.pow_succ]; omega) (fun c h=>hs c (List.mem_cons_of_mem _ h)) k0 k1
  have e1:(i:Int) + 1=((i + 1:Nat):Int):=by omega
  have e2:Jc6 (bs t) (i:Int)=(t[i].toNat:Int):=JjZ hi
  have e4:(t[i].toNat:Int) - 48=((t[i].toNat - 48:Nat):Int):=by omega
  have e5:(10:Int) * (acc:Int) + ((t[i].toNat - 48:Nat):Int)=((10 * acc + (t[i].toNat - 48):Nat):Int):=by omega
  have hdl:(t.drop (i + 1)).length=t.length - (i + 1):=List.length_drop
  have e6:acc * 10 ^ (t.length - i) + ofD (t[i]::t.drop (i + 1))=(10 * acc + (t[i].toNat - 48)) * 10 ^ (t.length - (i + 1)) + ofD (t.drop (i + 1)):=by
   have:ofD (t[i]::t.drop (i + 1))=(t[i].toNat - 48) * 10 ^ (t.length - (i + 1)) + ofD (t.drop (i + 1)):=by
    unfold ofD dg; rw [List.map_cons,UcF,List.length_map,hdl]
   rw [this,show t.length - i=(t.length - (i + 1)) + 1 from by omega,Nat.pow_succ]
   grind
  rw [e6,←ih]
  simp only [Ubs,UdL]
  simp (disch:=(first | omega | (simp only [JlE]; omega))) only [↓JlH,JlF,e1,e2,e4,e5,wu8]
theorem Uco (n:Nat) (neg:Bool) (t:List UInt8) (ht:t.length≤9):∀ (d m i acc:Nat),d + i=t.length→d<m→acc<10 ^ i →
 ¬ (∀ c∈t.drop i,isD c=true)→∃ y:Int,∀ (k0:Int→Bool→Bool→Int→Option R) (k1:Bool→Int→Option R),Ubs n m neg (bs t) acc t.length i k0 k1=k0 0 false neg y
 | 0,m + 1,i,acc,hd,hm,ha,hs=>by
  rw [List.drop_eq_nil_of_le (by omega)] at hs
  exact absurd (fun c h=>by cases h) hs
 | d + 1,m + 1,i,acc,hd,hm,ha,hs=>by
  have hi:i<t.length:=by omega
  have hdr:t.drop i=t[i]::t.drop (i + 1):=List.drop_eq_getElem_cons hi
  rw [hdr] at hs
  have hp:(10:Nat) ^ i≤10 ^ 9:=Nat.pow_le_pow_right (by omega) (by omega)
  have e1:(i:Int) + 1=((i + 1:Nat):Int):=by omega
  have e2:Jc6 (bs t) (i:Int)=(t[i].toNat:Int):=JjZ hi
  by_cases h:isD t[i]=true
  · have hc:=Uax.1 h
    have hs':¬ ∀ c∈t.drop (i + 1),isD c=true:=fun q=>hs (by
     intro c hc
     rcases List.mem_cons.1 hc with rfl | hc
     · exact h
     · exact q c hc)
    obtain ⟨y,ih⟩:=Uco n neg t ht d m (i + 1) (10 * acc + (t[i].toNat - 48)) (by omega) (by omega) (by rw [Nat.pow_succ]; omega) hs'
    refine ⟨y,fun k0 k1=>?_⟩
    have e4:(t[i].toNat:Int) - 48=((t[i].toNat - 48:Nat):Int):=by omega
    have e5:(10:Int) * (acc:Int) + ((t[i].toNat - 48:Nat):Int)=((10 * acc + (t[i].toNat - 48):Nat):Int):=by omega
    rw [←ih k0 k1]
    simp only [Ubs,UdL]
    simp (disch:=(first | omega | (simp only [JlE]; omega))) only [↓JlH,JlF,e1,e2,e4,e5,wu8]
  · have hc:¬ (48≤t[i].toNat∧t[i].toNat≤57):=fun q=>h (Uax.2 q)
    refine ⟨acc,fun k0 k1=>?_⟩
    simp only [Ubs,UdL]
    by_cases h1:t[i].toNat<48
    · simp (disch:=(first | omega | (simp only [JlE]; omega))) only [↓JlH,JlF,e1,e2]
    · simp (disch:=(first | omega | (simp only [JlE]; omega))) only [↓JlH,JlF,e1,e2]
theorem Ur9 (n:Nat) (hn:20≤n) (s t:List UInt8) (neg:Bool) (hsl:s.length<2 ^ 40) (h0:t≠[]) (ht:t.length≤9) (hd:∀ c∈t,isD c=true) (hz:t.head? = some 48→s.length≤1) (k0:Int→Bool→Option R) :
 Uc8 n (bs s) neg (bs t) k0=k0 (zs neg (ofD t)) true:=by
 have hlt:=Urq hd
 have hp:(10:Nat) ^ t.length≤10 ^ 9:=Nat.pow_le_pow_right (by omega) ht
 have hlp:=fun (k0:Int→Bool→Bool→Int→Option R) (k1:Bool→Int→Option R)=>Uf0 (R:=R) n neg t ht t.length n 0 0 (by omega) (by omega) (by simp) (by rw [List.drop_zero]; exact hd) k0 k1
 rw [Nat.zero_mul,List.drop_zero,Nat.zero_add,show ((0:Nat):Int)=0 from rfl] at hlp
 cases t with
 | nil=>exact absurd rfl h0
 | cons c r =>
  have e0:((c::r) == ([]:List UInt8))=false:=rfl
  have e1:Jc6 (bs (c::r)) 0=(c.toNat:Int):=rfl
  have hb:=Uxh c 48
  rw [show ((48:UInt8).toNat:Int)=48 from rfl] at hb
  rw [List.length_cons] at ht
  simp only [List.length_cons] at hlp
  generalize hv:ofD (c::r)=v at *
  by_cases hc:c=48
  · have e2:(c == 48)=true:=by simpa using hc
    have hs1:=hz (by rw [hc]; rfl)
    simp only [Uc8,UfY,UdK,UmG]
    cases neg
    · simp (disch:=(first | omega | (simp only [JlE]; omega))) only [↓JlH,JlF,List.length_cons,e0,e1,hb,e2,hlp]
      rfl
    · simp (disch:=(first | omega | (simp only [JlE]; omega))) only [↓JlH,JlF,List.length_cons,e0,e1,hb,e2,hlp,Int.zero_sub]
      rfl
  · have e2:(c == 48)=false:=by simpa using hc
    simp only [Uc8,UfY,UdK,UmG]
    cases neg
    · simp (disch:=(first | omega | (simp only [JlE]; omega))) only [↓JlH,JlF,List.length_cons,e0,e1,hb,e2,hlp]
      rfl
    · simp (disch:=(first | omega | (simp only [JlE]; omega))) only [↓JlH,JlF,List.length_cons,e0,e1,hb,e2,hlp,Int.zero_sub]
      rfl
theorem Unb (n:Nat) (hn:20≤n) (s t:List UInt8) (neg:Bool) (hsl:s.length<2 ^ 40) (htl:t.length<2 ^ 40) (h:¬ (t≠[]∧t.length≤9∧(∀ c∈t,isD c=true)∧(t.head? = some 48→s.length≤1))) :
 ∀ k0:Int→Bool→Option R,Uc8 n (bs s) neg (bs t) k0=k0 0 false:=by
 intro k0
 cases t with
 | nil=>rfl
 | cons c r =>
  have e0:((c::r) == ([]:List UInt8))=false:=rfl
  have e1:Jc6 (bs (c::r)) 0=(c.toNat:Int):=rfl
  have hb:=Uxh c 48
  rw [show ((48:UInt8).toNat:Int)=48 from rfl] at hb
  rw [List.length_cons] at htl
  simp only [Uc8,UfY,UdK,UmG]
  by_cases h9:9<r.length + 1
  · simp (disch:=(first | omega | (simp only [JlE]; omega))) only [↓JlH,JlF,List.length_cons,e0]
  · by_cases hd:∀ x∈c::r,isD x=true
    · have hs:c=48∧1<s.length:=by
       by_cases hc:c=48
       · refine ⟨hc,?_⟩
         apply Nat.lt_of_not_le
         intro q
         exact h ⟨by simp,by rw [List.length_cons]; omega,hd,fun _=>q⟩
       · exact absurd ⟨by simp,by rw [List.length_cons]; omega,hd,fun q=>absurd (by simpa using q) hc⟩ h
      have e2:(c == 48)=true:=by simpa using hs.1
      have hs1:=hs.2
      simp (disch:=(first | omega | (simp only [JlE]; omega))) only [↓JlH,JlF,List.length_cons,e0,e1,hb,e2]
    · obtain ⟨y,hlp⟩:=Uco (R:=R) n neg (c::r) (by rw [List.length_cons]; omega) (r.length + 1) n 0 0 (by rw [List.length_cons]) (by omega) (by simp) (by rw [List.drop_zero]; exact hd)
      rw [show ((0:Nat):Int)=0 from rfl] at hlp
      simp only [List.length_cons] at hlp
      by_cases hc:c=48
      · have e2:(c == 48)=true:=by simpa using hc
        by_cases hs1:1<s.length
        · simp (disch:=(first | omega | (simp only [JlE]; omega))) only [↓JlH,JlF,List.length_cons,e0,e1,hb,e2]
        · simp (disch:=(first | omega | (simp only [JlE]; omega))) only [↓JlH,JlF,List.length_cons,e0,e1,hb,e2,hlp]
      · have e2:(c == 48)=false:=by simpa using hc
        simp (disch:=(first | omega | (simp only [JlE]; omega))) only [↓JlH,JlF,List.length_cons,e0,e1,hb,e2,hlp]
theorem Ufw (n:Nat) (s:List UInt8) (hs:s.length<2 ^ 40) (k0:Int→Bool→Option R):p95 n (bs s) k0=Uc8 n (bs s) (UbU s).1 (bs (UbU s).2) k0:=by
 unfold p95
 cases s with
 | nil=>rfl
 | cons c r =>
  rw [List.length_cons] at hs
  have e0:((c::r) == ([]:List UInt8))=false:=rfl
  have e1:Jc6 (bs (c::r)) 0=(c.toNat:Int):=rfl
  have hb:=Uxh c 45
  rw [show ((45:UInt8).toNat:Int)=45 from rfl] at hb
  have e3:List.drop (1:Int).toNat (List.take (r.length + 1) (c::r))=r:=by
   show List.drop 1 (c::List.take r.length r)=r
   rw [List.take_length]; rfl
  rw [Ube]
  by_cases hc:c=45
  · have e2:(c == 45)=true:=by simpa using hc
    rw [if_pos hc]
    simp (disch:=(first | omega | (simp only [JlE]; omega))) only [↓JlH,JlF,List.length_cons,e0,e1,hb,e2,UiK,Jji,e3]
  · have e2:(c == 45)=false:=by simpa using hc
    rw [if_neg hc]
    simp (disch:=(first | omega | (simp only [JlE]; omega))) only [↓JlH,JlF,List.length_cons,e0,e1,hb,e2,UiK]
theorem UeT (n:Nat) (hn:20≤n) (v:Int) (hv:v.natAbs<10 ^ 9) (k0:Int→Bool→Option R):p95 n (bs (Lib.itoa v)) k0=k0 v true:=by
 have hl:=(Ubk v.natAbs 9 (by omega)).2 hv
 have hin:=Udk (Lib.itoa v)
 rw [Uaq] at hin
 have hls:(Lib.itoa v).length≤10:=by
  rw [hin,List.length_append]
  split <;> simp <;> omega
 rw [Ufw n _ (by omega),Uaq,Ur9 n hn _ _ _ (by omega) (UoA _) hl (UaY _) ?_,Uct,Ueg]
 intro h48
 rcases Ulb v.natAbs with h | h
 · exact absurd h48 h
 · by_cases hv0:v<0
   · exfalso
     have h1:=UaY v.natAbs
     cases hd:dec v.natAbs with
     | nil=>exact UoA _ hd
     | cons c r =>
      rw [hd] at h48 h
      simp at h48 h
      have:dec v.natAbs=dec 0:=by rw [hd,h48,h,Ual]
      have:=Ucp this
      omega
   · rw [hin,decide_eq_false hv0]
     simp only [Bool.false_eq_true,if_false,List.nil_append]
     omega
theorem UiN (n:Nat) (hn:20≤n) (s:List UInt8) (hs:s.length<2 ^ 40) (h:¬ ∃ v:Int,v.natAbs<10 ^ 9∧s=Lib.itoa v) (k0:Int→Bool→Option R):p95 n (bs s) k0=k0 0 false:=by
 have hl:=Ula s
 rw [Ufw n s hs]
 refine Unb n hn s _ _ hs (by omega) ?_ k0
 rintro ⟨h1,h2,h3,h4⟩
 apply h
 have hin:=Udk s
 have hd:dec (ofD (UbU s).2)=(UbU s).2:=UoB h3 h1 (by
  by_cases hz:(UbU s).2.head? = some 48
  · right
    have:=h4 hz
    have:=List.length_pos_iff.2 h1
    omega
  · exact Or.inl hz)
 have hlt:ofD (UbU s).2<10 ^ 9:=(Ubk _ 9 (by omega)).1 (by rw [hd]; exact h2)
 refine ⟨zs (UbU s).1 (ofD (UbU s).2),by rw [Uat]; exact hlt,?_⟩
 by_cases h0:ofD (UbU s).2=0
 · have e:(UbU s).1=false:=by
    cases hb:(UbU s).1 with
    | false=>rfl
    | true =>
     exfalso
     rw [h0,Ual] at hd
     have h5:=h4 (by rw [←hd]; rfl)
     rw [hb,←hd] at hin
     rw [hin] at h5
     simp at h5
   rw [h0,e]
   rw [e,←hd,h0] at hin
   rw [hin]
   exact (UbV 0).symm
 · rw [Ug7 _ h0,hd]; exact hin
end Go.Proofs.YtmgfmlhdnadglaaGreatDoor
set_option linter.unusedVariables false
set_option maxRecDepth 100000
namespace Go.Proofs.YtmgfmlhdnadglaaGreatDoor
open Go Th Go.Proofs
noncomputable section
variable {R:Type}
def Ubc:Ann:={ loops:=[(3,ids [0,2,4,5],ids [0,2,3,4])],cuts:=[(4,ids [0,2,4,5],ids [0,2,3,4,5]),(11,ids [0,2,6,7],ids [2,3]),(13,ids [0,2,6,7],ids [2,3])],frz:=[],rm:=[.id,.id] }
abbrev UoK (n:Nat):Env:=eC 136 (UB2 n) (eC 125 (Ux9 n) (eC 123 (Ura n) (eC 77 (UEs n) (eC 73 (UFx n) eN))))
theorem Uls (n:Nat):EnvOK Tryz.prog GI (UoK n):=.cons (.cons (.cons (.cons (.cons (.nil) (UJ2 n)) (UGG n)) (Utj n)) (UCz n)) (UGo n)
def Ufi (n:Nat) (x1:ByteArray) (x2 x3:Bool) (x4 x5:Int) (k0:ByteArray→Bool→Bool→Int→Int→O R):O R :=
 k0 x1 x2 x3 x4 (IntKind.i64.wrap (x5 + 1))
def UeC (n:Nat) (l0:ByteArray→Bool→Bool→Int→Int→O R) (x1:ByteArray) (x2 x3:Bool) (x4 x5:Int) (k0:ByteArray→Bool→Bool→Int→O R):O R :=
 bif (decide (x5<((x1).size:Int))) then (bif (inR x5 (x1).size) then (bif (Jc6 x1 x5 == 47) then (bif (bif true then (x4 == ((x1).size:Int)) else false) then (Ufi n x1 x2 x3 x5 x5 (fun y6 y7 y8 y9 y10=>l0 y6 y7 y8 y9 y10)) else (Ufi n x1 x2 x3 x4 x5 (fun y11 y12 y13 y14 y15=>l0 y11 y12 y13 y14 y15))) else (Ufi n x1 x2 x3 x4 x5 (fun y16 y17 y18 y19 y20=>l0 y16 y17 y18 y19 y20))) else none) else (k0 x1 x2 x3 x4)
def UbY (n:Nat):Nat→ByteArray→Bool→Bool→Int→Int→(ByteArray→Bool→Bool→Int→O R)→O R
 | 0,_,_,_,_,_,_=>none
 | m + 1,x1,x2,x3,x4,x5,k0=>UeC n (fun x1 x2 x3 x4 x5=>UbY n m x1 x2 x3 x4 x5 k0) x1 x2 x3 x4 x5 k0
def Urz (n:Nat) (x1:ByteArray) (x2 x3:Bool) (x4 x5:Int) (k0:ByteArray→Bool→Bool→Int→O R):O R:=UbY n n x1 x2 x3 x4 x5 k0
def UeB (n:Nat) (x1:ByteArray) (x2 x3:Bool) (x4 x5:ByteArray) (k0:Bool→LP→Bool→LP→Bool→O R):O R :=
 Uvy n x5 (fun y6 y7=>p77 n y6 y7 (fun y8=>bif y8 then (k0 false [] false [] false) else (Uvy n x4 (fun y9 y10=>Uvy n x5 (fun y11 y12=>Uvx n y9 y10 y11 y12 (fun y13 y14 y15 y16=>p73 n y13 y14 y15 y16 (fun y17=>k0 y13 y14 y15 y16 (eqS y17 x1))))))))
def UaR (n:Nat) (x1:ByteArray) (x2 x3:Bool) (x4 x5:ByteArray) (k0:Bool→LP→Bool→LP→Bool→O R):O R :=
 UCK n x4 (fun y6=>bif (!y6) then (k0 false [] false [] false) else (UCK n x5 (fun y7=>bif (bif false then true else (!y7)) then (k0 false [] false [] false) else (UeB n x1 x2 x3 x4 x5 (fun y8 y9 y10 y11 y12=>k0 y8 y9 y10 y11 y12)))))
def Uvv (n:Nat) (x1:ByteArray) (k0:Bool→LP→Bool→LP→Bool→O R):O R :=
 Urz n x1 false false ((x1).size:Int) 0 (fun y2 y3 y4 y5=>bif (Je5 0 y5 (y2).size) then (bif (decide (y5<((y2).size:Int))) then (bif (Je5 (IntKind.i64.wrap (y5 + 1)) ((y2).size:Int) (y2).size) then (UaR n y2 y3 y4 (ByteArray.extract y2 (0:Int).toNat (y5:Int).toNat) (ByteArray.extract y2 (IntKind.i64.wrap (y5 + 1):Int).toNat (((y2).size:Int):Int).toNat) (fun y6 y7 y8 y9 y10=>k0 y6 y7 y8 y9 y10)) else none) else (UaR n y2 y3 y4 (ByteArray.extract y2 (0:Int).toNat (y5:Int).toNat) ⟨#[49]⟩ (fun y11 y12 y13 y14 y15=>k0 y11 y12 y13 y14 y15))) else none)
abbrev UEc (n:Nat):Code→Fr→Kc R→O R:=evC Tryz.prog (UoK n) Ubc n (62,[])
noncomputable def UnN:Code:=Jj4 (Jll Tryz.f109) [1,1,0,1,0,0,1,1]
abbrev Ukg:Sl (List SV):=(cS (.c (sBx 57 (cB (.c sNl (cB (.c sNl .n))))) (cI (cI .n))))
abbrev Uqd (n:Nat) (K:Kc R):Ukg.T (O R):=fun x1 x2 x3 x4 x5=>Ufi n x1 x2 x3 x4 x5 (fun y1 y2 y3 y4 y5=>xC Ubc 4 K .normal [vS y1,.bx 57 [vB y2,.nl,vB y3,.nl],dD,vI y4,vI y5])
noncomputable def UkP:Code:=Jj4 (Jll Tryz.f109) [1,1,1,1,1,1]
abbrev Uh0:Sl (List SV):=(cS (.c (sBx 57 (cB (.c sNl (cB (.c sNl .n))))) (cS (cS .n))))
abbrev UlZ (n:Nat) (K:Kc R):Uh0.T (O R):=fun x1 x2 x3 x4 x5=>UaR n x1 x2 x3 x4 x5 (fun y1 y2 y3 y4 y5=>xC Ubc 11 K .ret [.bx 57 [vB y1,vH y2,vB y3,vH y4],vB y5])
noncomputable def UkQ:Code:=Jj4 (Jll Tryz.f109) [1,1,1,1,1,1,1]
abbrev Uh1:Sl (List SV):=(cS (.c (sBx 57 (cB (.c sNl (cB (.c sNl .n))))) (cS (cS .n))))
abbrev Ul0 (n:Nat) (K:Kc R):Uh1.T (O R):=fun x1 x2 x3 x4 x5=>UeB n x1 x2 x3 x4 x5 (fun y1 y2 y3 y4 y5=>xC Ubc 13 K .ret [.bx 57 [vB y1,vH y2,vB y3,vH y4],vB y5])
noncomputable def UnO:Code:=Jj4 (Jll Tryz.f109) [1,1,0,1,0,0]
abbrev UdT:Sl (List SV):=(cS (.c (sBx 57 (cB (.c sNl (cB (.c sNl .n))))) (cI (cI .n))))
abbrev Ujp (n m:Nat) (K:Kc R):UdT.T (O R):=fun x1 x2 x3 x4 x5=>UbY n m x1 x2 x3 x4 x5 (fun y1 y2 y3 y4=>xL Ubc 3 K (.exit 0) [vS y1,.bx 57 [vB y2,.nl,vB y3,.nl],dD,vI y4])
abbrev UwQ (n:Nat) (K:Kc R) (l0:UdT.T (O R)):UdT.T (O R):=fun x1 x2 x3 x4 x5=>UeC n l0 x1 x2 x3 x4 x5 (fun y1 y2 y3 y4=>xL Ubc 3 K (.exit 0) [vS y1,.bx 57 [vB y2,.nl,vB y3,.nl],dD,vI y4])
abbrev Urh (n:Nat):Orc R:=oL Ubc (UEc n) n 3 UnO UdT (Ujp n n) oN
abbrev Uoy (n:Nat):Orc R:=oC Ubc (UEc n) 13 UkQ Uh1 (Ul0 n) (oC Ubc (UEc n) 11 UkP Uh0 (UlZ n) (oC Ubc (UEc n) 4 UnN Ukg (Uqd n) oN))
abbrev UA (R:Type) (n:Nat):=JcH (R:=R) Tryz.prog (UoK n) Ubc n (62,[]) (Urh n) (Uoy n)
theorem UyJ (n:Nat):UA R n (true,4,UnN):=JkW (lo:=Urh n) (cu:=Uoy n) (pO pN (by kernel_rfl)) Ukg (Uqd n) (fun K _ _ _ _ _=>by show _=_; kernel_rfl) fun _ _=>rfl
theorem UyK (n:Nat):UA R n (false,3,UnO):=JkF (lo:=Urh n) (cu:=Uoy n) (pO (pC (UyJ n) pN) (by kernel_rfl)) UdT (Ujp n n) (JiE (F:=Ujp n) UdT (UwQ n) (fun K _ _ _ _ _=>rfl) (fun _ _=>rfl) (fun L K _ _ _ _ _=>by show _=_; kernel_rfl) n) fun _ _=>rfl
theorem Utt (n:Nat):UA R n (true,13,UkQ):=JkW (lo:=Urh n) (cu:=Uoy n) (pO pN (by kernel_rfl)) Uh1 (Ul0 n) (fun K _ _ _ _ _=>by show _=_; kernel_rfl) fun _ _=>rfl
theorem Uts (n:Nat):UA R n (true,11,UkP):=JkW (lo:=Urh n) (cu:=Uoy n) (pO (pC (Utt n) pN) (by kernel_rfl)) Uh0 (UlZ n) (fun K _ _ _ _ _=>by show _=_; kernel_rfl) fun _ _=>rfl
theorem UG0 (n:Nat):Je6 (UA R n) (JaJ Ubc (Jll Tryz.f109)):=pO (pC (UyK n) (pC (Uts n) pN)) (by kernel_rfl)
abbrev t109:Sl (List SV):=(cS .n)
abbrev f109 (n:Nat) (K:List SV→O R):t109.T (O R):=fun x1=>Uvv n x1 (fun y1 y2 y3 y4 y5=>K [.p (.agg [.v (.bool y1),.sh y2,.v (.bool y3),.sh y4]),vB y5])
abbrev Ux5 (n:Nat):FS:=fT [false] t109 (f109 n)
theorem UCv (n:Nat):FSound Tryz.prog GI 109 (Ux5 n):=gd Ubc n (Uls n) Tryz.func109 (.cons (Uls n) t109 (f109 n) (fun K _=>(Jkq (c:=Jll Tryz.f109) (by kernel_rfl) (UG0 n) K).trans (by kernel_rfl)) .nil) (by kernel_rfl)
end
end Go.Proofs.YtmgfmlhdnadglaaGreatDoor
set_option linter.unusedVariables false
set_option linter.unusedSimpArgs false
namespace Go.Proofs.YtmgfmlhdnadglaaGreatDoor
open Go Th Go.Proofs
variable {R:Type}
theorem Uvp {a:Nat} (h:a<10 ^ 400):ll a≤400:=Udn.2 h
theorem UaC {n:Nat} (hn:10 ^ 400≤n):200000≤n:=Nat.le_trans (by decide +kernel) hn
theorem UuN (z w:Int) (hw:w≠0):(Rat.divInt z w).den≤w.natAbs:=by
 rw [UcO,Umr _ _ _ (by omega)]; exact Nat.div_le_self _ _
theorem Uvu (z w:Int) (hw:w≠0):(Rat.divInt z w).num.natAbs≤z.natAbs:=by
 rw [UcO,Ums _ _ _ (by omega),Uat]; exact Nat.div_le_self _ _
def idx (s:List UInt8):Nat:=(s.takeWhile (· != 47)).length
theorem Uye:idx []=0:=rfl
theorem UaF (c:UInt8) (r:List UInt8):idx (c::r)=if c=47 then 0 else idx r + 1:=by
 unfold idx
 rw [List.takeWhile_cons]
 by_cases h:c=47 <;> simp [h]
theorem Ure:∀ (s:List UInt8),idx s≤s.length
 | []=>Nat.le_refl _
 | c::r=>by
  have:=Ure r
  rw [UaF,List.length_cons]
  split <;> omega
theorem Umm:∀ {s:List UInt8},(∀ c∈s,c≠47)→idx s=s.length
 | [],_=>rfl
 | c::r,h=>by rw [UaF,if_neg (h c (List.mem_cons_self ..)),Umm fun x hx=>h x (List.mem_cons_of_mem _ hx),List.length_cons]
theorem Uvl:∀ {a:List UInt8} (b:List UInt8),(∀ c∈a,c≠47)→idx (a++47::b)=a.length
 | [],b,_=>by rw [List.nil_append,UaF,if_pos rfl]; rfl
 | c::r,b,h=>by rw [List.cons_append,UaF,if_neg (h c (List.mem_cons_self ..)),Uvl b fun x hx=>h x (List.mem_cons_of_mem _ hx),List.length_cons]
theorem UiC:∀ {s:List UInt8},idx s<s.length→s=s.take (idx s)++47::s.drop (idx s + 1)
 | [],h=>by simp [Uye] at h
 | c::r,h=>by
  rw [UaF,List.length_cons] at *
  by_cases hc:c=47
  · rw [if_pos hc] at *; rw [hc]; rfl
  · rw [if_neg hc] at *
    have ih:=UiC (s:=r) (by omega)
    rw [List.take_succ_cons,List.drop_succ_cons,List.cons_append,←ih]
theorem UcR:∀ (s:List UInt8),Lib.indexByte s 47=if idx s<s.length then (idx s:Int) else -1
 | []=>rfl
 | c::r=>by
  have ih:=UcR r
  simp only [Lib.indexByte,UaF,List.length_cons]
  by_cases hc:c=47
  · subst hc; simp
  · rw [if_neg (by simpa using hc),ih,if_neg hc]
    by_cases h:idx r<r.length
    · simp only [if_pos h]
      rw [if_neg (by simp),if_pos (by omega)]; omega
    · simp only [if_neg h]
      rw [if_pos (by decide),if_neg (by omega)]
theorem UuM (n:Nat) (s:List UInt8) (hs:s.length<2 ^ 40) (k0:ByteArray→ByteArray→Bool→Option R) :
 p96 n (bs s) k0=if idx s<s.length then k0 (bs (s.take (idx s))) (bs (s.drop (idx s + 1))) true else k0 (bs s) (bs []) false:=by
 unfold p96 UGN
 have e:((⟨#[47]⟩:ByteArray).data.toList.headD 0)=47:=rfl
 have hz:(⟨#[47]⟩:ByteArray).size=1:=rfl
 rw [Jg7,e,UcR]
 by_cases h:idx s<s.length
 · rw [if_pos h,if_pos h]
   have e1:(idx s:Int) + ((1:Nat):Int)=((idx s + 1:Nat):Int):=by omega
   have e2:List.drop (0:Int).toNat (List.take (idx s) s)=s.take (idx s):=rfl
   have e3:List.drop 0 (List.take (idx s) s)=s.take (idx s):=rfl
   have e4:List.drop (idx s + 1) (List.take s.length s)=s.drop (idx s + 1):=by rw [List.take_length]
   have hz2:(bs [47]).size=1:=rfl
   simp (disch:=(first | omega | (simp only [JlE]; omega))) only [↓JlH,JlF,hz,hz2,e1,Jji,e2,e3,e4,List.length_nil]
 · rw [if_neg h,if_neg h]
   simp (disch:=(first | omega | (simp only [JlE]; omega))) only [↓JlH,JlF]
theorem Utf (a:Nat):∀ c∈dec a,c≠47:=by
 intro c hc h
 have:=Uax.1 (UaY a c hc)
 rw [h] at this
 exact absurd this.1 (by decide)
theorem UiD (z:Int):∀ c∈Lib.itoa z,c≠47:=by
 have h:=Udk (Lib.itoa z)
 rw [Uaq] at h
 rw [h]
 intro c hc
 rcases List.mem_append.1 hc with h1 | h1
 · split at h1
   · rw [List.mem_singleton.1 h1]; decide
   · cases h1
 · exact Utf _ c h1
theorem Uev {z:Int} (h:z.natAbs<10 ^ 400):(Lib.itoa z).length≤401:=by
 have h1:=Udl h
 have h2:=Udk (Lib.itoa z)
 rw [Uaq] at h2
 rw [h2,List.length_append]
 split <;> simp <;> omega
theorem Ubt {q:Rat} (h:fits q):(Uag q).length≤802:=by
 unfold Uag
 have h1:=Uev h.1
 have h2:=Udl h.2
 rw [List.length_append]
 split <;> simp <;> omega
theorem Ujg:dec 1=[49]:=UaZ (by omega)
theorem Uce (q:Rat):(Uag q).take (idx (Uag q))=Lib.itoa q.num∧(idx (Uag q)<(Uag q).length↔q.den≠1)∧(q.den≠1→(Uag q).drop (idx (Uag q) + 1)=dec q.den):=by
 unfold Uag
 by_cases h:q.den=1
 · rw [if_pos h,List.append_nil,Umm (UiD _),List.take_length]
   exact ⟨rfl,by simp [h],fun q=>absurd h q⟩
 · rw [if_neg h,Uvl _ (UiD _),List.take_left]
   refine ⟨rfl,by simp [h],fun _=>?_⟩
   rw [List.drop_append,List.drop_of_length_le (by omega),show (Lib.itoa q.num).length + 1 - (Lib.itoa q.num).length=1 from by omega]
   rfl
theorem UhU {p q:Rat} (h:Uag p=Uag q):p=q:=by
 obtain ⟨a1,a2,a3⟩:=Uce p
 obtain ⟨b1,b2,b3⟩:=Uce q
 rw [h] at a1 a2 a3
 have hn:Lib.itoa p.num=Lib.itoa q.num:=a1.symm.trans b1
 have hc:=congrArg UbU hn
 rw [Uaq,Uaq] at hc
 have h1:=Ucp (Prod.mk.inj hc).2
 have h2:(p.num<0)=(q.num<0):=by simpa using (Prod.mk.inj hc).1
 have hnum:p.num=q.num:=by
  have:p.num<0↔q.num<0:=by rw [h2]
  omega
 by_cases hd:q.den=1
 · have:p.den=1:=by
    apply Classical.byContradiction
    intro hp
    exact (b2.1 (a2.2 hp)) hd
   exact Rat.ext hnum (this.trans hd.symm)
 · have hp:p.den≠1:=a2.1 (b2.2 hd)
   exact Rat.ext hnum (Ucp ((a3 hp).symm.trans (b3 hd)))
def isQ (s:List UInt8):Prop:=∃ q:Rat,fits q∧s=Uag q
theorem Urd (n:Nat) (z w:Nat) (hz:z<10 ^ 400) (hw:w<10 ^ 400) (hw0:w≠0) (hn:10 ^ 400≤n) (x1 x3:Bool) (x5:List PV) (k0:Bool→List PV→List PV→Bool→Option R) :
 Uhz n x1 (bs (dec w)) x3 (NN z) x5 k0=k0 x3 (NN z) (NN w) (Nat.gcd w z == 1):=by
 have hN:=Nat.le_trans (by decide +kernel:2 ^ 20≤10 ^ 400) hn
 have m1:=Ua9 hz
 have m2:=Ua9 hw
 have lw:=Udl hw
 have q2:=fun k0=>UhR (R:=R) n (dec w) (UaY _) (by omega) (by omega) k0
 rw [Uct] at q2
 have hg:=fun k0=>Uvh (R:=R) n z w (by omega) (by omega) (by omega) (by omega) (by omega) k0
 obtain ⟨g,hge⟩:∃ g,Nat.gcd w z=g:=⟨_,rfl⟩
 have hg0:g≠0:=by rw [←hge]; intro e; exact hw0 (Nat.gcd_eq_zero_iff.1 e).1
 rw [hge] at hg ⊢
 have hgl:(toL 1000000000 g).length≤45:=UbI m2 (by rw [←hge]; exact Nat.le_of_dvd (by omega) (Nat.gcd_dvd_left _ _))
 unfold Uhz
 clear hz hw hn
 simp only [q2,hg,Ut3]
 by_cases c:(toL 1000000000 g).length=1
 · have hg1:g<1000000000:=by
    have:=(Uah hB2 g 1).1 (by omega)
    rwa [Nat.pow_one] at this
   have hgi:∀ (K:Int→Option R),Jj .u32 ((NN g).getD (0:Int).toNat (PV.v (Value.bool false))) K=K (g:Int):=fun K=>by rw [UgB hg0 hg1]; rfl
   have e1:(((toL 1000000000 g).length:Int) == 1)=true:=by rw [c]; rfl
   have e2:((g:Int) == 1)=(g == 1):=JdC g 1
   simp (disch:=(first | omega | (simp only [JlE]; omega))) only [↓JlH,JlF,JlG,e1,hgi,e2]
 · have e1:(((toL 1000000000 g).length:Int) == 1)=false:=by
    simp only [beq_eq_false_iff_ne,ne_eq]; omega
   have e2:(g == 1)=false:=by
    simp only [beq_eq_false_iff_ne,ne_eq]
    intro e
    rw [e,Ued hB2 (by omega) (by omega)] at c
    exact c rfl
   rw [e2]
   simp (disch:=(first | omega | (simp only [JlE]; omega))) only [↓JlH,JlF,JlG,e1]
theorem Uje (q:Rat):Nat.gcd q.den q.num.natAbs=1:=by rw [Nat.gcd_comm]; exact q.reduced
theorem Us4 {s:List UInt8}:eqS (bs s) (⟨#[48]⟩:ByteArray)=(s == [48]):=rfl
theorem Ux1 {s:List UInt8}:eqS (bs s) (⟨#[49]⟩:ByteArray)=(s == [49]):=rfl
theorem Urg (z:Int) (w:Nat) (hz:z.natAbs<10 ^ 400) (hw:w<10 ^ 400) (h0:w≠0) (hc:Nat.gcd w z.natAbs=1):∃ q:Rat,fits q∧q.num=z∧q.den=w :=
 ⟨⟨z,w,h0,by rw [Nat.gcd_comm] at hc; exact hc⟩,⟨hz,hw⟩,rfl,rfl⟩
theorem Ufy (n:Nat) (hn:10 ^ 400≤n) (q:Rat) (hq:fits q) (k0:Bool→List PV→List PV→Bool→Option R) :
 p56 n (bs (Uag q)) k0=k0 (sg q.num) (NN q.num.natAbs) (NN q.den) true:=by
 have hN:=Nat.le_trans (by decide +kernel:2 ^ 20≤10 ^ 400) hn
 have hl:=Ubt hq
 obtain ⟨a1,a2,a3⟩:=Uce q
 have c1:=fun k0=>UuM (R:=R) n (Uag q) (by omega) k0
 have li:=Uev hq.1
 have i1:=fun k0=>Udm (R:=R) n (Lib.itoa q.num) (by omega) k0
 rw [Uaq,Ufe hq.1] at i1
 have ln:=Udl hq.1
 have q1:=fun k0=>UhR (R:=R) n (dec q.num.natAbs) (UaY _) (by omega) (by omega) k0
 rw [Uct] at q1
 unfold p56
 by_cases hd:q.den=1
 · have e1:Uag q=Lib.itoa q.num:=by unfold Uag; rw [if_pos hd,List.append_nil]
   simp only [if_neg (fun h=>a2.1 h hd)] at c1
   rw [e1] at c1 ⊢
   simp only [c1,i1,q1,Bool.not_true,Bool.not_false,UaL,Uam]
   rw [hd,UAb]
 · simp only [if_pos (a2.2 hd),a1,a3 hd] at c1
   have d1:=fun k0=>Ue9 (R:=R) n (dec q.den) (by have:=Udl hq.2; omega) k0
   rw [Ulf hq.2] at d1
   have g1:=fun x1 x3 x5 k0=>Urd (R:=R) n q.num.natAbs q.den hq.1 hq.2 q.den_nz hn x1 x3 x5 k0
   rw [Uje] at g1
   have e48:(dec q.den == [48])=false:=by
    simp only [beq_eq_false_iff_ne,ne_eq]
    intro e; exact q.den_nz (Ucp (e.trans Ual.symm))
   have e49:(dec q.den == [49])=false:=by
    simp only [beq_eq_false_iff_ne,ne_eq]
    intro e; exact hd (Ucp (e.trans Ujg.symm))
   simp only [c1,i1,q1,d1,Us4,Ux1,e48,e49,g1,Bool.not_true,Bool.not_false,UaL,Uam,show ((1:Nat) == 1)=true from rfl]
theorem Uzz (n:Nat) (hn:10 ^ 400≤n) (s:List UInt8) (hs:s.length<2 ^ 20) :
 isQ s∨∃ a b c,∀ k0:Bool→List PV→List PV→Bool→Option R,p56 n (bs s) k0=k0 a b c false:=by
 have hN:=Nat.le_trans (by decide +kernel:2 ^ 20≤10 ^ 400) hn
 have c1:=fun k0=>UuM (R:=R) n s (by omega) k0
 by_cases hsl:idx s<s.length
 · simp only [if_pos hsl] at c1
   have hspl:=UiC hsl
   have lt:(s.take (idx s)).length<2 ^ 20:=by rw [List.length_take]; omega
   have lb:(s.drop (idx s + 1)).length<2 ^ 20:=by rw [List.length_drop]; omega
   generalize s.take (idx s)=t at *
   generalize s.drop (idx s + 1)=b at *
   have i1:=fun k0=>Udm (R:=R) n t (by omega) k0
   have d1:=fun k0=>Ue9 (R:=R) n b (by omega) k0
   cases hI:Ui3 t with
   | false =>
    rw [hI] at i1
    exact Or.inr ⟨false,[],[],fun k0=>by unfold p56; simp only [c1,i1,Bool.not_false,UaL]⟩
   | true =>
    rw [hI] at i1
    obtain ⟨z,hz,rfl⟩:=Uet hI
    rw [Uaq] at i1
    have ln:=Udl hz
    have q1:=fun k0=>UhR (R:=R) n (dec z.natAbs) (UaY _) (by omega) (by omega) k0
    rw [Uct] at q1
    cases hD:Uio b with
    | false =>
     rw [hD] at d1
     exact Or.inr ⟨false,[],[],fun k0=>by unfold p56; simp only [c1,i1,q1,d1,Bool.not_true,Bool.not_false,UaL,Uam]⟩
    | true =>
     rw [hD] at d1
     obtain ⟨hw,hb⟩:=Ulg hD
     by_cases h48:b=[48]
     · have e48:(b == [48])=true:=by simpa using h48
       exact Or.inr ⟨false,[],[],fun k0=>by unfold p56; simp only [c1,i1,q1,d1,Us4,e48,Bool.not_true,Bool.not_false,UaL,Uam]⟩
     have e48:(b == [48])=false:=by simpa using h48
     by_cases h49:b=[49]
     · have e49:(b == [49])=true:=by simpa using h49
       exact Or.inr ⟨false,[],[],fun k0=>by unfold p56; simp only [c1,i1,q1,d1,Us4,Ux1,e48,e49,Bool.not_true,Bool.not_false,UaL,Uam]⟩
     have e49:(b == [49])=false:=by simpa using h49
     have hw0:ofD b≠0:=fun e=>h48 (by rw [hb,e,Ual])
     have hw1:ofD b≠1:=fun e=>h49 (by rw [hb,e,Ujg])
     have g1:=fun x1 x3 x5 k0=>Urd (R:=R) n z.natAbs (ofD b) hz hw hw0 hn x1 x3 x5 k0
     rw [←hb] at g1
     by_cases hg:Nat.gcd (ofD b) z.natAbs=1
     · obtain ⟨q,f1,f2,f3⟩:=Urg z (ofD b) hz hw hw0 hg
       refine Or.inl ⟨q,f1,?_⟩
       unfold Uag
       rw [f2,f3,if_neg hw1,←hb]
       exact hspl
     · rw [show (Nat.gcd (ofD b) z.natAbs == 1)=false from by simpa using hg] at g1
       exact Or.inr ⟨decide (z<0),NN z.natAbs,NN (ofD b),fun k0=>by unfold p56; simp only [c1,i1,q1,d1,Us4,Ux1,e48,e49,g1,Bool.not_true,Bool.not_false,UaL,Uam]⟩
 · simp only [if_neg hsl] at c1
   have i1:=fun k0=>Udm (R:=R) n s (by omega) k0
   cases hI:Ui3 s with
   | false =>
    rw [hI] at i1
    exact Or.inr ⟨false,[],[],fun k0=>by unfold p56; simp only [c1,i1,Bool.not_false,UaL]⟩
   | true =>
    obtain ⟨z,hz,rfl⟩:=Uet hI
    obtain ⟨q,f1,f2,f3⟩:=Urg z 1 hz (by decide +kernel) (by omega) (Nat.gcd_one_left _)
    refine Or.inl ⟨q,f1,?_⟩
    unfold Uag
    rw [f2,f3,if_pos rfl,List.append_nil]
theorem UtQ (n:Nat) (hn:10 ^ 400≤n) (s:List UInt8) (hs:s.length<2 ^ 20) (h:¬ isQ s):∃ a b c,∀ k0:Bool→List PV→List PV→Bool→Option R,p56 n (bs s) k0=k0 a b c false :=
 (Uzz n hn s hs).resolve_left h
theorem UaI (v:Int):Lib.itoa v=Uag (v:Rat):=by
 unfold Uag
 rw [Rat.num_intCast,Rat.den_intCast,if_pos rfl,List.append_nil]
theorem Ug4 {v:Int} (h:v.natAbs<10 ^ 400):fits (v:Rat):=by
 unfold fits
 rw [Rat.num_intCast,Rat.den_intCast]
 exact ⟨h,by decide +kernel⟩
theorem Unl (n:Nat) (hn:10 ^ 400≤n) (s:List UInt8) (hs:s.length<2 ^ 20) (k0:Bool→Option R) [Decidable (isQ s)]:p53 n (bs s) k0=k0 (decide (isQ s)):=by
 have hN:=Nat.le_trans (by decide +kernel:2 ^ 20≤10 ^ 400) hn
 unfold p53
 by_cases hv:∃ v:Int,v.natAbs<10 ^ 9∧s=Lib.itoa v
 · obtain ⟨v,h1,rfl⟩:=hv
   have hq:isQ (Lib.itoa v):=⟨(v:Rat),Ug4 (Nat.lt_trans h1 (by decide +kernel)),UaI v⟩
   rw [UeT n (by omega) v h1,decide_eq_true hq]; rfl
 · rw [UiN n (by omega) s (by omega) hv,Uam]
   by_cases hq:isQ s
   · obtain ⟨q,h1,rfl⟩:=hq
     rw [Ufy n hn q h1,decide_eq_true ⟨q,h1,rfl⟩]
   · obtain ⟨a,b,c,h⟩:=UtQ (R:=R) n hn s hs hq
     rw [h,decide_eq_false hq]
theorem Uvn:∀ {s:List UInt8} {i:Nat} (h:i<s.length),i<idx s→s[i]≠47
 | c::r,0,_,h=>by
  rw [UaF] at h
  intro e
  rw [if_pos (by simpa using e)] at h
  omega
 | c::r,i + 1,hl,h=>by
  rw [UaF] at h
  by_cases hc:c=47
  · rw [if_pos hc] at h; omega
  · rw [if_neg hc] at h
    rw [List.getElem_cons_succ]
    exact Uvn (by simpa using hl) (by omega)
theorem Uvm:∀ {s:List UInt8} (h:idx s<s.length),s[idx s]=47
 | c::r,h=>by
  by_cases hc:c=47
  · simp [UaF,hc]
  · have e:idx (c::r)=idx r + 1:=by rw [UaF,if_neg hc]
    have h2:idx r<r.length:=by rw [e,List.length_cons] at h; omega
    simp only [e,List.getElem_cons_succ]
    exact Uvm h2
theorem Uf6 (n:Nat) (s:List UInt8) (hs:s.length<2 ^ 40) (x2 x3:Bool) (k0:ByteArray→Bool→Bool→Int→Option R):∀ (d m i:Nat),d + i=s.length→d<m →
 UbY n m (bs s) x2 x3 ((if idx s<i then idx s else s.length:Nat):Int) i k0=k0 (bs s) x2 x3 (idx s:Int)
 | 0,m + 1,i,hd,hm=>by
  have h1:=Ure s
  have e:(if idx s<i then idx s else s.length)=idx s:=by split <;> omega
  rw [e]
  simp only [UbY,UeC]
  simp (disch:=(first | omega | (simp only [JlE]; omega))) only [↓JlH,JlF]
 | d + 1,m + 1,i,hd,hm=>by
  have hi:i<s.length:=by omega
  have ih:=Uf6 n s hs x2 x3 k0 d m (i + 1) (by omega) (by omega)
  have e1:(i:Int) + 1=((i + 1:Nat):Int):=by omega
  have e2:Jc6 (bs s) (i:Int)=(s[i].toNat:Int):=JjZ hi
  have hb:=Uxh s[i] 47
  rw [show ((47:UInt8).toNat:Int)=47 from rfl] at hb
  simp only [UbY,UeC,Ufi]
  by_cases h1:idx s<i
  · rw [if_pos (by omega)] at ih
    rw [if_pos h1]
    have e3:((idx s:Int) == (s.length:Int))=false:=by rw [JdC]; simp only [beq_eq_false_iff_ne,ne_eq]; omega
    cases hc:(s[i] == 47)
    · rw [hc] at hb
      simp (disch:=(first | omega | (simp only [JlE]; omega))) only [↓JlH,JlF,e1,e2,hb,ih]
    · rw [hc] at hb
      simp (disch:=(first | omega | (simp only [JlE]; omega))) only [↓JlH,JlF,e1,e2,hb,e3,ih]
  · rw [if_neg h1]
    have e3:((s.length:Int) == (s.length:Int))=true:=by simp
    by_cases h2:idx s=i
    · subst h2
      have hc2:(s[idx s] == 47)=true:=by simpa using Uvm hi
      rw [hc2] at hb
      rw [if_pos (by omega)] at ih
      simp (disch:=(first | omega | (simp only [JlE]; omega))) only [↓JlH,JlF,e1,e2,hb,e3,ih]
    · have hc2:(s[i] == 47)=false:=by
       have:=Uvn hi (by omega)
       simpa using this
      rw [hc2] at hb
      rw [if_neg (by omega)] at ih
      simp (disch:=(first | omega | (simp only [JlE]; omega))) only [↓JlH,JlF,e1,e2,hb,ih]
theorem Ufz (n:Nat) (s:List UInt8) (hs:s.length<2 ^ 40) (hn:s.length<n) (k0:Bool→List PV→Bool→List PV→Bool→Option R) :
 Uvv n (bs s) k0=UaR n (bs s) false false (bs (s.take (idx s))) (bs (if idx s<s.length then s.drop (idx s + 1) else [49])) k0:=by
 have hl:=fun k0=>Uf6 (R:=R) n s hs false false k0 s.length n 0 (by omega) hn
 simp only [Nat.not_lt_zero,if_false] at hl
 rw [show ((0:Nat):Int)=0 from rfl] at hl
 have h1:=Ure s
 have e2:List.drop (0:Int).toNat (List.take (idx s) s)=s.take (idx s):=rfl
 have e3:List.drop 0 (List.take (idx s) s)=s.take (idx s):=rfl
 have e4:List.drop (idx s + 1) (List.take s.length s)=s.drop (idx s + 1):=by rw [List.take_length]
 have e5:(idx s:Int) + 1=((idx s + 1:Nat):Int):=by omega
 unfold Uvv Urz
 by_cases h:idx s<s.length
 · rw [if_pos h]
   simp (disch:=(first | omega | (simp only [JlE]; omega))) only [↓JlH,JlF,hl,Jji,e2,e3,e4,e5]
 · rw [if_neg h]
   simp (disch:=(first | omega | (simp only [JlE]; omega))) only [↓JlH,JlF,hl,Jji,e2,e3,e4,e5]
theorem Uf3 (n:Nat) (hn:10 ^ 400≤n) (s:List UInt8) (z:Int) (w:Int) (hz:z.natAbs<10 ^ 400) (hw:w.natAbs<10 ^ 400) (hw0:w≠0) (x2 x3:Bool) (k0:Bool→List PV→Bool→List PV→Bool→Option R) :
 UaR n (bs s) x2 x3 (bs (Lib.itoa z)) (bs (Lib.itoa w)) k0=k0 (sg (Rat.divInt z w).num) (II (Rat.divInt z w).num.natAbs) false (II (Rat.divInt z w).den) (Uag (Rat.divInt z w) == s):=by
 have hN:=UaC hn
 have l1:=Uvp hz
 have l2:=Uvp hw
 have wn:w.natAbs<n:=Nat.lt_of_lt_of_le hw hn
 have li:=Uev hz
 have lw:=Uev hw
 have v1:=fun k=>UeY (R:=R) n (Lib.itoa z) (by omega) (by omega) k
 have v2:=fun k=>UeY (R:=R) n (Lib.itoa w) (by omega) (by omega) k
 rw [Ufe hz] at v1
 rw [Ufe hw] at v2
 have o1:=fun k=>Uth (R:=R) n z (by omega) hN k
 have o2:=fun k=>Uth (R:=R) n w (by omega) hN k
 have n1:=fun k=>Urp (R:=R) n z w hw0 (by omega) (by omega) hN wn k
 have t1:=fun k=>UiO (R:=R) n (Rat.divInt z w) (Nat.le_trans (Ua1 (Uvu z w hw0)) (by omega)) (Nat.le_trans (Ua1 (UuN z w hw0)) (by omega)) hN k
 have e1:(((ll w.natAbs:Nat):Int) == 0)=false:=by
  rw [Jk0]; simp only [beq_eq_false_iff_ne,ne_eq,UcT]; omega
 simp only [UaR,UeB,v1,v2,o1,o2,p77,Uap,e1,n1,t1,Ji7,Bool.not_true,Uam]
theorem UmN (n:Nat) (hn:10 ^ 400≤n) (q:Rat) (hq:fits q) (k0:Bool→List PV→Bool→List PV→Bool→Option R) :
 Uvv n (bs (Uag q)) k0=k0 (sg q.num) (II q.num.natAbs) false (II q.den) true:=by
 have hN:=UaC hn
 have hl:=Ubt hq
 obtain ⟨a1,a2,a3⟩:=Uce q
 have e:(if idx (Uag q)<(Uag q).length then (Uag q).drop (idx (Uag q) + 1) else [49])=Lib.itoa (q.den:Int):=by
  rw [UbV]
  by_cases hd:q.den=1
  · rw [if_neg (fun h=>a2.1 h hd),hd,Ujg]
  · rw [if_pos (a2.2 hd),a3 hd]
 have hd:=q.den_nz
 rw [Ufz n _ (by omega) (by omega),e,a1,Uf3 n hn (Uag q) q.num q.den hq.1 (by rw [Int.natAbs_natCast]; exact hq.2) (by omega),Rat.num_divInt_den]
 rw [show (Uag q == Uag q)=true from by simp]
theorem UtU (n:Nat) (hn:10 ^ 400≤n) (s:List UInt8) (hs:s.length<2 ^ 17) :
 isQ s∨∃ a b c d,∀ k0:Bool→List PV→Bool→List PV→Bool→Option R,Uvv n (bs s) k0=k0 a b c d false:=by
 have hN:=UaC hn
 have sp:=fun k0=>Ufz (R:=R) n s (by omega) (by omega) k0
 have lt:(s.take (idx s)).length<2 ^ 17:=by rw [List.length_take]; omega
 have lb:(if idx s<s.length then s.drop (idx s + 1) else [49]).length<2 ^ 17:=by
  split
  · rw [List.length_drop]; omega
  · simp
 have hspl:s.take (idx s)=s.take (idx s):=rfl
 generalize s.take (idx s)=t at *
 generalize (if idx s<s.length then s.drop (idx s + 1) else [49])=b at *
 have v1:=fun k=>UeY (R:=R) n t (by omega) (by omega) k
 have v2:=fun k=>UeY (R:=R) n b (by omega) (by omega) k
 cases hI:Ui3 t with
 | false =>
  rw [hI] at v1
  exact Or.inr ⟨false,[],false,[],fun k0=>by rw [sp]; simp only [UaR,v1,Bool.not_false,UaL]⟩
 | true =>
  rw [hI] at v1
  cases hJ:Ui3 b with
  | false =>
   rw [hJ] at v2
   exact Or.inr ⟨false,[],false,[],fun k0=>by rw [sp]; simp only [UaR,v1,v2,Bool.not_false,Bool.not_true,UaL,Uam]⟩
  | true =>
   rw [hJ] at v2
   obtain ⟨z,hz,rfl⟩:=Uet hI
   obtain ⟨w,hw,rfl⟩:=Uet hJ
   by_cases hw0:w=0
   · subst hw0
     have o2:=fun k=>Uth (R:=R) n 0 (by rw [show (0:Int).natAbs=0 from rfl,UbJ]; omega) hN k
     have e1:(((ll (0:Int).natAbs:Nat):Int) == 0)=true:=by rw [show (0:Int).natAbs=0 from rfl,UbJ]; rfl
     exact Or.inr ⟨false,[],false,[],fun k0=>by rw [sp]; simp only [UaR,UeB,v1,v2,o2,p77,Uap,e1,Bool.not_false,Bool.not_true,UaL,Uam]⟩
   · have hc:=fun k0=>Uf3 (R:=R) n hn s z w hz hw hw0 false false k0
     by_cases he:Uag (Rat.divInt z w)=s
     · exact Or.inl ⟨Rat.divInt z w,⟨Nat.lt_of_le_of_lt (Uvu z w hw0) hz,Nat.lt_of_le_of_lt (UuN z w hw0) hw⟩,he.symm⟩
     · have e2:(Uag (Rat.divInt z w) == s)=false:=by simpa using he
       rw [e2] at hc
       exact Or.inr ⟨_,_,_,_,fun k0=>by rw [sp,hc]⟩
theorem Usd (n:Nat) (hn:10 ^ 400≤n) (s:List UInt8) (hs:s.length<2 ^ 17) (h:¬ isQ s):∃ a b c d,∀ k0:Bool→List PV→Bool→List PV→Bool→Option R,Uvv n (bs s) k0=k0 a b c d false :=
 (UtU n hn s hs).resolve_left h
end Go.Proofs.YtmgfmlhdnadglaaGreatDoor
set_option linter.unusedVariables false
set_option maxRecDepth 100000
namespace Go.Proofs.YtmgfmlhdnadglaaGreatDoor
open Go Th Go.Proofs
noncomputable section
variable {R:Type}
def UgM:Ann:={ loops:=[(2,ids [5,6,7],ids [2])],cuts:=[],frz:=[],rm:=[.id] }
abbrev UxR (n:Nat):Env:=eC 53 (Uyd n) eN
theorem UpI (n:Nat):EnvOK Tryz.prog GI (UxR n):=.cons (.nil) (Uz1 n)
def UhE (n:Nat) (l0:LP→Int→Int→O R) (x1:LP) (x2 x3:Int) (k0:Bool→O R) (k1:O R):O R :=
 bif (decide (x3<x2)) then (bif (inR x3 ((x1).length)) then (Jj3 ((x1).getD ((x3:Int).toNat) (.v (.bool false))) fun e4=>p53 n e4 (fun y5=>bif (!y5) then (k0 false) else (l0 x1 x2 (IntKind.i64.wrap (x3 + 1))))) else none) else (k1)
def UdD (n:Nat):Nat→LP→Int→Int→(Bool→O R)→(O R)→O R
 | 0,_,_,_,_,_=>none
 | m + 1,x1,x2,x3,k0,k1=>UhE n (fun x1 x2 x3=>UdD n m x1 x2 x3 k0 k1) x1 x2 x3 k0 k1
def UvP (n:Nat) (x1:LP) (x2 x3:Int) (k0:Bool→O R) (k1:O R):O R:=UdD n n x1 x2 x3 k0 k1
def p66 (n:Nat) (x1:LP) (k0:Bool→O R):O R :=
 UvP n x1 ((x1).length:Int) 0 (fun y2=>k0 y2) (k0 true)
abbrev E66 (n:Nat):Code→Fr→Kc R→O R:=evC Tryz.prog (UxR n) UgM n (15,[])
noncomputable def Uuv:Code:=Jj4 (Jll Tryz.f66) [1,0,1,0,0]
abbrev Ugq:Sl (List SV):=(cH (cI (cI .n)))
abbrev UqW (n m:Nat) (K:Kc R):Ugq.T (O R):=fun x1 x2 x3=>UdD n m x1 x2 x3 (fun y1=>xL UgM 2 K .ret [vB y1]) (xL UgM 2 K (.exit 0) [dD])
abbrev UAw (n:Nat) (K:Kc R) (l0:Ugq.T (O R)):Ugq.T (O R):=fun x1 x2 x3=>UhE n l0 x1 x2 x3 (fun y1=>xL UgM 2 K .ret [vB y1]) (xL UgM 2 K (.exit 0) [dD])
abbrev UJI (n:Nat):Orc R:=oL UgM (E66 n) n 2 Uuv Ugq (UqW n n) oN
abbrev UIA (n:Nat):Orc R:=oN
abbrev K66 (R:Type) (n:Nat):=JcH (R:=R) Tryz.prog (UxR n) UgM n (15,[]) (UJI n) (UIA n)
theorem UDA (n:Nat):K66 R n (false,2,Uuv):=JkF (lo:=UJI n) (cu:=UIA n) (pO pN (by kernel_rfl)) Ugq (UqW n n) (JiE (F:=UqW n) Ugq (UAw n) (fun K _ _ _=>rfl) (fun _ _=>rfl) (fun L K _ _ _=>by show _=_; kernel_rfl) n) fun _ _=>rfl
theorem UNg (n:Nat):Je6 (K66 R n) (JaJ UgM (Jll Tryz.f66)):=pO (pC (UDA n) pN) (by kernel_rfl)
abbrev t66:Sl (List SV):=(cH .n)
abbrev f66 (n:Nat) (K:List SV→O R):t66.T (O R):=fun x1=>p66 n x1 (fun y1=>K [vB y1])
abbrev UFu (n:Nat):FS:=fT [false] t66 (f66 n)
theorem UJZ (n:Nat):FSound Tryz.prog GI 66 (UFu n):=gd UgM n (UpI n) Tryz.func66 (.cons (UpI n) t66 (f66 n) (fun K _=>(Jkq (c:=Jll Tryz.f66) (by kernel_rfl) (UNg n) K).trans (by kernel_rfl)) .nil) (by kernel_rfl)
def UwB:Ann:={ loops:=[],cuts:=[],frz:=[],rm:=[.id] }
abbrev UBr (n:Nat):Env:=eC 109 (Ux5 n) eN
theorem UpZ (n:Nat):EnvOK Tryz.prog GI (UBr n):=.cons (.nil) (UCv n)
def p84 (n:Nat) (x1:ByteArray) (k0:Bool→O R):O R :=
 Uvv n x1 (fun y2 y3 y4 y5 y6=>k0 y6)
abbrev ULO (n:Nat):Orc R:=oN
abbrev UK9 (n:Nat):Orc R:=oN
abbrev K84 (R:Type) (n:Nat):=JcH (R:=R) Tryz.prog (UBr n) UwB n (11,[]) (ULO n) (UK9 n)
theorem UNx (n:Nat):Je6 (K84 R n) (JaJ UwB (Jll Tryz.f84)):=pO pN (by kernel_rfl)
abbrev t84:Sl (List SV):=(cS .n)
abbrev f84 (n:Nat) (K:List SV→O R):t84.T (O R):=fun x1=>p84 n x1 (fun y1=>K [vB y1])
abbrev UEt (n:Nat):FS:=fT [false] t84 (f84 n)
theorem UGH (n:Nat):FSound Tryz.prog GI 84 (UEt n):=gd UwB n (UpZ n) Tryz.func84 (.cons (UpZ n) t84 (f84 n) (fun K _=>(Jkq (c:=Jll Tryz.f84) (by kernel_rfl) (UNx n) K).trans (by kernel_rfl)) .nil) (by kernel_rfl)
def UgJ:Ann:={ loops:=[(2,ids [0,3],ids [2])],cuts:=[],frz:=[],rm:=[.id] }
abbrev UxI (n:Nat):Env:=eC 84 (UEt n) eN
theorem Upq (n:Nat):EnvOK Tryz.prog GI (UxI n):=.cons (.nil) (UGH n)
def Uhv (n:Nat) (l0:LP→Int→O R) (x1:LP) (x2:Int) (k0:Bool→O R) (k1:O R):O R :=
 bif (decide (x2<((x1).length:Int))) then (bif (inR x2 ((x1).length)) then (Jj3 ((x1).getD ((x2:Int).toNat) (.v (.bool false))) fun e3=>p84 n e3 (fun y4=>bif (!y4) then (k0 false) else (l0 x1 (IntKind.i64.wrap (x2 + 1))))) else none) else (k1)
def Udx (n:Nat):Nat→LP→Int→(Bool→O R)→(O R)→O R
 | 0,_,_,_,_=>none
 | m + 1,x1,x2,k0,k1=>Uhv n (fun x1 x2=>Udx n m x1 x2 k0 k1) x1 x2 k0 k1
def UvJ (n:Nat) (x1:LP) (x2:Int) (k0:Bool→O R) (k1:O R):O R:=Udx n n x1 x2 k0 k1
def p41 (n:Nat) (x1:LP) (k0:Bool→O R):O R :=
 UvJ n x1 0 (fun y2=>k0 y2) (k0 true)
abbrev E41 (n:Nat):Code→Fr→Kc R→O R:=evC Tryz.prog (UxI n) UgJ n (16,[])
noncomputable def Uum:Code:=Jj4 (Jll Tryz.f41) [1,0,1,0,0]
abbrev Ugh:Sl (List SV):=(cH (cI .n))
abbrev UqK (n m:Nat) (K:Kc R):Ugh.T (O R):=fun x1 x2=>Udx n m x1 x2 (fun y1=>xL UgJ 2 K .ret [vB y1]) (xL UgJ 2 K (.exit 0) [dD])
abbrev UAn (n:Nat) (K:Kc R) (l0:Ugh.T (O R)):Ugh.T (O R):=fun x1 x2=>Uhv n l0 x1 x2 (fun y1=>xL UgJ 2 K .ret [vB y1]) (xL UgJ 2 K (.exit 0) [dD])
abbrev UJE (n:Nat):Orc R:=oL UgJ (E41 n) n 2 Uum Ugh (UqK n n) oN
abbrev UIw (n:Nat):Orc R:=oN
abbrev K41 (R:Type) (n:Nat):=JcH (R:=R) Tryz.prog (UxI n) UgJ n (16,[]) (UJE n) (UIw n)
theorem UDq (n:Nat):K41 R n (false,2,Uum):=JkF (lo:=UJE n) (cu:=UIw n) (pO pN (by kernel_rfl)) Ugh (UqK n n) (JiE (F:=UqK n) Ugh (UAn n) (fun K _ _=>rfl) (fun _ _=>rfl) (fun L K _ _=>by show _=_; kernel_rfl) n) fun _ _=>rfl
theorem UMZ (n:Nat):Je6 (K41 R n) (JaJ UgJ (Jll Tryz.f41)):=pO (pC (UDq n) pN) (by kernel_rfl)
abbrev t41:Sl (List SV):=(cH .n)
abbrev f41 (n:Nat) (K:List SV→O R):t41.T (O R):=fun x1=>p41 n x1 (fun y1=>K [vB y1])
abbrev UI8 (n:Nat):FS:=fT [false] t41 (f41 n)
theorem UMb (n:Nat):FSound Tryz.prog GI 41 (UI8 n):=gd UgJ n (Upq n) Tryz.func41 (.cons (Upq n) t41 (f41 n) (fun K _=>(Jkq (c:=Jll Tryz.f41) (by kernel_rfl) (UMZ n) K).trans (by kernel_rfl)) .nil) (by kernel_rfl)
end
end Go.Proofs.YtmgfmlhdnadglaaGreatDoor
set_option linter.unusedVariables false
set_option linter.unusedSimpArgs false
namespace Go.Proofs.YtmgfmlhdnadglaaGreatDoor
open Go Th Go.Proofs
variable {R:Type}
theorem Ues {α β:Type} (f:α→β) {l:List α} {i:Nat} {d:β} (h:i<l.length):(l.map f).getD i d=f l[i]:=by
 rw [List.getD_eq_getElem?_getD,List.getElem?_map,List.getElem?_eq_getElem h]; rfl
abbrev TermT:=Int × List UInt8
def tPV (t:TermT):PV:=.agg [.v (.int .i64 t.1),.v (.string (bs t.2))]
def tms (l:List TermT):List PV:=l.map tPV
theorem Ua (l:List TermT):(tms l).length=l.length:=by unfold tms; rw [List.length_map]
theorem Uar {l:List TermT} {i:Nat} {d:PV} (h:i<l.length) (K:Int→ByteArray→Option R) :
 (Jh2 ((tms l).getD i d) fun a=>JdT a fun h1 t1=>Jj .i64 h1 fun e1=>JdT t1 fun h2 t2=>Jj3 h2 fun e2=>Ji2 t2 (K e1 e2))=K (l[i]).1 (bs (l[i]).2):=by
 unfold tms; rw [Ues tPV h]; rfl
structure RowT where
 tm:List TermT
 c:List UInt8
 eq:Bool
 mark:Int
def rPV (r:RowT):PV:=.agg [.sh (tms r.tm),.v (.string (bs r.c)),.v (.bool r.eq),.v (.int .i64 r.mark)]
def rws (l:List RowT):List PV:=l.map rPV
theorem Uaf (l:List RowT):(rws l).length=l.length:=by unfold rws; rw [List.length_map]
theorem UbP {l:List RowT} {i:Nat} {d:PV} (h:i<l.length) (K:List PV→ByteArray→Bool→Int→Option R) :
 (Jh2 ((rws l).getD i d) fun a=>JdT a fun h1 t1=>Jkr h1 fun e1=>JdT t1 fun h2 t2=>Jj3 h2 fun e2=>JdT t2 fun h3 t3=>Jj2 h3 fun e3=>JdT t3 fun h4 t4=>Jj .i64 h4 fun e4=>Ji2 t4 (K e1 e2 e3 e4)) =
   K (tms (l[i]).tm) (bs (l[i]).c) (l[i]).eq (l[i]).mark:=by
 unfold rws; rw [Ues rPV h]; rfl
def qPV (q:Rat):PV:=.agg [.v (.bool (sg q.num)),.sh (II q.num.natAbs),.v (.bool false),.sh (II q.den)]
def qs (l:List Rat):List PV:=l.map qPV
theorem UaP (l:List Rat):(qs l).length=l.length:=by unfold qs; rw [List.length_map]
theorem Ufv {l:List Rat} {i:Nat} {d:PV} (h:i<l.length) (K:Bool→List PV→Bool→List PV→Option R) :
 (Jh2 ((qs l).getD i d) fun a=>JdT a fun h1 t1=>Jj2 h1 fun e1=>JdT t1 fun h2 t2=>Jkr h2 fun e2=>JdT t2 fun h3 t3=>Jj2 h3 fun e3=>JdT t3 fun h4 t4=>Jkr h4 fun e4=>Ji2 t4 (K e1 e2 e3 e4)) =
   K (sg (l[i]).num) (II (l[i]).num.natAbs) false (II (l[i]).den):=by
 unfold qs; rw [Ues qPV h]; rfl
theorem UmI (l:List Rat) (i:Nat) (q:Rat):(qs l).set i (.agg [.v (.bool (sg q.num)),.sh (II q.num.natAbs),.v (.bool false),.sh (II q.den)])=qs (l.set i q):=by
 unfold qs; rw [List.map_set]; rfl
theorem UDR (l:List Rat) (q:Rat):qs l++[.agg [.v (.bool (sg q.num)),.sh (II q.num.natAbs),.v (.bool false),.sh (II q.den)]]=qs (l++[q]):=by
 unfold qs; rw [List.map_append]; rfl
theorem UfL {l:List (List UInt8)} {i:Nat} {d:PV} (h:i<l.length) (K:ByteArray→Option R):Jj3 ((sl l).getD i d) K=K (bs l[i]):=by
 unfold sl; rw [Ues _ h]; rfl
theorem Ua0 {α:Type} {l:List α} {i:Nat} (h:i<l.length):l.drop i=l[i]::l.drop (i + 1):=List.drop_eq_getElem_cons h
theorem Uau {α:Type} {l:List α} {ok:α→Bool} {kbad kend:Option R} (L:Nat→Nat→Option R) (hend:∀ m,L (m + 1) l.length=kend)
 (hstep:∀ m i (h:i<l.length),L (m + 1) i=if ok l[i] then L m (i + 1) else kbad):∀ (d m i:Nat),d + i=l.length→d<m→L m i=if (l.drop i).all ok then kend else kbad
 | 0,m + 1,i,hd,hm=>by
  have:i=l.length:=by omega
  subst this
  rw [hend,List.drop_length]; rfl
 | d + 1,m + 1,i,hd,hm=>by
  have hi:i<l.length:=by omega
  rw [hstep m i hi,Uau L hend hstep d m (i + 1) (by omega) (by omega),Ua0 hi,List.all_cons]
  cases ok l[i] <;> simp
def UvY {α σ:Type} (step:σ→α→(σ→Option R)→Option R) (kend:σ→Option R):σ→List α→Option R
 | s,[]=>kend s
 | s,a::l=>step s a fun s'=>UvY step kend s' l
theorem UfA {α σ:Type} {l:List α} {step:σ→α→(σ→Option R)→Option R} {kend:σ→Option R} (L:Nat→σ→Nat→Option R) (hend:∀ m s,L (m + 1) s l.length=kend s)
 (hstep:∀ m s i (h:i<l.length),L (m + 1) s i=step s l[i] fun s'=>L m s' (i + 1)):∀ (d m i:Nat) (s:σ),d + i=l.length→d<m→L m s i=UvY step kend s (l.drop i)
 | 0,m + 1,i,s,hd,hm=>by
  have:i=l.length:=by omega
  subst this
  rw [hend,List.drop_length]; rfl
 | d + 1,m + 1,i,s,hd,hm=>by
  have hi:i<l.length:=by omega
  rw [hstep m s i hi,Ua0 hi]
  show step s l[i] _=step s l[i] _
  congr 1
  funext s'
  exact UfA L hend hstep d m (i + 1) s' (by omega) (by omega)
theorem Uja {a b:List UInt8} (h:a=b):(a == b)=true:=by rw [h]; exact beq_self_eq_true b
theorem Uis {a b:List UInt8} (h:¬ a=b):(a == b)=false:=by rw [Bool.eq_false_iff]; intro q; exact h (eq_of_beq q)
theorem i1 (i:Nat):(i:Int) + 1=((i + 1:Nat):Int):=by omega
noncomputable def qb (s:List UInt8):Bool:=@decide (isQ s) (Classical.propDecidable _)
theorem UDQ {s:List UInt8}:qb s=true↔isQ s:=by unfold qb; exact @decide_eq_true_iff _ (Classical.propDecidable _)
theorem Uef (n:Nat) (hn:10 ^ 400≤n) (s:List UInt8) (hs:s.length<2 ^ 17) (k0:Bool→Option R):p53 n (bs s) k0=k0 (qb s):=@Unl R n hn s (Nat.lt_trans hs (by decide)) k0 (Classical.propDecidable _)
theorem Ud (n:Nat) (hn:10 ^ 400≤n) (s:List UInt8) (hs:s.length<2 ^ 17) (k0:Bool→Option R):p84 n (bs s) k0=k0 (qb s):=by
 unfold p84
 cases h:qb s with
 | true =>
  obtain ⟨q,h1,rfl⟩:=UDQ.1 h
  rw [UmN n hn q h1]
 | false =>
  obtain ⟨a,b,c,d,h2⟩:=Usd (R:=R) n hn s hs (fun q=>by rw [UDQ.2 q] at h; cases h)
  rw [h2]
noncomputable def UzQ (l:List (List UInt8)):Bool:=l.all qb
def smS (l:List (List UInt8)):Prop:=l.length<2 ^ 17∧∀ s∈l,s.length<2 ^ 17
theorem Um9 (n:Nat) (hn:10 ^ 400≤n) (l:List (List UInt8)) (hl:smS l) (k0:Bool→Option R):p66 n (sl l) k0=k0 (UzQ l):=by
 have hN:=UaC hn
 have hL:=hl.1
 unfold p66 UvP
 have h:=Uau (R:=R) (l:=l) (ok:=qb) (kbad:=k0 false) (kend:=k0 true) (fun m i=>UdD n m (sl l) ((sl l).length:Int) (i:Int) k0 (k0 true))
  (fun m=>by simp only [UdD,UhE]; simp (disch:=(first | omega | (simp only [JlE]; omega))) only [↓JlH,JlF,Uaw])
  (fun m i hi=>by
    have hv:=fun k=>Uef (R:=R) n hn l[i] (hl.2 _ (List.getElem_mem hi)) k
    simp only [UdD,UhE]
    simp (disch:=(first | omega | (simp only [JlE]; omega))) only [↓JlH,JlF,Uaw,Jji,UfL hi,hv,i1]
    cases qb l[i] <;> rfl) l.length n 0 (by omega) (by omega)
 rw [List.drop_zero] at h
 refine Eq.trans h ?_
 unfold UzQ
 cases l.all qb <;> rfl
theorem Ukc (n:Nat) (hn:10 ^ 400≤n) (l:List (List UInt8)) (hl:smS l) (k0:Bool→Option R):p41 n (sl l) k0=k0 (UzQ l):=by
 have hN:=UaC hn
 have hL:=hl.1
 unfold p41 UvJ
 have h:=Uau (R:=R) (l:=l) (ok:=qb) (kbad:=k0 false) (kend:=k0 true) (fun m i=>Udx n m (sl l) (i:Int) k0 (k0 true))
  (fun m=>by simp only [Udx,Uhv]; simp (disch:=(first | omega | (simp only [JlE]; omega))) only [↓JlH,JlF,Uaw])
  (fun m i hi=>by
    have hv:=fun k=>Ud (R:=R) n hn l[i] (hl.2 _ (List.getElem_mem hi)) k
    simp only [Udx,Uhv]
    simp (disch:=(first | omega | (simp only [JlE]; omega))) only [↓JlH,JlF,Uaw,Jji,UfL hi,hv,i1]
    cases qb l[i] <;> rfl) l.length n 0 (by omega) (by omega)
 rw [List.drop_zero] at h
 refine Eq.trans h ?_
 unfold UzQ
 cases l.all qb <;> rfl
end Go.Proofs.YtmgfmlhdnadglaaGreatDoor
set_option linter.unusedVariables false
set_option maxRecDepth 100000
namespace Go.Proofs.YtmgfmlhdnadglaaGreatDoor
open Go Th Go.Proofs
noncomputable section
variable {R:Type}
def UcG:Ann:={ loops:=[(3,ids [1,2,5,9,10,11],ids [2,4])],cuts:=[],frz:=[],rm:=[.id] }
abbrev UoJ (n:Nat):Env:=eC 53 (Uyd n) eN
theorem Ulq (n:Nat):EnvOK Tryz.prog GI (UoJ n):=.cons (.nil) (Uz1 n)
def UeA (n:Nat) (l0:Int→LP→ByteArray→Bool→Int→Int→LP→Int→Int→O R) (x1:Int) (x2:LP) (x3:ByteArray) (x4:Bool) (x5 x6:Int) (x7:LP) (x8 x9:Int) (k0:LP→ByteArray→Bool→Int→Bool→O R) (k1:LP→ByteArray→Bool→Int→O R):O R :=
 bif (decide (x9<x8)) then (bif (inR x9 ((x7).length)) then (Jh2 ((x7).getD ((x9:Int).toNat) (.v (.bool false))) fun a10=>JdT a10 fun h11 t12=>Jj .i64 h11 fun e13=>JdT t12 fun h14 t15=>Jj3 h14 fun e16=>Ji2 t15 (bif (decide (e13≤x6)) then (k0 x2 x3 x4 x5 false) else (bif (bif false then true else (decide (e13≥x1))) then (k0 x2 x3 x4 x5 false) else (bif (bif false then true else eqS e16 (⟨#[48]⟩:ByteArray)) then (k0 x2 x3 x4 x5 false) else (p53 n e16 (fun y17=>bif (bif false then true else (!y17)) then (k0 x2 x3 x4 x5 false) else (l0 x1 x2 x3 x4 x5 e13 x7 x8 (IntKind.i64.wrap (x9 + 1))))))))) else none) else (k1 x2 x3 x4 x5)
def UbX (n:Nat):Nat→Int→LP→ByteArray→Bool→Int→Int→LP→Int→Int→(LP→ByteArray→Bool→Int→Bool→O R)→(LP→ByteArray→Bool→Int→O R)→O R
 | 0,_,_,_,_,_,_,_,_,_,_,_=>none
 | m + 1,x1,x2,x3,x4,x5,x6,x7,x8,x9,k0,k1=>UeA n (fun x1 x2 x3 x4 x5 x6 x7 x8 x9=>UbX n m x1 x2 x3 x4 x5 x6 x7 x8 x9 k0 k1) x1 x2 x3 x4 x5 x6 x7 x8 x9 k0 k1
def Ury (n:Nat) (x1:Int) (x2:LP) (x3:ByteArray) (x4:Bool) (x5 x6:Int) (x7:LP) (x8 x9:Int) (k0:LP→ByteArray→Bool→Int→Bool→O R) (k1:LP→ByteArray→Bool→Int→O R):O R:=UbX n n x1 x2 x3 x4 x5 x6 x7 x8 x9 k0 k1
def UEG (n:Nat) (x1:LP) (x2:ByteArray) (x3:Bool) (x4 x5:Int) (k0:Bool→O R):O R :=
 Ury n x5 x1 x2 x3 x4 (-1) x1 ((x1).length:Int) 0 (fun y6 y7 y8 y9 y10=>k0 y10) (fun y11 y12 y13 y14=>p53 n y12 (fun y15=>k0 y15))
abbrev UKg (n:Nat):Code→Fr→Kc R→O R:=evC Tryz.prog (UoJ n) UcG n (42,[])
noncomputable def UnM:Code:=Jj4 (Jll Tryz.f107) [1,1,0,1,0,0]
abbrev UdS:Sl (List SV):=(cI (.c (sBx 70 (cH (cS (cB (cI .n))))) (cI (cH (cI (cI .n))))))
abbrev Ujo (n m:Nat) (K:Kc R):UdS.T (O R):=fun x1 x2 x3 x4 x5 x6 x7 x8 x9=>UbX n m x1 x2 x3 x4 x5 x6 x7 x8 x9 (fun y1 y2 y3 y4 y5=>xL UcG 3 K .ret [.bx 70 [vH y1,vS y2,vB y3,vI y4],vB y5]) (fun y1 y2 y3 y4=>xL UcG 3 K (.exit 0) [.bx 70 [vH y1,vS y2,vB y3,vI y4],dD])
abbrev UwP (n:Nat) (K:Kc R) (l0:UdS.T (O R)):UdS.T (O R):=fun x1 x2 x3 x4 x5 x6 x7 x8 x9=>UeA n l0 x1 x2 x3 x4 x5 x6 x7 x8 x9 (fun y1 y2 y3 y4 y5=>xL UcG 3 K .ret [.bx 70 [vH y1,vS y2,vB y3,vI y4],vB y5]) (fun y1 y2 y3 y4=>xL UcG 3 K (.exit 0) [.bx 70 [vH y1,vS y2,vB y3,vI y4],dD])
abbrev UCl (n:Nat):Orc R:=oL UcG (UKg n) n 3 UnM UdS (Ujo n n) oN
abbrev UAO (n:Nat):Orc R:=oN
abbrev UIg (R:Type) (n:Nat):=JcH (R:=R) Tryz.prog (UoJ n) UcG n (42,[]) (UCl n) (UAO n)
theorem UyI (n:Nat):UIg R n (false,3,UnM):=JkF (lo:=UCl n) (cu:=UAO n) (pO pN (by kernel_rfl)) UdS (Ujo n n) (JiE (F:=Ujo n) UdS (UwP n) (fun K _ _ _ _ _ _ _ _ _=>rfl) (fun _ _=>rfl) (fun L K _ _ _ _ _ _ _ _ _=>by show _=_; kernel_rfl) n) fun _ _=>rfl
theorem UGY (n:Nat):Je6 (UIg R n) (JaJ UcG (Jll Tryz.f107)):=pO (pC (UyI n) pN) (by kernel_rfl)
abbrev UHE:Sl (List SV):=(.c (sP (JlI (.c sSh (.c Jly (.c Jlf (.c (Jlv .i64) .n)))))) (cI .n))
abbrev f107 (n:Nat) (K:List SV→O R):UHE.T (O R):=fun x1 x2 x3 x4 x5=>UEG n x1 x2 x3 x4 x5 (fun y1=>K [vB y1])
abbrev UBN (n:Nat):FS:=fT [false,false] UHE (f107 n)
theorem UG (n:Nat):FSound Tryz.prog GI 107 (UBN n):=gd UcG n (Ulq n) Tryz.func107 (.cons (Ulq n) UHE (f107 n) (fun K _ _ _ _ _=>(Jkq (c:=Jll Tryz.f107) (by kernel_rfl) (UGY n) K).trans (by kernel_rfl)) .nil) (by kernel_rfl)
def Uno:Ann:={ loops:=[],cuts:=[],frz:=[],rm:=[.id] }
abbrev UuP (n:Nat):Env:=eC 107 (UBN n) eN
theorem Ulp (n:Nat):EnvOK Tryz.prog GI (UuP n):=.cons (.nil) (UG n)
def UGK (n:Nat) (x1:LP) (x2:ByteArray) (x3:Bool) (x4 x5:Int) (x6:LP) (k0:Bool→O R):O R :=
 UEG n x1 x2 x3 x4 x5 (fun y7=>k0 (!y7))
abbrev UFI (n:Nat):Orc R:=oN
abbrev UEY (n:Nat):Orc R:=oN
abbrev UKp (R:Type) (n:Nat):=JcH (R:=R) Tryz.prog (UuP n) Uno n (9,[]) (UFI n) (UEY n)
theorem UGX (n:Nat):Je6 (UKp R n) (JaJ Uno (Jll Tryz.f106)):=pO pN (by kernel_rfl)
abbrev UHD:Sl (List SV):=(.c (sP (JlI (.c sSh (.c Jly (.c Jlf (.c (Jlv .i64) .n)))))) (.c (sP (sFb (.c (Jlv .i64) (.c sSh .n)))) .n))
abbrev f106 (n:Nat) (K:List SV→O R):UHD.T (O R):=fun x1 x2 x3 x4 x5 x6=>UGK n x1 x2 x3 x4 x5 x6 (fun y1=>K [vB y1])
abbrev UBM (n:Nat):FS:=fT [false,false] UHD (f106 n)
theorem UF9 (n:Nat):FSound Tryz.prog GI 106 (UBM n):=gd Uno n (Ulp n) Tryz.func106 (.cons (Ulp n) UHD (f106 n) (fun K _ _ _ _ _ _=>(Jkq (c:=Jll Tryz.f106) (by kernel_rfl) (UGX n) K).trans (by kernel_rfl)) .nil) (by kernel_rfl)
def UcK:Ann:={ loops:=[(2,ids [0,1,7,8],ids [4])],cuts:=[],frz:=[],rm:=[.id] }
abbrev UoT (n:Nat):Env:=eC 106 (UBM n) eN
theorem UlK (n:Nat):EnvOK Tryz.prog GI (UoT n):=.cons (.nil) (UF9 n)
def UeJ (n:Nat) (l0:LP→Int→LP→Int→Int→O R) (x1:LP) (x2:Int) (x3:LP) (x4 x5:Int) (k0:Int→O R) (k1:O R):O R :=
 bif (decide (x5<x4)) then (bif (inR x5 ((x1).length)) then (Jh2 ((x1).getD ((x5:Int).toNat) (.v (.bool false))) fun a6=>JdT a6 fun h7 t8=>Jkr h7 fun e9=>JdT t8 fun h10 t11=>Jj3 h10 fun e12=>JdT t11 fun h13 t14=>Jj2 h13 fun e15=>JdT t14 fun h16 t17=>Jj .i64 h16 fun e18=>Ji2 t17 (UGK n e9 e12 e15 e18 x2 x3 (fun y19=>bif y19 then (k0 x5) else (l0 x1 x2 x3 x4 (IntKind.i64.wrap (x5 + 1)))))) else none) else (k1)
def Ubp (n:Nat):Nat→LP→Int→LP→Int→Int→(Int→O R)→(O R)→O R
 | 0,_,_,_,_,_,_,_=>none
 | m + 1,x1,x2,x3,x4,x5,k0,k1=>UeJ n (fun x1 x2 x3 x4 x5=>Ubp n m x1 x2 x3 x4 x5 k0 k1) x1 x2 x3 x4 x5 k0 k1
def UrG (n:Nat) (x1:LP) (x2:Int) (x3:LP) (x4 x5:Int) (k0:Int→O R) (k1:O R):O R:=Ubp n n x1 x2 x3 x4 x5 k0 k1
def UGO (n:Nat) (x1:LP) (x2:Int) (x3:LP) (k0:Int→O R):O R :=
 UrG n x1 x2 x3 ((x1).length:Int) 0 (fun y4=>k0 y4) (k0 (-1))
abbrev UKk (n:Nat):Code→Fr→Kc R→O R:=evC Tryz.prog (UoT n) UcK n (19,[])
noncomputable def Un4:Code:=Jj4 (Jll Tryz.f135) [1,0,1,0,0]
abbrev Ud0:Sl (List SV):=(cH (.c (sP (JlJ 106 (.c (sFb (.c (Jlv .i64) (.c sSh .n))) .n))) (cI (cI .n))))
abbrev Ujw (n m:Nat) (K:Kc R):Ud0.T (O R):=fun x1 x2 x3 x4 x5=>Ubp n m x1 x2 x3 x4 x5 (fun y1=>xL UcK 2 K .ret [vI y1]) (xL UcK 2 K (.exit 0) [dD])
abbrev UwX (n:Nat) (K:Kc R) (l0:Ud0.T (O R)):Ud0.T (O R):=fun x1 x2 x3 x4 x5=>UeJ n l0 x1 x2 x3 x4 x5 (fun y1=>xL UcK 2 K .ret [vI y1]) (xL UcK 2 K (.exit 0) [dD])
abbrev UCp (n:Nat):Orc R:=oL UcK (UKk n) n 2 Un4 Ud0 (Ujw n n) oN
abbrev UAS (n:Nat):Orc R:=oN
abbrev UIk (R:Type) (n:Nat):=JcH (R:=R) Tryz.prog (UoT n) UcK n (19,[]) (UCp n) (UAS n)
theorem Uy1 (n:Nat):UIk R n (false,2,Un4):=JkF (lo:=UCp n) (cu:=UAS n) (pO pN (by kernel_rfl)) Ud0 (Ujw n n) (JiE (F:=Ujw n) Ud0 (UwX n) (fun K _ _ _ _ _=>rfl) (fun _ _=>rfl) (fun L K _ _ _ _ _=>by show _=_; kernel_rfl) n) fun _ _=>rfl
theorem UHh (n:Nat):Je6 (UIk R n) (JaJ UcK (Jll Tryz.f135)):=pO (pC (Uy1 n) pN) (by kernel_rfl)
abbrev UHT:Sl (List SV):=(cH (.c (sP (JlJ 106 (.c (sFb (.c (Jlv .i64) (.c sSh .n))) .n))) .n))
abbrev f135 (n:Nat) (K:List SV→O R):UHT.T (O R):=fun x1 x2 x3=>UGO n x1 x2 x3 (fun y1=>K [vI y1])
abbrev UB1 (n:Nat):FS:=fT [false,false] UHT (f135 n)
theorem UGn (n:Nat):FSound Tryz.prog GI 135 (UB1 n):=gd UcK n (UlK n) Tryz.func135 (.cons (UlK n) UHT (f135 n) (fun K _ _ _=>(Jkq (c:=Jll Tryz.f135) (by kernel_rfl) (UHh n) K).trans (by kernel_rfl)) .nil) (by kernel_rfl)
def Unn:Ann:={ loops:=[],cuts:=[],frz:=[],rm:=[.id] }
abbrev UuO (n:Nat):Env:=eC 135 (UB1 n) eN
theorem Ulo (n:Nat):EnvOK Tryz.prog GI (UuO n):=.cons (.nil) (UGn n)
def UGJ (n:Nat) (x1:LP) (x2:Int) (x3:LP) (k0:Bool→O R):O R :=
 UGO n x1 x2 x3 (fun y4=>k0 (decide (y4≥0)))
abbrev UFH (n:Nat):Orc R:=oN
abbrev UEX (n:Nat):Orc R:=oN
abbrev UKo (R:Type) (n:Nat):=JcH (R:=R) Tryz.prog (UuO n) Unn n (9,[]) (UFH n) (UEX n)
theorem UGW (n:Nat):Je6 (UKo R n) (JaJ Unn (Jll Tryz.f105)):=pO pN (by kernel_rfl)
abbrev t105:Sl (List SV):=(cH (.c (sP (JlJ 106 (.c (sFb (.c (Jlv .i64) (.c sSh .n))) .n))) .n))
abbrev f105 (n:Nat) (K:List SV→O R):t105.T (O R):=fun x1 x2 x3=>UGJ n x1 x2 x3 (fun y1=>K [vB y1])
abbrev UBL (n:Nat):FS:=fT [false,false] t105 (f105 n)
theorem UF8 (n:Nat):FSound Tryz.prog GI 105 (UBL n):=gd Unn n (Ulo n) Tryz.func105 (.cons (Ulo n) t105 (f105 n) (fun K _ _ _=>(Jkq (c:=Jll Tryz.f105) (by kernel_rfl) (UGW n) K).trans (by kernel_rfl)) .nil) (by kernel_rfl)
def Uwq:Ann:={ loops:=[],cuts:=[],frz:=[],rm:=[.id] }
abbrev UBg (n:Nat):Env:=eC 105 (UBL n) eN
theorem UpH (n:Nat):EnvOK Tryz.prog GI (UBg n):=.cons (.nil) (UF8 n)
def p65 (n:Nat) (x1:Int) (x2:LP) (k0:Int→O R):O R :=
 bif (decide (x1<0)) then (k0 2) else (bif (bif false then true else (decide (x1>2048))) then (k0 2) else (bif (decide (((x2).length:Int)>2048)) then (k0 6) else (UGJ n x2 x1 x2 (fun y3=>bif y3 then (k0 3) else (k0 0)))))
abbrev ULD (n:Nat):Orc R:=oN
abbrev UKY (n:Nat):Orc R:=oN
abbrev K65 (R:Type) (n:Nat):=JcH (R:=R) Tryz.prog (UBg n) Uwq n (19,[]) (ULD n) (UKY n)
theorem UNf (n:Nat):Je6 (K65 R n) (JaJ Uwq (Jll Tryz.f65)):=pO pN (by kernel_rfl)
abbrev t65:Sl (List SV):=(.c (sP (JlI (.c (Jlv .i64) (.c sSh .n)))) .n)
abbrev f65 (n:Nat) (K:List SV→O R):t65.T (O R):=fun x1 x2=>p65 n x1 x2 (fun y1=>K [vI y1])
abbrev UEr (n:Nat):FS:=fT [false] t65 (f65 n)
theorem UGF (n:Nat):FSound Tryz.prog GI 65 (UEr n):=gd Uwq n (UpH n) Tryz.func65 (.cons (UpH n) t65 (f65 n) (fun K _ _=>(Jkq (c:=Jll Tryz.f65) (by kernel_rfl) (UNf n) K).trans (by kernel_rfl)) .nil) (by kernel_rfl)
def UgO:Ann:={ loops:=[(3,ids [1,2,5,6],ids [2,4])],cuts:=[],frz:=[],rm:=[.id] }
abbrev UxX (n:Nat):Env:=eC 84 (UEt n) eN
theorem UpY (n:Nat):EnvOK Tryz.prog GI (UxX n):=.cons (.nil) (UGH n)
def UhK (n:Nat) (l0:Int→LP→ByteArray→Bool→Int→Int→Int→O R) (x1:Int) (x2:LP) (x3:ByteArray) (x4:Bool) (x5 x6 x7:Int) (k0:LP→ByteArray→Bool→Int→Bool→O R) (k1:LP→ByteArray→Bool→Int→O R):O R :=
 bif (decide (x7<((x2).length:Int))) then (bif (inR x7 ((x2).length)) then (Jh2 ((x2).getD ((x7:Int).toNat) (.v (.bool false))) fun a8=>JdT a8 fun h9 t10=>Jj .i64 h9 fun e11=>JdT t10 fun h12 t13=>Jj3 h12 fun e14=>Ji2 t13 (bif (decide (e11≤x6)) then (k0 x2 x3 x4 x5 false) else (bif (bif false then true else (decide (e11≥x1))) then (k0 x2 x3 x4 x5 false) else (bif (bif false then true else eqS e14 (⟨#[48]⟩:ByteArray)) then (k0 x2 x3 x4 x5 false) else (p84 n e14 (fun y15=>bif (bif false then true else (!y15)) then (k0 x2 x3 x4 x5 false) else (l0 x1 x2 x3 x4 x5 e11 (IntKind.i64.wrap (x7 + 1))))))))) else none) else (k1 x2 x3 x4 x5)
def UdH (n:Nat):Nat→Int→LP→ByteArray→Bool→Int→Int→Int→(LP→ByteArray→Bool→Int→Bool→O R)→(LP→ByteArray→Bool→Int→O R)→O R
 | 0,_,_,_,_,_,_,_,_,_=>none
 | m + 1,x1,x2,x3,x4,x5,x6,x7,k0,k1=>UhK n (fun x1 x2 x3 x4 x5 x6 x7=>UdH n m x1 x2 x3 x4 x5 x6 x7 k0 k1) x1 x2 x3 x4 x5 x6 x7 k0 k1
def UvT (n:Nat) (x1:Int) (x2:LP) (x3:ByteArray) (x4:Bool) (x5 x6 x7:Int) (k0:LP→ByteArray→Bool→Int→Bool→O R) (k1:LP→ByteArray→Bool→Int→O R):O R:=UdH n n x1 x2 x3 x4 x5 x6 x7 k0 k1
def p82 (n:Nat) (x1:LP) (x2:ByteArray) (x3:Bool) (x4 x5:Int) (k0:Bool→O R):O R :=
 UvT n x5 x1 x2 x3 x4 (-1) 0 (fun y6 y7 y8 y9 y10=>k0 y10) (fun y11 y12 y13 y14=>p84 n y12 (fun y15=>k0 y15))
abbrev E82 (n:Nat):Code→Fr→Kc R→O R:=evC Tryz.prog (UxX n) UgO n (46,[])
noncomputable def UuC:Code:=Jj4 (Jll Tryz.f82) [1,1,0,1,0,0]
abbrev Ugv:Sl (List SV):=(cI (.c (sBx 70 (cH (cS (cB (cI .n))))) (cI (cI .n))))
abbrev Uq4 (n m:Nat) (K:Kc R):Ugv.T (O R):=fun x1 x2 x3 x4 x5 x6 x7=>UdH n m x1 x2 x3 x4 x5 x6 x7 (fun y1 y2 y3 y4 y5=>xL UgO 3 K .ret [.bx 70 [vH y1,vS y2,vB y3,vI y4],vB y5]) (fun y1 y2 y3 y4=>xL UgO 3 K (.exit 0) [.bx 70 [vH y1,vS y2,vB y3,vI y4],dD])
abbrev UAB (n:Nat) (K:Kc R) (l0:Ugv.T (O R)):Ugv.T (O R):=fun x1 x2 x3 x4 x5 x6 x7=>UhK n l0 x1 x2 x3 x4 x5 x6 x7 (fun y1 y2 y3 y4 y5=>xL UgO 3 K .ret [.bx 70 [vH y1,vS y2,vB y3,vI y4],vB y5]) (fun y1 y2 y3 y4=>xL UgO 3 K (.exit 0) [.bx 70 [vH y1,vS y2,vB y3,vI y4],dD])
abbrev UJN (n:Nat):Orc R:=oL UgO (E82 n) n 3 UuC Ugv (Uq4 n n) oN
abbrev UIF (n:Nat):Orc R:=oN
abbrev K82 (R:Type) (n:Nat):=JcH (R:=R) Tryz.prog (UxX n) UgO n (46,[]) (UJN n) (UIF n)
theorem UDH (n:Nat):K82 R n (false,3,UuC):=JkF (lo:=UJN n) (cu:=UIF n) (pO pN (by kernel_rfl)) Ugv (Uq4 n n) (JiE (F:=Uq4 n) Ugv (UAB n) (fun K _ _ _ _ _ _ _=>rfl) (fun _ _=>rfl) (fun L K _ _ _ _ _ _ _=>by show _=_; kernel_rfl) n) fun _ _=>rfl
theorem UNw (n:Nat):Je6 (K82 R n) (JaJ UgO (Jll Tryz.f82)):=pO (pC (UDH n) pN) (by kernel_rfl)
abbrev t82:Sl (List SV):=(.c (sP (JlI (.c sSh (.c Jly (.c Jlf (.c (Jlv .i64) .n)))))) (cI .n))
abbrev f82 (n:Nat) (K:List SV→O R):t82.T (O R):=fun x1 x2 x3 x4 x5=>p82 n x1 x2 x3 x4 x5 (fun y1=>K [vB y1])
abbrev UJq (n:Nat):FS:=fT [false,false] t82 (f82 n)
theorem UMu (n:Nat):FSound Tryz.prog GI 82 (UJq n):=gd UgO n (UpY n) Tryz.func82 (.cons (UpY n) t82 (f82 n) (fun K _ _ _ _ _=>(Jkq (c:=Jll Tryz.f82) (by kernel_rfl) (UNw n) K).trans (by kernel_rfl)) .nil) (by kernel_rfl)
def Ue6:Ann:={ loops:=[(6,ids [1,3],ids [2])],cuts:=[(3,ids [1],ids [2])],frz:=[],rm:=[.id] }
abbrev UxH (n:Nat):Env:=eC 82 (UJq n) eN
theorem Upp (n:Nat):EnvOK Tryz.prog GI (UxH n):=.cons (.nil) (UMu n)
def Uhu (n:Nat) (l0:Int→LP→Int→O R) (x1:Int) (x2:LP) (x3:Int) (k0:Int→O R) (k1:O R):O R :=
 bif (decide (x3<((x2).length:Int))) then (bif (inR x3 ((x2).length)) then (Jh2 ((x2).getD ((x3:Int).toNat) (.v (.bool false))) fun a4=>JdT a4 fun h5 t6=>Jkr h5 fun e7=>JdT t6 fun h8 t9=>Jj3 h8 fun e10=>JdT t9 fun h11 t12=>Jj2 h11 fun e13=>JdT t12 fun h14 t15=>Jj .i64 h14 fun e16=>Ji2 t15 (p82 n e7 e10 e13 e16 x1 (fun y17=>bif (!y17) then (k0 3) else (l0 x1 x2 (IntKind.i64.wrap (x3 + 1)))))) else none) else (k1)
def Ucw (n:Nat):Nat→Int→LP→Int→(Int→O R)→(O R)→O R
 | 0,_,_,_,_,_=>none
 | m + 1,x1,x2,x3,k0,k1=>Uhu n (fun x1 x2 x3=>Ucw n m x1 x2 x3 k0 k1) x1 x2 x3 k0 k1
def UvI (n:Nat) (x1:Int) (x2:LP) (x3:Int) (k0:Int→O R) (k1:O R):O R:=Ucw n n x1 x2 x3 k0 k1
def UrW (n:Nat) (x1:Int) (x2:LP) (k0:Int→O R):O R :=
 bif (decide (((x2).length:Int)>2048)) then (k0 6) else (UvI n x1 x2 0 (fun y3=>k0 y3) (k0 0))
def p39 (n:Nat) (x1:Int) (x2:LP) (k0:Int→O R):O R :=
 bif (decide (x1<0)) then (k0 2) else (bif (bif false then true else (decide (x1>2048))) then (k0 2) else (UrW n x1 x2 (fun y3=>k0 y3)))
abbrev E39 (n:Nat):Code→Fr→Kc R→O R:=evC Tryz.prog (UxH n) Ue6 n (32,[])
noncomputable def Uuk:Code:=Jj4 (Jll Tryz.f39) [1,1]
abbrev Usq:Sl (List SV):=(.c (sBx 24 (cI (cH .n))) .n)
abbrev Uvb (n:Nat) (K:Kc R):Usq.T (O R):=fun x1 x2=>UrW n x1 x2 (fun y1=>xC Ue6 3 K .ret [vI y1])
noncomputable def Uul:Code:=Jj4 (Jll Tryz.f39) [1,1,1,0,1,0,0]
abbrev Ugg:Sl (List SV):=(.c (sBx 24 (cI (cH .n))) (cI .n))
abbrev UqJ (n m:Nat) (K:Kc R):Ugg.T (O R):=fun x1 x2 x3=>Ucw n m x1 x2 x3 (fun y1=>xL Ue6 6 K .ret [vI y1]) (xL Ue6 6 K (.exit 0) [dD])
abbrev UAm (n:Nat) (K:Kc R) (l0:Ugg.T (O R)):Ugg.T (O R):=fun x1 x2 x3=>Uhu n l0 x1 x2 x3 (fun y1=>xL Ue6 6 K .ret [vI y1]) (xL Ue6 6 K (.exit 0) [dD])
abbrev UFZ (n:Nat):Orc R:=oL Ue6 (E39 n) n 6 Uul Ugg (UqJ n n) oN
abbrev UFe (n:Nat):Orc R:=oC Ue6 (E39 n) 3 Uuk Usq (Uvb n) oN
abbrev K39 (R:Type) (n:Nat):=JcH (R:=R) Tryz.prog (UxH n) Ue6 n (32,[]) (UFZ n) (UFe n)
theorem UDp (n:Nat):K39 R n (false,6,Uul):=JkF (lo:=UFZ n) (cu:=UFe n) (pO pN (by kernel_rfl)) Ugg (UqJ n n) (JiE (F:=UqJ n) Ugg (UAm n) (fun K _ _ _=>rfl) (fun _ _=>rfl) (fun L K _ _ _=>by show _=_; kernel_rfl) n) fun _ _=>rfl
theorem UDo (n:Nat):K39 R n (true,3,Uuk):=JkW (lo:=UFZ n) (cu:=UFe n) (pO (pC (UDp n) pN) (by kernel_rfl)) Usq (Uvb n) (fun K _ _=>by show _=_; kernel_rfl) fun _ _=>rfl
theorem UMY (n:Nat):Je6 (K39 R n) (JaJ Ue6 (Jll Tryz.f39)):=pO (pC (UDo n) pN) (by kernel_rfl)
abbrev t39:Sl (List SV):=(.c (sP (JlI (.c (Jlv .i64) (.c sSh .n)))) .n)
abbrev f39 (n:Nat) (K:List SV→O R):t39.T (O R):=fun x1 x2=>p39 n x1 x2 (fun y1=>K [vI y1])
abbrev UI7 (n:Nat):FS:=fT [false] t39 (f39 n)
theorem UMa (n:Nat):FSound Tryz.prog GI 39 (UI7 n):=gd Ue6 n (Upp n) Tryz.func39 (.cons (Upp n) t39 (f39 n) (fun K _ _=>(Jkq (c:=Jll Tryz.f39) (by kernel_rfl) (UMY n) K).trans (by kernel_rfl)) .nil) (by kernel_rfl)
def Uwm:Ann:={ loops:=[],cuts:=[],frz:=[],rm:=[.id] }
abbrev UBc (n:Nat):Env:=eN
theorem Upz (n:Nat):EnvOK Tryz.prog GI (UBc n):=.nil
def p55 (n:Nat) (x1 x2:Int) (k0:Int→O R):O R :=
 bif (decide (x1<x2)) then (k0 (-1)) else (bif (decide (x1>x2)) then (k0 1) else (k0 0))
abbrev ULz (n:Nat):Orc R:=oN
abbrev UKU (n:Nat):Orc R:=oN
abbrev K55 (R:Type) (n:Nat):=JcH (R:=R) Tryz.prog (UBc n) Uwm n (13,[]) (ULz n) (UKU n)
theorem UM8 (n:Nat):Je6 (K55 R n) (JaJ Uwm (Jll Tryz.f55)):=pO pN (by kernel_rfl)
abbrev t55:Sl (List SV):=(cI (cI .n))
abbrev f55 (n:Nat) (K:List SV→O R):t55.T (O R):=fun x1 x2=>p55 n x1 x2 (fun y1=>K [vI y1])
abbrev UJd (n:Nat):FS:=fT [false,false] t55 (f55 n)
theorem UMh (n:Nat):FSound Tryz.prog GI 55 (UJd n):=gd Uwm n (Upz n) Tryz.func55 (.cons (Upz n) t55 (f55 n) (fun K _ _=>(Jkq (c:=Jll Tryz.f55) (by kernel_rfl) (UM8 n) K).trans (by kernel_rfl)) .nil) (by kernel_rfl)
def Uiq:Ann:={ loops:=[],cuts:=[(8,ids [8,10],ids [4]),(12,ids [8,10],ids [4])],frz:=[],rm:=[.id] }
abbrev Uxx (n:Nat):Env:=eC 58 (UCf n) (eC 57 (UEq n) (eC 56 (UCe n) (eC 55 (UJd n) (eC 54 (UEp n) eN))))
theorem Uo9 (n:Nat):EnvOK Tryz.prog GI (Uxx n):=.cons (.cons (.cons (.cons (.cons (.nil) (UGD n)) (UMh n)) (UEC n)) (UGE n)) (UED n)
def Ufm (n:Nat) (x1:Bool) (x2 x3:LP) (x4:Bool) (x5 x6:LP) (k0:Int→O R):O R :=
 p58 n x2 x6 (fun y7=>p58 n x5 x3 (fun y8=>p57 n y7 y8 (fun y9=>bif x1 then (k0 (IntKind.i64.wrap (0 - y9))) else (k0 y9))))
def Uvz (n:Nat) (x1:Bool) (x2 x3:LP) (x4:Bool) (x5 x6:LP) (k0:Int→O R):O R :=
 bif x1 then (bif (bif true then (!x4) else false) then (k0 (-1)) else (bif x4 then (bif (bif true then (!x1) else false) then (k0 1) else (Ufm n x1 x2 x3 x4 x5 x6 (fun y7=>k0 y7))) else (Ufm n x1 x2 x3 x4 x5 x6 (fun y8=>k0 y8)))) else (bif x4 then (bif (bif true then (!x1) else false) then (k0 1) else (Ufm n x1 x2 x3 x4 x5 x6 (fun y9=>k0 y9))) else (Ufm n x1 x2 x3 x4 x5 x6 (fun y10=>k0 y10)))
def p19 (n:Nat) (x1 x2:ByteArray) (k0:Int→O R):O R :=
 p54 n x1 x2 (fun y3 y4 y5=>bif y5 then (p55 n y3 y4 (fun y6=>k0 y6)) else (p56 n x1 (fun y7 y8 y9 y10=>p56 n x2 (fun y11 y12 y13 y14=>bif (!y10) then (k0 0) else (bif (bif false then true else (!y14)) then (k0 0) else (Uvz n y7 y8 y9 y11 y12 y13 (fun y15=>k0 y15)))))))
abbrev E19 (n:Nat):Code→Fr→Kc R→O R:=evC Tryz.prog (Uxx n) Uiq n (72,[])
noncomputable def Ut6:Code:=Jj4 (Jll Tryz.f19) [1,1,1,1,1]
abbrev Usj:Sl (List SV):=(.c (sBx 99 (cB (cH (cH .n)))) (.c (sBx 99 (cB (cH (cH .n)))) .n))
abbrev Uu5 (n:Nat) (K:Kc R):Usj.T (O R):=fun x1 x2 x3 x4 x5 x6=>Uvz n x1 x2 x3 x4 x5 x6 (fun y1=>xC Uiq 8 K .ret [vI y1])
noncomputable def Uoi:Code:=Jj4 (Jll Tryz.f19) [1,1,1,1,1,1]
abbrev Ukw:Sl (List SV):=(.c (sBx 99 (cB (cH (cH .n)))) (.c (sBx 99 (cB (cH (cH .n)))) .n))
abbrev Uqv (n:Nat) (K:Kc R):Ukw.T (O R):=fun x1 x2 x3 x4 x5 x6=>Ufm n x1 x2 x3 x4 x5 x6 (fun y1=>xC Uiq 12 K .ret [vI y1])
abbrev UFW (n:Nat):Orc R:=oN
abbrev UFb (n:Nat):Orc R:=oC Uiq (E19 n) 12 Uoi Ukw (Uqv n) (oC Uiq (E19 n) 8 Ut6 Usj (Uu5 n) oN)
abbrev K19 (R:Type) (n:Nat):=JcH (R:=R) Tryz.prog (Uxx n) Uiq n (72,[]) (UFW n) (UFb n)
theorem Uzf (n:Nat):K19 R n (true,12,Uoi):=JkW (lo:=UFW n) (cu:=UFb n) (pO pN (by kernel_rfl)) Ukw (Uqv n) (fun K _ _ _ _ _ _=>by show _=_; kernel_rfl) fun _ _=>rfl
theorem UC6 (n:Nat):K19 R n (true,8,Ut6):=JkW (lo:=UFW n) (cu:=UFb n) (pO (pC (Uzf n) pN) (by kernel_rfl)) Usj (Uu5 n) (fun K _ _ _ _ _ _=>by show _=_; kernel_rfl) fun _ _=>rfl
theorem UMH (n:Nat):Je6 (K19 R n) (JaJ Uiq (Jll Tryz.f19)):=pO (pC (UC6 n) pN) (by kernel_rfl)
abbrev t19:Sl (List SV):=(cS (cS .n))
abbrev f19 (n:Nat) (K:List SV→O R):t19.T (O R):=fun x1 x2=>p19 n x1 x2 (fun y1=>K [vI y1])
abbrev Uyc (n:Nat):FS:=fT [false,false] t19 (f19 n)
theorem Uz0 (n:Nat):FSound Tryz.prog GI 19 (Uyc n):=gd Uiq n (Uo9 n) Tryz.func19 (.cons (Uo9 n) t19 (f19 n) (fun K _ _=>(Jkq (c:=Jll Tryz.f19) (by kernel_rfl) (UMH n) K).trans (by kernel_rfl)) .nil) (by kernel_rfl)
def Uwj:Ann:={ loops:=[],cuts:=[],frz:=[],rm:=[.id] }
abbrev UB (n:Nat):Env:=eC 19 (Uyc n) eN
theorem Upu (n:Nat):EnvOK Tryz.prog GI (UB n):=.cons (.nil) (Uz0 n)
def p50 (n:Nat) (x1:ByteArray) (k0:Bool→O R):O R :=
 p19 n x1 ⟨#[48]⟩ (fun y2=>k0 (decide (y2<0)))
abbrev ULw (n:Nat):Orc R:=oN
abbrev UKR (n:Nat):Orc R:=oN
abbrev K50 (R:Type) (n:Nat):=JcH (R:=R) Tryz.prog (UB n) Uwj n (6,[]) (ULw n) (UKR n)
theorem UM3 (n:Nat):Je6 (K50 R n) (JaJ Uwj (Jll Tryz.f50)):=pO pN (by kernel_rfl)
abbrev t50:Sl (List SV):=(cS .n)
abbrev f50 (n:Nat) (K:List SV→O R):t50.T (O R):=fun x1=>p50 n x1 (fun y1=>K [vB y1])
abbrev UJb (n:Nat):FS:=fT [false] t50 (f50 n)
theorem UMf (n:Nat):FSound Tryz.prog GI 50 (UJb n):=gd Uwj n (Upu n) Tryz.func50 (.cons (Upu n) t50 (f50 n) (fun K _=>(Jkq (c:=Jll Tryz.f50) (by kernel_rfl) (UM3 n) K).trans (by kernel_rfl)) .nil) (by kernel_rfl)
def UwG:Ann:={ loops:=[],cuts:=[],frz:=[],rm:=[.id] }
abbrev UBw (n:Nat):Env:=eC 53 (Uyd n) eN
theorem Up5 (n:Nat):EnvOK Tryz.prog GI (UBw n):=.cons (.nil) (Uz1 n)
def p93 (n:Nat) (x1:ByteArray) (k0:Bool→O R):O R :=
 p53 n x1 (fun y2=>k0 (!y2))
abbrev ULT (n:Nat):Orc R:=oN
abbrev ULd (n:Nat):Orc R:=oN
abbrev K93 (R:Type) (n:Nat):=JcH (R:=R) Tryz.prog (UBw n) UwG n (6,[]) (ULT n) (ULd n)
theorem UND (n:Nat):Je6 (K93 R n) (JaJ UwG (Jll Tryz.f93)):=pO pN (by kernel_rfl)
abbrev t93:Sl (List SV):=(cS .n)
abbrev f93 (n:Nat) (K:List SV→O R):t93.T (O R):=fun x1=>p93 n x1 (fun y1=>K [vB y1])
abbrev UJs (n:Nat):FS:=fT [false] t93 (f93 n)
theorem UMw (n:Nat):FSound Tryz.prog GI 93 (UJs n):=gd UwG n (Up5 n) Tryz.func93 (.cons (Up5 n) t93 (f93 n) (fun K _=>(Jkq (c:=Jll Tryz.f93) (by kernel_rfl) (UND n) K).trans (by kernel_rfl)) .nil) (by kernel_rfl)
def UbC:Ann:={ loops:=[(2,ids [0,1,7,8],ids [4])],cuts:=[],frz:=[],rm:=[.id] }
abbrev Uo2 (n:Nat):Env:=eC 93 (UJs n) (eC 50 (UJb n) eN)
theorem Ujj (n:Nat):EnvOK Tryz.prog GI (Uo2 n):=.cons (.cons (.nil) (UMf n)) (UMw n)
def Ur3 (n:Nat) (l0:LP→Int→Int→O R) (x1:LP) (x2 x3:Int) (k0:Int→O R) (k1:O R):O R :=
 bif (decide (x3<x2)) then (bif (inR x3 ((x1).length)) then (Jj3 ((x1).getD ((x3:Int).toNat) (.v (.bool false))) fun e4=>p93 n e4 (fun y5=>bif y5 then (k0 x3) else (l0 x1 x2 (IntKind.i64.wrap (x3 + 1))))) else none) else (k1)
def Uj8 (n:Nat):Nat→LP→Int→Int→(Int→O R)→(O R)→O R
 | 0,_,_,_,_,_=>none
 | m + 1,x1,x2,x3,k0,k1=>Ur3 n (fun x1 x2 x3=>Uj8 n m x1 x2 x3 k0 k1) x1 x2 x3 k0 k1
def UC1 (n:Nat) (x1:LP) (x2 x3:Int) (k0:Int→O R) (k1:O R):O R:=Uj8 n n x1 x2 x3 k0 k1
def p94 (n:Nat) (x1:LP) (k0:Int→O R):O R :=
 UC1 n x1 ((x1).length:Int) 0 (fun y2=>k0 y2) (k0 (-1))
def UiJ (n:Nat) (l0:LP→Int→Int→O R) (x1:LP) (x2 x3:Int) (k0:Int→O R) (k1:O R):O R :=
 bif (decide (x3<x2)) then (bif (inR x3 ((x1).length)) then (Jj3 ((x1).getD ((x3:Int).toNat) (.v (.bool false))) fun e4=>p50 n e4 (fun y5=>bif y5 then (k0 x3) else (l0 x1 x2 (IntKind.i64.wrap (x3 + 1))))) else none) else (k1)
def Ufu (n:Nat):Nat→LP→Int→Int→(Int→O R)→(O R)→O R
 | 0,_,_,_,_,_=>none
 | m + 1,x1,x2,x3,k0,k1=>UiJ n (fun x1 x2 x3=>Ufu n m x1 x2 x3 k0 k1) x1 x2 x3 k0 k1
def Uto (n:Nat) (x1:LP) (x2 x3:Int) (k0:Int→O R) (k1:O R):O R:=Ufu n n x1 x2 x3 k0 k1
def UC2 (n:Nat) (x1:LP) (k0:Int→O R):O R :=
 Uto n x1 ((x1).length:Int) 0 (fun y2=>k0 y2) (k0 (-1))
abbrev E94 (n:Nat):Code→Fr→Kc R→O R:=evC Tryz.prog (Uo2 n) UbC n (19,[])
noncomputable def Uiu:Code:=Jj4 (Jll Tryz.f94) [1,0,1,0,0]
abbrev UcD:Sl (List SV):=(cH (.c (sP (sFn 93)) (cI (cI .n))))
abbrev UcE:Sl (List SV):=(cH (.c (sP (sFn 50)) (cI (cI .n))))
abbrev Ug2 (n m:Nat) (K:Kc R):UcD.T (O R):=fun x1 x2 x3=>Uj8 n m x1 x2 x3 (fun y1=>xL UbC 2 K .ret [vI y1]) (xL UbC 2 K (.exit 0) [dD])
abbrev Uxf (n:Nat) (K:Kc R) (l0:UcD.T (O R)):UcD.T (O R):=fun x1 x2 x3=>Ur3 n l0 x1 x2 x3 (fun y1=>xL UbC 2 K .ret [vI y1]) (xL UbC 2 K (.exit 0) [dD])
abbrev Ug3 (n m:Nat) (K:Kc R):UcE.T (O R):=fun x1 x2 x3=>Ufu n m x1 x2 x3 (fun y1=>xL UbC 2 K .ret [vI y1]) (xL UbC 2 K (.exit 0) [dD])
abbrev Uxg (n:Nat) (K:Kc R) (l0:UcE.T (O R)):UcE.T (O R):=fun x1 x2 x3=>UiJ n l0 x1 x2 x3 (fun y1=>xL UbC 2 K .ret [vI y1]) (xL UbC 2 K (.exit 0) [dD])
abbrev UCt (n:Nat):Orc R:=fun i vs K=>JfK (Nat.beq i 2) (Jjg (UcD.ap vs (Ug2 n n K)) (Jjg (UcE.ap vs (Ug3 n n K)) (JcB UbC 2 (E94 n Uiu) n vs K))) (oN i vs K)
abbrev UAW (n:Nat):Orc R:=oN
abbrev K94 (R:Type) (n:Nat):=JcH (R:=R) Tryz.prog (Uo2 n) UbC n (19,[]) (UCt n) (UAW n)
theorem Ur7 (n:Nat):Je6 (K94 R n) (JaJ UbC Uiu):=pO pN (by kernel_rfl)
theorem Uxt (n:Nat):∀ m (K:Kc R),UcD.all (fun vs r=>JcB UbC 2 (JcU Tryz.prog (Uo2 n) UbC (19,[]) (UCt n) (UAW n) Uiu) m vs K=r) (Ug2 n m K):=JiE (F:=Ug2 n) UcD (Uxf n) (fun K _ _ _=>rfl) (fun _ _=>rfl) (fun L K _ _ _=>by show _=_; kernel_rfl)
theorem Uxu (n:Nat):∀ m (K:Kc R),UcE.all (fun vs r=>JcB UbC 2 (JcU Tryz.prog (Uo2 n) UbC (19,[]) (UCt n) (UAW n) Uiu) m vs K=r) (Ug3 n m K):=JiE (F:=Ug3 n) UcE (Uxg n) (fun K _ _ _=>rfl) (fun _ _=>rfl) (fun L K _ _ _=>by show _=_; kernel_rfl)
theorem UDK (n:Nat):K94 R n (false,2,Uiu):=JkF (lo:=UCt n) (cu:=UAW n) (Ur7 n) UcD (Ug2 n n) (Uxt n n) (JkF (lo:=UCt n) (cu:=UAW n) (Ur7 n) UcE (Ug3 n n) (Uxu n n) fun _ _=>rfl)
theorem UKc (n:Nat):Je6 (K94 R n) (JaJ UbC (Jll Tryz.f94)):=pO (pC (UDK n) pN) (by kernel_rfl)
abbrev UH8:Sl (List SV):=(cH (.c (sP (sFn 93)) .n))
abbrev UIQ (n:Nat) (K:List SV→O R):UH8.T (O R):=fun x1=>p94 n x1 (fun y1=>K [vI y1])
abbrev UH9:Sl (List SV):=(cH (.c (sP (sFn 50)) .n))
abbrev UIR (n:Nat) (K:List SV→O R):UH9.T (O R):=fun x1=>UC2 n x1 (fun y1=>K [vI y1])
abbrev UJt (n:Nat):FS:={ om:=[false,false],run:=fun args K=>Jjg (UH8.ap args (UIQ n K)) (Jjg (UH9.ap args (UIR n K)) none) }
theorem UMx (n:Nat):FSound Tryz.prog GI 94 (UJt n):=gd UbC n (Ujj n) Tryz.func94 (.cons (Ujj n) UH8 (UIQ n) (fun K _=>(Jkq (c:=Jll Tryz.f94) (by kernel_rfl) (UKc n) K).trans (by kernel_rfl)) (.cons (Ujj n) UH9 (UIR n) (fun K _=>(Jkq (c:=Jll Tryz.f94) (by kernel_rfl) (UKc n) K).trans (by kernel_rfl)) .nil)) (by kernel_rfl)
def Uwi:Ann:={ loops:=[],cuts:=[],frz:=[],rm:=[.id] }
abbrev UA9 (n:Nat):Env:=eC 94 (UJt n) eN
theorem Ujh (n:Nat):EnvOK Tryz.prog GI (UA9 n):=.cons (.nil) (UMx n)
def p49 (n:Nat) (x1:LP) (k0:Bool→O R):O R :=
 p94 n x1 (fun y2=>k0 (decide (y2≥0)))
def UCV (n:Nat) (x1:LP) (k0:Bool→O R):O R :=
 UC2 n x1 (fun y2=>k0 (decide (y2≥0)))
abbrev ULv (n:Nat):Orc R:=oN
abbrev UKQ (n:Nat):Orc R:=oN
abbrev K49 (R:Type) (n:Nat):=JcH (R:=R) Tryz.prog (UA9 n) Uwi n (9,[]) (ULv n) (UKQ n)
theorem UKa (n:Nat):Je6 (K49 R n) (JaJ Uwi (Jll Tryz.f49)):=pO pN (by kernel_rfl)
abbrev UH4:Sl (List SV):=(cH (.c (sP (sFn 93)) .n))
abbrev UIM (n:Nat) (K:List SV→O R):UH4.T (O R):=fun x1=>p49 n x1 (fun y1=>K [vB y1])
abbrev UH5:Sl (List SV):=(cH (.c (sP (sFn 50)) .n))
abbrev UIN (n:Nat) (K:List SV→O R):UH5.T (O R):=fun x1=>UCV n x1 (fun y1=>K [vB y1])
abbrev UFr (n:Nat):FS:={ om:=[false,false],run:=fun args K=>Jjg (UH4.ap args (UIM n K)) (Jjg (UH5.ap args (UIN n K)) none) }
theorem UJW (n:Nat):FSound Tryz.prog GI 49 (UFr n):=gd Uwi n (Ujh n) Tryz.func49 (.cons (Ujh n) UH4 (UIM n) (fun K _=>(Jkq (c:=Jll Tryz.f49) (by kernel_rfl) (UKa n) K).trans (by kernel_rfl)) (.cons (Ujh n) UH5 (UIN n) (fun K _=>(Jkq (c:=Jll Tryz.f49) (by kernel_rfl) (UKa n) K).trans (by kernel_rfl)) .nil)) (by kernel_rfl)
def Uwh:Ann:={ loops:=[],cuts:=[],frz:=[],rm:=[.id] }
abbrev UA8 (n:Nat):Env:=eC 65 (UEr n) (eC 49 (UFr n) eN)
theorem Upt (n:Nat):EnvOK Tryz.prog GI (UA8 n):=.cons (.cons (.nil) (UJW n)) (UGF n)
def p48 (n:Nat) (x1:Int) (x2 x3:LP) (k0:Int→O R):O R :=
 p65 n x1 x2 (fun y4=>bif (y4 != 0) then (k0 3) else (bif (((x3).length:Int) != x1) then (k0 2) else (p49 n x3 (fun y5=>bif y5 then (k0 3) else (k0 0)))))
abbrev ULu (n:Nat):Orc R:=oN
abbrev UKP (n:Nat):Orc R:=oN
abbrev K48 (R:Type) (n:Nat):=JcH (R:=R) Tryz.prog (UA8 n) Uwh n (15,[]) (ULu n) (UKP n)
theorem UM2 (n:Nat):Je6 (K48 R n) (JaJ Uwh (Jll Tryz.f48)):=pO pN (by kernel_rfl)
abbrev t48:Sl (List SV):=(.c (sP (JlI (.c (Jlv .i64) (.c sSh .n)))) (cH .n))
abbrev f48 (n:Nat) (K:List SV→O R):t48.T (O R):=fun x1 x2 x3=>p48 n x1 x2 x3 (fun y1=>K [vI y1])
abbrev UJa (n:Nat):FS:=fT [false,false] t48 (f48 n)
theorem UMe (n:Nat):FSound Tryz.prog GI 48 (UJa n):=gd Uwh n (Upt n) Tryz.func48 (.cons (Upt n) t48 (f48 n) (fun K _ _ _=>(Jkq (c:=Jll Tryz.f48) (by kernel_rfl) (UM2 n) K).trans (by kernel_rfl)) .nil) (by kernel_rfl)
end
end Go.Proofs.YtmgfmlhdnadglaaGreatDoor
set_option linter.unusedVariables false
set_option linter.unusedSimpArgs false
namespace Go.Proofs.YtmgfmlhdnadglaaGreatDoor
open Go Th Go.Proofs
variable {R:Type}
noncomputable def okT (cols:Int):Int→List TermT→Bool
 | _,[]=>true
 | last,t::r=>if t.1≤last then false else if t.1≥cols then false else if t.2=[48] then false else qb t.2&&okT cols t.1 r
noncomputable def okR (cols:Int) (r:RowT):Bool:=okT cols (-1) r.tm&&qb r.c
def smT (l:List TermT):Prop:=l.length<2 ^ 17∧∀ t∈l,t.2.length<2 ^ 17
def smR (r:RowT):Prop:=smT r.tm∧r.c.length<2 ^ 17
noncomputable def Ung (cols:Int) (kbad:Option R) (last:Int) (t:TermT) (K:Int→Option R):Option R :=
 if t.1≤last then kbad else if t.1≥cols then kbad else if t.2=[48] then kbad else if qb t.2=true then K t.1 else kbad
theorem UHx (cols:Int) (kbad kend:Option R):∀ (l:List TermT) (last:Int),UvY (Ung cols kbad) (fun _=>kend) last l=if okT cols last l then kend else kbad
 | [],last=>rfl
 | t::l,last=>by
  have ih:=UHx cols kbad kend l t.1
  simp only [UvY,Ung,okT]
  by_cases h1:t.1≤last
  · simp [h1]
  · by_cases h2:t.1≥cols
    · simp [h1,h2]
    · by_cases h3:t.2=[48]
      · simp [h1,h2,h3]
      · rcases Bool.eq_false_or_eq_true (qb t.2) with h4 | h4 <;> simp [h1,h2,h3,h4,ih]
theorem e48 (s:List UInt8):eqS (bs s) (⟨#[48]⟩:ByteArray)=decide (s=[48]):=by
 rw [show eqS (bs s) (⟨#[48]⟩:ByteArray)=(s == [48]) from rfl,Bool.eq_iff_iff]; simp
theorem Ukb (n:Nat) (hn:10 ^ 400≤n) (cols:Int) (r:RowT) (hr:smR r) (k0:Bool→Option R):UEG n (tms r.tm) (bs r.c) r.eq r.mark cols k0=k0 (okR cols r):=by
 have hN:=UaC hn
 have hL:=hr.1.1
 have hv1:=fun k=>Uef (R:=R) n hn r.c hr.2 k
 unfold UEG Ury
 have h:=UfA (R:=R) (l:=r.tm) (step:=Ung cols (k0 false)) (kend:=fun _=>k0 (qb r.c))
  (fun m s i=>UbX n m cols (tms r.tm) (bs r.c) r.eq r.mark s (tms r.tm) ((tms r.tm).length:Int) (i:Int) (fun _ _ _ _ y=>k0 y) (fun _ y _ _=>p53 n y fun y15=>k0 y15))
  (fun m s=>by simp only [UbX,UeA]; simp (disch:=(first | omega | (simp only [JlE]; omega))) only [↓JlH,JlF,Ua,hv1])
  (fun m s i hi=>by
    have hv:=fun k=>Uef (R:=R) n hn (r.tm[i]).2 (hr.1.2 _ (List.getElem_mem hi)) k
    simp only [UbX,UeA,Ung]
    by_cases h1:(r.tm[i]).1≤s
    · simp (disch:=(first | omega | (simp only [JlE]; omega))) only [↓JlH,JlF,Ua,Jji,Uar hi,i1]
    · by_cases h2:(r.tm[i]).1≥cols
      · simp (disch:=(first | omega | (simp only [JlE]; omega))) only [↓JlH,JlF,Ua,Jji,Uar hi,i1]
      · by_cases h3:(r.tm[i]).2=[48]
        · simp (disch:=(first | omega | (simp only [JlE]; omega))) only [↓JlH,JlF,Ua,Jji,Uar hi,i1,Uja h3]
        · simp (disch:=(first | omega | (simp only [JlE]; omega))) only [↓JlH,JlF,Ua,Jji,Uar hi,i1,Uis h3,hv]
          cases qb (r.tm[i]).2 <;> rfl) r.tm.length n 0 (-1) (by omega) (by omega)
 rw [List.drop_zero,UHx] at h
 refine Eq.trans h ?_
 unfold okR
 cases okT cols (-1) r.tm <;> rfl
theorem UtS (n:Nat) (hn:10 ^ 400≤n) (cols:Int) (r:RowT) (hr:smR r) (k0:Bool→Option R):p82 n (tms r.tm) (bs r.c) r.eq r.mark cols k0=k0 (okR cols r):=by
 have hN:=UaC hn
 have hL:=hr.1.1
 have hv1:=fun k=>Ud (R:=R) n hn r.c hr.2 k
 unfold p82 UvT
 have h:=UfA (R:=R) (l:=r.tm) (step:=Ung cols (k0 false)) (kend:=fun _=>k0 (qb r.c))
  (fun m s i=>UdH n m cols (tms r.tm) (bs r.c) r.eq r.mark s (i:Int) (fun _ _ _ _ y=>k0 y) (fun _ y _ _=>p84 n y fun y15=>k0 y15))
  (fun m s=>by simp only [UdH,UhK]; simp (disch:=(first | omega | (simp only [JlE]; omega))) only [↓JlH,JlF,Ua,hv1])
  (fun m s i hi=>by
    have hv:=fun k=>Ud (R:=R) n hn (r.tm[i]).2 (hr.1.2 _ (List.getElem_mem hi)) k
    simp only [UdH,UhK,Ung]
    by_cases h1:(r.tm[i]).1≤s
    · simp (disch:=(first | omega | (simp only [JlE]; omega))) only [↓JlH,JlF,Ua,Jji,Uar hi,i1]
    · by_cases h2:(r.tm[i]).1≥cols
      · simp (disch:=(first | omega | (simp only [JlE]; omega))) only [↓JlH,JlF,Ua,Jji,Uar hi,i1]
      · by_cases h3:(r.tm[i]).2=[48]
        · simp (disch:=(first | omega | (simp only [JlE]; omega))) only [↓JlH,JlF,Ua,Jji,Uar hi,i1,Uja h3]
        · simp (disch:=(first | omega | (simp only [JlE]; omega))) only [↓JlH,JlF,Ua,Jji,Uar hi,i1,Uis h3,hv]
          cases qb (r.tm[i]).2 <;> rfl) r.tm.length n 0 (-1) (by omega) (by omega)
 rw [List.drop_zero,UHx] at h
 refine Eq.trans h ?_
 unfold okR
 cases okT cols (-1) r.tm <;> rfl
noncomputable def UsF (cols:Int) (rows:List RowT):Int:=if cols<0 then 2 else if cols>2048 then 2 else if rows.length>2048 then 6 else if rows.all (okR cols) then 0 else 3
def smA (rows:List RowT):Prop:=rows.length<2 ^ 17∧∀ r∈rows,smR r
theorem UzG (n:Nat) (hn:10 ^ 400≤n) (cols:Int) (rows:List RowT) (hr:smA rows) (k0:Int→Option R):p39 n cols (rws rows) k0=k0 (UsF cols rows):=by
 have hN:=UaC hn
 have hL:=hr.1
 unfold p39 UrW UvI UsF
 by_cases h1:cols<0
 · simp (disch:=(first | omega | (simp only [JlE]; omega))) only [↓JlH,JlF]
 · by_cases h2:cols>2048
   · simp (disch:=(first | omega | (simp only [JlE]; omega))) only [↓JlH,JlF]
   · by_cases h3:rows.length>2048
     · have h3':((rows.length:Nat):Int)>2048:=by omega
       simp (disch:=(first | omega | (simp only [JlE]; omega))) only [↓JlH,JlF,Uaf]
     · have h3':¬ ((rows.length:Nat):Int)>2048:=by omega
       have h:=Uau (R:=R) (l:=rows) (ok:=okR cols) (kbad:=k0 3) (kend:=k0 0) (fun m i=>Ucw n m cols (rws rows) (i:Int) k0 (k0 0))
        (fun m=>by simp only [Ucw,Uhu]; simp (disch:=(first | omega | (simp only [JlE]; omega))) only [↓JlH,JlF,Uaf])
        (fun m i hi=>by
          have hv:=fun k=>UtS (R:=R) n hn cols rows[i] (hr.2 _ (List.getElem_mem hi)) k
          simp only [Ucw,Uhu]
          simp (disch:=(first | omega | (simp only [JlE]; omega))) only [↓JlH,JlF,Uaf,Jji,UbP hi,hv,i1]
          cases okR cols rows[i] <;> rfl) rows.length n 0 (by omega) (by omega)
       rw [List.drop_zero] at h
       have h':Ucw n n cols (rws rows) 0 k0 (k0 0)=_:=h
       simp (disch:=(first | omega | (simp only [JlE]; omega))) only [↓JlH,JlF,Uaf,h']
       cases rows.all (okR cols) <;> rfl
theorem UD3 (n:Nat) (hn:10 ^ 400≤n) (cols:Int) (rows:List RowT) (hr:smA rows) (k0:Int→Option R):p65 n cols (rws rows) k0=k0 (UsF cols rows):=by
 have hN:=UaC hn
 have hL:=hr.1
 unfold p65 UGJ UGO UrG UsF
 by_cases h1:cols<0
 · simp (disch:=(first | omega | (simp only [JlE]; omega))) only [↓JlH,JlF]
 · by_cases h2:cols>2048
   · simp (disch:=(first | omega | (simp only [JlE]; omega))) only [↓JlH,JlF]
   · by_cases h3:rows.length>2048
     · have h3':((rows.length:Nat):Int)>2048:=by omega
       simp (disch:=(first | omega | (simp only [JlE]; omega))) only [↓JlH,JlF,Uaf]
     · have h3':¬ ((rows.length:Nat):Int)>2048:=by omega
       have h:=Uau (R:=R) (l:=rows) (ok:=okR cols) (kbad:=k0 3) (kend:=k0 0)
        (fun m i=>Ubp n m (rws rows) cols (rws rows) ((rws rows).length:Int) (i:Int) (fun y=>bif decide (y≥0) then k0 3 else k0 0) (bif decide ((-1:Int)≥0) then k0 3 else k0 0))
        (fun m=>by simp only [Ubp,UeJ]; simp (disch:=(first | omega | (simp only [JlE]; omega))) only [↓JlH,JlF,Uaf])
        (fun m i hi=>by
          have hv:=fun k=>Ukb (R:=R) n hn cols rows[i] (hr.2 _ (List.getElem_mem hi)) k
          simp only [Ubp,UeJ,UGK]
          simp (disch:=(first | omega | (simp only [JlE]; omega))) only [↓JlH,JlF,Uaf,Jji,UbP hi,hv,i1]
          cases okR cols rows[i] <;> simp (disch:=(first | omega | (simp only [JlE]; omega))) only [↓JlH,JlF] <;> rfl) rows.length n 0 (by omega) (by omega)
       rw [List.drop_zero] at h
       have h':Ubp n n (rws rows) cols (rws rows) ((rws rows).length:Int) 0 (fun y=>bif decide (y≥0) then k0 3 else k0 0) (bif decide ((-1:Int)≥0) then k0 3 else k0 0)=_:=h
       have e:∀ a b:Option R,(bif decide (((rws rows).length:Int)>2048) then a else b)=b:=fun a b=>by rw [Uaf,decide_eq_false h3']; rfl
       simp only [c_neg h1,c_neg h2,Uam,e,h']
       rw [if_neg h1,if_neg h2,if_neg h3]
       cases rows.all (okR cols) <;> rfl
abbrev SpT:=Nat × Rat
noncomputable def vt (l:List SpT):List TermT:=l.map fun t=>((t.1:Int),Uag t.2)
theorem Uas (l:List SpT):(vt l).length=l.length:=by unfold vt; rw [List.length_map]
theorem UD6 {l:List SpT} {i:Nat} (h:i<(vt l).length):(vt l)[i]=(((l[i]'(by rw [←Uas]; exact h)).1:Int),Uag (l[i]'(by rw [←Uas]; exact h)).2):=by
 simp only [vt,List.getElem_map]
def asc:Int→List SpT→Prop
 | _,[]=>True
 | last,t::r=>last<(t.1:Int)∧asc t.1 r
def okN (cols:Int) (l:List SpT):Prop:=∀ t∈l,t.2≠0∧fits t.2∧(t.1:Int)<cols
def okS (cols:Int) (l:List SpT):Prop:=asc (-1) l∧okN cols l
theorem Ueu {q:Rat} (h:fits q):qb (Uag q)=true:=UDQ.2 ⟨q,h,rfl⟩
theorem UfJ:fits 0:=Ug4 (v:=0) (by decide +kernel)
theorem Unf:Uag 0=[48]:=by rw [←show ((0:Int):Rat)=0 from rfl,←UaI]; decide +kernel
theorem Uei {q:Rat}:Uag q=[48]↔q=0:=⟨fun h=>UhU (h.trans Unf.symm),fun h=>by rw [h,Unf]⟩
theorem Urs {cols:Int}:∀ {l:List SpT} {last:Int},asc last l→okN cols l→okT cols last (vt l)=true
 | [],last,_,_=>rfl
 | t::l,last,h1,h2=>by
  obtain ⟨e1,e2,e3⟩:=h2 t (List.mem_cons_self ..)
  show okT cols last (((t.1:Int),Uag t.2)::vt l)=true
  simp only [okT]
  have h1':=h1.1
  rw [if_neg (by omega),if_neg (by omega),if_neg (fun q=>e1 (Uei.1 q)),Ueu e2,Urs h1.2 (fun x hx=>h2 x (List.mem_cons_of_mem _ hx))]
  rfl
theorem Urr {cols:Int}:∀ {l:List TermT} {last:Int},-1≤last→okT cols last l=true→∃ l':List SpT,l=vt l'∧asc last l'∧okN cols l'
 | [],last,_,_=>⟨[],rfl,trivial,by intro t h; cases h⟩
 | t::l,last,h0,h=>by
  simp only [okT] at h
  by_cases h1:t.1≤last
  · rw [if_pos h1] at h; cases h
  rw [if_neg h1] at h
  by_cases h2:t.1≥cols
  · rw [if_pos h2] at h; cases h
  rw [if_neg h2] at h
  by_cases h3:t.2=[48]
  · rw [if_pos h3] at h; cases h
  rw [if_neg h3,Bool.and_eq_true] at h
  obtain ⟨q,hq,e⟩:=UDQ.1 h.1
  obtain ⟨l',e1,e2,e3⟩:=Urr (by omega:-1≤t.1) h.2
  have hc:((t.1.toNat:Nat):Int)=t.1:=by omega
  refine ⟨(t.1.toNat,q)::l',?_,⟨by show last<((t.1.toNat:Nat):Int); omega,by show asc ((t.1.toNat:Nat):Int) l'; rw [hc]; exact e2⟩,?_⟩
  · rw [e1]
    show t::vt l'=(((t.1.toNat:Nat):Int),Uag q)::vt l'
    rw [hc,←e]
  · intro x hx
    rcases List.mem_cons.1 hx with rfl | hx
    · refine ⟨fun q0=>h3 (by rw [e]; exact Uei.2 q0),hq,?_⟩
      show ((t.1.toNat:Nat):Int)<cols
      omega
    · exact e3 x hx
theorem UsH {l:List SpT} {a b:Int} (h:asc b l) (hab:a≤b):asc a l:=by
 cases l with
 | nil=>trivial
 | cons t r=>exact ⟨by have:=h.1; omega,h.2⟩
theorem Uj:∀ {l:List SpT} {a:Int},asc a l→∀ t∈l,a<(t.1:Int)
 | t::l,a,h,x,hx=>by
  rcases List.mem_cons.1 hx with rfl | hx
  · exact h.1
  · have:=Uj h.2 x hx; have:=h.1; omega
def cf:List SpT→Nat→Rat
 | [],_=>0
 | t::r,i=>if t.1=i then t.2 else cf r i
theorem Ua8 (t:SpT) (r:List SpT) (i:Nat):cf (t::r) i=if t.1=i then t.2 else cf r i:=rfl
theorem Uow:∀ {l:List SpT} {i:Nat},(∀ t∈l,t.1≠i)→cf l i=0
 | [],_,_=>rfl
 | t::l,i,h=>by rw [cf,if_neg (h t (List.mem_cons_self ..)),Uow fun x hx=>h x (List.mem_cons_of_mem _ hx)]
theorem UaO {l:List SpT} {a:Int} (h:asc a l) {i:Nat} (hi:(i:Int)≤a):cf l i=0:=Uow fun t ht=>by have:=Uj h t ht; omega
theorem UfP:∀ {l:List SpT} {a:Int},asc a l→∀ t∈l,cf l t.1=t.2
 | t::l,a,h,x,hx=>by
  rcases List.mem_cons.1 hx with rfl | hx
  · rw [cf,if_pos rfl]
  · have:=Uj h.2 x hx
    rw [cf,if_neg (by omega),UfP h.2 x hx]
theorem UAI {l:List SpT} {i:Nat} (h:cf l i≠0):∃ t∈l,t.1=i∧t.2=cf l i:=by
 induction l with
 | nil=>exact absurd rfl h
 | cons t l ih =>
  rw [cf] at h ⊢
  by_cases e:t.1=i
  · rw [if_pos e]; exact ⟨t,List.mem_cons_self ..,e,rfl⟩
  · rw [if_neg e] at h ⊢
    obtain ⟨x,hx,h1,h2⟩:=ih h
    exact ⟨x,List.mem_cons_of_mem _ hx,h1,h2⟩
theorem Ujd {cols:Int} {l:List SpT} (h:okN cols l) (i:Nat):fits (cf l i):=by
 by_cases h0:cf l i=0
 · rw [h0]; exact UfJ
 · obtain ⟨t,ht,_,e⟩:=UAI h0
   rw [←e]; exact (h t ht).2.1
theorem UvZ {cols:Int}:∀ {a b:List SpT} {last:Int},asc last a→asc last b→okN cols a→okN cols b→(∀ i,cf a i=cf b i)→a=b
 | [],[],_,_,_,_,_,_=>rfl
 | [],t::b,last,_,hb,_,nb,h=>by
  have:=h t.1
  rw [UfP hb t (List.mem_cons_self ..)] at this
  exact absurd this.symm (nb t (List.mem_cons_self ..)).1
 | t::a,[],last,ha,_,na,_,h=>by
  have:=h t.1
  rw [UfP ha t (List.mem_cons_self ..)] at this
  exact absurd this (na t (List.mem_cons_self ..)).1
 | t::a,u::b,last,ha,hb,na,nb,h=>by
  have h1:=h t.1
  have h2:=h u.1
  rw [UfP ha t (List.mem_cons_self ..)] at h1
  rw [UfP hb u (List.mem_cons_self ..)] at h2
  have e:t.1=u.1:=by
   apply Classical.byContradiction
   intro hne
   rcases Nat.lt_or_gt_of_ne hne with q | q
   · rw [cf,if_neg (by omega),UaO hb.2 (by omega)] at h1
     exact (na t (List.mem_cons_self ..)).1 h1
   · rw [cf,if_neg (by omega),UaO ha.2 (by omega)] at h2
     exact (nb u (List.mem_cons_self ..)).1 h2.symm
  rw [cf,if_pos e.symm] at h1
  have et:t=u:=Prod.ext e h1
  subst et
  congr 1
  refine UvZ ha.2 hb.2 (fun x hx=>na x (List.mem_cons_of_mem _ hx)) (fun x hx=>nb x (List.mem_cons_of_mem _ hx)) fun i=>?_
  have:=h i
  simp only [cf] at this
  by_cases hi:t.1=i
  · subst hi; rw [UaO ha.2 (by omega),UaO hb.2 (by omega)]
  · rwa [if_neg hi,if_neg hi] at this
open Classical in
noncomputable def scO (q:Rat) (l:List SpT):Option (List SpT):=if ∀ t∈l,fits (t.2 * q) then some (l.map fun t=>(t.1,t.2 * q)) else none
theorem UnD (f:SpT→Rat):∀ {l:List SpT} {a:Int},asc a l→asc a (l.map fun t=>(t.1,f t))
 | [],_,_=>trivial
 | t::l,a,h=>⟨h.1,UnD f h.2⟩
theorem UAJ (q:Rat):∀ (l:List SpT) (i:Nat),cf (l.map fun t=>(t.1,t.2 * q)) i=cf l i * q
 | [],i=>by simp [cf,Rat.zero_mul]
 | t::l,i=>by
  rw [List.map_cons,cf,cf,UAJ q l i]
  split <;> rfl
theorem UHy {cols:Int} {q:Rat} (h0:q≠0) {l r:List SpT} (h:okS cols l) (he:scO q l=some r):okS cols r∧∀ i,cf r i=cf l i * q:=by
 unfold scO at he
 split at he
 · rename_i hf
   simp only [Option.some.injEq] at he
   subst he
   refine ⟨⟨UnD _ h.1,fun t ht=>?_⟩,UAJ q l⟩
   obtain ⟨x,hx,rfl⟩:=List.mem_map.1 ht
   obtain ⟨e1,e2,e3⟩:=h.2 x hx
   refine ⟨fun e=>?_,hf x hx,e3⟩
   rcases Rat.mul_eq_zero.1 e with q1 | q1
   · exact e1 q1
   · exact h0 q1
 · cases he
theorem UzC {q:Rat} {l:List SpT} {a:Int} (ha:asc a l):scO q l=none↔∃ i,¬ fits (cf l i * q):=by
 unfold scO
 split
 · rename_i hf
   refine ⟨fun h=>(by cases h),fun ⟨i,hi⟩=>?_⟩
   by_cases h0:cf l i=0
   · rw [h0,Rat.zero_mul] at hi; exact absurd UfJ hi
   · obtain ⟨t,ht,_,e⟩:=UAI h0
     rw [←e] at hi; exact absurd (hf t ht) hi
 · rename_i hf
   refine ⟨fun _=>?_,fun _=>rfl⟩
   apply Classical.byContradiction
   intro hn
   apply hf
   intro t ht
   apply Classical.byContradiction
   intro hq
   exact hn ⟨t.1,by rw [UfP ha t ht]; exact hq⟩
open Classical in
noncomputable def Uem:List SpT→List SpT→Option (List SpT)
 | [],b=>some b
 | a::xs,[]=>some (a::xs)
 | a::xs,b::ys=>if a.1<b.1 then (Uem xs (b::ys)).map (a::·) else if b.1<a.1 then (Uem (a::xs) ys).map (b::·)
  else if fits (a.2 + b.2) then (Uem xs ys).map (fun r=>if a.2 + b.2=0 then r else (a.1,a.2 + b.2)::r) else none
termination_by a b=>a.length + b.length
theorem Urm (a:List SpT):Uem a []=some a:=by cases a <;> simp [Uem]
theorem Umt {cols:Int}:∀ (k:Nat) {a b:List SpT} {last:Int},a.length + b.length≤k→asc last a→asc last b→okN cols a→okN cols b→∀ {r:List SpT},Uem a b=some r→asc last r∧okN cols r∧∀ i,cf r i=cf a i + cf b i
 | k,[],b,last,hk,ha,hb,na,nb,r,h=>by
  simp only [Uem,Option.some.injEq] at h
  subst h
  exact ⟨hb,nb,fun i=>by simp [cf,Rat.zero_add]⟩
 | k,a::xs,[],last,hk,ha,hb,na,nb,r,h=>by
  simp only [Uem,Option.some.injEq] at h
  subst h
  exact ⟨ha,na,fun i=>by simp [cf,Rat.add_zero]⟩
 | k + 1,a::xs,b::ys,last,hk,ha,hb,na,nb,r,h=>by
  have na':okN cols xs:=fun x hx=>na x (List.mem_cons_of_mem _ hx)
  have nb':okN cols ys:=fun x hx=>nb x (List.mem_cons_of_mem _ hx)
  rw [Uem] at h
  simp only [List.length_cons] at hk
  by_cases h1:a.1<b.1
  · rw [if_pos h1] at h
    obtain ⟨r',e,rfl⟩:=Option.map_eq_some_iff.1 h
    have hb2:asc (a.1:Int) (b::ys):=⟨by omega,hb.2⟩
    obtain ⟨p1,p2,p3⟩:=Umt k (by simp only [List.length_cons]; omega) ha.2 hb2 na' nb e
    refine ⟨⟨ha.1,p1⟩,fun x hx=>?_,fun i=>?_⟩
    · rcases List.mem_cons.1 hx with rfl | hx
      · exact na _ (List.mem_cons_self ..)
      · exact p2 x hx
    · rw [Ua8 a r' i,Ua8 a xs i,p3 i]
      by_cases hi:a.1=i
      · rw [if_pos hi,if_pos hi,UaO hb2 (by omega),Rat.add_zero]
      · rw [if_neg hi,if_neg hi]
  · rw [if_neg h1] at h
    by_cases h2:b.1<a.1
    · rw [if_pos h2] at h
      obtain ⟨r',e,rfl⟩:=Option.map_eq_some_iff.1 h
      have ha2:asc (b.1:Int) (a::xs):=⟨by omega,ha.2⟩
      obtain ⟨p1,p2,p3⟩:=Umt k (by simp only [List.length_cons]; omega) ha2 hb.2 na nb' e
      refine ⟨⟨hb.1,p1⟩,fun x hx=>?_,fun i=>?_⟩
      · rcases List.mem_cons.1 hx with rfl | hx
        · exact nb _ (List.mem_cons_self ..)
        · exact p2 x hx
      · rw [Ua8 b r' i,Ua8 b ys i,p3 i]
        by_cases hi:b.1=i
        · rw [if_pos hi,if_pos hi,UaO ha2 (by omega),Rat.zero_add]
        · rw [if_neg hi,if_neg hi]
    · rw [if_neg h2] at h
      have e0:a.1=b.1:=by omega
      by_cases hf:fits (a.2 + b.2)
      · rw [if_pos hf] at h
        obtain ⟨r',e,rfl⟩:=Option.map_eq_some_iff.1 h
        obtain ⟨p1,p2,p3⟩:=Umt k (by omega) ha.2 (by rw [e0]; exact hb.2) na' nb' e
        by_cases hz:a.2 + b.2=0
        · rw [if_pos hz]
          refine ⟨UsH p1 (by have:=ha.1; omega),p2,fun i=>?_⟩
          rw [p3 i,cf,cf]
          by_cases hi:a.1=i
          · rw [if_pos hi,if_pos (by omega),hz,UaO ha.2 (by omega),UaO hb.2 (by omega),Rat.add_zero]
          · rw [if_neg hi,if_neg (by omega)]
        · rw [if_neg hz]
          refine ⟨⟨ha.1,p1⟩,fun x hx=>?_,fun i=>?_⟩
          · rcases List.mem_cons.1 hx with rfl | hx
            · exact ⟨hz,hf,(na a (List.mem_cons_self ..)).2.2⟩
            · exact p2 x hx
          · rw [Ua8 (a.1,a.2 + b.2) r' i,Ua8 a xs i,Ua8 b ys i,p3 i]
            by_cases hi:a.1=i
            · rw [if_pos hi,if_pos hi,if_pos (by omega)]
            · rw [if_neg hi,if_neg hi,if_neg (by omega)]
      · rw [if_neg hf] at h; cases h
theorem Uew {cols:Int}:∀ (k:Nat) {a b:List SpT} {last:Int},a.length + b.length≤k→asc last a→asc last b→okN cols a→okN cols b→(Uem a b=none↔∃ i,¬ fits (cf a i + cf b i))
 | k,[],b,last,hk,ha,hb,na,nb=>by
  simp only [Uem,reduceCtorEq,false_iff]
  rintro ⟨i,hi⟩
  rw [cf,Rat.zero_add] at hi
  exact hi (Ujd nb i)
 | k,a::xs,[],last,hk,ha,hb,na,nb=>by
  simp only [Uem,reduceCtorEq,false_iff]
  rintro ⟨i,hi⟩
  rw [show cf [] i=0 from rfl,Rat.add_zero] at hi
  exact hi (Ujd na i)
 | k + 1,a::xs,b::ys,last,hk,ha,hb,na,nb=>by
  have na':okN cols xs:=fun x hx=>na x (List.mem_cons_of_mem _ hx)
  have nb':okN cols ys:=fun x hx=>nb x (List.mem_cons_of_mem _ hx)
  have fa:=(na a (List.mem_cons_self ..)).2.1
  have fb:=(nb b (List.mem_cons_self ..)).2.1
  rw [Uem]
  simp only [List.length_cons] at hk
  by_cases h1:a.1<b.1
  · have hb2:asc (a.1:Int) (b::ys):=⟨by omega,hb.2⟩
    rw [if_pos h1,Option.map_eq_none_iff,Uew k (by simp only [List.length_cons]; omega) ha.2 hb2 na' nb]
    refine exists_congr fun i=>?_
    rw [show cf (a::xs) i=if a.1=i then a.2 else cf xs i from rfl]
    by_cases hi:a.1=i
    · rw [if_pos hi,UaO ha.2 (by omega),UaO hb2 (by omega),Rat.add_zero,Rat.add_zero]
      exact ⟨fun h=>absurd UfJ h,fun h=>absurd fa h⟩
    · rw [if_neg hi]
  · rw [if_neg h1]
    by_cases h2:b.1<a.1
    · have ha2:asc (b.1:Int) (a::xs):=⟨by omega,ha.2⟩
      rw [if_pos h2,Option.map_eq_none_iff,Uew k (by simp only [List.length_cons]; omega) ha2 hb.2 na nb']
      refine exists_congr fun i=>?_
      rw [show cf (b::ys) i=if b.1=i then b.2 else cf ys i from rfl]
      by_cases hi:b.1=i
      · rw [if_pos hi,UaO hb.2 (by omega),UaO ha2 (by omega),Rat.add_zero,Rat.zero_add]
        exact ⟨fun h=>absurd UfJ h,fun h=>absurd fb h⟩
      · rw [if_neg hi]
    · have e0:a.1=b.1:=by omega
      rw [if_neg h2]
      have at_:∀ i,a.1=i→cf (a::xs) i + cf (b::ys) i=a.2 + b.2:=fun i hi=>by rw [cf,cf,if_pos hi,if_pos (by omega)]
      have off:∀ i,a.1≠i→cf (a::xs) i + cf (b::ys) i=cf xs i + cf ys i:=fun i hi=>by rw [cf,cf,if_neg hi,if_neg (by omega)]
      by_cases hf:fits (a.2 + b.2)
      · rw [if_pos hf,Option.map_eq_none_iff,Uew k (by omega) ha.2 (by rw [e0]; exact hb.2) na' nb']
        refine exists_congr fun i=>?_
        by_cases hi:a.1=i
        · rw [at_ i hi,UaO ha.2 (by omega),UaO hb.2 (by omega),Rat.add_zero]
          exact ⟨fun h=>absurd UfJ h,fun h=>absurd hf h⟩
        · rw [off i hi]
      · rw [if_neg hf]
        exact ⟨fun _=>⟨a.1,by rw [at_ _ rfl]; exact hf⟩,fun _=>rfl⟩
end Go.Proofs.YtmgfmlhdnadglaaGreatDoor
