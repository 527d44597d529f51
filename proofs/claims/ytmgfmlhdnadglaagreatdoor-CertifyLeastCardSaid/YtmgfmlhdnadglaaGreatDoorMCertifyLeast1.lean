/- Proved: part 5 of the proof that the law CertifyLeast returns true at all its arguments (no further conditions). -/
import Derived.Test.YtmgfmlhdnadglaaGreatDoorMCertifyLeast0
set_option linter.unusedVariables false
set_option linter.unusedSimpArgs false
namespace Go.Proofs.YtmgfmlhdnadglaaGreatDoor
open Go Th Go.Proofs
variable {R:Type}
theorem UqL (n:Nat) (xs q:List PV) (lv:List Nat) (hv:∀ d∈lv,d<1000000000) (g i:Nat) (hg:g<1000000000) (hi:i<2 ^ 40) (hlv:lv.length<2 ^ 40) :
 ∀ (d m j:Nat) (o:List Nat) (c s:Nat),d + j=lv.length→d<m→i + lv.length≤o.length→o.length<2 ^ 41→(∀ x∈o,x<1000000000)→c<1000000000→s≤1 →
  ∃ (o':List Nat) (c' s':Nat),(∀ k0:List PV→List PV→List PV→Int→List PV→Int→Int→Int→Int→Option R,UaX n m xs (nl .u32 o) (nl .u32 lv) lv.length q i g c s lv.length j k0=k0 xs (nl .u32 o') (nl .u32 lv) lv.length q i g c' s') ∧
   o'.length=o.length∧(∀ x∈o',x<1000000000)∧c'<1000000000∧s'≤1∧o'.drop (i + lv.length)=o.drop (i + lv.length) ∧
   val 1000000000 o' + 1000000000 ^ (i + j) * (c + s) + g * (1000000000 ^ (i + j) * val 1000000000 (lv.drop j))=val 1000000000 o + 1000000000 ^ (i + lv.length) * (c' + s')
 | 0,m + 1,j,o,c,s,hd,hm,ho,ho2,hlt,hc,hs=>by
  have hk:j=lv.length:=by omega
  subst hk
  refine ⟨o,c,s,fun k0=>?_,rfl,hlt,hc,hs,rfl,?_⟩
  · simp only [UaX,UdK]
    simp (disch:=(first | omega | (simp only [JlE]; omega))) only [↓JlH,JlF,JlG]
  · rw [List.drop_length]; simp [val]
 | d + 1,m + 1,j,o,c,s,hd,hm,ho,ho2,hlt,hc,hs=>by
  have hx:=Uad hB2 hv j
  have hz:=Uad hB2 hlt (i + j)
  have hxy:g * lv.getD j 0≤999999999 * 999999999:=Nat.mul_le_mul (by omega) (by omega)
  obtain ⟨t,ht⟩:∃ t,t=c + g * lv.getD j 0:=⟨_,rfl⟩
  have ht2:t / 1000000000<1000000000:=by omega
  have htm:t % 1000000000<1000000000:=Nat.mod_lt _ (by omega)
  obtain ⟨b,hb⟩:∃ b:Nat,b=if o.getD (i + j) 0<t % 1000000000 + s then 1 else 0:=⟨_,rfl⟩
  obtain ⟨r,hr⟩:∃ r:Nat,r + (t % 1000000000 + s)=o.getD (i + j) 0 + 1000000000 * b:=⟨o.getD (i + j) 0 + 1000000000 * b - (t % 1000000000 + s),by split at hb <;> omega⟩
  have hr2:r<1000000000:=by split at hb <;> omega
  have hb1:b≤1:=by split at hb <;> omega
  obtain ⟨o',c',s',h1,h2,h3,h4,h5,h6,h7⟩:=UqL n xs q lv hv g i hg hi hlv d m (j + 1) (o.set (i + j) r) (t / 1000000000) b (by omega) (by omega) (by rw [List.length_set]; exact ho) (by rw [List.length_set]; exact ho2) (Ubq hlt hr2 _) ht2 hb1
  refine ⟨o',c',s',fun k0=>?_,by rw [h2,List.length_set],h3,h4,h5,by rw [h6,List.drop_set_of_lt (by omega)],?_⟩
  · rw [←h1 k0]
    have e1:(i:Int) + (j:Int)=((i + j:Nat):Int):=by omega
    have e2:(j:Int) + 1=((j + 1:Nat):Int):=by omega
    have e4:(g:Int) * ((lv.getD j 0:Nat):Int)=((g * lv.getD j 0:Nat):Int):=by rw [Int.natCast_mul]
    generalize g * lv.getD j 0=xy at *
    have e3:(c:Int) + (xy:Int)=(t:Int):=by omega
    have e5:((o.getD (i + j) 0:Nat):Int) - ((t % 1000000000:Nat):Int) - (s:Int)=(r:Int) - 1000000000 * (b:Int):=by omega
    generalize hzz:o.getD (i + j) 0=z at *
    have hm1:t<2 ^ 62:=by omega
    generalize hq:t / 1000000000=tq at *
    generalize hq2:t % 1000000000=tr at *
    simp only [UaX,UdK,UfJ]
    by_cases hbb:z<tr + s
    · rw [if_pos hbb] at hb
      subst hb
      have e6:(r:Int) - 1000000000 * ((1:Nat):Int) + 1000000000=(r:Int):=by omega
      simp (disch:=(first | omega | (simp only [JlE]; omega))) only [↓JlH,JlF,JlG,e1,e2,e4,e3,JlB,JlC,hq,hq2,hzz,e5,e6]
      rfl
    · rw [if_neg hbb] at hb
      subst hb
      have e6:(r:Int) - 1000000000 * ((0:Nat):Int)=(r:Int):=by omega
      simp (disch:=(first | omega | (simp only [JlE]; omega))) only [↓JlH,JlF,JlG,e1,e2,e4,e3,JlB,JlC,hq,hq2,hzz,e5,e6]
      rfl
  · rw [Ubz (by omega:j<lv.length)]
    have hvs:=Uff 1000000000 r (l:=o) (i:=i + j) (by omega)
    have hmd:=Nat.mod_add_div t 1000000000
    rw [show i + (j + 1)=(i + j) + 1 from by omega,Nat.pow_succ] at h7
    generalize 1000000000 ^ (i + j)=P at *
    generalize val 1000000000 (List.drop (j + 1) lv)=V at *
    generalize val 1000000000 (o.set (i + j) r)=W at *
    generalize val 1000000000 o=U at *
    generalize 1000000000 ^ (i + lv.length)=Q at *
    generalize t % 1000000000=tr at *
    generalize t / 1000000000=tq at *
    generalize lv.getD j 0=y at *
    generalize o.getD (i + j) 0=z at *
    clear h1 h3 h4 h5 hlt hv hb
    have h8:P * r + P * (tr + s)=P * z + P * (1000000000 * b):=by rw [←Nat.mul_add,←Nat.mul_add,hr]
    have h9:P * tr + P * (1000000000 * tq)=P * c + P * (g * y):=by rw [←Nat.mul_add,←Nat.mul_add,hmd,ht]
    grind
theorem Um4 (n:Nat) (xs q:List PV) (lv:List Nat) (hv:∀ d∈lv,d<1000000000) (g i:Nat) (y:Int) (hi:i<2 ^ 40) (hlv:lv.length<2 ^ 40) :
 ∀ (d m j:Nat) (o:List Nat) (c:Nat),d + j=lv.length→d<m→i + lv.length≤o.length→o.length<2 ^ 41→(∀ x∈o,x<1000000000)→c≤1 →
  ∃ (o':List Nat) (c':Nat),(∀ k0:List PV→List PV→List PV→Int→List PV→Int→Int→Int→Int→Option R,Ubd n m xs (nl .u32 o) (nl .u32 lv) lv.length q i g y c lv.length j k0=k0 xs (nl .u32 o') (nl .u32 lv) lv.length q i g y c') ∧
   o'.length=o.length∧(∀ x∈o',x<1000000000)∧c'≤1∧o'.drop (i + lv.length)=o.drop (i + lv.length) ∧
   val 1000000000 o' + 1000000000 ^ (i + lv.length) * c'=val 1000000000 o + 1000000000 ^ (i + j) * c + 1000000000 ^ (i + j) * val 1000000000 (lv.drop j)
 | 0,m + 1,j,o,c,hd,hm,ho,ho2,hlt,hc=>by
  have hk:j=lv.length:=by omega
  subst hk
  refine ⟨o,c,fun k0=>?_,rfl,hlt,hc,rfl,?_⟩
  · simp only [Ubd,UdL]
    simp (disch:=(first | omega | (simp only [JlE]; omega))) only [↓JlH,JlF,JlG]
  · rw [List.drop_length]; simp [val]
 | d + 1,m + 1,j,o,c,hd,hm,ho,ho2,hlt,hc=>by
  have hx:=Uad hB2 hv j
  have hz:=Uad hB2 hlt (i + j)
  obtain ⟨t,ht⟩:∃ t,t=c + (o.getD (i + j) 0 + lv.getD j 0):=⟨_,rfl⟩
  have ht2:t / 1000000000≤1:=by omega
  have htm:t % 1000000000<1000000000:=Nat.mod_lt _ (by omega)
  obtain ⟨o',c',h1,h2,h3,h4,h5,h6⟩:=Um4 n xs q lv hv g i y hi hlv d m (j + 1) (o.set (i + j) (t % 1000000000)) (t / 1000000000) (by omega) (by omega) (by rw [List.length_set]; exact ho) (by rw [List.length_set]; exact ho2) (Ubq hlt htm _) ht2
  refine ⟨o',c',fun k0=>?_,by rw [h2,List.length_set],h3,h4,by rw [h5,List.drop_set_of_lt (by omega)],?_⟩
  · rw [←h1 k0]
    have e1:(i:Int) + (j:Int)=((i + j:Nat):Int):=by omega
    have e2:(j:Int) + 1=((j + 1:Nat):Int):=by omega
    have e3:(c:Int) + (((o.getD (i + j) 0:Nat):Int) + ((lv.getD j 0:Nat):Int))=(t:Int):=by omega
    simp only [Ubd,UdL]
    simp (disch:=(first | omega | (simp only [JlE]; omega))) only [↓JlH,JlF,JlG,e1,e2,e3,JlB,JlC]
  · rw [h6,Ubz (by omega:j<lv.length)]
    have hvs:=Uff 1000000000 (t % 1000000000) (l:=o) (i:=i + j) (by omega)
    have hmd:=Nat.mod_add_div t 1000000000
    rw [show i + (j + 1)=(i + j) + 1 from by omega,Nat.pow_succ]
    generalize 1000000000 ^ (i + j)=P at *
    generalize val 1000000000 (List.drop (j + 1) lv)=V at *
    generalize val 1000000000 (o.set (i + j) (t % 1000000000))=W at *
    generalize val 1000000000 o=U at *
    generalize 1000000000 ^ (i + lv.length)=Q at *
    generalize t % 1000000000=tr at *
    generalize t / 1000000000=tq at *
    generalize lv.getD j 0=y at *
    generalize o.getD (i + j) 0=z at *
    clear h1 h3 h4 h5 hlt hv
    have h9:P * tr + P * (1000000000 * tq)=P * c + (P * z + P * y):=by rw [←Nat.mul_add,←Nat.mul_add,←Nat.mul_add,hmd,ht]
    grind
theorem Uj8 (n:Nat) (xs q:List PV) (lu lv:List Nat) (hu:∀ d∈lu,d<1000000000) (hv:∀ d∈lv,d<1000000000) (i:Nat) (hi:i<2 ^ 40) (hlv:lv.length<2 ^ 40) (h2:2≤lv.length) (hul:i + lv.length<lu.length) (hul2:lu.length<2 ^ 41)
 (v1 v2 u3 U2:Nat) (hv1:lv.getD (lv.length - 1) 0=v1) (hv2:lv.getD (lv.length - 2) 0=v2) (hu3:lu.getD (i + lv.length - 2) 0=u3) (hU2:U2<v1 * 1000000000 + 1000000000) :
 ∀ (m g r:Nat),g<2 ^ 31→r<1000000000→1000000000≤r + m * v1→g * v1 + r=U2→(∀ x,x<1000000000→x * (v1 * 1000000000 + v2)≤U2 * 1000000000 + u3→x≤g) →
  ∃ g':Nat,(∀ k0:List PV→List PV→List PV→Int→List PV→Int→Int→Option R,Ubc n m xs (nl .u32 lu) (nl .u32 lv) lv.length q i g r k0=k0 xs (nl .u32 lu) (nl .u32 lv) lv.length q i g') ∧
   g'<1000000000∧g' * (v1 * 1000000000 + v2)≤U2 * 1000000000 + u3∧(∀ x,x<1000000000→x * (v1 * 1000000000 + v2)≤U2 * 1000000000 + u3→x≤g')
 | 0,g,r,hg,hr,hm,hinv,hmax=>by omega
 | m + 1,g,r,hg,hr,hm,hinv,hmax=>by
  have hb1:v1<1000000000:=by rw [←hv1]; exact Uad hB2 hv _
  have hb2:v2<1000000000:=by rw [←hv2]; exact Uad hB2 hv _
  have hb3:u3<1000000000:=by rw [←hu3]; exact Uad hB2 hu _
  have e1:(lv.length:Int) - 1=((lv.length - 1:Nat):Int):=by omega
  have e2:(lv.length:Int) - 2=((lv.length - 2:Nat):Int):=by omega
  have e3:(i:Int) + (lv.length:Int)=((i + lv.length:Nat):Int):=by omega
  have e4:((i + lv.length:Nat):Int) - 2=((i + lv.length - 2:Nat):Int):=by omega
  have e5:(g:Int) * (v2:Int)=((g * v2:Nat):Int):=by rw [Int.natCast_mul]
  have e6:(r:Int) * 1000000000=((r * 1000000000:Nat):Int):=by omega
  have e7:((r * 1000000000:Nat):Int) + (u3:Int)=((r * 1000000000 + u3:Nat):Int):=by omega
  have e8:(r:Int) + (v1:Int)=((r + v1:Nat):Int):=by omega
  have hgv:g * v2≤2 ^ 31 * 1000000000:=Nat.mul_le_mul (by omega) (by omega)
  have hkey:g * (v1 * 1000000000 + v2) + r * 1000000000=U2 * 1000000000 + g * v2:=by rw [←hinv]; grind
  by_cases hc:1000000000≤g∨r * 1000000000 + u3<g * v2
  · have hg1:1≤g:=by
     rcases Nat.eq_zero_or_pos g with h0 | h0
     · subst h0; simp at hc
     · exact h0
    obtain ⟨p,rfl⟩:∃ p,g=p + 1:=⟨g - 1,by omega⟩
    have e9:((p + 1:Nat):Int) - 1=(p:Int):=by omega
    have hinv':p * v1 + (r + v1)=U2:=by rw [←hinv,Nat.succ_mul]; omega
    have hkey':p * (v1 * 1000000000 + v2) + (r + v1) * 1000000000=U2 * 1000000000 + p * v2:=by rw [←hinv']; grind
    have hmax':∀ x,x<1000000000→x * (v1 * 1000000000 + v2)≤U2 * 1000000000 + u3→x≤p:=by
     intro x hx hxu
     have:=hmax x hx hxu
     by_cases hxp:x=p + 1
     · subst hxp; exfalso; omega
     · omega
    by_cases hr2:1000000000≤r + v1
    · have hpb:p<1000000000:=by
       apply Nat.lt_of_not_le
       intro hp
       have:1000000000 * v1≤p * v1:=Nat.mul_le_mul_right _ hp
       omega
      have hpv:p * v2≤1000000000 * 1000000000:=Nat.mul_le_mul (by omega) (by omega)
      refine ⟨p,fun k0=>?_,hpb,by omega,hmax'⟩
      simp only [Ubc,Ub7,UdI]
      by_cases h1:1000000000≤p + 1
      · simp (disch:=(first | omega | (simp only [JlE]; omega))) only [↓JlH,JlF,JlG,e1,e2,e3,e4,hv1,hv2,hu3,e5,e6,e7,e8,e9]
      · simp (disch:=(first | omega | (simp only [JlE]; omega))) only [↓JlH,JlF,JlG,e1,e2,e3,e4,hv1,hv2,hu3,e5,e6,e7,e8,e9]
    · obtain ⟨g',h1,h3,h4,h5⟩:=Uj8 n xs q lu lv hu hv i hi hlv h2 hul hul2 v1 v2 u3 U2 hv1 hv2 hu3 hU2 m p (r + v1) (by omega) (by omega) (by rw [Nat.succ_mul] at hm; omega) hinv' hmax'
      refine ⟨g',fun k0=>?_,h3,h4,h5⟩
      rw [←h1 k0]
      simp only [Ubc,Ub7,UdI]
      by_cases h1:1000000000≤p + 1
      · simp (disch:=(first | omega | (simp only [JlE]; omega))) only [↓JlH,JlF,JlG,e1,e2,e3,e4,hv1,hv2,hu3,e5,e6,e7,e8,e9]
      · simp (disch:=(first | omega | (simp only [JlE]; omega))) only [↓JlH,JlF,JlG,e1,e2,e3,e4,hv1,hv2,hu3,e5,e6,e7,e8,e9]
  · have hc1:g<1000000000:=by omega
    have hc2:g * v2≤r * 1000000000 + u3:=by omega
    refine ⟨g,fun k0=>?_,hc1,by omega,hmax⟩
    simp only [Ubc,Ub7]
    simp (disch:=(first | omega | (simp only [JlE]; omega))) only [↓JlH,JlF,JlG,e1,e2,e3,e4,hv1,hv2,hu3,e5,e6,e7,e8]
end Go.Proofs.YtmgfmlhdnadglaaGreatDoor
set_option linter.unusedVariables false
namespace Go.Proofs.YtmgfmlhdnadglaaGreatDoor
theorem UKi {B D U P Vl Wl V W g:Nat} (hV:V=D * P + Vl) (hW:W=U * P + Wl) (hVl:Vl<P) (hWl:Wl<P) (hD:B≤D) (hg:g<B) (hgU:g * D≤U)
 (hmax:∀ x,x<B→x * D≤U→x≤g) (hWV:W<B * V):W / V≤g∧g * V<W + V:=by
 have hP:0<P:=by omega
 have hD0:0<D:=by omega
 have hDP:0<D * P:=Nat.mul_pos hD0 hP
 have hV0:0<V:=by omega
 constructor
 · apply hmax
   · exact Nat.div_lt_of_lt_mul (by rw [Nat.mul_comm]; exact hWV)
   · have h1:W / V * V≤W:=Nat.div_mul_le_self W V
     generalize W / V=Q at *
     apply Nat.le_of_not_lt
     intro h
     have h2:(U + 1) * P≤Q * D * P:=Nat.mul_le_mul_right _ h
     rw [hV,Nat.mul_add,←Nat.mul_assoc] at h1
     rw [Nat.succ_mul] at h2
     have h3:0≤Q * Vl:=Nat.zero_le _
     omega
 · have h1:g * D * P≤U * P:=Nat.mul_le_mul_right _ hgU
   have h2:g * Vl≤B * P:=Nat.mul_le_mul (by omega) (by omega)
   have h3:B * P≤D * P:=Nat.mul_le_mul_right _ hD
   have h4:g * Vl<B * P∨g * Vl=0:=by
    rcases Nat.eq_zero_or_pos Vl with h0 | h0
    · right; rw [h0,Nat.mul_zero]
    · left; exact Nat.mul_lt_mul_of_lt_of_lt hg hVl
   rw [hV,Nat.mul_add,←Nat.mul_assoc,hW]
   rcases h4 with h4 | h4 <;> omega
theorem Uai (b:Nat) (l:List Nat) (i:Nat):val b (l.drop i)=l.getD i 0 + b * val b (l.drop (i + 1)):=by
 by_cases h:i<l.length
 · rw [List.drop_eq_getElem_cons h,val,List.getD_eq_getElem?_getD,List.getElem?_eq_getElem h]; rfl
 · rw [List.drop_eq_nil_of_le (by omega),List.drop_eq_nil_of_le (by omega),UbA (by omega)]; simp [val]
theorem UdZ {b:Nat} (hb:2≤b) (l:List Nat) (k:Nat) (h:val b l<b ^ k):val b (l.drop k)=0:=by
 by_cases hk:k≤l.length
 · have h1:=UaB b l k hk
   rcases Nat.eq_zero_or_pos (val b (l.drop k)) with h0 | h0
   · exact h0
   · have:b ^ k * 1≤b ^ k * val b (l.drop k):=Nat.mul_le_mul_left _ h0
     omega
 · rw [List.drop_eq_nil_of_le (by omega)]; rfl
theorem UB8 {B:Nat} (hB:2≤B) (o lv:List Nat) (ho:∀ d∈o,d<B) (hv:∀ d∈lv,d<B) (i:Nat) (h2:2≤lv.length) (hi:i + lv.length<o.length) (hW:val B (o.drop i)<B * val B lv) :
 ∃ Vl Wl,val B lv=(lv.getD (lv.length - 1) 0 * B + lv.getD (lv.length - 2) 0) * B ^ (lv.length - 2) + Vl∧Vl<B ^ (lv.length - 2) ∧
  val B (o.drop i)=((o.getD (i + lv.length) 0 * B + o.getD (i + lv.length - 1) 0) * B + o.getD (i + lv.length - 2) 0) * B ^ (lv.length - 2) + Wl∧Wl<B ^ (lv.length - 2) ∧
  o.getD (i + lv.length) 0 * B + o.getD (i + lv.length - 1) 0<lv.getD (lv.length - 1) 0 * B + B:=by
 have hVlt:=Ufk hB lv hv
 have hWlt:val B (o.drop i)<B ^ (lv.length + 1):=by
  rw [Nat.pow_succ,Nat.mul_comm _ B]
  exact Nat.lt_of_lt_of_le hW (Nat.mul_le_mul_left _ (Nat.le_of_lt hVlt))
 have hz:=UdZ hB _ _ hWlt
 rw [List.drop_drop] at hz
 have hoi:∀ d∈o.drop i,d<B:=fun d hd=>ho d (List.mem_of_mem_drop hd)
 have a1:=UaB B lv (lv.length - 2) (by omega)
 have a2:=Uai B lv (lv.length - 2)
 have a3:=Uai B lv (lv.length - 1)
 rw [show lv.length - 2 + 1=lv.length - 1 from by omega] at a2
 rw [show lv.length - 1 + 1=lv.length from by omega,List.drop_length,show val B []=0 from rfl,Nat.mul_zero,Nat.add_zero] at a3
 rw [a3] at a2; rw [a2] at a1
 have b1:=UaB B (o.drop i) (lv.length - 2) (by rw [List.length_drop]; omega)
 rw [List.drop_drop] at b1
 have b2:=Uai B o (i + (lv.length - 2))
 have b3:=Uai B o (i + lv.length - 1)
 have b4:=Uai B o (i + lv.length)
 rw [show i + (lv.length - 2) + 1=i + lv.length - 1 from by omega] at b2
 rw [show i + lv.length - 1 + 1=i + lv.length from by omega] at b3
 rw [show i + lv.length + 1=i + (lv.length + 1) from by omega,hz,Nat.mul_zero,Nat.add_zero] at b4
 rw [show i + (lv.length - 2)=i + lv.length - 2 from by omega] at b2 b1
 rw [b4] at b3; rw [b3] at b2; rw [b2] at b1
 have c1:=Uaq hB hv (i:=lv.length - 2) (by omega)
 have c2:=Uaq hB hoi (i:=lv.length - 2) (by rw [List.length_drop]; omega)
 have hP:0<B ^ (lv.length - 2):=Nat.pow_pos (by omega)
 have hv2:lv.getD (lv.length - 2) 0<B:=Uad hB hv _
 generalize B ^ (lv.length - 2)=P at *
 generalize val B (List.take (lv.length - 2) lv)=Vl at *
 generalize val B (List.take (lv.length - 2) (o.drop i))=Wl at *
 generalize val B lv=V at *
 generalize val B (o.drop i)=W at *
 generalize lv.getD (lv.length - 1) 0=v1 at *
 generalize lv.getD (lv.length - 2) 0=v2 at *
 generalize o.getD (i + lv.length) 0=z at *
 generalize o.getD (i + lv.length - 1) 0=z1 at *
 generalize o.getD (i + lv.length - 2) 0=z2 at *
 clear a2 a3 b2 b3 b4 hz hVlt hWlt
 refine ⟨Vl,Wl,by rw [a1]; grind,c1,by rw [b1]; grind,c2,?_⟩
 apply Nat.lt_of_not_le
 intro h
 have d1:(v1 * B + B) * (B * P)≤(z * B + z1) * (B * P):=Nat.mul_le_mul_right _ h
 have d2:V<(v1 + 1) * (B * P):=by
  have:v2 * P + P≤B * P:=by rw [←Nat.succ_mul]; exact Nat.mul_le_mul_right _ hv2
  rw [a1]; grind
 have d3:B * V<B * ((v1 + 1) * (B * P)):=Nat.mul_lt_mul_of_pos_left d2 (by omega)
 grind
theorem UEG {Bi P V W g t1 z cs vo vo1 lo:Nat} (r2:vo1=t1 + P * z) (r3:vo=lo + Bi * W) (r4:lo<Bi) (r5:t1<P) (q7:vo1 + g * (Bi * V)=vo + P * cs) :
 (cs≤z→g * V≤W)∧(z<cs→W<g * V):=by
 have e:g * (Bi * V)=Bi * (g * V):=by grind
 rw [e] at q7
 constructor
 · intro h
   have h1:P * cs≤P * z:=Nat.mul_le_mul_left _ h
   have h2:Bi * (g * V)<Bi * (W + 1):=by rw [Nat.mul_succ]; omega
   exact Nat.le_of_lt_succ (Nat.lt_of_mul_lt_mul_left h2)
 · intro h
   have h1:P * (z + 1)≤P * cs:=Nat.mul_le_mul_left _ h
   rw [Nat.mul_succ] at h1
   have h2:Bi * W<Bi * (g * V):=by omega
   exact Nat.lt_of_mul_lt_mul_left h2
end Go.Proofs.YtmgfmlhdnadglaaGreatDoor
set_option linter.unusedVariables false
set_option linter.unusedSimpArgs false
namespace Go.Proofs.YtmgfmlhdnadglaaGreatDoor
open Go Th Go.Proofs
variable {R:Type}
theorem UPH {B Bi BL P V W p r t2 z cs c2 vo vo1 vo2 lo:Nat} (hBi:0<Bi) (hP:P=Bi * BL) (r7:vo2=t2 + P * z) (r8:t2<P) (r3:vo=lo + Bi * W) (r4:lo<Bi) (hm1:W=p * V + r) (hm2:r<BL)
 (q7:vo1 + (p + 1) * (Bi * V)=vo + P * cs) (d6:vo2 + P * c2=vo1 + Bi * V):z + c2=cs∧t2 + Bi * (p * V)=vo:=by
 have e1:(p + 1) * (Bi * V)=Bi * (p * V) + Bi * V:=by grind
 rw [e1] at q7
 have e2:Bi * W=Bi * (p * V) + Bi * r:=by rw [hm1,Nat.mul_add]
 have e3:Bi * r + Bi≤P:=by rw [hP,←Nat.mul_succ]; exact Nat.mul_le_mul_left _ hm2
 have e4:t2 + P * z + P * c2=lo + Bi * r + P * cs:=by omega
 rw [Nat.add_assoc,←Nat.mul_add] at e4
 have h0:0<P:=by omega
 have h1:z + c2=cs:=by
  have a1:(t2 + P * (z + c2)) / P=z + c2:=by rw [Nat.add_mul_div_left _ _ h0,Nat.div_eq_of_lt r8,Nat.zero_add]
  have a2:(lo + Bi * r + P * cs) / P=cs:=by rw [Nat.add_mul_div_left _ _ h0,Nat.div_eq_of_lt (by omega),Nat.zero_add]
  rw [←a1,e4,a2]
 refine ⟨h1,?_⟩
 rw [h1] at e4
 omega
set_option maxHeartbeats 4000000 in
set_option maxHeartbeats 4000000 in
theorem UvT (n m:Nat) (xs:List PV) (o lv lq:List Nat) (ho:∀ d∈o,d<1000000000) (hv:∀ d∈lv,d<1000000000) (hq:∀ d∈lq,d<1000000000) (i:Nat) (h2:2≤lv.length) (hil:i + lv.length<o.length) (hiq:i<lq.length) (hol:o.length<2 ^ 40)
 (hn:lv.length + 2<n) (hv1:500000000≤lv.getD (lv.length - 1) 0) (hW:val 1000000000 (o.drop i)<1000000000 * val 1000000000 lv) :
 ∃ o':List Nat,(∀ k0:List PV→List PV→List PV→Option R,UaN n (m + 1) xs (nl .u32 o) (nl .u32 lv) lv.length (nl .u32 lq) i k0=UaN n m xs (nl .u32 o') (nl .u32 lv) lv.length (nl .u32 (lq.set i (val 1000000000 (o.drop i) / val 1000000000 lv))) ((i:Int) - 1) k0) ∧
  o'.length=o.length∧(∀ d∈o',d<1000000000)∧val 1000000000 o' + 1000000000 ^ i * (val 1000000000 (o.drop i) / val 1000000000 lv * val 1000000000 lv)=val 1000000000 o:=by
 obtain ⟨Vl,Wl,f1,f2,f3,f4,f5⟩:=UB8 hB2 o lv ho hv i h2 hil hW
 have hb1:=Uad hB2 hv (lv.length - 1)
 have hb2:=Uad hB2 hv (lv.length - 2)
 have hbz:=Uad hB2 ho (i + lv.length)
 have hbz1:=Uad hB2 ho (i + lv.length - 1)
 have hbz2:=Uad hB2 ho (i + lv.length - 2)
 obtain ⟨U2,hU2⟩:∃ U2,U2=o.getD (i + lv.length) 0 * 1000000000 + o.getD (i + lv.length - 1) 0:=⟨_,rfl⟩
 rw [←hU2] at f3 f5
 obtain ⟨v1,hv1e⟩:∃ v1,lv.getD (lv.length - 1) 0=v1:=⟨_,rfl⟩
 obtain ⟨v2,hv2e⟩:∃ v2,lv.getD (lv.length - 2) 0=v2:=⟨_,rfl⟩
 obtain ⟨u3,hu3e⟩:∃ u3,o.getD (i + lv.length - 2) 0=u3:=⟨_,rfl⟩
 obtain ⟨z,hze⟩:∃ z,o.getD (i + lv.length) 0=z:=⟨_,rfl⟩
 obtain ⟨z1,hz1e⟩:∃ z1,o.getD (i + lv.length - 1) 0=z1:=⟨_,rfl⟩
 rw [hv1e,hv2e] at f1
 rw [hu3e] at f3
 rw [hv1e] at f5 hb1 hv1
 rw [hv2e] at hb2; rw [hze] at hbz hU2; rw [hz1e] at hbz1 hU2; rw [hu3e] at hbz2
 have hdm:=Nat.div_add_mod' U2 v1
 have hmod:U2 % v1<v1:=Nat.mod_lt _ (by omega)
 have hdv0:U2<v1 * 2147483648:=Nat.lt_of_lt_of_le f5 (by rw [show v1 * 2147483648=v1 * 1000000000 + v1 * 1147483648 from by rw [←Nat.mul_add]]; exact Nat.add_le_add_left (by clear f1 f2 f3 f4 f5 hdm hmod hU2; omega) _)
 have hdv:U2 / v1<2147483648:=Nat.div_lt_of_lt_mul hdv0
 obtain ⟨g,hg1,hg2,hg3,hg4⟩:=Uj8 (R:=R) n xs (nl .u32 lq) o lv ho hv i (by omega) (by omega) h2 hil (by omega) v1 v2 u3 U2 hv1e hv2e hu3e f5 n (U2 / v1) (U2 % v1) hdv (by omega)
  (by have:3 * v1≤n * v1:=Nat.mul_le_mul_right _ (by omega)
      omega) hdm
  (by intro x hx hxu
      rw [Nat.le_div_iff_mul_le (by omega)]
      apply Nat.le_of_not_lt
      intro h
      have h3:(U2 + 1) * 1000000000≤x * v1 * 1000000000:=Nat.mul_le_mul_right _ h
      rw [Nat.mul_add,←Nat.mul_assoc] at hxu
      have:0≤x * v2:=Nat.zero_le _
      omega)
 obtain ⟨k1,k2⟩:=UKi (B:=1000000000) f1 f3 f2 f4 (by omega) hg2 hg3 hg4 hW
 obtain ⟨o1,c1,s1,q1,q2,q3,q4,q5,q6,q7⟩:=UqL (R:=R) n xs (nl .u32 lq) lv hv g i hg2 (by omega) (by omega) lv.length n 0 o 0 0 (by omega) (by omega) (by omega) (by omega) ho (by omega) (by omega)
 have hz':o1.getD (i + lv.length) 0=z:=by
  rw [←hze]
  have h:=congrArg (fun l=>l.getD 0 0) q6
  simpa [List.getD_eq_getElem?_getD] using h
 have r1:=UaB 1000000000 o (i + lv.length) (by omega)
 have r2:=UaB 1000000000 o1 (i + lv.length) (by omega)
 have r3:=UaB 1000000000 o i (by omega)
 have r4:=Uaq hB2 ho (i:=i) (by omega)
 have r5:=Uaq hB2 q3 (i:=i + lv.length) (by omega)
 rw [q6] at r2
 have r6:val 1000000000 (o.drop (i + lv.length))=z:=by
  have hWlt:val 1000000000 (o.drop i)<1000000000 ^ (lv.length + 1):=by
   rw [Nat.pow_succ,Nat.mul_comm _ 1000000000]
   exact Nat.lt_of_lt_of_le hW (Nat.mul_le_mul_left _ (Nat.le_of_lt (Ufk hB2 lv hv)))
  have hz:=UdZ hB2 _ _ hWlt
  rw [List.drop_drop] at hz
  rw [Uai,show i + lv.length + 1=i + (lv.length + 1) from by omega,hz,hze,Nat.mul_zero,Nat.add_zero]
 rw [r6] at r1 r2
 simp only [Nat.add_zero,Nat.mul_zero,List.drop_zero] at q7
 obtain ⟨b1,b2⟩:=UEG r2 r3 r4 r5 q7
 have hV0:0<val 1000000000 lv:=by
  rcases Nat.eq_zero_or_pos (val 1000000000 lv) with h0 | h0
  · rw [h0] at hW; omega
  · exact h0
 by_cases hcs:c1 + s1≤z
 · have hQ:val 1000000000 (o.drop i) / val 1000000000 lv=g:=Nat.le_antisymm k1 ((Nat.le_div_iff_mul_le hV0).2 (b1 hcs))
   rw [hQ]
   have hgu:g<4294967296:=by omega
   have w1:(i:Int) + (lv.length:Int)=((i + lv.length:Nat):Int):=by omega
   have w2:((i + lv.length:Nat):Int) - 1=((i + lv.length - 1:Nat):Int):=by omega
   have w3:(lv.length:Int) - 1=((lv.length - 1:Nat):Int):=by omega
   have w4:(z:Int) * 1000000000 + (z1:Int)=(U2:Int):=by omega
   have w5:(z:Int) - (c1:Int) - (s1:Int)=((z - (c1 + s1):Nat):Int):=by omega
   refine ⟨o1.set (i + lv.length) (z - (c1 + s1)),fun k0=>?_,by rw [List.length_set,q2],Ubq q3 (by omega) _,?_⟩
   · clear f1 f2 f3 f4 f5 hg3 hg4 q7 r1 r2 r3 r4 r5 r6 b1 b2 hQ hW k1 k2 hdm q6 q3 hq ho hv
     have q1':∀ k0:List PV→List PV→List PV→Int→List PV→Int→Int→Int→Int→Option R,UaX n n xs (nl .u32 o) (nl .u32 lv) lv.length (nl .u32 lq) i g 0 0 lv.length 0 k0=k0 xs (nl .u32 o1) (nl .u32 lv) lv.length (nl .u32 lq) i g c1 s1:=q1
     have t1:Int.tdiv (U2:Int) (v1:Int)=((U2 / v1:Nat):Int):=Jlj _ _
     have t2:Int.tmod (U2:Int) (v1:Int)=((U2 % v1:Nat):Int):=Jlk _ _
     generalize U2 / v1=g0 at *
     generalize U2 % v1=r0 at *
     clear q1
     simp only [UaN,Ub6,UiF,UiG,UdJ,UdH]
     simp (disch:=(first | omega | (simp only [JlE]; omega))) only [↓JlH,JlF,JlG,w1,w2,w3,hze,hz1e,hv1e,w4,t1,t2,hg1,q1',hz',w5,q2]
   · have hs:=Uff 1000000000 (z - (c1 + s1)) (l:=o1) (i:=i + lv.length) (by omega)
     rw [hz'] at hs
     have e2:1000000000 ^ (i + lv.length) * z=1000000000 ^ (i + lv.length) * (z - (c1 + s1)) + 1000000000 ^ (i + lv.length) * (c1 + s1):=by rw [←Nat.mul_add]; congr 1; omega
     have e3:g * (1000000000 ^ i * val 1000000000 lv)=1000000000 ^ i * (g * val 1000000000 lv):=by grind
     rw [e3] at q7
     generalize 1000000000 ^ (i + lv.length) * z=A1 at *
     omega
 · have hQ:val 1000000000 (o.drop i) / val 1000000000 lv + 1=g:=by
    have h1:=b2 (Nat.lt_of_not_le hcs)
    have h3:val 1000000000 (o.drop i) / val 1000000000 lv<g:=(Nat.div_lt_iff_lt_mul hV0).2 h1
    obtain ⟨p,rfl⟩:∃ p,g=p + 1:=⟨g - 1,(Nat.succ_pred_eq_of_pos (Nat.lt_of_le_of_lt (Nat.zero_le _) h3)).symm⟩
    have h4:p≤val 1000000000 (o.drop i) / val 1000000000 lv:=(Nat.le_div_iff_mul_le hV0).2 (by rw [Nat.succ_mul] at k2; omega)
    omega
   obtain ⟨p,rfl⟩:∃ p,g=p + 1:=⟨val 1000000000 (o.drop i) / val 1000000000 lv,hQ.symm⟩
   have hQ':val 1000000000 (o.drop i) / val 1000000000 lv=p:=by omega
   rw [hQ']
   obtain ⟨o2,c2,d1,d2,d3,d4,d5,d6⟩:=Um4 (R:=R) n xs (nl .u32 lq) lv hv p i ((z:Int) - (c1:Int) - (s1:Int)) (by omega) (by omega) lv.length n 0 o1 0 (by omega) (by omega) (by omega) (by omega) q3 (by omega)
   simp only [Nat.add_zero,Nat.mul_zero,List.drop_zero] at d6
   have hz2:o2.getD (i + lv.length) 0=z:=by
    rw [←hz']
    have h:=congrArg (fun l=>l.getD 0 0) d5
    simpa [List.getD_eq_getElem?_getD] using h
   have r7:=UaB 1000000000 o2 (i + lv.length) (by omega)
   have r8:=Uaq hB2 d3 (i:=i + lv.length) (by omega)
   rw [d5,q6,r6] at r7
   have hm1:val 1000000000 (o.drop i)=p * val 1000000000 lv + val 1000000000 (o.drop i) % val 1000000000 lv:=by
    rw [←hQ',Nat.div_add_mod']
   have hm2:val 1000000000 (o.drop i) % val 1000000000 lv<1000000000 ^ lv.length:=Nat.lt_trans (Nat.mod_lt _ hV0) (Ufk hB2 lv hv)
   obtain ⟨top,low⟩:=UPH (B:=1000000000) (Nat.pow_pos (by omega):0<1000000000 ^ i) (by rw [Nat.pow_add]) r7 r8 r3 r4 hm1 hm2 q7 d6
   have hs:=Uff 1000000000 0 (l:=o2) (i:=i + lv.length) (by omega)
   rw [hz2,Nat.mul_zero,Nat.add_zero] at hs
   refine ⟨o2.set (i + lv.length) 0,fun k0=>?_,by rw [List.length_set,d2,q2],Ubq d3 (by omega) _,?_⟩
   · have w1:(i:Int) + (lv.length:Int)=((i + lv.length:Nat):Int):=by omega
     have w2:((i + lv.length:Nat):Int) - 1=((i + lv.length - 1:Nat):Int):=by omega
     have w3:(lv.length:Int) - 1=((lv.length - 1:Nat):Int):=by omega
     have w4:(z:Int) * 1000000000 + (z1:Int)=(U2:Int):=by omega
     have w5:((p + 1:Nat):Int) - 1=(p:Int):=by omega
     have w6:(z:Int) - (c1:Int) - (s1:Int) + (c2:Int)=((0:Nat):Int):=by omega
     have hgu:p + 1<4294967296:=by omega
     clear f1 f2 f3 f4 f5 hg3 hg4 q7 r1 r2 r3 r4 r5 r6 b1 b2 hQ hQ' hW k1 k2 hdm q6 q3 hq ho hv r7 r8 hm1 hm2 low hs d3 d5 d6
     have q1':∀ k0:List PV→List PV→List PV→Int→List PV→Int→Int→Int→Int→Option R,UaX n n xs (nl .u32 o) (nl .u32 lv) lv.length (nl .u32 lq) i ((p + 1:Nat):Int) 0 0 lv.length 0 k0=k0 xs (nl .u32 o1) (nl .u32 lv) lv.length (nl .u32 lq) i ((p + 1:Nat):Int) c1 s1:=q1
     have d1':∀ k0:List PV→List PV→List PV→Int→List PV→Int→Int→Int→Int→Option R,Ubd n n xs (nl .u32 o1) (nl .u32 lv) lv.length (nl .u32 lq) i p ((z:Int) - (c1:Int) - (s1:Int)) 0 lv.length 0 k0=k0 xs (nl .u32 o2) (nl .u32 lv) lv.length (nl .u32 lq) i p ((z:Int) - (c1:Int) - (s1:Int)) c2:=d1
     have t1:Int.tdiv (U2:Int) (v1:Int)=((U2 / v1:Nat):Int):=Jlj _ _
     have t2:Int.tmod (U2:Int) (v1:Int)=((U2 % v1:Nat):Int):=Jlk _ _
     generalize U2 / v1=g0 at *
     generalize U2 % v1=r0 at *
     clear q1 d1
     simp only [UaN,Ub6,UiF,UiG,Uoo,UdJ,UdH]
     simp (disch:=(first | omega | (simp only [JlE]; omega))) only [↓JlH,JlF,JlG,w1,w2,w3,hze,hz1e,hv1e,w4,t1,t2,hg1,q1',hz',w5,d1',w6,q2,d2]
   · generalize 1000000000 ^ (i + lv.length) * z=A1 at *
     generalize 1000000000 ^ i * (p * val 1000000000 lv)=A2 at *
     omega
theorem Um5 (n:Nat) (xs:List PV) (lv:List Nat) (hv:∀ d∈lv,d<1000000000) (h2:2≤lv.length) (hn:lv.length + 2<n) (hv1:500000000≤lv.getD (lv.length - 1) 0) (U:Nat) :
 ∀ (d m:Nat) (o lq:List Nat),(∀ x∈o,x<1000000000)→(∀ x∈lq,x<1000000000)→lq.length + lv.length=o.length→d≤lq.length→d<m→o.length<2 ^ 40→val 1000000000 (o.drop d)<val 1000000000 lv →
  val 1000000000 o + 1000000000 ^ d * (val 1000000000 lv * val 1000000000 (lq.drop d))=U →
  ∃ o' lq':List Nat,(∀ k0:List PV→List PV→List PV→Option R,UaN n m xs (nl .u32 o) (nl .u32 lv) lv.length (nl .u32 lq) ((d:Int) - 1) k0=k0 xs (nl .u32 o') (nl .u32 lq'))∧o'.length=o.length∧lq'.length=lq.length ∧
   (∀ x∈o',x<1000000000)∧(∀ x∈lq',x<1000000000)∧val 1000000000 o'<val 1000000000 lv∧val 1000000000 o' + val 1000000000 lv * val 1000000000 lq'=U
 | 0,m + 1,o,lq,ho,hq,hl,hd,hm,h40,hlt,hU=>by
  rw [List.drop_zero] at hlt hU
  rw [Nat.pow_zero,Nat.one_mul] at hU
  refine ⟨o,lq,fun k0=>?_,rfl,rfl,ho,hq,hlt,hU⟩
  simp only [UaN,Ub6]
  simp (disch:=(first | omega | (simp only [JlE]; omega))) only [↓JlH,JlF,JlG]
 | d + 1,m + 1,o,lq,ho,hq,hl,hd,hm,h40,hlt,hU=>by
  have hod:=Uad hB2 ho d
  have hW:val 1000000000 (o.drop d)<1000000000 * val 1000000000 lv:=by
   rw [Uai]
   have:1000000000 * val 1000000000 (o.drop (d + 1)) + 1000000000≤1000000000 * val 1000000000 lv:=by rw [←Nat.mul_succ]; exact Nat.mul_le_mul_left _ hlt
   omega
  obtain ⟨o',s1,s2,s3,s4⟩:=UvT (R:=R) n m xs o lv lq ho hv hq d h2 (by omega) (by omega) h40 hn hv1 hW
  have hV0:0<val 1000000000 lv:=by omega
  have hpB:val 1000000000 (o.drop d) / val 1000000000 lv<1000000000:=Nat.div_lt_of_lt_mul (by rw [Nat.mul_comm]; exact hW)
  obtain ⟨p,hp⟩:∃ p,val 1000000000 (o.drop d) / val 1000000000 lv=p:=⟨_,rfl⟩
  have r1:=UaB 1000000000 o d (by omega)
  have r2:=UaB 1000000000 o' d (by omega)
  have r3:=Uaq hB2 ho (i:=d) (by omega)
  have r4:=Uaq hB2 s3 (i:=d) (by omega)
  have hdm:=Nat.div_add_mod' (val 1000000000 (o.drop d)) (val 1000000000 lv)
  have hmod:val 1000000000 (o.drop d) % val 1000000000 lv<val 1000000000 lv:=Nat.mod_lt _ hV0
  rw [hp] at s1 s4 hpB hdm
  have hrest:val 1000000000 (o'.drop d)=val 1000000000 (o.drop d) % val 1000000000 lv:=by
   have h0:0<1000000000 ^ d:=Nat.pow_pos (by omega)
   generalize 1000000000 ^ d=P at *
   rw [r1,r2,←hdm,Nat.mul_add] at s4
   have e:val 1000000000 (List.take d o') + P * val 1000000000 (List.drop d o')=val 1000000000 (List.take d o) + P * (val 1000000000 (o.drop d) % val 1000000000 lv):=by
    omega
   have a1:(val 1000000000 (List.take d o') + P * val 1000000000 (List.drop d o')) / P=val 1000000000 (List.drop d o'):=by rw [Nat.add_mul_div_left _ _ h0,Nat.div_eq_of_lt r4,Nat.zero_add]
   have a2:(val 1000000000 (List.take d o) + P * (val 1000000000 (o.drop d) % val 1000000000 lv)) / P=val 1000000000 (o.drop d) % val 1000000000 lv:=by rw [Nat.add_mul_div_left _ _ h0,Nat.div_eq_of_lt r3,Nat.zero_add]
   rw [←a1,e,a2]
  have hqv:val 1000000000 ((lq.set d p).drop d)=p + 1000000000 * val 1000000000 (lq.drop (d + 1)):=by
   rw [Uai,List.drop_set_of_lt (by omega),List.getD_eq_getElem?_getD,List.getElem?_set_self (by omega)]; rfl
  obtain ⟨o2,lq2,t1,t2,t3,t4,t5,t6,t7⟩:=Um5 n xs lv hv h2 hn hv1 U d m o' (lq.set d p) s3 (Ubq hq hpB _) (by rw [List.length_set,s2]; exact hl) (by rw [List.length_set]; omega) (by omega) (by omega) (by rw [hrest]; exact hmod)
   (by
     rw [hqv,←hU,←s4,Nat.pow_succ]
     generalize 1000000000 ^ d=P
     generalize val 1000000000 (lq.drop (d + 1))=Q
     generalize val 1000000000 lv=V
     grind)
  refine ⟨o2,lq2,fun k0=>?_,by rw [t2,s2],by rw [t3,List.length_set],t4,t5,t6,t7⟩
  rw [←t1 k0,←s1 k0,show ((d + 1:Nat):Int) - 1=(d:Int) from by omega]
theorem Uwe (B t:Nat) (hB:B=1000000000) (ht:1≤t) (htB:t<B):500000000≤B / (t + 1) * t∧B / (t + 1) * (t + 1)≤B∧1≤B / (t + 1):=by
 have h1:B / (t + 1) * (t + 1)≤B:=Nat.div_mul_le_self _ _
 have h2:1≤B / (t + 1):=(Nat.le_div_iff_mul_le (by omega)).2 (by omega)
 have h3:=Nat.div_add_mod' B (t + 1)
 have h4:B % (t + 1)<t + 1:=Nat.mod_lt _ (by omega)
 refine ⟨?_,h1,h2⟩
 generalize B / (t + 1)=q at *
 generalize B % (t + 1)=r at *
 rw [Nat.mul_succ] at h3
 by_cases c1:q=1
 · subst c1; omega
 by_cases c2:t=1
 · subst c2; omega
 obtain ⟨s,rfl⟩:∃ s,t=s + 2:=⟨t - 2,by omega⟩
 have h5:2 * (s + 1)≤q * (s + 1):=Nat.mul_le_mul_right _ (by omega)
 have h6:q * (s + 2)=q * (s + 1) + q:=by grind
 omega
theorem Ufe {b:Nat} (hb:2≤b) {x:Nat} (h0:x≠0) (hx:x<b):toL b x=[x]:=by
 rw [UbR hb h0,Nat.mod_eq_of_lt hx,Nat.div_eq_of_lt hx,Uam]
theorem UgM {b:Nat} (hb:2≤b) {x:Nat} (h0:x≠0):1≤(toL b x).length∧(toL b x).getD ((toL b x).length - 1) 0 * b ^ ((toL b x).length - 1)≤x∧x<((toL b x).getD ((toL b x).length - 1) 0 + 1) * b ^ ((toL b x).length - 1)∧1≤(toL b x).getD ((toL b x).length - 1) 0:=by
 have hl:1≤(toL b x).length:=by
  rcases Nat.eq_zero_or_pos (toL b x).length with h | h
  · exact absurd ((Ubu hb).1 (List.eq_nil_of_length_eq_zero h)) h0
  · exact h
 have h1:=UaB b (toL b x) ((toL b x).length - 1) (by omega)
 rw [Uai,show (toL b x).length - 1 + 1=(toL b x).length from by omega,List.drop_length,show val b []=0 from rfl,Nat.mul_zero,Nat.add_zero,Uaw hb] at h1
 have h2:=Uaq hb (UaY hb x) (i:=(toL b x).length - 1) (by omega)
 have h3:=UoL hb x
 rw [List.getLast?_eq_getElem?] at h3
 have h4:1≤(toL b x).getD ((toL b x).length - 1) 0:=by
  apply Nat.one_le_iff_ne_zero.2
  intro h
  rw [List.getD_eq_getElem?_getD,List.getElem?_eq_getElem (by omega)] at h
  rw [List.getElem?_eq_getElem (by omega)] at h3
  exact h3 (congrArg some h)
 refine ⟨hl,?_,?_,h4⟩
 · rw [Nat.mul_comm]; omega
 · rw [Nat.succ_mul,Nat.mul_comm]; omega
theorem Up {b:Nat} (hb:2≤b) {x k:Nat} (h:k<(toL b x).length):b ^ k≤x:=by
 apply Nat.le_of_not_lt
 intro q
 have:=(Uao hb x k).2 q
 omega
set_option maxHeartbeats 2000000 in
theorem UqK (n a b:Nat) (hb:0<b) (hla:(toL 1000000000 a).length<2 ^ 20) (hlb:(toL 1000000000 b).length<2 ^ 20) (hn:(toL 1000000000 a).length + (toL 1000000000 b).length + 10<n) (k0:List PV→List PV→Option R) :
 UDT n (NN a) (NN b) k0=k0 (NN (a / b)) (NN (a % b)):=by
 have hc:=fun k0=>UqD (R:=R) n a b (by omega) (by omega) (by omega) k0
 unfold UDT
 simp only [hc]
 by_cases hab:a<b
 · have e:UcV a b=-1:=by unfold UcV; rw [if_pos hab]
   have e0:NN 0=[]:=by unfold NN; rw [Uam]; rfl
   rw [Nat.div_eq_of_lt hab,Nat.mod_eq_of_lt hab,e0]
   simp (disch:=(first | omega | (simp only [JlE]; omega))) only [↓JlH,JlF,JlG,e]
 have e:0≤UcV a b:=by unfold UcV; rw [if_neg hab]; split <;> omega
 obtain ⟨tl,t0,t1,t2⟩:=UgM hB2 (x:=b) (by omega)
 have hbt:=Uad hB2 (UaY hB2 b) ((toL 1000000000 b).length - 1)
 have hN:NN b=nl .u32 (toL 1000000000 b):=rfl
 by_cases h1:(toL 1000000000 b).length=1
 · have hb1:b<1000000000:=by
    have:=(Uao hB2 b 1).1 (by omega)
    rwa [Nat.pow_one] at this
   have hone:=Ufe hB2 (x:=b) (by omega) hb1
   have hs:=fun k0=>UoI (R:=R) n a b hb (by omega) (by omega) (by omega) k0
   have hmod:a % b<b:=Nat.mod_lt _ hb
   have ht:=fun k0=>Ucb (R:=R) n [a % b] (by simp; omega) (by simp; omega) (by simp) k0
   rw [show val 1000000000 [a % b]=a % b from by simp [val]] at ht
   have hN1:NN b=nl .u32 [b]:=by rw [hN,hone]
   have e1:([b].getD 0 0)=b:=rfl
   simp only [UiE]
   rw [hN1]
   have hcond:((([b]:List Nat).length:Int) == 1)=true:=rfl
   have hg:∀ (K:Int→Option R),Jj .u32 ((nl .u32 [b]).getD (0:Int).toNat (PV.v (Value.bool false))) K=K (b:Int):=fun K=>Jhl (l:=[b]) (i:=0) (by simp)
   simp (disch:=(first | omega | (simp only [JlE]; omega))) only [↓JlH,JlF,JlG,hcond,hg,hs,Jln,ht]
   rfl
 obtain ⟨L,hL⟩:∃ L,(toL 1000000000 b).length=L:=⟨_,rfl⟩
 obtain ⟨t,htop⟩:∃ t,(toL 1000000000 b).getD ((toL 1000000000 b).length - 1) 0=t:=⟨_,rfl⟩
 rw [htop] at t0 t1 t2 hbt
 rw [hL] at htop t0 t1 hlb hn tl h1
 obtain ⟨n1,n2,n3⟩:=Uwe 1000000000 t rfl t2 hbt
 obtain ⟨f,hf⟩:∃ f,f=1000000000 / (t + 1):=⟨_,rfl⟩
 rw [←hf] at n1 n2 n3
 have hfB:f<1000000000:=by
  have:f * 2≤f * (t + 1):=Nat.mul_le_mul_left _ (by omega)
  omega
 have hNf:[PV.v (.int .u32 (f:Int))]=NN f:=by unfold NN; rw [Ufe hB2 (by omega) hfB,Jln]
 have hfl:(toL 1000000000 f).length=1:=by rw [Ufe hB2 (by omega) hfB]; rfl
 have hPL:1000000000 ^ L=1000000000 ^ (L - 1) * 1000000000:=by rw [←Nat.pow_succ]; congr 1; omega
 have hvlt:b * f<1000000000 ^ L:=by
  have a1:b * f<(t + 1) * 1000000000 ^ (L - 1) * f:=Nat.mul_lt_mul_of_pos_right t1 (by omega)
  have a2:(t + 1) * 1000000000 ^ (L - 1) * f≤1000000000 ^ (L - 1) * 1000000000:=by
   have:(t + 1) * 1000000000 ^ (L - 1) * f=1000000000 ^ (L - 1) * (f * (t + 1)):=by grind
   rw [this]; exact Nat.mul_le_mul_left _ n2
  omega
 have hvge:500000000 * 1000000000 ^ (L - 1)≤b * f:=by
  have a1:t * 1000000000 ^ (L - 1) * f≤b * f:=Nat.mul_le_mul_right _ t0
  have a2:t * 1000000000 ^ (L - 1) * f=f * t * 1000000000 ^ (L - 1):=by grind
  have a3:500000000 * 1000000000 ^ (L - 1)≤f * t * 1000000000 ^ (L - 1):=Nat.mul_le_mul_right _ n1
  omega
 have hP0:0<1000000000 ^ (L - 1):=Nat.pow_pos (by omega)
 have hvl:(toL 1000000000 (b * f)).length=L:=by
  have a1:=(Uao hB2 (b * f) L).2 hvlt
  have a2:¬ (toL 1000000000 (b * f)).length≤L - 1:=fun h=>by
   have:=(Uao hB2 (b * f) (L - 1)).1 h
   omega
  omega
 obtain ⟨_,_,v2,_⟩:=UgM hB2 (x:=b * f) (by omega)
 rw [hvl] at v2
 have hvtop:500000000≤(toL 1000000000 (b * f)).getD (L - 1) 0:=by
  apply Nat.le_of_not_lt
  intro h
  have:((toL 1000000000 (b * f)).getD (L - 1) 0 + 1) * 1000000000 ^ (L - 1)≤500000000 * 1000000000 ^ (L - 1):=Nat.mul_le_mul_right _ h
  omega
 have hle:b * f≤a * f:=Nat.mul_le_mul_right _ (by omega)
 obtain ⟨A,hA⟩:∃ A,(toL 1000000000 (a * f)).length=A:=⟨_,rfl⟩
 have hA1:L≤A:=by
  rw [←hvl,←hA]
  exact (Uao hB2 (b * f) _).2 (Nat.lt_of_le_of_lt hle ((Uao hB2 (a * f) _).1 (Nat.le_refl _)))
 have hA2:A≤(toL 1000000000 a).length + 1:=by
  rw [←hA]
  apply (Uao hB2 (a * f) _).2
  rw [Nat.pow_succ]
  exact Nat.mul_lt_mul_of_lt_of_lt ((Uao hB2 a _).1 (Nat.le_refl _)) hfB
 obtain ⟨o,ho⟩:∃ o,o=toL 1000000000 (a * f)++[0]:=⟨_,rfl⟩
 have hol:o.length=A + 1:=by rw [ho,List.length_append,hA]; rfl
 have hod:∀ x∈o,x<1000000000:=by
  intro x hx
  rw [ho] at hx
  rcases List.mem_append.1 hx with h | h
  · exact UaY hB2 _ x h
  · simp at h; omega
 have hov:val 1000000000 o=a * f:=by rw [ho,Ud0,Uaw hB2]
 have hdrop:val 1000000000 (o.drop (A + 1 - L))<val 1000000000 (toL 1000000000 (b * f)):=by
  rw [Uaw hB2]
  have a1:=UaB 1000000000 o (A + 1 - L) (by omega)
  have a2:a * f<1000000000 ^ A:=by rw [←hA]; exact (Uao hB2 _ _).1 (Nat.le_refl _)
  have a3:1000000000 ^ A=1000000000 ^ (A + 1 - L) * 1000000000 ^ (L - 1):=by rw [←Nat.pow_add]; congr 1; omega
  rw [hov] at a1
  have a4:1000000000 ^ (A + 1 - L) * val 1000000000 (o.drop (A + 1 - L))<1000000000 ^ (A + 1 - L) * 1000000000 ^ (L - 1):=by omega
  have a5:=Nat.lt_of_mul_lt_mul_left a4
  omega
 obtain ⟨o',lq',q1,q2,q3,q4,q5,q6,q7⟩:=Um5 (R:=R) n (NN f) (toL 1000000000 (b * f)) (UaY hB2 _) (by omega) (by omega) (by rw [hvl]; exact hvtop) (a * f) (A + 1 - L) n o (List.replicate (A + 1 - L) 0) hod (Uhb hB2 _) (by rw [List.length_replicate]; omega) (by rw [List.length_replicate]; omega) (by omega) (by omega) hdrop
  (by rw [List.drop_replicate,Nat.sub_self,hov]; simp [val])
 rw [Uaw hB2] at q6 q7
 have hbf:0<b * f:=Nat.mul_pos hb (by omega)
 have hq:val 1000000000 lq'=a / b:=by
  have:a * f / (b * f)=val 1000000000 lq':=by rw [←q7,Nat.add_mul_div_left _ _ hbf,Nat.div_eq_of_lt q6,Nat.zero_add]
  rw [←this,Nat.mul_div_mul_right _ _ (by omega)]
 have hr:val 1000000000 o'=a % b * f:=by
  have:a * f % (b * f)=val 1000000000 o':=by rw [←q7,Nat.add_mul_mod_self_left,Nat.mod_eq_of_lt q6]
  rw [←this,Nat.mul_mod_mul_right]
 have m1:=fun k0=>Ua7 (R:=R) n a f (by omega) (by omega) (by omega) k0
 have m2:=fun k0=>Ua7 (R:=R) n b f (by omega) (by omega) (by omega) k0
 have m3:=fun k0=>Ucb (R:=R) n o' q4 (by omega) (by omega) k0
 have m4:=fun k0=>Ucb (R:=R) n lq' q5 (by rw [q3,List.length_replicate]; omega) (by rw [q3,List.length_replicate]; omega) k0
 have hrl:(toL 1000000000 (a % b * f)).length≤L:=by
  apply (Uao hB2 _ _).2
  rw [←hr]
  exact Nat.lt_trans q6 hvlt
 have m5:=fun k0=>UoI (R:=R) n (a % b * f) f (by omega) (by omega) (by omega) (by omega) k0
 rw [hr] at m3
 rw [hq] at m4
 rw [Nat.mul_div_cancel _ (by omega)] at m5
 have w1:((L:Int) == 1)=false:=by simp; omega
 have w2:(L:Int) - 1=((L - 1:Nat):Int):=by omega
 have w3:(t:Int) + 1=((t + 1:Nat):Int):=by omega
 have w4:Int.tdiv 1000000000 ((t + 1:Nat):Int)=(f:Int):=by rw [hf]; exact Jlj 1000000000 (t + 1)
 have w5:((0 + A + (0 + 1):Nat):Int) - (L:Int)=((A + 1 - L:Nat):Int):=by omega
 have w6:nl .u32 (toL 1000000000 (a * f))++([.v (.int .u32 0)]:List PV)=nl .u32 o:=by
  rw [ho,←Jjc]; rfl
 have hNa:NN (a * f)=nl .u32 (toL 1000000000 (a * f)):=rfl
 have hNb:NN (b * f)=nl .u32 (toL 1000000000 (b * f)):=rfl
 have w7:((A + 1:Nat):Int) - (L:Int)=((A + 1 - L:Nat):Int):=by omega
 rw [hvl] at q1
 have hg:∀ (K:Int→Option R),Jj .u32 ((NN f).getD (0:Int).toNat (PV.v (Value.bool false))) K=K (f:Int):=fun K=>by rw [←hNf]; rfl
 have hNl:(NN f).length=1:=by rw [←hNf]; rfl
 simp only [UiE,Ulw,Ulx,Uly,Ulz,UiC,UiD,Uon]
 rw [hN]
 clear hdrop hvge hvlt n1 n2 hPL q6 q7 t0 t1 v2 hle hr hq hbf hP0 hov
 simp (disch:=(first | omega | (simp only [JlE]; omega))) only [↓JlH,JlF,JlG,w1,hL,htop,w2,w3,w4,hNf,m1]
 rw [←hN]
 simp (disch:=(first | omega | (simp only [JlE]; omega))) only [↓JlH,JlF,JlG,m2,hNa,hNb,hA,hvl,w5,List.nil_append,w6,hol,w7,q1,m3,hNl,hg,m5,m4]
theorem Uob (n:Nat) (k0:List PV→Option R):∀ (m a b:Nat),b<m→(toL 1000000000 a).length<2 ^ 19→(toL 1000000000 b).length<2 ^ 19→(toL 1000000000 a).length + (toL 1000000000 b).length + 10<n→(toL 1000000000 b).length + (toL 1000000000 b).length + 10<n →
 UdC n m (NN a) (NN b) k0=k0 (NN (Nat.gcd b a))
 | m + 1,a,b,hm,ha,hb,hn,hn2=>by
  simp only [UdC,Uix]
  have hN:(NN b).length=(toL 1000000000 b).length:=by unfold NN; rw [Jjd]
  by_cases h0:b=0
  · subst h0
    rw [Uam] at hN
    have hN':(NN 0).length=0:=hN
    simp (disch:=(first | omega | (simp only [JlE]; omega))) only [↓JlH,JlF,JlG,hN',Nat.gcd_zero_left]
  · have hl:1≤(toL 1000000000 b).length:=(UgM hB2 h0).1
    have hd:=fun k0=>UqK (R:=R) n a b (by omega) (by omega) (by omega) (by omega) k0
    have hlt:a % b<b:=Nat.mod_lt _ (by omega)
    have hlr:(toL 1000000000 (a % b)).length≤(toL 1000000000 b).length:=(Uao hB2 _ _).2 (Nat.lt_trans hlt ((Uao hB2 _ _).1 (Nat.le_refl _)))
    have ih:=Uob n k0 m b (a % b) (by omega) hb (by omega) (by omega) (by omega)
    simp (disch:=(first | omega | (simp only [JlE]; omega))) only [↓JlH,JlF,JlG,hN,hd]
    rw [ih,←Nat.gcd_rec]
theorem Uyw (n a b:Nat) (hbn:b<n) (ha:(toL 1000000000 a).length<2 ^ 19) (hb:(toL 1000000000 b).length<2 ^ 19) (hn:(toL 1000000000 a).length + (toL 1000000000 b).length + 10<n) (hn2:(toL 1000000000 b).length + (toL 1000000000 b).length + 10<n) (k0:List PV→Option R) :
 UG4 n (NN a) (NN b) k0=k0 (NN (Nat.gcd b a)):=by
 unfold UG4 UtY
 exact Uob n _ n a b hbn ha hb hn hn2
theorem Uwb (l k:Nat):JkU 0 ((l:Int) - (k:Int))=((l - k:Nat):Int):=by
 unfold JkU; split <;> omega
theorem UpD {s:List UInt8} (h:∀ c∈s,isD c=true) (h0:s≠[]) (hl:s.length≤18) (K:Int→Option R):Jib (bs s) K=K (ofD s:Int):=by
 unfold Jib
 rw [Jg7,UvA s h h0 hl,Jd4,decide_eq_true (by omega)]; rfl
theorem Uh (n:Nat):∀ (m:Nat) (s:List UInt8) (o:List Nat),(∀ c∈s,isD c=true)→(∀ d∈o,d<1000000000)→s.length<m→s.length + o.length<2 ^ 30 →
 ∃ o':List Nat,(∀ k0:List PV→Option R,UeJ n m (bs s) (nl .u32 o) k0=k0 (nl .u32 o'))∧(∀ d∈o',d<1000000000)∧o'.length≤o.length + s.length∧val 1000000000 o'=val 1000000000 o + 1000000000 ^ o.length * ofD s
 | m + 1,s,o,hs,ho,hm,hl=>by
  by_cases h0:s=[]
  · subst h0
    refine ⟨o,fun k0=>?_,ho,by omega,by rw [show ofD []=0 from rfl]; simp⟩
    simp only [UeJ,Ujl]
    simp (disch:=(first | omega | (simp only [JlE]; omega))) only [↓JlH,JlF,JlG]
  · have hpos:0<s.length:=List.length_pos_iff.2 h0
    obtain ⟨k,hk⟩:∃ k,k=s.length - 9:=⟨_,rfl⟩
    have h1:∀ c∈s.take k,isD c=true:=fun c h=>hs c (List.mem_of_mem_take h)
    have h2:∀ c∈s.drop k,isD c=true:=fun c h=>hs c (List.mem_of_mem_drop h)
    have h3:(s.drop k).length≤9:=by rw [List.length_drop]; omega
    have h4:s.drop k≠[]:=by intro e; have:=congrArg List.length e; rw [List.length_drop,List.length_nil] at this; omega
    have h5:ofD (s.drop k)<1000000000:=Nat.lt_of_lt_of_le (UtU h2) (Nat.pow_le_pow_right (n:=10) (by omega) h3)
    have h6:ofD s=ofD (s.take k) * 1000000000 + ofD (s.drop k):=by
     conv=>lhs; rw [←List.take_append_drop k s]
     rw [Uo3]
     by_cases hk0:k=0
     · subst hk0
       rw [List.take_zero,show ofD []=0 from rfl,Nat.zero_mul,Nat.zero_mul]
     · rw [List.length_drop,show s.length - k=9 from by omega]
    obtain ⟨o',q1,q2,q3,q4⟩:=Uh n m (s.take k) (o++[ofD (s.drop k)]) h1 (by
     intro d hd
     rcases List.mem_append.1 hd with h | h
     · exact ho d h
     · rw [List.mem_singleton.1 h]; exact h5) (by rw [List.length_take]; omega) (by rw [List.length_take,List.length_append,List.length_singleton]; omega)
    refine ⟨o',fun k0=>?_,q2,by rw [List.length_append,List.length_singleton,List.length_take] at q3; omega,?_⟩
    · rw [←q1 k0]
      have w1:JkU 0 ((s.length:Int) - 9)=(k:Int):=by rw [hk]; exact Uwb s.length 9
      have w2:List.drop k (List.take s.length s)=s.drop k:=by rw [List.take_length]
      have w3:=fun K=>UpD (R:=R) h2 h4 (by omega) K
      have w4:List.drop 0 (List.take k s)=s.take k:=rfl
      simp only [UeJ,Ujl]
      simp (disch:=(first | omega | (simp only [JlE]; omega))) only [↓JlH,JlF,JlG,w1,w2,w3,Jln]
    · rw [q4,Ubi,h6,List.length_append,List.length_singleton,Nat.pow_succ]
      grind
theorem Ujp (n:Nat) (s:List UInt8) (hs:∀ c∈s,isD c=true) (hl:s.length<2 ^ 20) (hn:s.length<n) (k0:List PV→Option R):p98 n (bs s) k0=k0 (NN (ofD s)):=by
 obtain ⟨o',q1,q2,q3,q4⟩:=Uh (R:=R) n n s [] hs (by intro d h; cases h) hn (by simp; omega)
 rw [List.length_nil] at q3
 have ht:=Ucb (R:=R) n o' q2 (by omega) (by omega) k0
 rw [q4,show val 1000000000 []=0 from rfl,List.length_nil,Nat.pow_zero,Nat.one_mul,Nat.zero_add] at ht
 unfold p98 Uzi
 rw [show ([]:List PV)=nl .u32 [] from rfl,q1,ht]
theorem Uog (d:Nat) (h:d<1000000000):JiB (d:Int)=bs (dec d):=by
 unfold JiB Lib.itoa
 rw [if_neg (by omega),Int.toNat_natCast]; rfl
theorem Uod (d:Nat) (h:d<1000000000):JkT (d:Int)=true:=by
 unfold JkT; simp; omega
theorem UwP (k:Nat):Lib.repeatL [48] k=List.replicate k 48:=by
 induction k with
 | zero=>rfl
 | succ k ih=>rw [Lib.repeatL,ih]; rfl
theorem UNz {d:Nat} (h:d<1000000000):(dec d).length≤9:=(Uby d 9 (by omega)).2 h
theorem Ukx (n:Nat) (l:List Nat) (hl:∀ d∈l,d<1000000000) (h30:l.length<2 ^ 30) (k0:ByteArray→Option R):∀ (i m:Nat),i<l.length→i<m→val 1000000000 (l.drop i)≠0→(dec (val 1000000000 (l.drop i))).length≤9 * (l.length - i) →
 Ua9 n m (nl .u32 l) (bs (dec (val 1000000000 (l.drop i)))) ((i:Int) - 1) k0=k0 (bs (dec (val 1000000000 l)))
 | 0,m + 1,hi,hm,h0,hb=>by
  rw [List.drop_zero] at *
  simp only [Ua9,Ucn]
  simp (disch:=(first | omega | (simp only [JlE]; omega))) only [↓JlH,JlF,JlG]
 | i + 1,m + 1,hi,hm,h0,hb=>by
  have hd:=Uad hB2 hl i
  have hv:=Uai 1000000000 l i
  have hstep:=UmY 9 (val 1000000000 (l.drop (i + 1))) (l.getD i 0) h0 hd
  have e:val 1000000000 (l.drop (i + 1)) * 10 ^ 9 + l.getD i 0=val 1000000000 (l.drop i):=by rw [hv]; omega
  rw [e] at hstep
  have h9:=UNz hd
  have hp:=Uzj 8 (l.getD i 0) hd
  have hlp:(pad 9 (l.getD i 0)).length=9:=by rw [←hp,List.length_append,List.length_replicate]; omega
  have hlen:(dec (val 1000000000 (l.drop i))).length≤9 * (l.length - i):=by rw [hstep,List.length_append,hlp]; omega
  have ih:=Ukx n l hl h30 k0 i m (by omega) (by omega) (by rw [hv]; omega) hlen
  rw [hstep,←hp] at ih
  have w1:((i + 1:Nat):Int) - 1=(i:Int):=by omega
  have w2:=Uog _ hd
  have w3:=Uod _ hd
  have w4:((9:Int) - ((dec (l.getD i 0)).length:Int))=((8 + 1 - (dec (l.getD i 0)).length:Nat):Int):=by omega
  have w5:Jld (bs [48]) ((8 + 1 - (dec (l.getD i 0)).length:Nat):Int)=bs (List.replicate (8 + 1 - (dec (l.getD i 0)).length) 48):=by
   rw [Jle,Int.toNat_natCast,UwP]
  have w6:(⟨#[48]⟩:ByteArray).size=1:=rfl
  simp only [Ua9,Ucn,Uc0]
  simp (disch:=(first | omega | (simp only [JlE]; omega))) only [↓JlH,JlF,JlG,w1,w2,w3,w4,w5,w6,ih]
theorem Uvk (n a:Nat) (hl:(toL 1000000000 a).length<2 ^ 30) (hn:(toL 1000000000 a).length<n) (k0:ByteArray→Option R):UG6 n (NN a) k0=k0 (bs (dec a)):=by
 unfold UG6 NN
 by_cases h0:a=0
 · subst h0
   rw [Uam,Uav]
   rfl
 obtain ⟨t1,t2,t3,t4⟩:=UgM hB2 h0
 have hlt:=UaY hB2 a
 have hval:=Uaw hB2 a
 generalize toL 1000000000 a=l at *
 obtain ⟨m,rfl⟩:∃ m,n=m + 1:=⟨n - 1,by omega⟩
 have hd:=Uad hB2 hlt (l.length - 1)
 have hv:=Uai 1000000000 l (l.length - 1)
 rw [show l.length - 1 + 1=l.length from by omega,List.drop_length,show val 1000000000 []=0 from rfl,Nat.mul_zero,Nat.add_zero] at hv
 have h9:=UNz hd
 have ih:=Ukx (m + 1) l hlt hl k0 (l.length - 1) m (by omega) (by omega) (by omega) (by rw [hv]; omega)
 rw [hv,hval] at ih
 have w0:((l.length:Int) == 0)=false:=by simp; intro e; rw [e] at t1; simp at t1
 have w1:((l.length:Int) - 1)=((l.length - 1:Nat):Int):=by omega
 have w2:=Uog _ hd
 have w3:=Uod _ hd
 simp only [Ut8,UfK,UiH,Uc0]
 simp (disch:=(first | omega | (simp only [JlE]; omega))) only [↓JlH,JlF,JlG,w0,w1,w2,w3,List.nil_append,ih]
def UPc (a b:Nat):Prop:=a≠0∧(10 ^ 400≤a / Nat.gcd a b∨10 ^ 400≤b / Nat.gcd a b)
instance (a b:Nat):Decidable (UPc a b):=by unfold UPc; infer_instance
def zs (neg:Bool) (a:Nat):Int:=if neg then -(a:Int) else a
theorem UaH (neg:Bool) (a:Nat):(zs neg a).natAbs=a:=by cases neg <;> simp [zs]
theorem UbS (z:Int):zs (decide (z<0)) z.natAbs=z:=by
 unfold zs; split <;> rename_i h <;> simp at h <;> omega
theorem Umu (neg:Bool):zs neg 0=0:=by cases neg <;> rfl
theorem Uiv (neg:Bool) {a:Nat} (h:a≠0):Lib.itoa (zs neg a)=(if neg then [45] else [])++dec a:=by
 unfold Lib.itoa
 cases neg
 · rw [if_neg (by simp [zs])]; simp [zs]
 · rw [if_pos (by simp [zs]; omega)]; simp [zs]
theorem Ucf (a:Nat):Lib.itoa (a:Int)=dec a:=by unfold Lib.itoa; rw [if_neg (by omega),Int.toNat_natCast]
theorem Uoj (neg:Bool) (a b:Nat) (hb:b≠0):(mkRat (zs neg a) b).num=zs neg (a / Nat.gcd b a):=by
 rw [Rat.num_mkRat,if_neg hb,UaH]
 cases neg
 · simp [zs]
 · simp only [zs,if_true]
   rw [Int.neg_ediv_of_dvd (Int.natCast_dvd_natCast.2 (Nat.gcd_dvd_right b a))]
   rfl
theorem Uoi (neg:Bool) (a b:Nat) (hb:b≠0):(mkRat (zs neg a) b).den=b / Nat.gcd b a:=by
 rw [Rat.den_mkRat,if_neg hb,UaH]
def Uae (q:Rat):List UInt8:=Lib.itoa q.num++if q.den=1 then [] else 47::dec q.den
def fits (q:Rat):Prop:=q.num.natAbs<10 ^ 400∧q.den<10 ^ 400
instance (q:Rat):Decidable (fits q):=by unfold fits; infer_instance
theorem UuV:Uae 0=[48]:=by
 unfold Uae
 rw [show (0:Rat).num=((0:Nat):Int) from rfl,Ucf,Uav]; rfl
theorem Uzu:NN 0=[]:=by unfold NN; rw [Uam]; rfl
theorem Upf (a:Nat):(NN a).length=(toL 1000000000 a).length:=by unfold NN; rw [Jjd]
theorem UhR {a:Nat} (h0:a≠0) (h:a<1000000000):NN a=[PV.v (.int .u32 (a:Int))]:=by unfold NN; rw [Ufe hB2 h0 h,Jln]
theorem UD3:NN 1=[PV.v (.int .u32 1)]:=UhR (by omega) (by omega)
theorem UQs {a k:Nat} (h:a<1000000000 ^ k):(toL 1000000000 a).length≤k:=(Uao hB2 a k).2 h
theorem Ub2 {a b k:Nat} (h:(toL 1000000000 b).length≤k) (hab:a≤b):(toL 1000000000 a).length≤k:=(Uao hB2 a k).2 (Nat.lt_of_le_of_lt hab ((Uao hB2 b k).1 h))
theorem UuN (n:Nat) (neg t:Bool) (a b g:Nat) (hg:g≠0) (ht:t=false→g=1) (ha:(toL 1000000000 a).length<2 ^ 18) (hb:(toL 1000000000 b).length<2 ^ 18) (hgl:(toL 1000000000 g).length<2 ^ 18) (hn:2 ^ 20<n) (k0:Bool→List PV→List PV→Option R) :
 Ug8 n neg (NN a) (NN b) (NN g) t k0=k0 neg (NN (a / g)) (NN (b / g)):=by
 unfold Ug8
 cases t
 · rw [ht rfl,Nat.div_one,Nat.div_one]; rfl
 · have d1:=fun k0=>UqK (R:=R) n a g (by omega) (by omega) (by omega) (by omega) k0
   have d2:=fun k0=>UqK (R:=R) n b g (by omega) (by omega) (by omega) (by omega) k0
   simp only [cond_true,d1,d2]
theorem Uo6 (n:Nat) (neg:Bool) (a b:Nat) (hb0:b≠0) (ha:(toL 1000000000 a).length<2 ^ 18) (hb:(toL 1000000000 b).length<2 ^ 18) (hn:2 ^ 20<n) (hbn:b<n) (k0:ByteArray→Int→Option R) :
 p79 n neg (NN a) (NN b) k0=if fits (mkRat (zs neg a) b) then k0 (bs (Uae (mkRat (zs neg a) b))) 0 else k0 (bs []) 5:=by
 unfold p79
 by_cases h0:a=0
 · subst h0
   rw [Umu,Rat.zero_mkRat]
   rw [if_pos (by decide +kernel),Uzu,UuV]
   rfl
 have hg:=fun k0=>Uyw (R:=R) n a b hbn (by omega) (by omega) (by omega) (by omega) k0
 have hg0:Nat.gcd b a≠0:=fun e=>h0 (Nat.gcd_eq_zero_iff.1 e).2
 have hgl:(toL 1000000000 (Nat.gcd b a)).length≤(toL 1000000000 a).length:=Ub2 (Nat.le_refl _) (Nat.le_of_dvd (by omega) (Nat.gcd_dvd_right b a))
 obtain ⟨g,hge⟩:∃ g,Nat.gcd b a=g:=⟨_,rfl⟩
 have hal:¬ (toL 1000000000 a).length=0:=fun e=>h0 ((Ubu hB2).1 (List.eq_nil_of_length_eq_zero e))
 have hda:g ∣ a:=by rw [←hge]; exact Nat.gcd_dvd_right b a
 have hdb:g ∣ b:=by rw [←hge]; exact Nat.gcd_dvd_left b a
 have hag:a / g≠0:=by
  have:=Nat.div_mul_cancel hda
  intro e; rw [e] at this; omega
 have hbg:b / g≠0:=by
  have:=Nat.div_mul_cancel hdb
  intro e; rw [e] at this; omega
 have hla:(toL 1000000000 (a / g)).length<2 ^ 18:=Nat.lt_of_le_of_lt (Ub2 (Nat.le_refl _) (Nat.div_le_self a g)) ha
 have hlb:(toL 1000000000 (b / g)).length<2 ^ 18:=Nat.lt_of_le_of_lt (Ub2 (Nat.le_refl _) (Nat.div_le_self b g)) hb
 have e0:(((toL 1000000000 a).length:Int) == 0)=false:=by rw [Jk0]; simpa using hal
 have key:∀ t:Bool,(t=false→g=1)→Ug8 n neg (NN a) (NN b) (NN g) t (fun (y5:Bool) (y6:List PV) (y7:List PV)=>Ukk n y5 y6 y7 (fun (y8:ByteArray) (y9:Int)=>k0 y8 y9))=if fits (mkRat (zs neg a) b) then k0 (bs (Uae (mkRat (zs neg a) b))) 0 else k0 (bs []) 5:=by
  intro t ht
  rw [UuN n neg t a b g (by omega) ht ha hb (by rw [←hge]; omega) hn]
  unfold Ukk
  have t1:=fun k0=>Uvk (R:=R) n (a / g) (by omega) (by omega) k0
  have t2:=fun k0=>Uvk (R:=R) n (b / g) (by omega) (by omega) k0
  simp only [t1,t2]
  have hf:fits (mkRat (zs neg a) b)↔((dec (a / g)).length≤400∧(dec (b / g)).length≤400):=by
   unfold fits
   rw [Uoj neg a b hb0,Uoi neg a b hb0,UaH,hge,Uby _ _ (by omega),Uby _ _ (by omega)]
  have hr:Uae (mkRat (zs neg a) b)=(if neg then [45] else [])++dec (a / g)++if b / g=1 then [] else 47::dec (b / g):=by
   unfold Uae
   rw [Uoj neg a b hb0,Uoi neg a b hb0,hge,Uiv neg hag]
  by_cases c1:400<(dec (a / g)).length
  · rw [if_neg (by rw [hf]; omega)]
    simp (disch:=(first | omega | (simp only [JlE]; omega))) only [↓JlH,JlF,JlG]
  by_cases c2:400<(dec (b / g)).length
  · rw [if_neg (by rw [hf]; omega)]
    simp (disch:=(first | omega | (simp only [JlE]; omega))) only [↓JlH,JlF,JlG]
  rw [if_pos (by rw [hf]; omega),hr]
  have e1:(dec (b / g) == [49])=decide (b / g=1):=by
   rw [Bool.eq_iff_iff,beq_iff_eq,decide_eq_true_iff]
   constructor
   · intro e; exact UcW (e.trans (Ubb (by omega:1<10)).symm)
   · intro e; rw [e,Ubb (by omega)]; rfl
  simp only [UlL,Ujb,Ujc]
  cases neg
  · by_cases c3:b / g=1
    · have e2:(dec (b / g) == [49])=true:=by rw [e1]; simpa using c3
      rw [if_pos c3]
      simp (disch:=(first | omega | (simp only [JlE]; omega))) only [↓JlH,JlF,JlG,e2]
      simp
    · have e2:(dec (b / g) == [49])=false:=by rw [e1]; simpa using c3
      rw [if_neg c3]
      simp (disch:=(first | omega | (simp only [JlE]; omega))) only [↓JlH,JlF,JlG,e2]
      simp
  · by_cases c3:b / g=1
    · have e2:(dec (b / g) == [49])=true:=by rw [e1]; simpa using c3
      rw [if_pos c3]
      simp (disch:=(first | omega | (simp only [JlE]; omega))) only [↓JlH,JlF,JlG,e2]
      simp
    · have e2:(dec (b / g) == [49])=false:=by rw [e1]; simpa using c3
      rw [if_neg c3]
      simp (disch:=(first | omega | (simp only [JlE]; omega))) only [↓JlH,JlF,JlG,e2]
      simp
 simp only [hg,hge,Upf]
 by_cases c:1<(toL 1000000000 g).length
 · have:1000000000 ^ 1≤g:=Up hB2 c
   simp (disch:=(first | omega | (simp only [JlE]; omega))) only [↓JlH,JlF,JlG,e0,key true (fun h=>by cases h)]
 · have hg1:g<1000000000:=by
    have:=(Uao hB2 g 1).1 (by omega)
    rwa [Nat.pow_one] at this
   have hgl1:(toL 1000000000 g).length=1:=by rw [Ufe hB2 (by omega) hg1]; rfl
   have hgi:∀ (K:Int→Option R),Jj .u32 ((NN g).getD (0:Int).toNat (PV.v (Value.bool false))) K=K (g:Int):=fun K=>by rw [UhR (by omega) hg1]; rfl
   have e3:decide ((g:Int)>1)=false→g=1:=by intro h; simp at h; omega
   simp (disch:=(first | omega | (simp only [JlE]; omega))) only [↓JlH,JlF,JlG,e0,hgi,hgl1]
   exact key _ e3
def UjW (s:List UInt8):Bool:=!s.isEmpty&&decide (s.length≤400)&&!(s.head? == some 48&&decide (1<s.length))&&s.all isD
theorem Uj5 (c:UInt8):([48,49,50,51,52,53,54,55,56,57]:List UInt8).contains c=isD c:=by
 rw [Bool.eq_iff_iff,UaK]
 simp only [List.contains_eq_mem,List.mem_cons,List.not_mem_nil,or_false,decide_eq_true_eq,←UInt8.toNat_inj]
 have e:∀ k:Nat,k<256→(UInt8.ofNat k).toNat=k:=fun k h=>by rw [UInt8.toNat_ofNat']; omega
 show (c.toNat=48∨c.toNat=49∨c.toNat=50∨c.toNat=51∨c.toNat=52∨c.toNat=53∨c.toNat=54∨c.toNat=55∨c.toNat=56∨c.toNat=57)↔_
 omega
theorem UdA {α:Type} (p:α→Bool) (l:List α) {x:α} (h:x∈l):p x=true∨x∈l.dropWhile p:=by
 induction l with
 | nil=>cases h
 | cons a r ih =>
  rw [List.dropWhile_cons]
  by_cases ha:p a=true
  · rw [if_pos ha]
    rcases List.mem_cons.1 h with rfl | h
    · exact Or.inl ha
    · exact ih h
  · rw [if_neg ha]; exact Or.inr h
theorem Uie {α:Type} (p:α→Bool) (l:List α):l.dropWhile p=[]↔∀ x∈l,p x=true:=by
 constructor
 · intro h x hx
   rcases UdA p l hx with h1 | h1
   · exact h1
   · rw [h] at h1; cases h1
 · intro h
   induction l with
   | nil=>rfl
   | cons a r ih=>rw [List.dropWhile_cons,if_pos (h a (List.mem_cons_self ..)),ih fun x hx=>h x (List.mem_cons_of_mem _ hx)]
theorem Uw0 (s:List UInt8):((Lib.trimS s [48,49,50,51,52,53,54,55,56,57]) == [])=s.all isD:=by
 have hp:(([48,49,50,51,52,53,54,55,56,57]:List UInt8).contains ·)=isD:=funext Uj5
 unfold Lib.trimS Lib.trimLeftS Lib.trimRightS
 rw [hp,Bool.eq_iff_iff,beq_iff_eq,Uie,List.all_eq_true]
 constructor
 · intro h c hc
   rcases UdA isD s.reverse (List.mem_reverse.2 hc) with h1 | h1
   · exact h1
   · exact h c (List.mem_reverse.2 h1)
 · intro h c hc
   have:c∈s.reverse:=(List.dropWhile_sublist _).subset (List.mem_reverse.1 hc)
   exact h c (List.mem_reverse.1 this)
theorem UwZ (s:List UInt8):eqS (JkL (bs s) (bs [48,49,50,51,52,53,54,55,56,57])) (bs [])=s.all isD:=by
 rw [←Uw0]; rfl
theorem Uvn (s:List UInt8) (h:s.length≤400):Jjj (bs s) (bs [48,49,50,51,52,53,54,55,56,57])=true:=by
 unfold Jjj
 rw [Jd4,decide_eq_true (by omega)]; rfl
theorem UAS (c:UInt8) (r:List UInt8):Jc6 (bs (c::r)) 0=(c.toNat:Int):=rfl
theorem UAR (c d:UInt8):(((c.toNat:Nat):Int) == ((d.toNat:Nat):Int))=(c == d):=JlD
theorem Ugl (n:Nat) (s:List UInt8) (hs:s.length<2 ^ 40) (k0:Bool→Option R):p99 n (bs s) k0=k0 (UjW s):=by
 unfold p99
 cases s with
 | nil=>rfl
 | cons c r =>
  have e0:eqS (bs (c::r)) (⟨#[]⟩:ByteArray)=false:=rfl
  rw [List.length_cons] at hs
  by_cases h4:400<r.length + 1
  · have e1:UjW (c::r)=false:=by
     unfold UjW
     rw [List.length_cons,decide_eq_false (by omega)]; simp
    have e0':((c::r) == ([]:List UInt8))=false:=rfl
    simp (disch:=(first | omega | (simp only [JlE]; omega))) only [↓JlH,JlF,JlG,e0,e1,List.length_cons,e0']
  have e0':((c::r) == ([]:List UInt8))=false:=rfl
  have t1:=Uvn (c::r) (by rw [List.length_cons]; omega)
  have t2:=UwZ (c::r)
  by_cases hc:c=48
  · subst hc
    have e2:(Jc6 (bs (48::r)) 0 == 48)=true:=rfl
    by_cases h5:1<r.length + 1
    · have e1:UjW (48::r)=false:=by
       unfold UjW
       rw [List.length_cons,decide_eq_true h5]; simp
      simp (disch:=(first | omega | (simp only [JlE]; omega))) only [↓JlH,JlF,JlG,e0,e1,e2,List.length_cons,e0']
    · have e1:UjW (48::r)=(48::r).all isD:=by
       unfold UjW
       rw [List.length_cons,decide_eq_false h5,decide_eq_true (by omega)]; simp
      simp (disch:=(first | omega | (simp only [JlE]; omega))) only [↓JlH,JlF,JlG,e0,e1,e2,List.length_cons,e0',t1,t2]
  · have e2:(Jc6 (bs (c::r)) 0 == 48)=false:=by
     rw [UAS]
     have:=UAR c 48
     rw [show ((48:UInt8).toNat:Int)=48 from rfl] at this
     rw [this]; simpa using hc
    have e1:UjW (c::r)=(c::r).all isD:=by
     unfold UjW
     rw [List.length_cons,decide_eq_true (by omega:r.length + 1≤400)]
     simp [hc]
    simp (disch:=(first | omega | (simp only [JlE]; omega))) only [↓JlH,JlF,JlG,e0,e1,e2,List.length_cons,e0',t1,t2]
def Uce (s:List UInt8):Bool × List UInt8:=match s with
 | 45::r=>(true,r)
 | s=>(false,s)
theorem UmW (s:List UInt8):(Uce s).2.length≤s.length:=by
 unfold Uce; split <;> simp
theorem Ubo (c:UInt8) (r:List UInt8):Uce (c::r)=if c=45 then (true,r) else (false,c::r):=by
 unfold Uce
 by_cases h:c=45
 · subst h; rfl
 · rw [if_neg h]
   split
   · rename_i e; injection e with e1 _; exact absurd e1 h
   · rfl
theorem Uj7 (n:Nat) (s:List UInt8) (hs:s.length<2 ^ 40) (k0:ByteArray→Bool→Option R):UJe n (bs s) ⟨#[45]⟩ k0=k0 (bs (Uce s).2) (Uce s).1:=by
 unfold UJe ULw ULy
 cases s with
 | nil=>rfl
 | cons c r =>
  rw [List.length_cons] at hs
  have hz:((⟨#[45]⟩:ByteArray)).size=1:=rfl
  have e1:List.take (0 + 1) (c::r)=[c]:=rfl
  have e3:List.drop (0 + 1) (c::List.take r.length r)=r:=by rw [List.take_length]; rfl
  have e2:([c] == [45])=decide (c=45):=by
   rw [Bool.eq_iff_iff]; simp
  rw [Ubo]
  by_cases hc:c=45
  · rw [if_pos hc]
    simp (disch:=(first | omega | (simp only [JlE]; omega))) only [↓JlH,JlF,JlG,hz,List.length_cons,e1,e2,List.length_nil,List.take_succ_cons,e3]
  · rw [if_neg hc]
    simp (disch:=(first | omega | (simp only [JlE]; omega))) only [↓JlH,JlF,JlG,hz,List.length_cons,e1,e2,List.length_nil,List.take_succ_cons,e3]
def UkH (s:List UInt8):Bool:=UjW (Uce s).2&&!((Uce s).1&&(Uce s).2 == [48])
theorem Ue (n:Nat) (s:List UInt8) (hs:s.length<2 ^ 40) (k0:Bool→ByteArray→Bool→Option R):p97 n (bs s) k0=k0 (Uce s).1 (bs (Uce s).2) (UkH s):=by
 have hl:=UmW s
 have h1:=fun k0=>Uj7 (R:=R) n s hs k0
 have h2:=fun k0=>Ugl (R:=R) n (Uce s).2 (by omega) k0
 unfold p97
 simp only [h1,h2,UkH]
 generalize (Uce s).1=neg
 generalize (Uce s).2=r
 cases UjW r
 · rfl
 · cases neg
   · rfl
   · rfl
theorem Um2 {a:Nat} (h:a<10 ^ 400):UjW (dec a)=true:=by
 have h1:=(Uby a 400 (by omega)).2 h
 have h2:=UqH a
 have h3:=UmX a
 unfold UjW
 rw [decide_eq_true h1]
 have e1:(dec a).isEmpty=false:=by simpa using h2
 have e2:(dec a).all isD=true:=List.all_eq_true.2 (Uba a)
 have e3:((dec a).head? == some 48&&decide (1<(dec a).length))=false:=by
  rcases h3 with h3 | h3
  · have:((dec a).head? == some 48)=false:=by simpa using h3
    rw [this]; rfl
  · rw [h3]; simp
 rw [e1,e2,e3]; rfl
theorem Um3 {s:List UInt8} (h:UjW s=true):ofD s<10 ^ 400∧s=dec (ofD s):=by
 unfold UjW at h
 simp only [Bool.and_eq_true,Bool.not_eq_true',List.isEmpty_eq_false_iff,decide_eq_true_eq] at h
 obtain ⟨⟨⟨h1,h2⟩,h3⟩,h4⟩:=h
 have h4':∀ c∈s,isD c=true:=List.all_eq_true.1 h4
 have e:dec (ofD s)=s:=UqI h4' h1 (by
  by_cases h5:s.head? = some 48
  · right
    rw [h5] at h3
    simp at h3
    have:=List.length_pos_iff.2 h1
    omega
  · exact Or.inl h5)
 refine ⟨(Uby (ofD s) 400 (by omega)).1 ?_,e.symm⟩
 rw [e]; exact h2
theorem UvS (a:Nat):Uce (dec a)=(false,dec a):=by
 have h:=Uba a
 cases hd:dec a with
 | nil=>rfl
 | cons c r =>
  rw [Ubo,if_neg]
  intro e
  rw [hd] at h
  have:=h c (List.mem_cons_self ..)
  rw [e] at this
  exact absurd this (by decide)
theorem UaE (z:Int):Uce (Lib.itoa z)=(decide (z<0),dec z.natAbs):=by
 unfold Lib.itoa
 by_cases h:z<0
 · rw [if_pos h,decide_eq_true h]; rfl
 · rw [if_neg h,decide_eq_false h]
   have:z.toNat=z.natAbs:=by omega
   rw [this]; exact UvS _
theorem Ugs {z:Int} (h:z.natAbs<10 ^ 400):UkH (Lib.itoa z)=true:=by
 unfold UkH
 rw [UaE]
 simp only [Um2 h,Bool.true_and]
 by_cases hz:z<0
 · have:(dec z.natAbs == [48])=false:=by
    simp only [beq_eq_false_iff_ne,ne_eq]
    intro e
    have:=UcW (e.trans Uav.symm)
    omega
   rw [this]; simp
 · simp [hz]
theorem Ud8 (s:List UInt8):s=(if (Uce s).1 then [45] else [])++(Uce s).2:=by
 cases s with
 | nil=>rfl
 | cons c r =>
  rw [Ubo]
  by_cases h:c=45
  · rw [if_pos h,h]; rfl
  · rw [if_neg h]; rfl
theorem Ufy {s:List UInt8} (h:UkH s=true):∃ z:Int,z.natAbs<10 ^ 400∧s=Lib.itoa z:=by
 unfold UkH at h
 simp only [Bool.and_eq_true,Bool.not_eq_true'] at h
 obtain ⟨h1,h2⟩:=h
 obtain ⟨h3,h4⟩:=Um3 h1
 have h5:=Ud8 s
 refine ⟨zs (Uce s).1 (ofD (Uce s).2),by rw [UaH]; exact h3,?_⟩
 by_cases h0:ofD (Uce s).2=0
 · rw [h0] at h4
   have e:(Uce s).1=false:=by
    rw [h4,Uav] at h2
    simpa using h2
   rw [h0,e]
   rw [e,h4] at h5
   rw [h5]
   exact (Ucf 0).symm
 · rw [Uiv _ h0,←h4]; exact h5
theorem Uds (z w:Int):Rat.divInt z w=mkRat (zs (!(decide (z<0) == decide (w<0))) z.natAbs) w.natAbs:=by
 by_cases hw:w<0
 · obtain ⟨b,rfl⟩:∃ b:Nat,w=-(b:Int):=⟨w.natAbs,by omega⟩
   rw [Rat.divInt_neg',Rat.divInt_ofNat,Int.natAbs_neg,Int.natAbs_natCast]
   congr 1
   rw [decide_eq_true hw]
   by_cases hz:z<0
   · simp [hz,zs]; omega
   · simp [hz,zs]; omega
 · obtain ⟨b,rfl⟩:∃ b:Nat,w=(b:Int):=⟨w.natAbs,by omega⟩
   rw [Rat.divInt_ofNat,Int.natAbs_natCast]
   congr 1
   rw [decide_eq_false hw]
   by_cases hz:z<0
   · simp [hz,zs]; omega
   · simp [hz,zs]; omega
theorem UaD {a:Nat} (h:a<10 ^ 400):(toL 1000000000 a).length≤45 :=
 UQs (Nat.lt_of_lt_of_le h (by decide +kernel))
theorem Ud9 {a:Nat} (h:a<10 ^ 400):(dec a).length≤400:=(Uby a 400 (by omega)).2 h
theorem UB9 {r d k:Nat} (h:ll r≤k) (hd:d<10):ll (10 * r + d)≤k + 1:=by
 rw [UcY] at *
 rw [Nat.pow_succ]; omega
theorem UqG {a k:Nat} (h:ll a≤k):(dec a).length≤k + 1:=by
 rw [Uby _ _ (by omega),Nat.pow_succ]
 have:=UcY.1 h
 omega
theorem UEJ {a b:Nat} (h:b≤a):0≤UcV a b:=by unfold UcV; rw [if_neg (by omega)]; split <;> omega
theorem UEK {a b:Nat} (h:a<b):UcV a b=-1:=by unfold UcV; rw [if_pos h]
theorem UuM (n b:Nat) (hb:0<b) (hbl:ll b≤50000) (hn:200000≤n) (x1:Bool) (x2:List PV) (x3 x5 x6:Bool) (x9:List PV) (x10:Int) (k0:Bool→List PV→Bool→List PV→Bool→Bool→Bool→List PV→List PV→Int→Int→Option R) :
 ∀ (m r c:Nat),r / b<m→ll r≤50002→c + r / b<2 ^ 40→Ub8 n m x1 x2 x3 (II b) x5 x6 false (II r) x9 x10 c k0=k0 x1 x2 x3 (II b) x5 x6 false (II (r % b)) x9 x10 ((c + r / b:Nat):Int)
 | m + 1,r,c,hm,hr,hc=>by
  have h1:=fun k0=>UuJ (R:=R) n r b (by omega) (by omega) (by omega) k0
  simp only [Ub8,Ugy,h1]
  by_cases h:b≤r
  · have hge:=UEJ h
    obtain ⟨l,q1,q2,q3,q4⟩:=Uf3 (R:=R) n r b (-1) (Or.inr rfl) (by omega) (by omega) (by omega) (by omega)
    have e2:vb l=r - b:=by omega
    have hm0:=fun k0=>UaL (R:=R) n false l q2 (by omega) (by omega) k0
    rw [e2] at hm0
    have d1:=Nat.div_eq_sub_div hb h
    have d2:=Nat.mod_eq_sub_mod h
    have ih:=UuM n b hb hbl hn x1 x2 x3 x5 x6 x9 x10 k0 m (r - b) (c + 1) (by omega) (Nat.le_trans (UaT (Nat.sub_le _ _)) hr) (by omega)
    have e3:(c:Int) + 1=((c + 1:Nat):Int):=by omega
    have e4:c + 1 + (r - b) / b=c + r / b:=by omega
    rw [e4,←d2] at ih
    have hc1:c + 1<2 ^ 40:=by
     rw [d1] at hc
     clear d1 d2 e4 ih hm
     generalize (r - b) / b=p at *
     omega
    clear d1 d2 e4 hc hm q3
    simp (disch:=(first | omega | (simp only [JlE]; omega))) only [↓JlH,JlF,JlG,q1,hm0,e3,ih]
  · rw [Nat.div_eq_of_lt (by omega),Nat.mod_eq_of_lt (by omega),UEK (by omega)]
    rfl
theorem Uks (n b:Nat) (hb:0<b) (hbl:ll b≤50000) (hn:200000≤n) (x1 x3 x5 x6:Bool) (la:List Nat) (hla:∀ d∈la,d<10) (hl:la.length≤50000) :
 ∀ (d m i r:Nat) (lq:List Nat),d + i=la.length→d<m→r<b→lq.length=i→(∀ x∈lq,x<10)→vb (la.take i)=vb lq * b + r →
  ∃ lq':List Nat,(∀ k0:Bool→List PV→Bool→List PV→Bool→Bool→Bool→List PV→List PV→Option R,UbH n m x1 (nl .i64 la) x3 (II b) x5 x6 false (II r) (nl .i64 lq) i k0=k0 x1 (nl .i64 la) x3 (II b) x5 x6 false (II (vb la % b)) (nl .i64 lq'))∧(∀ x∈lq',x<10)∧lq'.length=la.length∧vb lq'=vb la / b
 | 0,m + 1,i,r,lq,hd,hm,hr,hq,hqd,hv=>by
  rw [List.take_of_length_le (by omega)] at hv
  have e1:vb la % b=r:=by rw [hv,Nat.mul_comm,Nat.mul_add_mod,Nat.mod_eq_of_lt hr]
  have e2:vb la / b=vb lq:=by rw [hv,Nat.mul_comm,Nat.mul_add_div hb,Nat.div_eq_of_lt hr,Nat.add_zero]
  refine ⟨lq,fun k0=>?_,hqd,by omega,e2.symm⟩
  rw [e1]
  simp only [UbH,UfS]
  simp (disch:=(first | omega | (simp only [JlE]; omega))) only [↓JlH,JlF,JlG]
 | d + 1,m + 1,i,r,lq,hd,hm,hr,hq,hqd,hv=>by
  have hai:=Uad hT2 hla i
  have hrl:ll r≤50000:=Nat.le_trans (UaT (Nat.le_of_lt hr)) hbl
  obtain ⟨s,hs⟩:∃ s,s=10 * r + la.getD i 0:=⟨_,rfl⟩
  have hsq:s / b<10:=Nat.div_lt_of_lt_mul (by rw [Nat.mul_comm]; omega)
  have hsm:s % b<b:=Nat.mod_lt _ hb
  have hsl:ll s≤50002:=by
   rw [hs]; exact Nat.le_trans (UB9 hrl hai) (by omega)
  have hdm:=Nat.div_add_mod s b
  have hmk:=fun k0=>UaL (R:=R) n false (DL r++[la.getD i 0]) (by
   intro x hx
   rcases List.mem_append.1 hx with h | h
   · exact Ufl r x h
   · rw [List.mem_singleton.1 h]; exact hai) (by rw [List.length_append,Uaa,List.length_singleton]; omega) (by rw [List.length_append,Uaa,List.length_singleton]; omega) k0
  rw [Umr,UgN,←hs] at hmk
  obtain ⟨lq',q1,q2⟩:=Uks n b hb hbl hn x1 x3 x5 x6 la hla hl d m (i + 1) (s % b) (lq++[s / b]) (by omega) (by omega) hsm (by rw [List.length_append,hq]; rfl) (by
   intro x hx
   rcases List.mem_append.1 hx with h | h
   · exact hqd x h
   · rw [List.mem_singleton.1 h]; exact hsq) (by
   rw [Ucd (by omega:i<la.length),Umr,hv]
   generalize s / b=q at *
   generalize s % b=t at *
   generalize la.getD i 0=x at *
   clear hmk
   grind)
  have h2:=fun k0=>UuM (R:=R) n b hb hbl hn x1 (nl .i64 la) x3 x5 x6 (nl .i64 lq) i k0 n s 0 (by omega) hsl (by omega)
  rw [Nat.zero_add,show ((0:Nat):Int)=0 from rfl] at h2
  refine ⟨lq',fun k0=>?_,q2⟩
  rw [←q1 k0]
  have w1:(i:Int) + 1=((i + 1:Nat):Int):=by omega
  have w2:II r++nl .i64 [la.getD i 0]=nl .i64 (DL r++[la.getD i 0]):=by unfold II; rw [Jjc]
  have w3:Jgx 1 (II r)=true:=Jhm _ _
  simp only [UbH,UfS,Uoq]
  simp (disch:=(first | omega | (simp only [JlE]; omega))) only [↓JlH,JlF,JlG,w1,w3,UaC,Jln,w2,hmk,h2]
theorem Uv1 (n:Nat) (hn:200000≤n) (k0:Bool→List PV→Option R):ULx n 1 k0=k0 false (II 1):=by
 obtain ⟨m,rfl⟩:∃ m,n=m + 2:=⟨n - 2,by omega⟩
 have h:=fun k0=>UaL (R:=R) (m + 2) false [1] (by simp) (by simp) (by simp) k0
 have e:vb [1]=1:=rfl
 rw [e] at h
 exact h k0
theorem Ubr (a:Nat):sg (a:Int)=false:=by simp [sg]
theorem UIz (neg:Bool) (a:Nat):sg (zs neg a)=(neg&&!(a == 0)):=by
 cases neg
 · simp [zs,sg]
 · rw [Bool.eq_iff_iff]; simp [zs,sg]; omega
theorem UDs (n:Nat) (x:Int) (b:Nat) (hb:0<b) (hx:ll x.natAbs≤20000) (hbl:ll b≤20000) (hn:200000≤n) (k0:Bool→List PV→Bool→List PV→Option R) :
 UCj n (sg x) (II x.natAbs) false (II b) k0=k0 (sg (x / b)) (II (x / b).natAbs) (sg (x % b)) (II (x % b).natAbs):=by
 have hmod:x.natAbs % b<b:=Nat.mod_lt _ hb
 have hdm:=Nat.div_add_mod x.natAbs b
 obtain ⟨q,hq⟩:∃ q,q=x.natAbs / b:=⟨_,rfl⟩
 have hql:ll q≤20000:=Nat.le_trans (UaT (by rw [hq]; exact Nat.div_le_self _ _)) hx
 have fin:∀ z:Int,ll z.natAbs≤20001→z=x / b→Ucs n (sg x) (II x.natAbs) false (II b) false false (sg z) (II z.natAbs) k0=k0 (sg (x / b)) (II (x / b).natAbs) (sg (x % b)) (II (x % b).natAbs):=by
  intro z hz hzx
  have m1:=fun k0=>Ubf (R:=R) n z (b:Int) (by omega) (by rw [Int.natAbs_natCast]; omega) hn k0
  rw [Ubr,Int.natAbs_natCast] at m1
  have hzb:ll (z * (b:Int)).natAbs≤50000:=by
   rw [Int.natAbs_mul,Int.natAbs_natCast]
   exact Nat.le_trans (Ug1 _ _) (by omega)
  have m2:=fun k0=>UlS (R:=R) n x (z * (b:Int)) (by omega) hzb hn k0
  unfold Ucs
  simp only [m1,m2]
  rw [Int.emod_def,←hzx,Int.mul_comm]
 obtain ⟨lq,l1,l2,l3,l4⟩:=Uks (R:=R) n b hb (by omega) hn (sg x) false false false (DL x.natAbs) (Ufl _) (by rw [Uaa]; omega) (ll x.natAbs) n 0 0 [] (by rw [Uaa]; omega) (by omega) hb rfl (by intro d h; cases h) (by simp [UoM])
 rw [UgN] at l1 l4
 rw [Uaa] at l3
 rw [←hq] at l4 hdm
 have hmk:=fun k0=>UaL (R:=R) n (!(sg x == false)) lq l2 (by omega) (by omega) k0
 have e1:(!(sg x == false))=sg x:=by cases sg x <;> rfl
 rw [e1,l4,←UIz,←UaH (sg x) q] at hmk
 rw [UaH] at hmk
 unfold UCj Uuh
 have l1':∀ k0:Bool→List PV→Bool→List PV→Bool→Bool→Bool→List PV→List PV→Option R,UbH n n (sg x) (II x.natAbs) false (II b) false false false [] [] 0 k0=k0 (sg x) (II x.natAbs) false (II b) false false false (II (x.natAbs % b)) (nl .i64 lq):=by
  intro k0
  have h:=l1 k0
  rw [show ((0:Nat):Int)=0 from rfl,Jlm,Upe] at h
  exact h
 rw [l1']
 rw [e1,hmk,UaC]
 obtain ⟨z0,hz0⟩:∃ z0,z0=zs (sg x) q:=⟨_,rfl⟩
 have hz0n:z0.natAbs=q:=by rw [hz0,UaH]
 rw [←hz0]
 by_cases hr:x.natAbs % b=0
 · have e2:ll (x.natAbs % b)=0:=by rw [hr,UbB]
   have hz:z0=x / b:=by
    symm
    have:=(Int.ediv_emod_unique (a:=x) (b:=(b:Int)) (r:=0) (q:=z0) (by omega)).2 ⟨by
     rw [hr,Nat.add_zero] at hdm
     have hc:(b:Int) * (q:Int)=(x.natAbs:Int):=by rw [←hdm]; push_cast; rfl
     rw [hz0]; unfold zs sg
     by_cases hx0:x<0
     · rw [if_pos (by simpa using hx0),Int.mul_neg,hc]; omega
     · rw [if_neg (by simpa using hx0),hc]; omega,by omega,by omega⟩
    exact this.1
   have f:=fin z0 (by rw [hz0n]; omega) hz
   rw [hz0n] at f
   simp (disch:=(first | omega | (simp only [JlE]; omega))) only [↓JlH,JlF,JlG,e2,f]
 · have e2:0<ll (x.natAbs % b):=by
    have:ll (x.natAbs % b)≠0:=fun h=>hr (UcR.1 h)
    omega
   by_cases hx0:x<0
   · have e3:sg x=true:=by simpa [sg] using hx0
     have hz:z0 - 1=x / b:=by
      symm
      have:=(Int.ediv_emod_unique (a:=x) (b:=(b:Int)) (r:=(b:Int) - (x.natAbs % b:Nat)) (q:=z0 - 1) (by omega)).2 ⟨by
       have hc:(b:Int) * (q:Int) + ((x.natAbs % b:Nat):Int)=(x.natAbs:Int):=by
        have:=congrArg (fun k:Nat=>(k:Int)) hdm
        push_cast at this ⊢
        exact this
       rw [hz0]; unfold zs
       rw [if_pos e3,Int.mul_sub,Int.mul_neg]; omega,by omega,by omega⟩
      exact this.1
     have s1:=fun k0=>UlS (R:=R) n z0 ((1:Nat):Int) (by rw [hz0n]; omega) (by rw [Int.natAbs_natCast]; unfold ll; rw [UgL (by omega) (by omega)]; decide) hn k0
     rw [Ubr,Int.natAbs_natCast,hz0n] at s1
     have f:=fin (z0 - 1) (by
      have:(z0 - 1).natAbs≤q + 1:=by omega
      exact Nat.le_trans (UaT this) (UyB hql (by unfold ll; rw [UgL (by omega) (by omega)]; decide))) hz
     have f1:=fun k0=>Uv1 (R:=R) n hn k0
     rw [e3] at f ⊢
     have e4:(sg z0:Bool)=decide (z0<0):=rfl
     have s1':∀ k0:Bool→List PV→Option R,UCi n (sg z0) (II q) false (II 1) k0=k0 (sg (z0 - 1)) (II (z0 - 1).natAbs):=s1
     generalize sg z0=g0 at *
     generalize sg (z0 - 1)=g1 at *
     simp (disch:=(first | omega | (simp only [JlE]; omega))) only [↓JlH,JlF,JlG,e2,f1,s1',f]
   · have e3:sg x=false:=by simpa [sg] using hx0
     have hz:z0=x / b:=by
      symm
      have:=(Int.ediv_emod_unique (a:=x) (b:=(b:Int)) (r:=(x.natAbs % b:Nat)) (q:=z0) (by omega)).2 ⟨by
       have hc:(b:Int) * (q:Int) + ((x.natAbs % b:Nat):Int)=(x.natAbs:Int):=by
        have:=congrArg (fun k:Nat=>(k:Int)) hdm
        push_cast at this ⊢
        exact this
       rw [hz0]; unfold zs
       rw [if_neg (by rw [e3]; simp)]; omega,by omega,by omega⟩
      exact this.1
     have f:=fin z0 (by rw [hz0n]; omega) hz
     rw [hz0n] at f
     rw [e3] at f ⊢
     generalize sg z0=g0 at *
     simp (disch:=(first | omega | (simp only [JlE]; omega))) only [↓JlH,JlF,JlG,e2,f]
end Go.Proofs.YtmgfmlhdnadglaaGreatDoor
set_option linter.unusedVariables false
set_option maxRecDepth 100000
namespace Go.Proofs.YtmgfmlhdnadglaaGreatDoor
open Go Th Go.Proofs
noncomputable section
variable {R:Type}
def Ubm:Ann:={ loops:=[(8,ids [0,3],ids [2])],cuts:=[(5,ids [0],ids [2]),(7,ids [0],ids [2])],frz:=[],rm:=[.id] }
abbrev Uq4 (n:Nat):Env:=eN
theorem Unz (n:Nat):EnvOK Tryz.prog GI (Uq4 n):=.nil
def UfQ (n:Nat) (l0:ByteArray→Int→O R) (x1:ByteArray) (x2:Int) (k0:Bool→O R) (k1:O R):O R :=
 bif (decide (x2<((x1).size:Int))) then (bif (inR x2 (x1).size) then (bif (decide (Jc6 x1 x2<48)) then (k0 false) else (bif (inR x2 (x1).size) then (bif (bif false then true else (decide (Jc6 x1 x2>57))) then (k0 false) else (l0 x1 (IntKind.i64.wrap (x2 + 1)))) else none)) else none) else (k1)
def Ucq (n:Nat):Nat→ByteArray→Int→(Bool→O R)→(O R)→O R
 | 0,_,_,_,_=>none
 | m + 1,x1,x2,k0,k1=>UfQ n (fun x1 x2=>Ucq n m x1 x2 k0 k1) x1 x2 k0 k1
def Uue (n:Nat) (x1:ByteArray) (x2:Int) (k0:Bool→O R) (k1:O R):O R:=Ucq n n x1 x2 k0 k1
def UlA (n:Nat) (x1:ByteArray) (k0:Bool→O R):O R :=
 Uue n x1 0 (fun y2=>k0 y2) (k0 true)
def Ueb (n:Nat) (x1:ByteArray) (k0:Bool→O R):O R :=
 bif (decide (((x1).size:Int)<1)) then (k0 false) else (bif (bif false then true else (decide (((x1).size:Int)>400))) then (k0 false) else (bif (inR 0 (x1).size) then (bif (bif false then true else (Jc6 x1 0 == 48)) then (k0 false) else (UlA n x1 (fun y2=>k0 y2))) else none))
def UH (n:Nat) (x1:ByteArray) (k0:Bool→O R):O R :=
 bif (eqS x1 (⟨#[48]⟩:ByteArray)) then (k0 true) else (bif (decide (((x1).size:Int)>0)) then (bif (inR 0 (x1).size) then (bif (bif true then (Jc6 x1 0 == 45) else false) then (bif (Je5 1 ((x1).size:Int) (x1).size) then (Ueb n (ByteArray.extract x1 (1:Int).toNat (((x1).size:Int):Int).toNat) (fun y2=>k0 y2)) else none) else (Ueb n x1 (fun y3=>k0 y3))) else none) else (Ueb n x1 (fun y4=>k0 y4)))
abbrev UJm (n:Nat):Code→Fr→Kc R→O R:=evC Tryz.prog (Uq4 n) Ubm n (45,[])
noncomputable def Up6:Code:=Jj4 (Jll Tryz.f136) [1,1,1]
abbrev Ul7:Sl (List SV):=(cS .n)
abbrev UsL (n:Nat) (K:Kc R):Ul7.T (O R):=fun x1=>Ueb n x1 (fun y1=>xC Ubm 5 K .ret [vB y1])
noncomputable def Up7:Code:=Jj4 (Jll Tryz.f136) [1,1,1,1]
abbrev Ul8:Sl (List SV):=(cS .n)
abbrev UsM (n:Nat) (K:Kc R):Ul8.T (O R):=fun x1=>UlA n x1 (fun y1=>xC Ubm 7 K .ret [vB y1])
noncomputable def Up8:Code:=Jj4 (Jll Tryz.f136) [1,1,1,1,0,1,0,0]
abbrev UeZ:Sl (List SV):=(cS (cI .n))
abbrev Ule (n m:Nat) (K:Kc R):UeZ.T (O R):=fun x1 x2=>Ucq n m x1 x2 (fun y1=>xL Ubm 8 K .ret [vB y1]) (xL Ubm 8 K (.exit 0) [dD])
abbrev UAv (n:Nat) (K:Kc R) (l0:UeZ.T (O R)):UeZ.T (O R):=fun x1 x2=>UfQ n l0 x1 x2 (fun y1=>xL Ubm 8 K .ret [vB y1]) (xL Ubm 8 K (.exit 0) [dD])
abbrev Uw (n:Nat):Orc R:=oL Ubm (UJm n) n 8 Up8 UeZ (Ule n n) oN
abbrev UvQ (n:Nat):Orc R:=oC Ubm (UJm n) 7 Up7 Ul8 (UsM n) (oC Ubm (UJm n) 5 Up6 Ul7 (UsL n) oN)
abbrev UIE (R:Type) (n:Nat):=JcH (R:=R) Tryz.prog (Uq4 n) Ubm n (45,[]) (Uw n) (UvQ n)
theorem UCV (n:Nat):UIE R n (false,8,Up8):=JkF (lo:=Uw n) (cu:=UvQ n) (pO pN (by kernel_rfl)) UeZ (Ule n n) (JiE (F:=Ule n) UeZ (UAv n) (fun K _ _=>rfl) (fun _ _=>rfl) (fun L K _ _=>by show _=_; kernel_rfl) n) fun _ _=>rfl
theorem UCU (n:Nat):UIE R n (true,7,Up7):=JkW (lo:=Uw n) (cu:=UvQ n) (pO (pC (UCV n) pN) (by kernel_rfl)) Ul8 (UsM n) (fun K _=>by show _=_; kernel_rfl) fun _ _=>rfl
theorem UCT (n:Nat):UIE R n (true,5,Up6):=JkW (lo:=Uw n) (cu:=UvQ n) (pO (pC (UCU n) pN) (by kernel_rfl)) Ul7 (UsL n) (fun K _=>by show _=_; kernel_rfl) fun _ _=>rfl
theorem UL2 (n:Nat):Je6 (UIE R n) (JaJ Ubm (Jll Tryz.f136)):=pO (pC (UCT n) pN) (by kernel_rfl)
abbrev UME:Sl (List SV):=(cS .n)
abbrev f136 (n:Nat) (K:List SV→O R):UME.T (O R):=fun x1=>UH n x1 (fun y1=>K [vB y1])
abbrev UGb (n:Nat):FS:=fT [false] UME (f136 n)
theorem UK3 (n:Nat):FSound Tryz.prog GI 136 (UGb n):=gd Ubm n (Unz n) Tryz.func136 (.cons (Unz n) UME (f136 n) (fun K _=>(Jkq (c:=Jll Tryz.f136) (by kernel_rfl) (UL2 n) K).trans (by kernel_rfl)) .nil) (by kernel_rfl)
def Upm:Ann:={ loops:=[],cuts:=[],frz:=[],rm:=[.id] }
abbrev Ux0 (n:Nat):Env:=eN
theorem Unf (n:Nat):EnvOK Tryz.prog GI (Ux0 n):=.nil
def Uwi (n:Nat)  (k0:Bool→LP→O R):O R :=
 k0 false ([.v (.int .i64 1)]:LP)
abbrev UKn (n:Nat):Orc R:=oN
abbrev UJA (n:Nat):Orc R:=oN
abbrev UPu (R:Type) (n:Nat):=JcH (R:=R) Tryz.prog (Ux0 n) Upm n (3,[]) (UKn n) (UJA n)
theorem ULI (n:Nat):Je6 (UPu R n) (JaJ Upm (Jll Tryz.f110)):=pO pN (by kernel_rfl)
abbrev UMp:Sl (List SV):=.n
abbrev f110 (n:Nat) (K:List SV→O R):UMp.T (O R):=Uwi n  (fun y1 y2=>K [.p (.agg [.v (.bool y1),.sh y2])])
abbrev UtC (n:Nat):FS:=fT [] UMp (f110 n)
theorem Uwg (n:Nat):FSound Tryz.prog GI 110 (UtC n):=gd Upm n (Unf n) Tryz.func110 (.cons (Unf n) UMp (f110 n) (fun K=>(Jkq (c:=Jll Tryz.f110) (by kernel_rfl) (ULI n) K).trans (by kernel_rfl)) .nil) (by kernel_rfl)
def Uz1:Ann:={ loops:=[],cuts:=[],frz:=[],rm:=[.id] }
abbrev UFv (n:Nat):Env:=eC 112 (UFZ n) (eC 110 (UtC n) (eC 88 (UKe n) eN))
theorem Ur8 (n:Nat):EnvOK Tryz.prog GI (UFv n):=.cons (.cons (.cons (.nil) (UO6 n)) (Uwg n)) (UKQ n)
def p73 (n:Nat) (x1:Bool) (x2:LP) (x3:Bool) (x4:LP) (k0:ByteArray→O R):O R :=
 Uwi n (fun y5 y6=>p88 n x3 x4 y5 y6 (fun y7=>bif (y7 == 0) then (UDS n x1 x2 (fun y8=>k0 y8)) else (UDS n x1 x2 (fun y9=>Jj0 y9 (⟨#[47]⟩:ByteArray) fun s10=>UDS n x3 x4 (fun y11=>Jj0 s10 y11 fun s12=>k0 s12)))))
abbrev UQX (n:Nat):Orc R:=oN
abbrev UQb (n:Nat):Orc R:=oN
abbrev K73 (R:Type) (n:Nat):=JcH (R:=R) Tryz.prog (UFv n) Uz1 n (19,[]) (UQX n) (UQb n)
theorem USQ (n:Nat):Je6 (K73 R n) (JaJ Uz1 (Jll Tryz.f73)):=pO pN (by kernel_rfl)
abbrev t73:Sl (List SV):=(.c (sP (JlI (.c Jlf (.c sSh (.c Jlf (.c sSh .n)))))) .n)
abbrev f73 (n:Nat) (K:List SV→O R):t73.T (O R):=fun x1 x2 x3 x4=>p73 n x1 x2 x3 x4 (fun y1=>K [vS y1])
abbrev UK (n:Nat):FS:=fT [false] t73 (f73 n)
theorem UO1 (n:Nat):FSound Tryz.prog GI 73 (UK n):=gd Uz1 n (Ur8 n) Tryz.func73 (.cons (Ur8 n) t73 (f73 n) (fun K _ _ _ _=>(Jkq (c:=Jll Tryz.f73) (by kernel_rfl) (USQ n) K).trans (by kernel_rfl)) .nil) (by kernel_rfl)
def Uz4:Ann:={ loops:=[],cuts:=[],frz:=[],rm:=[.id] }
abbrev UFy (n:Nat):Env:=eN
theorem Usb (n:Nat):EnvOK Tryz.prog GI (UFy n):=.nil
def p77 (n:Nat) (x1:Bool) (x2:LP) (k0:Bool→O R):O R :=
 k0 (((x2).length:Int) == 0)
abbrev UQ0 (n:Nat):Orc R:=oN
abbrev UQe (n:Nat):Orc R:=oN
abbrev K77 (R:Type) (n:Nat):=JcH (R:=R) Tryz.prog (UFy n) Uz4 n (7,[]) (UQ0 n) (UQe n)
theorem USU (n:Nat):Je6 (K77 R n) (JaJ Uz4 (Jll Tryz.f77)):=pO pN (by kernel_rfl)
abbrev t77:Sl (List SV):=(.c (sP (JlI (.c Jlf (.c sSh .n)))) .n)
abbrev f77 (n:Nat) (K:List SV→O R):t77.T (O R):=fun x1 x2=>p77 n x1 x2 (fun y1=>K [vB y1])
abbrev UGt (n:Nat):FS:=fT [false] t77 (f77 n)
theorem UI6 (n:Nat):FSound Tryz.prog GI 77 (UGt n):=gd Uz4 n (Usb n) Tryz.func77 (.cons (Usb n) t77 (f77 n) (fun K _ _=>(Jkq (c:=Jll Tryz.f77) (by kernel_rfl) (USU n) K).trans (by kernel_rfl)) .nil) (by kernel_rfl)
def Upv:Ann:={ loops:=[],cuts:=[],frz:=[],rm:=[.id] }
abbrev Ux9 (n:Nat):Env:=eN
theorem UnD (n:Nat):EnvOK Tryz.prog GI (Ux9 n):=.nil
def UJh (n:Nat) (x1:Bool) (x2:LP) (k0:Bool→LP→O R):O R :=
 k0 false x2
abbrev UKw (n:Nat):Orc R:=oN
abbrev UJJ (n:Nat):Orc R:=oN
abbrev UPD (R:Type) (n:Nat):=JcH (R:=R) Tryz.prog (Ux9 n) Upv n (6,[]) (UKw n) (UJJ n)
theorem UL6 (n:Nat):Je6 (UPD R n) (JaJ Upv (Jll Tryz.f144)):=pO pN (by kernel_rfl)
abbrev UMH:Sl (List SV):=(.c (sP (JlI (.c Jlf (.c sSh .n)))) .n)
abbrev f144 (n:Nat) (K:List SV→O R):UMH.T (O R):=fun x1 x2=>UJh n x1 x2 (fun y1 y2=>K [.p (.agg [.v (.bool y1),.sh y2])])
abbrev UGj (n:Nat):FS:=fT [false] UMH (f144 n)
theorem ULa (n:Nat):FSound Tryz.prog GI 144 (UGj n):=gd Upv n (UnD n) Tryz.func144 (.cons (UnD n) UMH (f144 n) (fun K _ _=>(Jkq (c:=Jll Tryz.f144) (by kernel_rfl) (UL6 n) K).trans (by kernel_rfl)) .nil) (by kernel_rfl)
def Ufg:Ann:={ loops:=[],cuts:=[(5,ids [2,3,4],ids [4]),(10,ids [4,6,8],ids [4])],frz:=[],rm:=[.id] }
abbrev Uq1 (n:Nat):Env:=eC 145 (UBW n) (eC 144 (UGj n) (eC 143 (UGi n) (eC 110 (UtC n) (eC 90 (UIU n) (eC 77 (UGt n) eN)))))
theorem Uns (n:Nat):EnvOK Tryz.prog GI (Uq1 n):=.cons (.cons (.cons (.cons (.cons (.cons (.nil) (UI6 n)) (ULp n)) (Uwg n)) (UL n)) (ULa n)) (UGX n)
def UfO (n:Nat) (x1 x2 x3:Bool) (x4:LP) (x5:Bool) (x6:LP) (k0:Bool→LP→Bool→LP→O R):O R :=
 k0 x3 x4 x5 x6
def Ugw (n:Nat) (x1:Bool) (x2:LP) (x3:Bool) (x4:LP) (x5 x6:Bool) (k0:Bool→LP→Bool→LP→O R):O R :=
 UJh n x1 x2 (fun y7 y8=>UJg n y7 y8 x3 x4 (fun y9 y10=>UJh n x1 x2 (fun y11 y12=>UCj n y11 y12 y9 y10 (fun y13 y14 y15 y16=>UCj n x3 x4 y9 y10 (fun y17 y18 y19 y20=>bif x1 then (p90 n y13 y14 (fun y21 y22=>UfO n x5 x6 y21 y22 y17 y18 (fun y23 y24 y25 y26=>k0 y23 y24 y25 y26))) else (UfO n x5 x6 y13 y14 y17 y18 (fun y27 y28 y29 y30=>k0 y27 y28 y29 y30)))))))
def UyK (n:Nat) (x1:Bool) (x2:LP) (x3:Bool) (x4:LP) (k0:Bool→LP→Bool→LP→O R):O R :=
 p77 n x1 x2 (fun y5=>bif y5 then (Uwi n (fun y6 y7=>k0 x1 x2 y6 y7)) else (bif x3 then (p90 n x1 x2 (fun y8 y9=>p90 n x3 x4 (fun y10 y11=>Ugw n y8 y9 y10 y11 false false (fun y12 y13 y14 y15=>k0 y12 y13 y14 y15)))) else (Ugw n x1 x2 x3 x4 false false (fun y16 y17 y18 y19=>k0 y16 y17 y18 y19))))
abbrev UMZ (n:Nat):Code→Fr→Kc R→O R:=evC Tryz.prog (Uq1 n) Ufg n (45,[])
noncomputable def Up2:Code:=Jj4 (Jll Tryz.f123) [1,1,1]
abbrev Ul5:Sl (List SV):=(.c (sBx 55 (cB (cH .n))) (.c (sBx 55 (cB (cH .n))) (.c (sBx 57 (cB (.c sNl (cB (.c sNl .n))))) .n)))
abbrev UsJ (n:Nat) (K:Kc R):Ul5.T (O R):=fun x1 x2 x3 x4 x5 x6=>Ugw n x1 x2 x3 x4 x5 x6 (fun y1 y2 y3 y4=>xC Ufg 5 K .ret [.bx 57 [vB y1,vH y2,vB y3,vH y4]])
noncomputable def UmO:Code:=Jj4 (Jll Tryz.f123) [1,1,1,1,1,1,1]
abbrev UjL:Sl (List SV):=(.c (sBx 57 (cB (.c sNl (cB (.c sNl .n))))) (.c (sBx 55 (cB (cH .n))) (.c (sBx 55 (cB (cH .n))) .n)))
abbrev Un1 (n:Nat) (K:Kc R):UjL.T (O R):=fun x1 x2 x3 x4 x5 x6=>UfO n x1 x2 x3 x4 x5 x6 (fun y1 y2 y3 y4=>xC Ufg 10 K .ret [.bx 57 [vB y1,vH y2,vB y3,vH y4]])
abbrev UCa (n:Nat):Orc R:=oN
abbrev UAY (n:Nat):Orc R:=oC Ufg (UMZ n) 10 UmO UjL (Un1 n) (oC Ufg (UMZ n) 5 Up2 Ul5 (UsJ n) oN)
abbrev UJp (R:Type) (n:Nat):=JcH (R:=R) Tryz.prog (Uq1 n) Ufg n (45,[]) (UCa n) (UAY n)
theorem UwF (n:Nat):UJp R n (true,10,UmO):=JkW (lo:=UCa n) (cu:=UAY n) (pO pN (by kernel_rfl)) UjL (Un1 n) (fun K _ _ _ _ _ _=>by show _=_; kernel_rfl) fun _ _=>rfl
theorem UCP (n:Nat):UJp R n (true,5,Up2):=JkW (lo:=UCa n) (cu:=UAY n) (pO (pC (UwF n) pN) (by kernel_rfl)) Ul5 (UsJ n) (fun K _ _ _ _ _ _=>by show _=_; kernel_rfl) fun _ _=>rfl
theorem ULV (n:Nat):Je6 (UJp R n) (JaJ Ufg (Jll Tryz.f123)):=pO (pC (UCP n) pN) (by kernel_rfl)
abbrev UMz:Sl (List SV):=(.c (sP (JlI (.c Jlf (.c sSh .n)))) (.c (sP (JlI (.c Jlf (.c sSh .n)))) .n))
abbrev f123 (n:Nat) (K:List SV→O R):UMz.T (O R):=fun x1 x2 x3 x4=>UyK n x1 x2 x3 x4 (fun y1 y2 y3 y4=>K [.p (.agg [.v (.bool y1),.sh y2,.v (.bool y3),.sh y4])])
abbrev UtD (n:Nat):FS:=fT [false,false] UMz (f123 n)
theorem Uwh (n:Nat):FSound Tryz.prog GI 123 (UtD n):=gd Ufg n (Uns n) Tryz.func123 (.cons (Uns n) UMz (f123 n) (fun K _ _ _ _=>(Jkq (c:=Jll Tryz.f123) (by kernel_rfl) (ULV n) K).trans (by kernel_rfl)) .nil) (by kernel_rfl)
end
end Go.Proofs.YtmgfmlhdnadglaaGreatDoor
set_option linter.unusedVariables false
set_option linter.unusedSimpArgs false
namespace Go.Proofs.YtmgfmlhdnadglaaGreatDoor
open Go Th Go.Proofs
variable {R:Type}
theorem Ujq (n a b:Nat) (hb:0<b) (ha:ll a≤20000) (hbl:ll b≤20000) (hn:200000≤n) (k0:Bool→List PV→Bool→List PV→Option R) :
 UCj n false (II a) false (II b) k0=k0 false (II (a / b)) false (II (a % b)):=by
 have h:=UDs (R:=R) n (a:Int) b hb (by rw [Int.natAbs_natCast]; exact ha) hbl hn k0
 have e1:(a:Int) / (b:Int)=((a / b:Nat):Int):=rfl
 have e2:(a:Int) % (b:Int)=((a % b:Nat):Int):=rfl
 rw [e1,e2,Ubr,Ubr,Ubr,Int.natAbs_natCast,Int.natAbs_natCast,Int.natAbs_natCast] at h
 exact h
theorem Uku (n:Nat) (hn:200000≤n) (x5:Bool) (k0:Bool→List PV→Bool→Option R):∀ (m a b:Nat),b<m→ll a≤20000→ll b≤20000→UdO n m false (II a) false (II b) x5 k0=k0 false (II (Nat.gcd b a)) x5
 | m + 1,a,b,hm,ha,hb=>by
  simp only [UdO,UiI]
  by_cases h0:b=0
  · subst h0
    simp (disch:=(first | omega | (simp only [JlE]; omega))) only [↓JlH,JlF,JlG,UaC,UbB,Nat.gcd_zero_left]
  · have hl:0<ll b:=by
     have:ll b≠0:=fun e=>h0 (UcR.1 e)
     omega
    have hd:=fun k0=>Ujq (R:=R) n a b (by omega) ha hb hn k0
    have hlt:a % b<b:=Nat.mod_lt _ (by omega)
    have ih:=Uku n hn x5 k0 m b (a % b) (by omega) hb (Nat.le_trans (UaT (Nat.le_of_lt hlt)) hb)
    simp (disch:=(first | omega | (simp only [JlE]; omega))) only [↓JlH,JlF,JlG,UaC,hd]
    rw [ih,←Nat.gcd_rec]
theorem UDu (n a b:Nat) (hbn:b<n) (ha:ll a≤20000) (hb:ll b≤20000) (hn:200000≤n) (k0:Bool→List PV→Option R):UJg n false (II a) false (II b) k0=k0 false (II (Nat.gcd b a)):=by
 have hg:ll (Nat.gcd b a)≤20000:=by
  by_cases h:b=0
  · subst h; rw [Nat.gcd_zero_left]; exact ha
  · exact Nat.le_trans (UaT (Nat.gcd_le_left _ (by omega))) hb
 unfold UJg Uug
 rw [Uku n hn _ _ n a b hbn ha hb]
 unfold II
 rw [UaL n _ _ (Ufl _) (by rw [Uaa]; omega) (by rw [Uaa]; omega),UgN]
 rfl
theorem UoX (d:Nat) (h:d<10):List.drop d (List.take (d + 1) ([48,49,50,51,52,53,54,55,56,57]:List UInt8))=[ch d]:=by
 match d,h with
 | 0,_=>rfl
 | 1,_=>rfl
 | 2,_=>rfl
 | 3,_=>rfl
 | 4,_=>rfl
 | 5,_=>rfl
 | 6,_=>rfl
 | 7,_=>rfl
 | 8,_=>rfl
 | 9,_=>rfl
theorem Uhe (n:Nat) (neg:Bool) (l:List Nat) (hl:∀ d∈l,d<10) (h40:l.length<2 ^ 40) (k0:ByteArray→Option R):∀ (d m i:Nat) (s:List UInt8),d + i=l.length→d<m→s.length<2 ^ 41 - d →
 Uck n m neg (nl .i64 l) (bs s) i k0=k0 (bs (s++(l.drop i).map ch))
 | 0,m + 1,i,s,hd,hm,hs=>by
  rw [List.drop_eq_nil_of_le (by omega),List.map_nil,List.append_nil]
  simp only [Uck,UfH]
  simp (disch:=(first | omega | (simp only [JlE]; omega))) only [↓JlH,JlF,JlG]
 | d + 1,m + 1,i,s,hd,hm,hs=>by
  have hi:=Uad hT2 hl i
  have ih:=Uhe n neg l hl h40 k0 d m (i + 1) (s++[ch (l.getD i 0)]) (by omega) (by omega) (by rw [List.length_append,List.length_singleton]; omega)
  rw [Udt (by omega:i<l.length),List.map_cons]
  have e1:(i:Int) + 1=((i + 1:Nat):Int):=by omega
  have e2:((l.getD i 0:Nat):Int) + 1=((l.getD i 0 + 1:Nat):Int):=by omega
  have e3:=UoX _ hi
  have hsz:(bs [48,49,50,51,52,53,54,55,56,57]).size=10:=rfl
  have hsz2:(⟨#[48,49,50,51,52,53,54,55,56,57]⟩:ByteArray).size=10:=rfl
  simp only [Uck,UfH]
  simp (disch:=(first | omega | (simp only [JlE]; omega))) only [↓JlH,JlF,JlG,e1,e2,hsz,hsz2,e3,ih,List.append_assoc,List.singleton_append]
theorem UoG (n:Nat) (x:Int) (hx:ll x.natAbs≤50000) (hn:200000≤n) (k0:ByteArray→Option R):UDS n (sg x) (II x.natAbs) k0=k0 (bs (Lib.itoa x)):=by
 unfold UDS
 rw [UaC,Jk0]
 by_cases h0:x=0
 · subst h0
   have e:(ll (0:Int).natAbs == 0)=true:=by rw [show (0:Int).natAbs=0 from rfl,UbB]; rfl
   have e2:=Ucf 0
   rw [Uav] at e2
   have e3:Lib.itoa 0=[48]:=e2
   rw [e,e3]; rfl
 · have e:(ll x.natAbs == 0)=false:=by simp only [beq_eq_false_iff_ne,ne_eq,UcR]; omega
   have hlp:=fun s hs=>Uhe (R:=R) n (sg x) (DL x.natAbs) (Ufl _) (by rw [Uaa]; omega) (fun (y4:ByteArray)=>k0 y4) (ll x.natAbs) n 0 s (by rw [Uaa]; omega) (by omega) hs
   rw [List.drop_zero,←UcX _ (by omega:x.natAbs≠0)] at hlp
   rw [e,cond_false]
   simp only [UiA,Ut5]
   have hz:=Uiv (sg x) (a:=x.natAbs) (by omega)
   rw [show zs (sg x) x.natAbs=x from UbS x] at hz
   rw [hz]
   cases hs:sg x
   · rw [hs] at hlp
     exact hlp [] (by simp; omega)
   · rw [hs] at hlp
     exact hlp [45] (by simp; omega)
theorem Ulu (n:Nat) (x2 x3:Bool) (s:List UInt8) (h40:s.length<2 ^ 30) (k0:Bool→Bool→List PV→Option R):∀ (d m i:Nat) (l:List Nat),d + i=s.length→d<m→(∀ c∈s.drop i,isD c=true)→l.length≤i →
 UbF n m (bs s) x2 x3 (nl .i64 l) i k0=k0 x2 x3 (nl .i64 (l++dg (s.drop i)))
 | 0,m + 1,i,l,hd,hm,hs,hl=>by
  rw [List.drop_eq_nil_of_le (by omega),dg,List.map_nil,List.append_nil]
  simp only [UbF,UdN]
  simp (disch:=(first | omega | (simp only [JlE]; omega))) only [↓JlH,JlF,JlG]
 | d + 1,m + 1,i,l,hd,hm,hs,hl=>by
  have hi:i<s.length:=by omega
  have hdr:s.drop i=s[i]::s.drop (i + 1):=List.drop_eq_getElem_cons hi
  rw [hdr] at hs ⊢
  have hc:=UaK.1 (hs _ (List.mem_cons_self ..))
  have ih:=Ulu n x2 x3 s h40 k0 d m (i + 1) (l++[s[i].toNat - 48]) (by omega) (by omega) (fun c h=>hs c (List.mem_cons_of_mem _ h)) (by rw [List.length_append,List.length_singleton]; omega)
  have e1:(i:Int) + 1=((i + 1:Nat):Int):=by omega
  have e2:Jc6 (bs s) (i:Int)=(s[i].toNat:Int):=JjZ hi
  have e3:((s[i].toNat:Int) == 45)=false:=by simp only [beq_eq_false_iff_ne,ne_eq]; omega
  have e4:(s[i].toNat:Int) - 48=((s[i].toNat - 48:Nat):Int):=by omega
  rw [dg,List.map_cons,←dg,show l++(s[i].toNat - 48)::dg (s.drop (i + 1))=l++[s[i].toNat - 48]++dg (s.drop (i + 1)) from by simp,←ih]
  simp only [UbF,UdN,Ugx]
  simp (disch:=(first | omega | (simp only [JlE]; omega))) only [↓JlH,JlF,JlG,e1,e2,e3,e4,Jln]
theorem Uwf (n:Nat) (x:Int) (hx:ll x.natAbs≤50000) (hn:200000≤n) (k0:Bool→List PV→Option R):UyL n (bs (Lib.itoa x)) k0=k0 (sg x) (II x.natAbs):=by
 have hdl:(dec x.natAbs).length≤50001:=UqG hx
 have hdg:(dg (dec x.natAbs)).length≤50001:=by unfold dg; rw [List.length_map]; exact hdl
 have hm:=fun k0=>UaL (R:=R) n (sg x) (dg (dec x.natAbs)) (UA1 (Uba _)) (by omega) (by omega) k0
 rw [show vb (dg (dec x.natAbs))=x.natAbs from UcZ _] at hm
 have e0:(sg x&&!(x.natAbs == 0))=sg x:=by
  rw [Bool.eq_iff_iff]; simp [sg]; omega
 rw [e0] at hm
 unfold UyL Uuc
 by_cases h:x<0
 · have hs:sg x=true:=by simpa [sg] using h
   have hi:Lib.itoa x=45::dec x.natAbs:=by unfold Lib.itoa; rw [if_pos h]
   rw [hi]
   obtain ⟨m,rfl⟩:∃ m,n=m + 1:=⟨n - 1,by omega⟩
   have hlp:=fun k0=>Ulu (R:=R) (m + 1) false true (45::dec x.natAbs) (by rw [List.length_cons]; omega) k0 (dec x.natAbs).length m 1 [] (by rw [List.length_cons]) (by omega) (Uba _) (by simp)
   have e2:(Jc6 (bs (45::dec x.natAbs)) 0 == 45)=true:=rfl
   rw [Jlm,show ((1:Nat):Int)=0 + 1 from rfl] at hlp
   simp only [List.drop_succ_cons,List.drop_zero,List.nil_append] at hlp
   rw [hs] at hm ⊢
   simp only [UbF,UdN,Ugx]
   simp (disch:=(first | omega | (simp only [JlE]; omega))) only [↓JlH,JlF,JlG,List.length_cons,e2,hlp,hm]
 · have hs:sg x=false:=by simpa [sg] using h
   have hi:Lib.itoa x=dec x.natAbs:=by
    unfold Lib.itoa; rw [if_neg h]; congr 1; omega
   rw [hi]
   have hlp:=fun k0=>Ulu (R:=R) n false false (dec x.natAbs) (by omega) k0 (dec x.natAbs).length n 0 [] (by omega) (by omega) (Uba _) (by simp)
   rw [Jlm,show ((0:Nat):Int)=0 from rfl,List.drop_zero,List.nil_append] at hlp
   rw [hs] at hm ⊢
   rw [hlp,hm]
theorem Upd:II 1=[PV.v (.int .i64 1)]:=by
 unfold II DL; rw [UgL (by omega) (by omega)]; rfl
theorem Uol (n:Nat) (z w:Int) (hw:w≠0) (hz:ll z.natAbs≤15000) (hwl:ll w.natAbs≤15000) (hn:200000≤n) (hnw:w.natAbs<n) (k0:Bool→List PV→Bool→List PV→Option R) :
 UyK n (sg z) (II z.natAbs) (sg w) (II w.natAbs) k0=k0 (sg (Rat.divInt z w).num) (II (Rat.divInt z w).num.natAbs) false (II (Rat.divInt z w).den):=by
 have hnum:(Rat.divInt z w).num=zs (!(sg z == sg w)) (z.natAbs / Nat.gcd w.natAbs z.natAbs):=by
  rw [Uds,Uoj _ _ _ (by omega)]
 have hden:(Rat.divInt z w).den=w.natAbs / Nat.gcd w.natAbs z.natAbs:=by
  rw [Uds,Uoi _ _ _ (by omega)]
 rw [hnum,hden,UaH,UIz]
 obtain ⟨g,hg⟩:∃ g,g=Nat.gcd w.natAbs z.natAbs:=⟨_,rfl⟩
 rw [←hg]
 have hg0:0<g:=by rw [hg]; exact Nat.gcd_pos_of_pos_left _ (by omega)
 have hgw:g≤w.natAbs:=by rw [hg]; exact Nat.gcd_le_left _ (by omega)
 have hgl:ll g≤15000:=Nat.le_trans (UaT hgw) hwl
 simp only [UyK,p77,UaC,Jk0]
 by_cases h0:z=0
 · subst h0
   have hgg:g=w.natAbs:=by rw [hg,show (0:Int).natAbs=0 from rfl,Nat.gcd_zero_right]
   have e:(ll (0:Int).natAbs == 0)=true:=by rw [show (0:Int).natAbs=0 from rfl,UbB]; rfl
   simp only [e,cond_true]
   rw [show (0:Int).natAbs=0 from rfl,Nat.zero_div,hgg,Nat.div_self (by omega),Upd]
   simp [Uwi,sg]
 · have e:(ll z.natAbs == 0)=false:=by simp only [beq_eq_false_iff_ne,ne_eq,UcR]; omega
   simp only [e,cond_false]
   have hzg:z.natAbs / g≠0:=by
    have hd:g ∣ z.natAbs:=by rw [hg]; exact Nat.gcd_dvd_right _ _
    have:=Nat.div_mul_cancel hd
    intro e; rw [e] at this; omega
   have e2:(z.natAbs / g == 0)=false:=by simpa using hzg
   have q1:=fun k0=>UDu (R:=R) n z.natAbs w.natAbs hnw (by omega) (by omega) hn k0
   rw [←hg] at q1
   have q2:=fun k0=>Ujq (R:=R) n z.natAbs g hg0 (by omega) (by omega) hn k0
   have q3:=fun k0=>Ujq (R:=R) n w.natAbs g hg0 (by omega) (by omega) hn k0
   have q4:=fun k0=>UgF (R:=R) n ((z.natAbs / g:Nat):Int) (by rw [Int.natAbs_natCast]; exact Nat.le_trans (UaT (Nat.div_le_self _ _)) (by omega)) hn k0
   rw [Ubr,Int.natAbs_neg,Int.natAbs_natCast] at q4
   have e5:sg (-((z.natAbs / g:Nat):Int))=true:=by
    have hp:=Nat.pos_of_ne_zero hzg
    simp only [sg,decide_eq_true_eq]
    generalize z.natAbs / g=y at hp ⊢
    omega
   rw [e5] at q4
   have r1:=fun k0=>UgF (R:=R) n z (by omega) hn k0
   have r2:=fun k0=>UgF (R:=R) n w (by omega) hn k0
   rw [Int.natAbs_neg] at r1 r2
   rw [e2]
   have core:∀ (neg:Bool) (k0:Bool→List PV→Bool→List PV→Option R),Ugw n neg (II z.natAbs) false (II w.natAbs) false false k0=k0 (neg) (II (z.natAbs / g)) false (II (w.natAbs / g)):=by
    intro neg k0
    unfold Ugw UJh UfO
    cases neg <;> simp only [q1,q2,q3,q4,cond_true,cond_false]
   by_cases hw0:w<0
   · have es:sg w=true:=by simpa [sg] using hw0
     have es2:sg (-w)=false:=by simp [sg]; omega
     have es3:sg (-z)=!(sg z):=by
      rw [Bool.eq_iff_iff]; simp [sg]; omega
     rw [es] at r2 ⊢
     simp only [cond_true,r1,r2,es2,es3,core]
     cases sg z <;> rfl
   · have es:sg w=false:=by simpa [sg] using hw0
     simp only [es,cond_false,core]
     cases sg z <;> rfl
theorem Ukp (n:Nat) (q:Rat) (h1:ll q.num.natAbs≤15000) (h2:ll q.den≤15000) (hn:200000≤n) (k0:ByteArray→Option R):p73 n (sg q.num) (II q.num.natAbs) false (II q.den) k0=k0 (bs (Uae q)):=by
 have c1:=fun k0=>UoC (R:=R) n (q.den:Int) ((1:Nat):Int) (by rw [Int.natAbs_natCast]; omega) (by rw [Int.natAbs_natCast]; unfold ll; rw [UgL (by omega) (by omega)]; decide) hn k0
 rw [Ubr,Ubr,Int.natAbs_natCast,Int.natAbs_natCast] at c1
 have t1:=fun k0=>UoG (R:=R) n q.num (by omega) hn k0
 have t2:=fun k0=>UoG (R:=R) n (q.den:Int) (by rw [Int.natAbs_natCast]; omega) hn k0
 rw [Ubr,Int.natAbs_natCast,Ucf] at t2
 have l1:(Lib.itoa q.num).length≤15002:=by
  have h:=Ud8 (Lib.itoa q.num)
  rw [UaE] at h
  have hd:(dec q.num.natAbs).length≤15001:=UqG h1
  rw [h,List.length_append]
  split <;> simp <;> omega
 have l2:(dec q.den).length≤15001:=UqG h2
 simp only [p73,Uwi,←Upd,c1]
 unfold Uae
 have hd:=q.den_nz
 by_cases h:q.den=1
 · have e:(UgS (q.den:Int) ((1:Nat):Int) == 0)=true:=by unfold UgS; rw [if_neg (by omega),if_pos (by omega)]; rfl
   simp only [e,cond_true,if_pos h,t1,List.append_nil]
 · have e:(UgS (q.den:Int) ((1:Nat):Int) == 0)=false:=by unfold UgS; rw [if_neg (by omega),if_neg (by omega)]; rfl
   simp only [e,cond_false,if_neg h,t1]
   simp (disch:=(first | omega | (simp only [JlE]; omega))) only [↓JlH,JlF,JlG,t2,List.length_cons,List.length_nil,List.append_assoc,List.singleton_append]
theorem Uay {α:Type} (a b:α):(bif true then a else b)=a:=(Eq.refl _).trans (Eq.refl _)
theorem Uaf {α:Type} (a b:α):(bif false then a else b)=b:=(Eq.refl _).trans (Eq.refl _)
theorem UI2:(!true)=false:=(Eq.refl _).trans (Eq.refl _)
theorem UKJ:(!false)=true:=(Eq.refl _).trans (Eq.refl _)
def Ugm (t:List UInt8):Bool:=!t.isEmpty&&decide (t.length≤400)&&!(t.head? == some 48)&&t.all isD
theorem Um1 (t:List UInt8):(UjW t&&!(t == [48]))=Ugm t:=by
 unfold UjW Ugm
 match t with
 | []=>rfl
 | [c] =>
  by_cases h:c=48
  · subst h; rfl
  · have e1:([c] == [48])=false:=by simpa using h
    have e2:(([c]:List UInt8).head? == some 48)=false:=by simpa using h
    rw [e1,e2]; simp
 | c::d::r =>
  have e1:((c::d::r) == [48])=false:=by simp
  rw [e1]
  by_cases h:c=48
  · subst h; simp
  · have e2:((c::d::r:List UInt8).head? == some 48)=false:=by simpa using h
    rw [e2]; simp
theorem UhQ (n:Nat) (t:List UInt8) (h40:t.length<2 ^ 40) (k0:Bool→Option R) (k1:Option R):∀ (d m i:Nat),d + i=t.length→d<m→Ucq n m (bs t) i k0 k1=if (t.drop i).all isD then k1 else k0 false
 | 0,m + 1,i,hd,hm=>by
  rw [List.drop_eq_nil_of_le (by omega),List.all_nil,if_pos rfl]
  simp only [Ucq,UfQ]
  simp (disch:=(first | omega | (simp only [JlE]; omega))) only [↓JlH,JlF]
 | d + 1,m + 1,i,hd,hm=>by
  have hi:i<t.length:=by omega
  have hdr:t.drop i=t[i]::t.drop (i + 1):=List.drop_eq_getElem_cons hi
  have ih:=UhQ n t h40 k0 k1 d m (i + 1) (by omega) (by omega)
  have e1:(i:Int) + 1=((i + 1:Nat):Int):=by omega
  have e2:Jc6 (bs t) (i:Int)=(t[i].toNat:Int):=JjZ hi
  rw [hdr,List.all_cons]
  simp only [Ucq,UfQ]
  by_cases h:isD t[i]=true
  · have hc:=UaK.1 h
    rw [h,Bool.true_and,←ih]
    simp (disch:=(first | omega | (simp only [JlE]; omega))) only [↓JlH,JlF,e1,e2]
  · have hc:¬ (48≤t[i].toNat∧t[i].toNat≤57):=fun q=>h (UaK.2 q)
    have hf:isD t[i]=false:=by simpa using h
    rw [hf,Bool.false_and,if_neg (by simp)]
    by_cases h1:t[i].toNat<48
    · simp (disch:=(first | omega | (simp only [JlE]; omega))) only [↓JlH,JlF,e1,e2]
    · simp (disch:=(first | omega | (simp only [JlE]; omega))) only [↓JlH,JlF,e1,e2]
theorem UkB (n:Nat) (t:List UInt8) (ht:t.length<2 ^ 40) (hn:t.length<n) (k0:Bool→Option R):Ueb n (bs t) k0=k0 (Ugm t):=by
 cases t with
 | nil=>rfl
 | cons c r =>
  rw [List.length_cons] at ht hn
  unfold Ueb
  by_cases h4:400<r.length + 1
  · have e1:Ugm (c::r)=false:=by
     unfold Ugm
     rw [List.length_cons,decide_eq_false (by omega)]; simp
    simp (disch:=(first | omega | (simp only [JlE]; omega))) only [↓JlH,JlF,e1,List.length_cons]
  have e0:Jc6 (bs (c::r)) 0=(c.toNat:Int):=rfl
  have hb:=UAR c 48
  rw [show ((48:UInt8).toNat:Int)=48 from rfl] at hb
  by_cases hc:c=48
  · have e1:Ugm (c::r)=false:=by unfold Ugm; rw [hc]; simp
    have e2:(c == 48)=true:=by simpa using hc
    simp (disch:=(first | omega | (simp only [JlE]; omega))) only [↓JlH,JlF,e1,List.length_cons,e0,hb,e2]
  · have e1:Ugm (c::r)=(c::r).all isD:=by
     have:((c::r:List UInt8).head? == some 48)=false:=by simpa using hc
     unfold Ugm
     rw [List.length_cons,decide_eq_true (by omega),this]; simp
    have e2:(c == 48)=false:=by simpa using hc
    have hlp:=fun k0 k1=>UhQ (R:=R) n (c::r) (by rw [List.length_cons]; omega) k0 k1 (r.length + 1) n 0 (by rw [List.length_cons]) (by omega)
    rw [List.drop_zero,show ((0:Nat):Int)=0 from rfl] at hlp
    rw [e1]
    simp (disch:=(first | omega | (simp only [JlE]; omega))) only [↓JlH,JlF,List.length_cons,e0,hb,e2,UlA,Uue,hlp]
    cases (c::r).all isD <;> rfl
theorem Uf7 (n:Nat) (s:List UInt8) (hs:s.length<2 ^ 40) (hn:s.length<n) (k0:Bool→Option R):UH n (bs s) k0=k0 (UkH s):=by
 unfold UH
 by_cases h0:s=[48]
 · subst h0
   have e:UkH [48]=true:=rfl
   rw [e]; rfl
 · have e0:(s == [48])=false:=by simpa using h0
   cases s with
   | nil=>rfl
   | cons c r =>
    rw [List.length_cons] at hs hn
    have e1:Jc6 (bs (c::r)) 0=(c.toNat:Int):=rfl
    have hb:=UAR c 45
    rw [show ((45:UInt8).toNat:Int)=45 from rfl] at hb
    have e3:List.drop (1:Int).toNat (List.take (r.length + 1) (c::r))=r:=by
     show List.drop 1 (c::List.take r.length r)=r
     rw [List.take_length]; rfl
    by_cases hc:c=45
    · have e2:(c == 45)=true:=by simpa using hc
      have hv:=fun k0=>UkB (R:=R) n r (by omega) (by omega) k0
      have hI:UkH (c::r)=Ugm r:=by
       unfold UkH; rw [Ubo,if_pos hc,←Um1]; simp
      rw [hI]
      simp (disch:=(first | omega | (simp only [JlE]; omega))) only [↓JlH,JlF,List.length_cons,e0,e1,hb,e2,Jji,e3,hv]
    · have e2:(c == 45)=false:=by simpa using hc
      have hv:=fun k0=>UkB (R:=R) n (c::r) (by rw [List.length_cons]; omega) (by rw [List.length_cons]; omega) k0
      have hI:UkH (c::r)=Ugm (c::r):=by
       unfold UkH; rw [Ubo,if_neg hc,←Um1,e0]; simp
      rw [hI]
      simp (disch:=(first | omega | (simp only [JlE]; omega))) only [↓JlH,JlF,List.length_cons,e0,e1,hb,e2,hv]
def sl (l:List (List UInt8)):List PV:=l.map fun s=>PV.v (.string (bs s))
theorem Uac (l:List (List UInt8)):(sl l).length=l.length:=by unfold sl; rw [List.length_map]
end Go.Proofs.YtmgfmlhdnadglaaGreatDoor
set_option linter.unusedVariables false
set_option maxRecDepth 100000
namespace Go.Proofs.YtmgfmlhdnadglaaGreatDoor
open Go Th Go.Proofs
noncomputable section
variable {R:Type}
def UzS:Ann:={ loops:=[],cuts:=[],frz:=[],rm:=[.id,.id,.id] }
abbrev UFm (n:Nat):Env:=eC 95 (UKg n) eN
theorem UrR (n:Nat):EnvOK Tryz.prog GI (UFm n):=.cons (.nil) (UO8 n)
def p54 (n:Nat) (x1 x2:ByteArray) (k0:Int→Int→Bool→O R):O R :=
 p95 n x1 (fun y3 y4=>p95 n x2 (fun y5 y6=>bif y4 then (k0 y3 y5 (bif true then y6 else false)) else (k0 y3 y5 false)))
abbrev UQO (n:Nat):Orc R:=oN
abbrev UP3 (n:Nat):Orc R:=oN
abbrev K54 (R:Type) (n:Nat):=JcH (R:=R) Tryz.prog (UFm n) UzS n (27,[]) (UQO n) (UP3 n)
theorem USz (n:Nat):Je6 (K54 R n) (JaJ UzS (Jll Tryz.f54)):=pO pN (by kernel_rfl)
abbrev t54:Sl (List SV):=(cS (cS .n))
abbrev f54 (n:Nat) (K:List SV→O R):t54.T (O R):=fun x1 x2=>p54 n x1 x2 (fun y1 y2 y3=>K [vI y1,vI y2,vB y3])
abbrev UIQ (n:Nat):FS:=fT [false,false] t54 (f54 n)
theorem ULl (n:Nat):FSound Tryz.prog GI 54 (UIQ n):=gd UzS n (UrR n) Tryz.func54 (.cons (UrR n) t54 (f54 n) (fun K _ _=>(Jkq (c:=Jll Tryz.f54) (by kernel_rfl) (USz n) K).trans (by kernel_rfl)) .nil) (by kernel_rfl)
end
end Go.Proofs.YtmgfmlhdnadglaaGreatDoor
set_option linter.unusedVariables false
set_option linter.unusedSimpArgs false
namespace Go.Proofs.YtmgfmlhdnadglaaGreatDoor
open Go Th Go.Proofs
variable {R:Type}
theorem Uha (n:Nat) (neg:Bool) (t:List UInt8) (ht:t.length≤9):∀ (d m i acc:Nat),d + i=t.length→d<m→acc<10 ^ i →
 (∀ c∈t.drop i,isD c=true)→∀ (k0:Int→Bool→Bool→Int→Option R) (k1:Bool→Int→Option R),UbK n m neg (bs t) acc t.length i k0 k1=k1 neg ((acc * 10 ^ (t.length - i) + ofD (t.drop i):Nat):Int)
 | 0,m + 1,i,acc,hd,hm,ha,hs,k0,k1=>by
  rw [List.drop_eq_nil_of_le (by omega),show t.length - i=0 from by omega,Nat.pow_zero,Nat.mul_one,show ofD []=0 from rfl,Nat.add_zero]
  simp only [UbK,UeI]
  simp (disch:=(first | omega | (simp only [JlE]; omega))) only [↓JlH,JlF]
  rfl
 | d + 1,m + 1,i,acc,hd,hm,ha,hs,k0,k1=>by
  have hi:i<t.length:=by omega
  have hdr:t.drop i=t[i]::t.drop (i + 1):=List.drop_eq_getElem_cons hi
  rw [hdr] at hs ⊢
  have hc:=UaK.1 (hs _ (List.mem_cons_self ..))
  have hp:(10:Nat) ^ i≤10 ^ 9:=Nat.pow_le_pow_right (by omega) (by omega)
  have ih:=Uha n neg t ht d m (i + 1) (10 * acc + (t[i].toNat - 48)) (by omega) (by omega) (by rw [Nat.pow_succ]; omega) (fun c h=>hs c (List.mem_cons_of_mem _ h)) k0 k1
  have e1:(i:Int) + 1=((i + 1:Nat):Int):=by omega
  have e2:Jc6 (bs t) (i:Int)=(t[i].toNat:Int):=JjZ hi
  have e4:(t[i].toNat:Int) - 48=((t[i].toNat - 48:Nat):Int):=by omega
  have e5:(10:Int) * (acc:Int) + ((t[i].toNat - 48:Nat):Int)=((10 * acc + (t[i].toNat - 48):Nat):Int):=by omega
  have hdl:(t.drop (i + 1)).length=t.length - (i + 1):=List.length_drop
  have e6:acc * 10 ^ (t.length - i) + ofD (t[i]::t.drop (i + 1))=(10 * acc + (t[i].toNat - 48)) * 10 ^ (t.length - (i + 1)) + ofD (t.drop (i + 1)):=by
   have:ofD (t[i]::t.drop (i + 1))=(t[i].toNat - 48) * 10 ^ (t.length - (i + 1)) + ofD (t.drop (i + 1)):=by
    unfold ofD dg; rw [List.map_cons,Udc,List.length_map,hdl]
   rw [this,show t.length - i=(t.length - (i + 1)) + 1 from by omega,Nat.pow_succ]
   grind
  rw [e6,←ih]
  simp only [UbK,UeI]
  simp (disch:=(first | omega | (simp only [JlE]; omega))) only [↓JlH,JlF,e1,e2,e4,e5,wu8]
theorem UcS (n:Nat) (neg:Bool) (t:List UInt8) (ht:t.length≤9):∀ (d m i acc:Nat),d + i=t.length→d<m→acc<10 ^ i →
 ¬ (∀ c∈t.drop i,isD c=true)→∃ y:Int,∀ (k0:Int→Bool→Bool→Int→Option R) (k1:Bool→Int→Option R),UbK n m neg (bs t) acc t.length i k0 k1=k0 0 false neg y
 | 0,m + 1,i,acc,hd,hm,ha,hs=>by
  rw [List.drop_eq_nil_of_le (by omega)] at hs
  exact absurd (fun c h=>by cases h) hs
 | d + 1,m + 1,i,acc,hd,hm,ha,hs=>by
  have hi:i<t.length:=by omega
  have hdr:t.drop i=t[i]::t.drop (i + 1):=List.drop_eq_getElem_cons hi
  rw [hdr] at hs
  have hp:(10:Nat) ^ i≤10 ^ 9:=Nat.pow_le_pow_right (by omega) (by omega)
  have e1:(i:Int) + 1=((i + 1:Nat):Int):=by omega
  have e2:Jc6 (bs t) (i:Int)=(t[i].toNat:Int):=JjZ hi
  by_cases h:isD t[i]=true
  · have hc:=UaK.1 h
    have hs':¬ ∀ c∈t.drop (i + 1),isD c=true:=fun q=>hs (by
     intro c hc
     rcases List.mem_cons.1 hc with rfl | hc
     · exact h
     · exact q c hc)
    obtain ⟨y,ih⟩:=UcS n neg t ht d m (i + 1) (10 * acc + (t[i].toNat - 48)) (by omega) (by omega) (by rw [Nat.pow_succ]; omega) hs'
    refine ⟨y,fun k0 k1=>?_⟩
    have e4:(t[i].toNat:Int) - 48=((t[i].toNat - 48:Nat):Int):=by omega
    have e5:(10:Int) * (acc:Int) + ((t[i].toNat - 48:Nat):Int)=((10 * acc + (t[i].toNat - 48):Nat):Int):=by omega
    rw [←ih k0 k1]
    simp only [UbK,UeI]
    simp (disch:=(first | omega | (simp only [JlE]; omega))) only [↓JlH,JlF,e1,e2,e4,e5,wu8]
  · have hc:¬ (48≤t[i].toNat∧t[i].toNat≤57):=fun q=>h (UaK.2 q)
    refine ⟨acc,fun k0 k1=>?_⟩
    simp only [UbK,UeI]
    by_cases h1:t[i].toNat<48
    · simp (disch:=(first | omega | (simp only [JlE]; omega))) only [↓JlH,JlF,e1,e2]
    · simp (disch:=(first | omega | (simp only [JlE]; omega))) only [↓JlH,JlF,e1,e2]
theorem UuG (n:Nat) (hn:20≤n) (s t:List UInt8) (neg:Bool) (hsl:s.length<2 ^ 40) (h0:t≠[]) (ht:t.length≤9) (hd:∀ c∈t,isD c=true) (hz:t.head? = some 48→s.length≤1) (k0:Int→Bool→Option R) :
 UdU n (bs s) neg (bs t) k0=k0 (zs neg (ofD t)) true:=by
 have hlt:=UtU hd
 have hp:(10:Nat) ^ t.length≤10 ^ 9:=Nat.pow_le_pow_right (by omega) ht
 have hlp:=fun (k0:Int→Bool→Bool→Int→Option R) (k1:Bool→Int→Option R)=>Uha (R:=R) n neg t ht t.length n 0 0 (by omega) (by omega) (by simp) (by rw [List.drop_zero]; exact hd) k0 k1
 rw [Nat.zero_mul,List.drop_zero,Nat.zero_add,show ((0:Nat):Int)=0 from rfl] at hlp
 cases t with
 | nil=>exact absurd rfl h0
 | cons c r =>
  have e0:((c::r) == ([]:List UInt8))=false:=rfl
  have e1:Jc6 (bs (c::r)) 0=(c.toNat:Int):=rfl
  have hb:=UAR c 48
  rw [show ((48:UInt8).toNat:Int)=48 from rfl] at hb
  rw [List.length_cons] at ht
  simp only [List.length_cons] at hlp
  generalize hv:ofD (c::r)=v at *
  by_cases hc:c=48
  · have e2:(c == 48)=true:=by simpa using hc
    have hs1:=hz (by rw [hc]; rfl)
    simp only [UdU,Ug9,UeH,Uoz]
    cases neg
    · simp (disch:=(first | omega | (simp only [JlE]; omega))) only [↓JlH,JlF,List.length_cons,e0,e1,hb,e2,hlp]
      rfl
    · simp (disch:=(first | omega | (simp only [JlE]; omega))) only [↓JlH,JlF,List.length_cons,e0,e1,hb,e2,hlp,Int.zero_sub]
      rfl
  · have e2:(c == 48)=false:=by simpa using hc
    simp only [UdU,Ug9,UeH,Uoz]
    cases neg
    · simp (disch:=(first | omega | (simp only [JlE]; omega))) only [↓JlH,JlF,List.length_cons,e0,e1,hb,e2,hlp]
      rfl
    · simp (disch:=(first | omega | (simp only [JlE]; omega))) only [↓JlH,JlF,List.length_cons,e0,e1,hb,e2,hlp,Int.zero_sub]
      rfl
theorem Uo5 (n:Nat) (hn:20≤n) (s t:List UInt8) (neg:Bool) (hsl:s.length<2 ^ 40) (htl:t.length<2 ^ 40) (h:¬ (t≠[]∧t.length≤9∧(∀ c∈t,isD c=true)∧(t.head? = some 48→s.length≤1))) :
 ∀ k0:Int→Bool→Option R,UdU n (bs s) neg (bs t) k0=k0 0 false:=by
 intro k0
 cases t with
 | nil=>rfl
 | cons c r =>
  have e0:((c::r) == ([]:List UInt8))=false:=rfl
  have e1:Jc6 (bs (c::r)) 0=(c.toNat:Int):=rfl
  have hb:=UAR c 48
  rw [show ((48:UInt8).toNat:Int)=48 from rfl] at hb
  rw [List.length_cons] at htl
  simp only [UdU,Ug9,UeH,Uoz]
  by_cases h9:9<r.length + 1
  · simp (disch:=(first | omega | (simp only [JlE]; omega))) only [↓JlH,JlF,List.length_cons,e0]
  · by_cases hd:∀ x∈c::r,isD x=true
    · have hs:c=48∧1<s.length:=by
       by_cases hc:c=48
       · refine ⟨hc,?_⟩
         apply Nat.lt_of_not_le
         intro q
         exact h ⟨by simp,by rw [List.length_cons]; omega,hd,fun _=>q⟩
       · exact absurd ⟨by simp,by rw [List.length_cons]; omega,hd,fun q=>absurd (by simpa using q) hc⟩ h
      have e2:(c == 48)=true:=by simpa using hs.1
      have hs1:=hs.2
      simp (disch:=(first | omega | (simp only [JlE]; omega))) only [↓JlH,JlF,List.length_cons,e0,e1,hb,e2]
    · obtain ⟨y,hlp⟩:=UcS (R:=R) n neg (c::r) (by rw [List.length_cons]; omega) (r.length + 1) n 0 0 (by rw [List.length_cons]) (by omega) (by simp) (by rw [List.drop_zero]; exact hd)
      rw [show ((0:Nat):Int)=0 from rfl] at hlp
      simp only [List.length_cons] at hlp
      by_cases hc:c=48
      · have e2:(c == 48)=true:=by simpa using hc
        by_cases hs1:1<s.length
        · simp (disch:=(first | omega | (simp only [JlE]; omega))) only [↓JlH,JlF,List.length_cons,e0,e1,hb,e2]
        · simp (disch:=(first | omega | (simp only [JlE]; omega))) only [↓JlH,JlF,List.length_cons,e0,e1,hb,e2,hlp]
      · have e2:(c == 48)=false:=by simpa using hc
        simp (disch:=(first | omega | (simp only [JlE]; omega))) only [↓JlH,JlF,List.length_cons,e0,e1,hb,e2,hlp]
theorem UgE (n:Nat) (s:List UInt8) (hs:s.length<2 ^ 40) (k0:Int→Bool→Option R):p95 n (bs s) k0=UdU n (bs s) (Uce s).1 (bs (Uce s).2) k0:=by
 unfold p95
 cases s with
 | nil=>rfl
 | cons c r =>
  rw [List.length_cons] at hs
  have e0:((c::r) == ([]:List UInt8))=false:=rfl
  have e1:Jc6 (bs (c::r)) 0=(c.toNat:Int):=rfl
  have hb:=UAR c 45
  rw [show ((45:UInt8).toNat:Int)=45 from rfl] at hb
  have e3:List.drop (1:Int).toNat (List.take (r.length + 1) (c::r))=r:=by
   show List.drop 1 (c::List.take r.length r)=r
   rw [List.take_length]; rfl
  rw [Ubo]
  by_cases hc:c=45
  · have e2:(c == 45)=true:=by simpa using hc
    rw [if_pos hc]
    simp (disch:=(first | omega | (simp only [JlE]; omega))) only [↓JlH,JlF,List.length_cons,e0,e1,hb,e2,Ukl,Jji,e3]
  · have e2:(c == 45)=false:=by simpa using hc
    rw [if_neg hc]
    simp (disch:=(first | omega | (simp only [JlE]; omega))) only [↓JlH,JlF,List.length_cons,e0,e1,hb,e2,Ukl]
theorem Uf2 (n:Nat) (hn:20≤n) (v:Int) (hv:v.natAbs<10 ^ 9) (k0:Int→Bool→Option R):p95 n (bs (Lib.itoa v)) k0=k0 v true:=by
 have hl:=(Uby v.natAbs 9 (by omega)).2 hv
 have hin:=Ud8 (Lib.itoa v)
 rw [UaE] at hin
 have hls:(Lib.itoa v).length≤10:=by
  rw [hin,List.length_append]
  split <;> simp <;> omega
 rw [UgE n _ (by omega),UaE,UuG n hn _ _ _ (by omega) (UqH _) hl (Uba _) ?_,UcZ,UbS]
 intro h48
 rcases UmX v.natAbs with h | h
 · exact absurd h48 h
 · by_cases hv0:v<0
   · exfalso
     have h1:=Uba v.natAbs
     cases hd:dec v.natAbs with
     | nil=>exact UqH _ hd
     | cons c r =>
      rw [hd] at h48 h
      simp at h48 h
      have:dec v.natAbs=dec 0:=by rw [hd,h48,h,Uav]
      have:=UcW this
      omega
   · rw [hin,decide_eq_false hv0]
     simp only [Bool.false_eq_true,if_false,List.nil_append]
     omega
theorem Uko (n:Nat) (hn:20≤n) (s:List UInt8) (hs:s.length<2 ^ 40) (h:¬ ∃ v:Int,v.natAbs<10 ^ 9∧s=Lib.itoa v) (k0:Int→Bool→Option R):p95 n (bs s) k0=k0 0 false:=by
 have hl:=UmW s
 rw [UgE n s hs]
 refine Uo5 n hn s _ _ hs (by omega) ?_ k0
 rintro ⟨h1,h2,h3,h4⟩
 apply h
 have hin:=Ud8 s
 have hd:dec (ofD (Uce s).2)=(Uce s).2:=UqI h3 h1 (by
  by_cases hz:(Uce s).2.head? = some 48
  · right
    have:=h4 hz
    have:=List.length_pos_iff.2 h1
    omega
  · exact Or.inl hz)
 have hlt:ofD (Uce s).2<10 ^ 9:=(Uby _ 9 (by omega)).1 (by rw [hd]; exact h2)
 refine ⟨zs (Uce s).1 (ofD (Uce s).2),by rw [UaH]; exact hlt,?_⟩
 by_cases h0:ofD (Uce s).2=0
 · have e:(Uce s).1=false:=by
    cases hb:(Uce s).1 with
    | false=>rfl
    | true =>
     exfalso
     rw [h0,Uav] at hd
     have h5:=h4 (by rw [←hd]; rfl)
     rw [hb,←hd] at hin
     rw [hin] at h5
     simp at h5
   rw [h0,e]
   rw [e,←hd,h0] at hin
   rw [hin]
   exact (Ucf 0).symm
 · rw [Uiv _ h0,hd]; exact hin
end Go.Proofs.YtmgfmlhdnadglaaGreatDoor
set_option linter.unusedVariables false
set_option maxRecDepth 100000
namespace Go.Proofs.YtmgfmlhdnadglaaGreatDoor
open Go Th Go.Proofs
noncomputable section
variable {R:Type}
def Ubl:Ann:={ loops:=[(3,ids [0,2,4,5],ids [0,2,3,4])],cuts:=[(4,ids [0,2,4,5],ids [0,2,3,4,5]),(11,ids [0,2,6,7],ids [2,3]),(13,ids [0,2,6,7],ids [2,3])],frz:=[],rm:=[.id,.id] }
abbrev UqS (n:Nat):Env:=eC 136 (UGb n) (eC 125 (UBV n) (eC 123 (UtD n) (eC 77 (UGt n) (eC 73 (UK n) eN))))
theorem Une (n:Nat):EnvOK Tryz.prog GI (UqS n):=.cons (.cons (.cons (.cons (.cons (.nil) (UO1 n)) (UI6 n)) (Uwh n)) (UGW n)) (UK3 n)
def Ugv (n:Nat) (x1:ByteArray) (x2 x3:Bool) (x4 x5:Int) (k0:ByteArray→Bool→Bool→Int→Int→O R):O R :=
 k0 x1 x2 x3 x4 (IntKind.i64.wrap (x5 + 1))
def UfG (n:Nat) (l0:ByteArray→Bool→Bool→Int→Int→O R) (x1:ByteArray) (x2 x3:Bool) (x4 x5:Int) (k0:ByteArray→Bool→Bool→Int→O R):O R :=
 bif (decide (x5<((x1).size:Int))) then (bif (inR x5 (x1).size) then (bif (Jc6 x1 x5 == 47) then (bif (bif true then (x4 == ((x1).size:Int)) else false) then (Ugv n x1 x2 x3 x5 x5 (fun y6 y7 y8 y9 y10=>l0 y6 y7 y8 y9 y10)) else (Ugv n x1 x2 x3 x4 x5 (fun y11 y12 y13 y14 y15=>l0 y11 y12 y13 y14 y15))) else (Ugv n x1 x2 x3 x4 x5 (fun y16 y17 y18 y19 y20=>l0 y16 y17 y18 y19 y20))) else none) else (k0 x1 x2 x3 x4)
def Ucj (n:Nat):Nat→ByteArray→Bool→Bool→Int→Int→(ByteArray→Bool→Bool→Int→O R)→O R
 | 0,_,_,_,_,_,_=>none
 | m + 1,x1,x2,x3,x4,x5,k0=>UfG n (fun x1 x2 x3 x4 x5=>Ucj n m x1 x2 x3 x4 x5 k0) x1 x2 x3 x4 x5 k0
def Ut4 (n:Nat) (x1:ByteArray) (x2 x3:Bool) (x4 x5:Int) (k0:ByteArray→Bool→Bool→Int→O R):O R:=Ucj n n x1 x2 x3 x4 x5 k0
def UfF (n:Nat) (x1:ByteArray) (x2 x3:Bool) (x4 x5:ByteArray) (k0:Bool→LP→Bool→LP→Bool→O R):O R :=
 UyL n x5 (fun y6 y7=>p77 n y6 y7 (fun y8=>bif y8 then (k0 false [] false [] false) else (UyL n x4 (fun y9 y10=>UyL n x5 (fun y11 y12=>UyK n y9 y10 y11 y12 (fun y13 y14 y15 y16=>p73 n y13 y14 y15 y16 (fun y17=>k0 y13 y14 y15 y16 (eqS y17 x1))))))))
def Ua2 (n:Nat) (x1:ByteArray) (x2 x3:Bool) (x4 x5:ByteArray) (k0:Bool→LP→Bool→LP→Bool→O R):O R :=
 UH n x4 (fun y6=>bif (!y6) then (k0 false [] false [] false) else (UH n x5 (fun y7=>bif (bif false then true else (!y7)) then (k0 false [] false [] false) else (UfF n x1 x2 x3 x4 x5 (fun y8 y9 y10 y11 y12=>k0 y8 y9 y10 y11 y12)))))
def Uvv (n:Nat) (x1:ByteArray) (k0:Bool→LP→Bool→LP→Bool→O R):O R :=
 Ut4 n x1 false false ((x1).size:Int) 0 (fun y2 y3 y4 y5=>bif (Je5 0 y5 (y2).size) then (bif (decide (y5<((y2).size:Int))) then (bif (Je5 (IntKind.i64.wrap (y5 + 1)) ((y2).size:Int) (y2).size) then (Ua2 n y2 y3 y4 (ByteArray.extract y2 (0:Int).toNat (y5:Int).toNat) (ByteArray.extract y2 (IntKind.i64.wrap (y5 + 1):Int).toNat (((y2).size:Int):Int).toNat) (fun y6 y7 y8 y9 y10=>k0 y6 y7 y8 y9 y10)) else none) else (Ua2 n y2 y3 y4 (ByteArray.extract y2 (0:Int).toNat (y5:Int).toNat) ⟨#[49]⟩ (fun y11 y12 y13 y14 y15=>k0 y11 y12 y13 y14 y15))) else none)
abbrev UIA (n:Nat):Code→Fr→Kc R→O R:=evC Tryz.prog (UqS n) Ubl n (62,[])
noncomputable def UpM:Code:=Jj4 (Jll Tryz.f109) [1,1,0,1,0,0,1,1]
abbrev UlX:Sl (List SV):=(cS (.c (sBx 57 (cB (.c sNl (cB (.c sNl .n))))) (cI (cI .n))))
abbrev UsA (n:Nat) (K:Kc R):UlX.T (O R):=fun x1 x2 x3 x4 x5=>Ugv n x1 x2 x3 x4 x5 (fun y1 y2 y3 y4 y5=>xC Ubl 4 K .normal [vS y1,.bx 57 [vB y2,.nl,vB y3,.nl],dD,vI y4,vI y5])
noncomputable def Umy:Code:=Jj4 (Jll Tryz.f109) [1,1,1,1,1,1]
abbrev Ujz:Sl (List SV):=(cS (.c (sBx 57 (cB (.c sNl (cB (.c sNl .n))))) (cS (cS .n))))
abbrev UnP (n:Nat) (K:Kc R):Ujz.T (O R):=fun x1 x2 x3 x4 x5=>Ua2 n x1 x2 x3 x4 x5 (fun y1 y2 y3 y4 y5=>xC Ubl 11 K .ret [.bx 57 [vB y1,vH y2,vB y3,vH y4],vB y5])
noncomputable def Umz:Code:=Jj4 (Jll Tryz.f109) [1,1,1,1,1,1,1]
abbrev UjA:Sl (List SV):=(cS (.c (sBx 57 (cB (.c sNl (cB (.c sNl .n))))) (cS (cS .n))))
abbrev UnQ (n:Nat) (K:Kc R):UjA.T (O R):=fun x1 x2 x3 x4 x5=>UfF n x1 x2 x3 x4 x5 (fun y1 y2 y3 y4 y5=>xC Ubl 13 K .ret [.bx 57 [vB y1,vH y2,vB y3,vH y4],vB y5])
noncomputable def UpN:Code:=Jj4 (Jll Tryz.f109) [1,1,0,1,0,0]
abbrev UeP:Sl (List SV):=(cS (.c (sBx 57 (cB (.c sNl (cB (.c sNl .n))))) (cI (cI .n))))
abbrev Uk5 (n m:Nat) (K:Kc R):UeP.T (O R):=fun x1 x2 x3 x4 x5=>Ucj n m x1 x2 x3 x4 x5 (fun y1 y2 y3 y4=>xL Ubl 3 K (.exit 0) [vS y1,.bx 57 [vB y2,.nl,vB y3,.nl],dD,vI y4])
abbrev UAl (n:Nat) (K:Kc R) (l0:UeP.T (O R)):UeP.T (O R):=fun x1 x2 x3 x4 x5=>UfG n l0 x1 x2 x3 x4 x5 (fun y1 y2 y3 y4=>xL Ubl 3 K (.exit 0) [vS y1,.bx 57 [vB y2,.nl,vB y3,.nl],dD,vI y4])
abbrev UtO (n:Nat):Orc R:=oL Ubl (UIA n) n 3 UpN UeP (Uk5 n n) oN
abbrev UqF (n:Nat):Orc R:=oC Ubl (UIA n) 13 Umz UjA (UnQ n) (oC Ubl (UIA n) 11 Umy Ujz (UnP n) (oC Ubl (UIA n) 4 UpM UlX (UsA n) oN))
abbrev UD2 (R:Type) (n:Nat):=JcH (R:=R) Tryz.prog (UqS n) Ubl n (62,[]) (UtO n) (UqF n)
theorem UCy (n:Nat):UD2 R n (true,4,UpM):=JkW (lo:=UtO n) (cu:=UqF n) (pO pN (by kernel_rfl)) UlX (UsA n) (fun K _ _ _ _ _=>by show _=_; kernel_rfl) fun _ _=>rfl
theorem UCz (n:Nat):UD2 R n (false,3,UpN):=JkF (lo:=UtO n) (cu:=UqF n) (pO (pC (UCy n) pN) (by kernel_rfl)) UeP (Uk5 n n) (JiE (F:=Uk5 n) UeP (UAl n) (fun K _ _ _ _ _=>rfl) (fun _ _=>rfl) (fun L K _ _ _ _ _=>by show _=_; kernel_rfl) n) fun _ _=>rfl
theorem Uwq (n:Nat):UD2 R n (true,13,Umz):=JkW (lo:=UtO n) (cu:=UqF n) (pO pN (by kernel_rfl)) UjA (UnQ n) (fun K _ _ _ _ _=>by show _=_; kernel_rfl) fun _ _=>rfl
theorem Uwp (n:Nat):UD2 R n (true,11,Umy):=JkW (lo:=UtO n) (cu:=UqF n) (pO (pC (Uwq n) pN) (by kernel_rfl)) Ujz (UnP n) (fun K _ _ _ _ _=>by show _=_; kernel_rfl) fun _ _=>rfl
theorem ULH (n:Nat):Je6 (UD2 R n) (JaJ Ubl (Jll Tryz.f109)):=pO (pC (UCz n) (pC (Uwp n) pN)) (by kernel_rfl)
abbrev t109:Sl (List SV):=(cS .n)
abbrev f109 (n:Nat) (K:List SV→O R):t109.T (O R):=fun x1=>Uvv n x1 (fun y1 y2 y3 y4 y5=>K [.p (.agg [.v (.bool y1),.sh y2,.v (.bool y3),.sh y4]),vB y5])
abbrev Uv3 (n:Nat):FS:=fT [false] t109 (f109 n)
theorem UCg (n:Nat):FSound Tryz.prog GI 109 (Uv3 n):=gd Ubl n (Une n) Tryz.func109 (.cons (Une n) t109 (f109 n) (fun K _=>(Jkq (c:=Jll Tryz.f109) (by kernel_rfl) (ULH n) K).trans (by kernel_rfl)) .nil) (by kernel_rfl)
end
end Go.Proofs.YtmgfmlhdnadglaaGreatDoor
set_option linter.unusedVariables false
set_option linter.unusedSimpArgs false
namespace Go.Proofs.YtmgfmlhdnadglaaGreatDoor
open Go Th Go.Proofs
variable {R:Type}
theorem UyC {a:Nat} (h:a<10 ^ 400):ll a≤400:=UcY.2 h
theorem Ual {n:Nat} (hn:10 ^ 400≤n):200000≤n:=Nat.le_trans (by decide +kernel) hn
theorem UqJ (z w:Int) (hw:w≠0):(Rat.divInt z w).den≤w.natAbs:=by
 rw [Uds,Uoi _ _ _ (by omega)]; exact Nat.div_le_self _ _
theorem UtT (z w:Int) (hw:w≠0):(Rat.divInt z w).num.natAbs≤z.natAbs:=by
 rw [Uds,Uoj _ _ _ (by omega),UaH]; exact Nat.div_le_self _ _
def idx (s:List UInt8):Nat:=(s.takeWhile (· != 47)).length
theorem UB4:idx []=0:=rfl
theorem UaU (c:UInt8) (r:List UInt8):idx (c::r)=if c=47 then 0 else idx r + 1:=by
 unfold idx
 rw [List.takeWhile_cons]
 by_cases h:c=47 <;> simp [h]
theorem UtH:∀ (s:List UInt8),idx s≤s.length
 | []=>Nat.le_refl _
 | c::r=>by
  have:=UtH r
  rw [UaU,List.length_cons]
  split <;> omega
theorem Uoe:∀ {s:List UInt8},(∀ c∈s,c≠47)→idx s=s.length
 | [],_=>rfl
 | c::r,h=>by rw [UaU,if_neg (h c (List.mem_cons_self ..)),Uoe fun x hx=>h x (List.mem_cons_of_mem _ hx),List.length_cons]
theorem Uyy:∀ {a:List UInt8} (b:List UInt8),(∀ c∈a,c≠47)→idx (a++47::b)=a.length
 | [],b,_=>by rw [List.nil_append,UaU,if_pos rfl]; rfl
 | c::r,b,h=>by rw [List.cons_append,UaU,if_neg (h c (List.mem_cons_self ..)),Uyy b fun x hx=>h x (List.mem_cons_of_mem _ hx),List.length_cons]
theorem Uka:∀ {s:List UInt8},idx s<s.length→s=s.take (idx s)++47::s.drop (idx s + 1)
 | [],h=>by simp [UB4] at h
 | c::r,h=>by
  rw [UaU,List.length_cons] at *
  by_cases hc:c=47
  · rw [if_pos hc] at *; rw [hc]; rfl
  · rw [if_neg hc] at *
    have ih:=Uka (s:=r) (by omega)
    rw [List.take_succ_cons,List.drop_succ_cons,List.cons_append,←ih]
theorem Udx:∀ (s:List UInt8),Lib.indexByte s 47=if idx s<s.length then (idx s:Int) else -1
 | []=>rfl
 | c::r=>by
  have ih:=Udx r
  simp only [Lib.indexByte,UaU,List.length_cons]
  by_cases hc:c=47
  · subst hc; simp
  · rw [if_neg (by simpa using hc),ih,if_neg hc]
    by_cases h:idx r<r.length
    · simp only [if_pos h]
      rw [if_neg (by simp),if_pos (by omega)]; omega
    · simp only [if_neg h]
      rw [if_pos (by decide),if_neg (by omega)]
theorem UxW (n:Nat) (s:List UInt8) (hs:s.length<2 ^ 40) (k0:ByteArray→ByteArray→Bool→Option R) :
 p96 n (bs s) k0=if idx s<s.length then k0 (bs (s.take (idx s))) (bs (s.drop (idx s + 1))) true else k0 (bs s) (bs []) false:=by
 unfold p96 ULu
 have e:((⟨#[47]⟩:ByteArray).data.toList.headD 0)=47:=rfl
 have hz:(⟨#[47]⟩:ByteArray).size=1:=rfl
 rw [Jg7,e,Udx]
 by_cases h:idx s<s.length
 · rw [if_pos h,if_pos h]
   have e1:(idx s:Int) + ((1:Nat):Int)=((idx s + 1:Nat):Int):=by omega
   have e2:List.drop (0:Int).toNat (List.take (idx s) s)=s.take (idx s):=rfl
   have e3:List.drop 0 (List.take (idx s) s)=s.take (idx s):=rfl
   have e4:List.drop (idx s + 1) (List.take s.length s)=s.drop (idx s + 1):=by rw [List.take_length]
   have hz2:(bs [47]).size=1:=rfl
   simp (disch:=(first | omega | (simp only [JlE]; omega))) only [↓JlH,JlF,hz,hz2,e1,Jji,e2,e3,e4,List.length_nil]
 · rw [if_neg h,if_neg h]
   simp (disch:=(first | omega | (simp only [JlE]; omega))) only [↓JlH,JlF]
theorem Uwd (a:Nat):∀ c∈dec a,c≠47:=by
 intro c hc h
 have:=UaK.1 (Uba a c hc)
 rw [h] at this
 exact absurd this.1 (by decide)
theorem Ukf (z:Int):∀ c∈Lib.itoa z,c≠47:=by
 have h:=Ud8 (Lib.itoa z)
 rw [UaE] at h
 rw [h]
 intro c hc
 rcases List.mem_append.1 hc with h1 | h1
 · split at h1
   · rw [List.mem_singleton.1 h1]; decide
   · cases h1
 · exact Uwd _ c h1
theorem Ufz {z:Int} (h:z.natAbs<10 ^ 400):(Lib.itoa z).length≤401:=by
 have h1:=Ud9 h
 have h2:=Ud8 (Lib.itoa z)
 rw [UaE] at h2
 rw [h2,List.length_append]
 split <;> simp <;> omega
theorem Ua5 {q:Rat} (h:fits q):(Uae q).length≤802:=by
 unfold Uae
 have h1:=Ufz h.1
 have h2:=Ud9 h.2
 rw [List.length_append]
 split <;> simp <;> omega
theorem UkV:dec 1=[49]:=Ubb (by omega)
theorem UcG (q:Rat):(Uae q).take (idx (Uae q))=Lib.itoa q.num∧(idx (Uae q)<(Uae q).length↔q.den≠1)∧(q.den≠1→(Uae q).drop (idx (Uae q) + 1)=dec q.den):=by
 unfold Uae
 by_cases h:q.den=1
 · rw [if_pos h,List.append_nil,Uoe (Ukf _),List.take_length]
   exact ⟨rfl,by simp [h],fun q=>absurd h q⟩
 · rw [if_neg h,Uyy _ (Ukf _),List.take_left]
   refine ⟨rfl,by simp [h],fun _=>?_⟩
   rw [List.drop_append,List.drop_of_length_le (by omega),show (Lib.itoa q.num).length + 1 - (Lib.itoa q.num).length=1 from by omega]
   rfl
theorem Uf4 {p q:Rat} (h:Uae p=Uae q):p=q:=by
 obtain ⟨a1,a2,a3⟩:=UcG p
 obtain ⟨b1,b2,b3⟩:=UcG q
 rw [h] at a1 a2 a3
 have hn:Lib.itoa p.num=Lib.itoa q.num:=a1.symm.trans b1
 have hc:=congrArg Uce hn
 rw [UaE,UaE] at hc
 have h1:=UcW (Prod.mk.inj hc).2
 have h2:(p.num<0)=(q.num<0):=by simpa using (Prod.mk.inj hc).1
 have hnum:p.num=q.num:=by
  have:p.num<0↔q.num<0:=by rw [h2]
  omega
 by_cases hd:q.den=1
 · have:p.den=1:=by
    apply Classical.byContradiction
    intro hp
    exact (b2.1 (a2.2 hp)) hd
   exact Rat.ext hnum (this.trans hd.symm)
 · have hp:p.den≠1:=a2.1 (b2.2 hd)
   exact Rat.ext hnum (UcW ((a3 hp).symm.trans (b3 hd)))
def isQ (s:List UInt8):Prop:=∃ q:Rat,fits q∧s=Uae q
theorem UtG (n:Nat) (z w:Nat) (hz:z<10 ^ 400) (hw:w<10 ^ 400) (hw0:w≠0) (hn:10 ^ 400≤n) (x1 x3:Bool) (x5:List PV) (k0:Bool→List PV→List PV→Bool→Option R) :
 Ui2 n x1 (bs (dec w)) x3 (NN z) x5 k0=k0 x3 (NN z) (NN w) (Nat.gcd w z == 1):=by
 have hN:=Nat.le_trans (by decide +kernel:2 ^ 20≤10 ^ 400) hn
 have m1:=UaD hz
 have m2:=UaD hw
 have lw:=Ud9 hw
 have q2:=fun k0=>Ujp (R:=R) n (dec w) (Uba _) (by omega) (by omega) k0
 rw [UcZ] at q2
 have hg:=fun k0=>Uyw (R:=R) n z w (by omega) (by omega) (by omega) (by omega) (by omega) k0
 obtain ⟨g,hge⟩:∃ g,Nat.gcd w z=g:=⟨_,rfl⟩
 have hg0:g≠0:=by rw [←hge]; intro e; exact hw0 (Nat.gcd_eq_zero_iff.1 e).1
 rw [hge] at hg ⊢
 have hgl:(toL 1000000000 g).length≤45:=Ub2 m2 (by rw [←hge]; exact Nat.le_of_dvd (by omega) (Nat.gcd_dvd_left _ _))
 unfold Ui2
 clear hz hw hn
 simp only [q2,hg,Upf]
 by_cases c:(toL 1000000000 g).length=1
 · have hg1:g<1000000000:=by
    have:=(Uao hB2 g 1).1 (by omega)
    rwa [Nat.pow_one] at this
   have hgi:∀ (K:Int→Option R),Jj .u32 ((NN g).getD (0:Int).toNat (PV.v (Value.bool false))) K=K (g:Int):=fun K=>by rw [UhR hg0 hg1]; rfl
   have e1:(((toL 1000000000 g).length:Int) == 1)=true:=by rw [c]; rfl
   have e2:((g:Int) == 1)=(g == 1):=JdC g 1
   simp (disch:=(first | omega | (simp only [JlE]; omega))) only [↓JlH,JlF,JlG,e1,hgi,e2]
 · have e1:(((toL 1000000000 g).length:Int) == 1)=false:=by
    simp only [beq_eq_false_iff_ne,ne_eq]; omega
   have e2:(g == 1)=false:=by
    simp only [beq_eq_false_iff_ne,ne_eq]
    intro e
    rw [e,Ufe hB2 (by omega) (by omega)] at c
    exact c rfl
   rw [e2]
   simp (disch:=(first | omega | (simp only [JlE]; omega))) only [↓JlH,JlF,JlG,e1]
theorem UkT (q:Rat):Nat.gcd q.den q.num.natAbs=1:=by rw [Nat.gcd_comm]; exact q.reduced
theorem UvY {s:List UInt8}:eqS (bs s) (⟨#[48]⟩:ByteArray)=(s == [48]):=rfl
theorem UBK {s:List UInt8}:eqS (bs s) (⟨#[49]⟩:ByteArray)=(s == [49]):=rfl
theorem UtJ (z:Int) (w:Nat) (hz:z.natAbs<10 ^ 400) (hw:w<10 ^ 400) (h0:w≠0) (hc:Nat.gcd w z.natAbs=1):∃ q:Rat,fits q∧q.num=z∧q.den=w :=
 ⟨⟨z,w,h0,by rw [Nat.gcd_comm] at hc; exact hc⟩,⟨hz,hw⟩,rfl,rfl⟩
theorem Uca (n:Nat) (hn:10 ^ 400≤n) (q:Rat) (hq:fits q) (k0:Bool→List PV→List PV→Bool→Option R) :
 p56 n (bs (Uae q)) k0=k0 (sg q.num) (NN q.num.natAbs) (NN q.den) true:=by
 have hN:=Nat.le_trans (by decide +kernel:2 ^ 20≤10 ^ 400) hn
 have hl:=Ua5 hq
 obtain ⟨a1,a2,a3⟩:=UcG q
 have c1:=fun k0=>UxW (R:=R) n (Uae q) (by omega) k0
 have li:=Ufz hq.1
 have i1:=fun k0=>Ue (R:=R) n (Lib.itoa q.num) (by omega) k0
 rw [UaE,Ugs hq.1] at i1
 have ln:=Ud9 hq.1
 have q1:=fun k0=>Ujp (R:=R) n (dec q.num.natAbs) (Uba _) (by omega) (by omega) k0
 rw [UcZ] at q1
 unfold p56
 by_cases hd:q.den=1
 · have e1:Uae q=Lib.itoa q.num:=by unfold Uae; rw [if_pos hd,List.append_nil]
   simp only [if_neg (fun h=>a2.1 h hd)] at c1
   rw [e1] at c1 ⊢
   simp only [c1,i1,q1,Bool.not_true,Bool.not_false,Uay,Uaf]
   rw [hd,UD3]
 · simp only [if_pos (a2.2 hd),a1,a3 hd] at c1
   have d1:=fun k0=>Ugl (R:=R) n (dec q.den) (by have:=Ud9 hq.2; omega) k0
   rw [Um2 hq.2] at d1
   have g1:=fun x1 x3 x5 k0=>UtG (R:=R) n q.num.natAbs q.den hq.1 hq.2 q.den_nz hn x1 x3 x5 k0
   rw [UkT] at g1
   have e48:(dec q.den == [48])=false:=by
    simp only [beq_eq_false_iff_ne,ne_eq]
    intro e; exact q.den_nz (UcW (e.trans Uav.symm))
   have e49:(dec q.den == [49])=false:=by
    simp only [beq_eq_false_iff_ne,ne_eq]
    intro e; exact hd (UcW (e.trans UkV.symm))
   simp only [c1,i1,q1,d1,UvY,UBK,e48,e49,g1,Bool.not_true,Bool.not_false,Uay,Uaf,show ((1:Nat) == 1)=true from rfl]
theorem UDt (n:Nat) (hn:10 ^ 400≤n) (s:List UInt8) (hs:s.length<2 ^ 20) :
 isQ s∨∃ a b c,∀ k0:Bool→List PV→List PV→Bool→Option R,p56 n (bs s) k0=k0 a b c false:=by
 have hN:=Nat.le_trans (by decide +kernel:2 ^ 20≤10 ^ 400) hn
 have c1:=fun k0=>UxW (R:=R) n s (by omega) k0
 by_cases hsl:idx s<s.length
 · simp only [if_pos hsl] at c1
   have hspl:=Uka hsl
   have lt:(s.take (idx s)).length<2 ^ 20:=by rw [List.length_take]; omega
   have lb:(s.drop (idx s + 1)).length<2 ^ 20:=by rw [List.length_drop]; omega
   generalize s.take (idx s)=t at *
   generalize s.drop (idx s + 1)=b at *
   have i1:=fun k0=>Ue (R:=R) n t (by omega) k0
   have d1:=fun k0=>Ugl (R:=R) n b (by omega) k0
   cases hI:UkH t with
   | false =>
    rw [hI] at i1
    exact Or.inr ⟨false,[],[],fun k0=>by unfold p56; simp only [c1,i1,Bool.not_false,Uay]⟩
   | true =>
    rw [hI] at i1
    obtain ⟨z,hz,rfl⟩:=Ufy hI
    rw [UaE] at i1
    have ln:=Ud9 hz
    have q1:=fun k0=>Ujp (R:=R) n (dec z.natAbs) (Uba _) (by omega) (by omega) k0
    rw [UcZ] at q1
    cases hD:UjW b with
    | false =>
     rw [hD] at d1
     exact Or.inr ⟨false,[],[],fun k0=>by unfold p56; simp only [c1,i1,q1,d1,Bool.not_true,Bool.not_false,Uay,Uaf]⟩
    | true =>
     rw [hD] at d1
     obtain ⟨hw,hb⟩:=Um3 hD
     by_cases h48:b=[48]
     · have e48:(b == [48])=true:=by simpa using h48
       exact Or.inr ⟨false,[],[],fun k0=>by unfold p56; simp only [c1,i1,q1,d1,UvY,e48,Bool.not_true,Bool.not_false,Uay,Uaf]⟩
     have e48:(b == [48])=false:=by simpa using h48
     by_cases h49:b=[49]
     · have e49:(b == [49])=true:=by simpa using h49
       exact Or.inr ⟨false,[],[],fun k0=>by unfold p56; simp only [c1,i1,q1,d1,UvY,UBK,e48,e49,Bool.not_true,Bool.not_false,Uay,Uaf]⟩
     have e49:(b == [49])=false:=by simpa using h49
     have hw0:ofD b≠0:=fun e=>h48 (by rw [hb,e,Uav])
     have hw1:ofD b≠1:=fun e=>h49 (by rw [hb,e,UkV])
     have g1:=fun x1 x3 x5 k0=>UtG (R:=R) n z.natAbs (ofD b) hz hw hw0 hn x1 x3 x5 k0
     rw [←hb] at g1
     by_cases hg:Nat.gcd (ofD b) z.natAbs=1
     · obtain ⟨q,f1,f2,f3⟩:=UtJ z (ofD b) hz hw hw0 hg
       refine Or.inl ⟨q,f1,?_⟩
       unfold Uae
       rw [f2,f3,if_neg hw1,←hb]
       exact hspl
     · rw [show (Nat.gcd (ofD b) z.natAbs == 1)=false from by simpa using hg] at g1
       exact Or.inr ⟨decide (z<0),NN z.natAbs,NN (ofD b),fun k0=>by unfold p56; simp only [c1,i1,q1,d1,UvY,UBK,e48,e49,g1,Bool.not_true,Bool.not_false,Uay,Uaf]⟩
 · simp only [if_neg hsl] at c1
   have i1:=fun k0=>Ue (R:=R) n s (by omega) k0
   cases hI:UkH s with
   | false =>
    rw [hI] at i1
    exact Or.inr ⟨false,[],[],fun k0=>by unfold p56; simp only [c1,i1,Bool.not_false,Uay]⟩
   | true =>
    obtain ⟨z,hz,rfl⟩:=Ufy hI
    obtain ⟨q,f1,f2,f3⟩:=UtJ z 1 hz (by decide +kernel) (by omega) (Nat.gcd_one_left _)
    refine Or.inl ⟨q,f1,?_⟩
    unfold Uae
    rw [f2,f3,if_pos rfl,List.append_nil]
theorem UwO (n:Nat) (hn:10 ^ 400≤n) (s:List UInt8) (hs:s.length<2 ^ 20) (h:¬ isQ s):∃ a b c,∀ k0:Bool→List PV→List PV→Bool→Option R,p56 n (bs s) k0=k0 a b c false :=
 (UDt n hn s hs).resolve_left h
theorem UaG (v:Int):Lib.itoa v=Uae (v:Rat):=by
 unfold Uae
 rw [Rat.num_intCast,Rat.den_intCast,if_pos rfl,List.append_nil]
theorem Uis {v:Int} (h:v.natAbs<10 ^ 400):fits (v:Rat):=by
 unfold fits
 rw [Rat.num_intCast,Rat.den_intCast]
 exact ⟨h,by decide +kernel⟩
theorem Upg (n:Nat) (hn:10 ^ 400≤n) (s:List UInt8) (hs:s.length<2 ^ 20) (k0:Bool→Option R) [Decidable (isQ s)]:p53 n (bs s) k0=k0 (decide (isQ s)):=by
 have hN:=Nat.le_trans (by decide +kernel:2 ^ 20≤10 ^ 400) hn
 unfold p53
 by_cases hv:∃ v:Int,v.natAbs<10 ^ 9∧s=Lib.itoa v
 · obtain ⟨v,h1,rfl⟩:=hv
   have hq:isQ (Lib.itoa v):=⟨(v:Rat),Uis (Nat.lt_trans h1 (by decide +kernel)),UaG v⟩
   rw [Uf2 n (by omega) v h1,decide_eq_true hq]; rfl
 · rw [Uko n (by omega) s (by omega) hv,Uaf]
   by_cases hq:isQ s
   · obtain ⟨q,h1,rfl⟩:=hq
     rw [Uca n hn q h1,decide_eq_true ⟨q,h1,rfl⟩]
   · obtain ⟨a,b,c,h⟩:=UwO (R:=R) n hn s hs hq
     rw [h,decide_eq_false hq]
theorem UyA:∀ {s:List UInt8} {i:Nat} (h:i<s.length),i<idx s→s[i]≠47
 | c::r,0,_,h=>by
  rw [UaU] at h
  intro e
  rw [if_pos (by simpa using e)] at h
  omega
 | c::r,i + 1,hl,h=>by
  rw [UaU] at h
  by_cases hc:c=47
  · rw [if_pos hc] at h; omega
  · rw [if_neg hc] at h
    rw [List.getElem_cons_succ]
    exact UyA (by simpa using hl) (by omega)
theorem Uyz:∀ {s:List UInt8} (h:idx s<s.length),s[idx s]=47
 | c::r,h=>by
  by_cases hc:c=47
  · simp [UaU,hc]
  · have e:idx (c::r)=idx r + 1:=by rw [UaU,if_neg hc]
    have h2:idx r<r.length:=by rw [e,List.length_cons] at h; omega
    simp only [e,List.getElem_cons_succ]
    exact Uyz h2
theorem Uhg (n:Nat) (s:List UInt8) (hs:s.length<2 ^ 40) (x2 x3:Bool) (k0:ByteArray→Bool→Bool→Int→Option R):∀ (d m i:Nat),d + i=s.length→d<m →
 Ucj n m (bs s) x2 x3 ((if idx s<i then idx s else s.length:Nat):Int) i k0=k0 (bs s) x2 x3 (idx s:Int)
 | 0,m + 1,i,hd,hm=>by
  have h1:=UtH s
  have e:(if idx s<i then idx s else s.length)=idx s:=by split <;> omega
  rw [e]
  simp only [Ucj,UfG]
  simp (disch:=(first | omega | (simp only [JlE]; omega))) only [↓JlH,JlF]
 | d + 1,m + 1,i,hd,hm=>by
  have hi:i<s.length:=by omega
  have ih:=Uhg n s hs x2 x3 k0 d m (i + 1) (by omega) (by omega)
  have e1:(i:Int) + 1=((i + 1:Nat):Int):=by omega
  have e2:Jc6 (bs s) (i:Int)=(s[i].toNat:Int):=JjZ hi
  have hb:=UAR s[i] 47
  rw [show ((47:UInt8).toNat:Int)=47 from rfl] at hb
  simp only [Ucj,UfG,Ugv]
  by_cases h1:idx s<i
  · rw [if_pos (by omega)] at ih
    rw [if_pos h1]
    have e3:((idx s:Int) == (s.length:Int))=false:=by rw [JdC]; simp only [beq_eq_false_iff_ne,ne_eq]; omega
    cases hc:(s[i] == 47)
    · rw [hc] at hb
      simp (disch:=(first | omega | (simp only [JlE]; omega))) only [↓JlH,JlF,e1,e2,hb,ih]
    · rw [hc] at hb
      simp (disch:=(first | omega | (simp only [JlE]; omega))) only [↓JlH,JlF,e1,e2,hb,e3,ih]
  · rw [if_neg h1]
    have e3:((s.length:Int) == (s.length:Int))=true:=by simp
    by_cases h2:idx s=i
    · subst h2
      have hc2:(s[idx s] == 47)=true:=by simpa using Uyz hi
      rw [hc2] at hb
      rw [if_pos (by omega)] at ih
      simp (disch:=(first | omega | (simp only [JlE]; omega))) only [↓JlH,JlF,e1,e2,hb,e3,ih]
    · have hc2:(s[i] == 47)=false:=by
       have:=UyA hi (by omega)
       simpa using this
      rw [hc2] at hb
      rw [if_neg (by omega)] at ih
      simp (disch:=(first | omega | (simp only [JlE]; omega))) only [↓JlH,JlF,e1,e2,hb,ih]
theorem UgG (n:Nat) (s:List UInt8) (hs:s.length<2 ^ 40) (hn:s.length<n) (k0:Bool→List PV→Bool→List PV→Bool→Option R) :
 Uvv n (bs s) k0=Ua2 n (bs s) false false (bs (s.take (idx s))) (bs (if idx s<s.length then s.drop (idx s + 1) else [49])) k0:=by
 have hl:=fun k0=>Uhg (R:=R) n s hs false false k0 s.length n 0 (by omega) hn
 simp only [Nat.not_lt_zero,if_false] at hl
 rw [show ((0:Nat):Int)=0 from rfl] at hl
 have h1:=UtH s
 have e2:List.drop (0:Int).toNat (List.take (idx s) s)=s.take (idx s):=rfl
 have e3:List.drop 0 (List.take (idx s) s)=s.take (idx s):=rfl
 have e4:List.drop (idx s + 1) (List.take s.length s)=s.drop (idx s + 1):=by rw [List.take_length]
 have e5:(idx s:Int) + 1=((idx s + 1:Nat):Int):=by omega
 unfold Uvv Ut4
 by_cases h:idx s<s.length
 · rw [if_pos h]
   simp (disch:=(first | omega | (simp only [JlE]; omega))) only [↓JlH,JlF,hl,Jji,e2,e3,e4,e5]
 · rw [if_neg h]
   simp (disch:=(first | omega | (simp only [JlE]; omega))) only [↓JlH,JlF,hl,Jji,e2,e3,e4,e5]
theorem Uhd (n:Nat) (hn:10 ^ 400≤n) (s:List UInt8) (z:Int) (w:Int) (hz:z.natAbs<10 ^ 400) (hw:w.natAbs<10 ^ 400) (hw0:w≠0) (x2 x3:Bool) (k0:Bool→List PV→Bool→List PV→Bool→Option R) :
 Ua2 n (bs s) x2 x3 (bs (Lib.itoa z)) (bs (Lib.itoa w)) k0=k0 (sg (Rat.divInt z w).num) (II (Rat.divInt z w).num.natAbs) false (II (Rat.divInt z w).den) (Uae (Rat.divInt z w) == s):=by
 have hN:=Ual hn
 have l1:=UyC hz
 have l2:=UyC hw
 have wn:w.natAbs<n:=Nat.lt_of_lt_of_le hw hn
 have li:=Ufz hz
 have lw:=Ufz hw
 have v1:=fun k=>Uf7 (R:=R) n (Lib.itoa z) (by omega) (by omega) k
 have v2:=fun k=>Uf7 (R:=R) n (Lib.itoa w) (by omega) (by omega) k
 rw [Ugs hz] at v1
 rw [Ugs hw] at v2
 have o1:=fun k=>Uwf (R:=R) n z (by omega) hN k
 have o2:=fun k=>Uwf (R:=R) n w (by omega) hN k
 have n1:=fun k=>Uol (R:=R) n z w hw0 (by omega) (by omega) hN wn k
 have t1:=fun k=>Ukp (R:=R) n (Rat.divInt z w) (Nat.le_trans (UaT (UtT z w hw0)) (by omega)) (Nat.le_trans (UaT (UqJ z w hw0)) (by omega)) hN k
 have e1:(((ll w.natAbs:Nat):Int) == 0)=false:=by
  rw [Jk0]; simp only [beq_eq_false_iff_ne,ne_eq,UcR]; omega
 simp only [Ua2,UfF,v1,v2,o1,o2,p77,UaC,e1,n1,t1,Ji7,Bool.not_true,Uaf]
theorem Ujs (n:Nat) (hn:10 ^ 400≤n) (q:Rat) (hq:fits q) (k0:Bool→List PV→Bool→List PV→Bool→Option R) :
 Uvv n (bs (Uae q)) k0=k0 (sg q.num) (II q.num.natAbs) false (II q.den) true:=by
 have hN:=Ual hn
 have hl:=Ua5 hq
 obtain ⟨a1,a2,a3⟩:=UcG q
 have e:(if idx (Uae q)<(Uae q).length then (Uae q).drop (idx (Uae q) + 1) else [49])=Lib.itoa (q.den:Int):=by
  rw [Ucf]
  by_cases hd:q.den=1
  · rw [if_neg (fun h=>a2.1 h hd),hd,UkV]
  · rw [if_pos (a2.2 hd),a3 hd]
 have hd:=q.den_nz
 rw [UgG n _ (by omega) (by omega),e,a1,Uhd n hn (Uae q) q.num q.den hq.1 (by rw [Int.natAbs_natCast]; exact hq.2) (by omega),Rat.num_divInt_den]
 rw [show (Uae q == Uae q)=true from by simp]
theorem UwS (n:Nat) (hn:10 ^ 400≤n) (s:List UInt8) (hs:s.length<2 ^ 17) :
 isQ s∨∃ a b c d,∀ k0:Bool→List PV→Bool→List PV→Bool→Option R,Uvv n (bs s) k0=k0 a b c d false:=by
 have hN:=Ual hn
 have sp:=fun k0=>UgG (R:=R) n s (by omega) (by omega) k0
 have lt:(s.take (idx s)).length<2 ^ 17:=by rw [List.length_take]; omega
 have lb:(if idx s<s.length then s.drop (idx s + 1) else [49]).length<2 ^ 17:=by
  split
  · rw [List.length_drop]; omega
  · simp
 have hspl:s.take (idx s)=s.take (idx s):=rfl
 generalize s.take (idx s)=t at *
 generalize (if idx s<s.length then s.drop (idx s + 1) else [49])=b at *
 have v1:=fun k=>Uf7 (R:=R) n t (by omega) (by omega) k
 have v2:=fun k=>Uf7 (R:=R) n b (by omega) (by omega) k
 cases hI:UkH t with
 | false =>
  rw [hI] at v1
  exact Or.inr ⟨false,[],false,[],fun k0=>by rw [sp]; simp only [Ua2,v1,Bool.not_false,Uay]⟩
 | true =>
  rw [hI] at v1
  cases hJ:UkH b with
  | false =>
   rw [hJ] at v2
   exact Or.inr ⟨false,[],false,[],fun k0=>by rw [sp]; simp only [Ua2,v1,v2,Bool.not_false,Bool.not_true,Uay,Uaf]⟩
  | true =>
   rw [hJ] at v2
   obtain ⟨z,hz,rfl⟩:=Ufy hI
   obtain ⟨w,hw,rfl⟩:=Ufy hJ
   by_cases hw0:w=0
   · subst hw0
     have o2:=fun k=>Uwf (R:=R) n 0 (by rw [show (0:Int).natAbs=0 from rfl,UbB]; omega) hN k
     have e1:(((ll (0:Int).natAbs:Nat):Int) == 0)=true:=by rw [show (0:Int).natAbs=0 from rfl,UbB]; rfl
     exact Or.inr ⟨false,[],false,[],fun k0=>by rw [sp]; simp only [Ua2,UfF,v1,v2,o2,p77,UaC,e1,Bool.not_false,Bool.not_true,Uay,Uaf]⟩
   · have hc:=fun k0=>Uhd (R:=R) n hn s z w hz hw hw0 false false k0
     by_cases he:Uae (Rat.divInt z w)=s
     · exact Or.inl ⟨Rat.divInt z w,⟨Nat.lt_of_le_of_lt (UtT z w hw0) hz,Nat.lt_of_le_of_lt (UqJ z w hw0) hw⟩,he.symm⟩
     · have e2:(Uae (Rat.divInt z w) == s)=false:=by simpa using he
       rw [e2] at hc
       exact Or.inr ⟨_,_,_,_,fun k0=>by rw [sp,hc]⟩
theorem UuU (n:Nat) (hn:10 ^ 400≤n) (s:List UInt8) (hs:s.length<2 ^ 17) (h:¬ isQ s):∃ a b c d,∀ k0:Bool→List PV→Bool→List PV→Bool→Option R,Uvv n (bs s) k0=k0 a b c d false :=
 (UwS n hn s hs).resolve_left h
end Go.Proofs.YtmgfmlhdnadglaaGreatDoor
set_option linter.unusedVariables false
set_option maxRecDepth 100000
namespace Go.Proofs.YtmgfmlhdnadglaaGreatDoor
open Go Th Go.Proofs
noncomputable section
variable {R:Type}
def Uh4:Ann:={ loops:=[(2,ids [5,6,7],ids [2])],cuts:=[],frz:=[],rm:=[.id] }
abbrev UBw (n:Nat):Env:=eC 53 (UB0 n) eN
theorem Ur1 (n:Nat):EnvOK Tryz.prog GI (UBw n):=.cons (.nil) (UDR n)
def Ui7 (n:Nat) (l0:LP→Int→Int→O R) (x1:LP) (x2 x3:Int) (k0:Bool→O R) (k1:O R):O R :=
 bif (decide (x3<x2)) then (bif (inR x3 ((x1).length)) then (Jj3 ((x1).getD ((x3:Int).toNat) (.v (.bool false))) fun e4=>p53 n e4 (fun y5=>bif (!y5) then (k0 false) else (l0 x1 x2 (IntKind.i64.wrap (x3 + 1))))) else none) else (k1)
def Uev (n:Nat):Nat→LP→Int→Int→(Bool→O R)→(O R)→O R
 | 0,_,_,_,_,_=>none
 | m + 1,x1,x2,x3,k0,k1=>Ui7 n (fun x1 x2 x3=>Uev n m x1 x2 x3 k0 k1) x1 x2 x3 k0 k1
def Uy5 (n:Nat) (x1:LP) (x2 x3:Int) (k0:Bool→O R) (k1:O R):O R:=Uev n n x1 x2 x3 k0 k1
def p66 (n:Nat) (x1:LP) (k0:Bool→O R):O R :=
 Uy5 n x1 ((x1).length:Int) 0 (fun y2=>k0 y2) (k0 true)
abbrev E66 (n:Nat):Code→Fr→Kc R→O R:=evC Tryz.prog (UBw n) Uh4 n (15,[])
noncomputable def Uxy:Code:=Jj4 (Jll Tryz.f66) [1,0,1,0,0]
abbrev UhC:Sl (List SV):=(cH (cI (cI .n)))
abbrev Utk (n m:Nat) (K:Kc R):UhC.T (O R):=fun x1 x2 x3=>Uev n m x1 x2 x3 (fun y1=>xL Uh4 2 K .ret [vB y1]) (xL Uh4 2 K (.exit 0) [dD])
abbrev UEs (n:Nat) (K:Kc R) (l0:UhC.T (O R)):UhC.T (O R):=fun x1 x2 x3=>Ui7 n l0 x1 x2 x3 (fun y1=>xL Uh4 2 K .ret [vB y1]) (xL Uh4 2 K (.exit 0) [dD])
abbrev UOF (n:Nat):Orc R:=oL Uh4 (E66 n) n 2 Uxy UhC (Utk n n) oN
abbrev UNq (n:Nat):Orc R:=oN
abbrev K66 (R:Type) (n:Nat):=JcH (R:=R) Tryz.prog (UBw n) Uh4 n (15,[]) (UOF n) (UNq n)
theorem UHS (n:Nat):K66 R n (false,2,Uxy):=JkF (lo:=UOF n) (cu:=UNq n) (pO pN (by kernel_rfl)) UhC (Utk n n) (JiE (F:=Utk n) UhC (UEs n) (fun K _ _ _=>rfl) (fun _ _=>rfl) (fun L K _ _ _=>by show _=_; kernel_rfl) n) fun _ _=>rfl
theorem USJ (n:Nat):Je6 (K66 R n) (JaJ Uh4 (Jll Tryz.f66)):=pO (pC (UHS n) pN) (by kernel_rfl)
abbrev t66:Sl (List SV):=(cH .n)
abbrev f66 (n:Nat) (K:List SV→O R):t66.T (O R):=fun x1=>p66 n x1 (fun y1=>K [vB y1])
abbrev UJ8 (n:Nat):FS:=fT [false] t66 (f66 n)
theorem UOZ (n:Nat):FSound Tryz.prog GI 66 (UJ8 n):=gd Uh4 n (Ur1 n) Tryz.func66 (.cons (Ur1 n) t66 (f66 n) (fun K _=>(Jkq (c:=Jll Tryz.f66) (by kernel_rfl) (USJ n) K).trans (by kernel_rfl)) .nil) (by kernel_rfl)
def Uz8:Ann:={ loops:=[],cuts:=[],frz:=[],rm:=[.id] }
abbrev UFC (n:Nat):Env:=eC 109 (Uv3 n) eN
theorem Usi (n:Nat):EnvOK Tryz.prog GI (UFC n):=.cons (.nil) (UCg n)
def p84 (n:Nat) (x1:ByteArray) (k0:Bool→O R):O R :=
 Uvv n x1 (fun y2 y3 y4 y5 y6=>k0 y6)
abbrev UQ4 (n:Nat):Orc R:=oN
abbrev UQi (n:Nat):Orc R:=oN
abbrev K84 (R:Type) (n:Nat):=JcH (R:=R) Tryz.prog (UFC n) Uz8 n (11,[]) (UQ4 n) (UQi n)
theorem US1 (n:Nat):Je6 (K84 R n) (JaJ Uz8 (Jll Tryz.f84)):=pO pN (by kernel_rfl)
abbrev t84:Sl (List SV):=(cS .n)
abbrev f84 (n:Nat) (K:List SV→O R):t84.T (O R):=fun x1=>p84 n x1 (fun y1=>K [vB y1])
abbrev UGu (n:Nat):FS:=fT [false] t84 (f84 n)
theorem UI7 (n:Nat):FSound Tryz.prog GI 84 (UGu n):=gd Uz8 n (Usi n) Tryz.func84 (.cons (Usi n) t84 (f84 n) (fun K _=>(Jkq (c:=Jll Tryz.f84) (by kernel_rfl) (US1 n) K).trans (by kernel_rfl)) .nil) (by kernel_rfl)
def Uh1:Ann:={ loops:=[(2,ids [0,3],ids [2])],cuts:=[],frz:=[],rm:=[.id] }
abbrev UBn (n:Nat):Env:=eC 84 (UGu n) eN
theorem UrF (n:Nat):EnvOK Tryz.prog GI (UBn n):=.cons (.nil) (UI7 n)
def UiX (n:Nat) (l0:LP→Int→O R) (x1:LP) (x2:Int) (k0:Bool→O R) (k1:O R):O R :=
 bif (decide (x2<((x1).length:Int))) then (bif (inR x2 ((x1).length)) then (Jj3 ((x1).getD ((x2:Int).toNat) (.v (.bool false))) fun e3=>p84 n e3 (fun y4=>bif (!y4) then (k0 false) else (l0 x1 (IntKind.i64.wrap (x2 + 1))))) else none) else (k1)
def Ueo (n:Nat):Nat→LP→Int→(Bool→O R)→(O R)→O R
 | 0,_,_,_,_=>none
 | m + 1,x1,x2,k0,k1=>UiX n (fun x1 x2=>Ueo n m x1 x2 k0 k1) x1 x2 k0 k1
def UyY (n:Nat) (x1:LP) (x2:Int) (k0:Bool→O R) (k1:O R):O R:=Ueo n n x1 x2 k0 k1
def p41 (n:Nat) (x1:LP) (k0:Bool→O R):O R :=
 UyY n x1 0 (fun y2=>k0 y2) (k0 true)
abbrev E41 (n:Nat):Code→Fr→Kc R→O R:=evC Tryz.prog (UBn n) Uh1 n (16,[])
noncomputable def Uxp:Code:=Jj4 (Jll Tryz.f41) [1,0,1,0,0]
abbrev Uht:Sl (List SV):=(cH (cI .n))
abbrev Us9 (n m:Nat) (K:Kc R):Uht.T (O R):=fun x1 x2=>Ueo n m x1 x2 (fun y1=>xL Uh1 2 K .ret [vB y1]) (xL Uh1 2 K (.exit 0) [dD])
abbrev UEj (n:Nat) (K:Kc R) (l0:Uht.T (O R)):Uht.T (O R):=fun x1 x2=>UiX n l0 x1 x2 (fun y1=>xL Uh1 2 K .ret [vB y1]) (xL Uh1 2 K (.exit 0) [dD])
abbrev UOB (n:Nat):Orc R:=oL Uh1 (E41 n) n 2 Uxp Uht (Us9 n n) oN
abbrev UNm (n:Nat):Orc R:=oN
abbrev K41 (R:Type) (n:Nat):=JcH (R:=R) Tryz.prog (UBn n) Uh1 n (16,[]) (UOB n) (UNm n)
theorem UHI (n:Nat):K41 R n (false,2,Uxp):=JkF (lo:=UOB n) (cu:=UNm n) (pO pN (by kernel_rfl)) Uht (Us9 n n) (JiE (F:=Us9 n) Uht (UEj n) (fun K _ _=>rfl) (fun _ _=>rfl) (fun L K _ _=>by show _=_; kernel_rfl) n) fun _ _=>rfl
theorem USn (n:Nat):Je6 (K41 R n) (JaJ Uh1 (Jll Tryz.f41)):=pO (pC (UHI n) pN) (by kernel_rfl)
abbrev t41:Sl (List SV):=(cH .n)
abbrev f41 (n:Nat) (K:List SV→O R):t41.T (O R):=fun x1=>p41 n x1 (fun y1=>K [vB y1])
abbrev UJ3 (n:Nat):FS:=fT [false] t41 (f41 n)
theorem UOU (n:Nat):FSound Tryz.prog GI 41 (UJ3 n):=gd Uh1 n (UrF n) Tryz.func41 (.cons (UrF n) t41 (f41 n) (fun K _=>(Jkq (c:=Jll Tryz.f41) (by kernel_rfl) (USn n) K).trans (by kernel_rfl)) .nil) (by kernel_rfl)
end
end Go.Proofs.YtmgfmlhdnadglaaGreatDoor
set_option linter.unusedVariables false
set_option linter.unusedSimpArgs false
namespace Go.Proofs.YtmgfmlhdnadglaaGreatDoor
open Go Th Go.Proofs
variable {R:Type}
theorem Udw {α β:Type} (f:α→β) {l:List α} {i:Nat} {d:β} (h:i<l.length):(l.map f).getD i d=f l[i]:=by
 rw [List.getD_eq_getElem?_getD,List.getElem?_map,List.getElem?_eq_getElem h]; rfl
abbrev TermT:=Int × List UInt8
def tPV (t:TermT):PV:=.agg [.v (.int .i64 t.1),.v (.string (bs t.2))]
def tms (l:List TermT):List PV:=l.map tPV
theorem Ua (l:List TermT):(tms l).length=l.length:=by unfold tms; rw [List.length_map]
theorem Uas {l:List TermT} {i:Nat} {d:PV} (h:i<l.length) (K:Int→ByteArray→Option R) :
 (Jh2 ((tms l).getD i d) fun a=>JdT a fun h1 t1=>Jj .i64 h1 fun e1=>JdT t1 fun h2 t2=>Jj3 h2 fun e2=>Ji2 t2 (K e1 e2))=K (l[i]).1 (bs (l[i]).2):=by
 unfold tms; rw [Udw tPV h]; rfl
structure RowT where
 tm:List TermT
 c:List UInt8
 eq:Bool
 mark:Int
def rPV (r:RowT):PV:=.agg [.sh (tms r.tm),.v (.string (bs r.c)),.v (.bool r.eq),.v (.int .i64 r.mark)]
def rws (l:List RowT):List PV:=l.map rPV
theorem Uab (l:List RowT):(rws l).length=l.length:=by unfold rws; rw [List.length_map]
theorem Uau {l:List RowT} {i:Nat} {d:PV} (h:i<l.length) (K:List PV→ByteArray→Bool→Int→Option R) :
 (Jh2 ((rws l).getD i d) fun a=>JdT a fun h1 t1=>Jkr h1 fun e1=>JdT t1 fun h2 t2=>Jj3 h2 fun e2=>JdT t2 fun h3 t3=>Jj2 h3 fun e3=>JdT t3 fun h4 t4=>Jj .i64 h4 fun e4=>Ji2 t4 (K e1 e2 e3 e4)) =
   K (tms (l[i]).tm) (bs (l[i]).c) (l[i]).eq (l[i]).mark:=by
 unfold rws; rw [Udw rPV h]; rfl
def qPV (q:Rat):PV:=.agg [.v (.bool (sg q.num)),.sh (II q.num.natAbs),.v (.bool false),.sh (II q.den)]
def qs (l:List Rat):List PV:=l.map qPV
theorem UaA (l:List Rat):(qs l).length=l.length:=by unfold qs; rw [List.length_map]
theorem UbW {l:List Rat} {i:Nat} {d:PV} (h:i<l.length) (K:Bool→List PV→Bool→List PV→Option R) :
 (Jh2 ((qs l).getD i d) fun a=>JdT a fun h1 t1=>Jj2 h1 fun e1=>JdT t1 fun h2 t2=>Jkr h2 fun e2=>JdT t2 fun h3 t3=>Jj2 h3 fun e3=>JdT t3 fun h4 t4=>Jkr h4 fun e4=>Ji2 t4 (K e1 e2 e3 e4)) =
   K (sg (l[i]).num) (II (l[i]).num.natAbs) false (II (l[i]).den):=by
 unfold qs; rw [Udw qPV h]; rfl
theorem UoB (l:List Rat) (i:Nat) (q:Rat):(qs l).set i (.agg [.v (.bool (sg q.num)),.sh (II q.num.natAbs),.v (.bool false),.sh (II q.den)])=qs (l.set i q):=by
 unfold qs; rw [List.map_set]; rfl
theorem UIg (l:List Rat) (q:Rat):qs l++[.agg [.v (.bool (sg q.num)),.sh (II q.num.natAbs),.v (.bool false),.sh (II q.den)]]=qs (l++[q]):=by
 unfold qs; rw [List.map_append]; rfl
theorem UaO {l:List (List UInt8)} {i:Nat} {d:PV} (h:i<l.length) (K:ByteArray→Option R):Jj3 ((sl l).getD i d) K=K (bs l[i]):=by
 unfold sl; rw [Udw _ h]; rfl
theorem Uaz {α:Type} {l:List α} {i:Nat} (h:i<l.length):l.drop i=l[i]::l.drop (i + 1):=List.drop_eq_getElem_cons h
theorem Uaj {α:Type} {l:List α} {ok:α→Bool} {kbad kend:Option R} (L:Nat→Nat→Option R) (hend:∀ m,L (m + 1) l.length=kend)
 (hstep:∀ m i (h:i<l.length),L (m + 1) i=if ok l[i] then L m (i + 1) else kbad):∀ (d m i:Nat),d + i=l.length→d<m→L m i=if (l.drop i).all ok then kend else kbad
 | 0,m + 1,i,hd,hm=>by
  have:i=l.length:=by omega
  subst this
  rw [hend,List.drop_length]; rfl
 | d + 1,m + 1,i,hd,hm=>by
  have hi:i<l.length:=by omega
  rw [hstep m i hi,Uaj L hend hstep d m (i + 1) (by omega) (by omega),Uaz hi,List.all_cons]
  cases ok l[i] <;> simp
def Uzk {α σ:Type} (step:σ→α→(σ→Option R)→Option R) (kend:σ→Option R):σ→List α→Option R
 | s,[]=>kend s
 | s,a::l=>step s a fun s'=>Uzk step kend s' l
theorem UgI {α σ:Type} {l:List α} {step:σ→α→(σ→Option R)→Option R} {kend:σ→Option R} (L:Nat→σ→Nat→Option R) (hend:∀ m s,L (m + 1) s l.length=kend s)
 (hstep:∀ m s i (h:i<l.length),L (m + 1) s i=step s l[i] fun s'=>L m s' (i + 1)):∀ (d m i:Nat) (s:σ),d + i=l.length→d<m→L m s i=Uzk step kend s (l.drop i)
 | 0,m + 1,i,s,hd,hm=>by
  have:i=l.length:=by omega
  subst this
  rw [hend,List.drop_length]; rfl
 | d + 1,m + 1,i,s,hd,hm=>by
  have hi:i<l.length:=by omega
  rw [hstep m s i hi,Uaz hi]
  show step s l[i] _=step s l[i] _
  congr 1
  funext s'
  exact UgI L hend hstep d m (i + 1) s' (by omega) (by omega)
theorem Uj1 {a b:List UInt8} (h:a=b):(a == b)=true:=by rw [h]; exact beq_self_eq_true b
theorem Ugi {a b:List UInt8} (h:¬ a=b):(a == b)=false:=by rw [Bool.eq_false_iff]; intro q; exact h (eq_of_beq q)
theorem i1 (i:Nat):(i:Int) + 1=((i + 1:Nat):Int):=by omega
noncomputable def qb (s:List UInt8):Bool:=@decide (isQ s) (Classical.propDecidable _)
theorem UIf {s:List UInt8}:qb s=true↔isQ s:=by unfold qb; exact @decide_eq_true_iff _ (Classical.propDecidable _)
theorem Ucc (n:Nat) (hn:10 ^ 400≤n) (s:List UInt8) (hs:s.length<2 ^ 17) (k0:Bool→Option R):p53 n (bs s) k0=k0 (qb s):=@Upg R n hn s (Nat.lt_trans hs (by decide)) k0 (Classical.propDecidable _)
theorem UcH (n:Nat) (hn:10 ^ 400≤n) (s:List UInt8) (hs:s.length<2 ^ 17) (k0:Bool→Option R):p84 n (bs s) k0=k0 (qb s):=by
 unfold p84
 cases h:qb s with
 | true =>
  obtain ⟨q,h1,rfl⟩:=UIf.1 h
  rw [Ujs n hn q h1]
 | false =>
  obtain ⟨a,b,c,d,h2⟩:=UuU (R:=R) n hn s hs (fun q=>by rw [UIf.2 q] at h; cases h)
  rw [h2]
noncomputable def Ude (l:List (List UInt8)):Bool:=l.all qb
def smS (l:List (List UInt8)):Prop:=l.length<2 ^ 17∧∀ s∈l,s.length<2 ^ 17
theorem Ug5 (n:Nat) (hn:10 ^ 400≤n) (l:List (List UInt8)) (hl:smS l) (k0:Bool→Option R):p66 n (sl l) k0=k0 (Ude l):=by
 have hN:=Ual hn
 have hL:=hl.1
 unfold p66 Uy5
 have h:=Uaj (R:=R) (l:=l) (ok:=qb) (kbad:=k0 false) (kend:=k0 true) (fun m i=>Uev n m (sl l) ((sl l).length:Int) (i:Int) k0 (k0 true))
  (fun m=>by simp only [Uev,Ui7]; simp (disch:=(first | omega | (simp only [JlE]; omega))) only [↓JlH,JlF,Uac])
  (fun m i hi=>by
    have hv:=fun k=>Ucc (R:=R) n hn l[i] (hl.2 _ (List.getElem_mem hi)) k
    simp only [Uev,Ui7]
    simp (disch:=(first | omega | (simp only [JlE]; omega))) only [↓JlH,JlF,Uac,Jji,UaO hi,hv,i1]
    cases qb l[i] <;> rfl) l.length n 0 (by omega) (by omega)
 rw [List.drop_zero] at h
 refine Eq.trans h ?_
 unfold Ude
 cases l.all qb <;> rfl
theorem Uc5 (n:Nat) (hn:10 ^ 400≤n) (l:List (List UInt8)) (hl:smS l) (k0:Bool→Option R):p41 n (sl l) k0=k0 (Ude l):=by
 have hN:=Ual hn
 have hL:=hl.1
 unfold p41 UyY
 have h:=Uaj (R:=R) (l:=l) (ok:=qb) (kbad:=k0 false) (kend:=k0 true) (fun m i=>Ueo n m (sl l) (i:Int) k0 (k0 true))
  (fun m=>by simp only [Ueo,UiX]; simp (disch:=(first | omega | (simp only [JlE]; omega))) only [↓JlH,JlF,Uac])
  (fun m i hi=>by
    have hv:=fun k=>UcH (R:=R) n hn l[i] (hl.2 _ (List.getElem_mem hi)) k
    simp only [Ueo,UiX]
    simp (disch:=(first | omega | (simp only [JlE]; omega))) only [↓JlH,JlF,Uac,Jji,UaO hi,hv,i1]
    cases qb l[i] <;> rfl) l.length n 0 (by omega) (by omega)
 rw [List.drop_zero] at h
 refine Eq.trans h ?_
 unfold Ude
 cases l.all qb <;> rfl
end Go.Proofs.YtmgfmlhdnadglaaGreatDoor
set_option linter.unusedVariables false
set_option maxRecDepth 100000
namespace Go.Proofs.YtmgfmlhdnadglaaGreatDoor
open Go Th Go.Proofs
noncomputable section
variable {R:Type}
def Udf:Ann:={ loops:=[(3,ids [1,2,5,9,10,11],ids [2,4])],cuts:=[],frz:=[],rm:=[.id] }
abbrev UqR (n:Nat):Env:=eC 53 (UB0 n) eN
theorem Unc (n:Nat):EnvOK Tryz.prog GI (UqR n):=.cons (.nil) (UDR n)
def UfE (n:Nat) (l0:Int→LP→ByteArray→Bool→Int→Int→LP→Int→Int→O R) (x1:Int) (x2:LP) (x3:ByteArray) (x4:Bool) (x5 x6:Int) (x7:LP) (x8 x9:Int) (k0:LP→ByteArray→Bool→Int→Bool→O R) (k1:LP→ByteArray→Bool→Int→O R):O R :=
 bif (decide (x9<x8)) then (bif (inR x9 ((x7).length)) then (Jh2 ((x7).getD ((x9:Int).toNat) (.v (.bool false))) fun a10=>JdT a10 fun h11 t12=>Jj .i64 h11 fun e13=>JdT t12 fun h14 t15=>Jj3 h14 fun e16=>Ji2 t15 (bif (decide (e13≤x6)) then (k0 x2 x3 x4 x5 false) else (bif (bif false then true else (decide (e13≥x1))) then (k0 x2 x3 x4 x5 false) else (bif (bif false then true else eqS e16 (⟨#[48]⟩:ByteArray)) then (k0 x2 x3 x4 x5 false) else (p53 n e16 (fun y17=>bif (bif false then true else (!y17)) then (k0 x2 x3 x4 x5 false) else (l0 x1 x2 x3 x4 x5 e13 x7 x8 (IntKind.i64.wrap (x9 + 1))))))))) else none) else (k1 x2 x3 x4 x5)
def Uci (n:Nat):Nat→Int→LP→ByteArray→Bool→Int→Int→LP→Int→Int→(LP→ByteArray→Bool→Int→Bool→O R)→(LP→ByteArray→Bool→Int→O R)→O R
 | 0,_,_,_,_,_,_,_,_,_,_,_=>none
 | m + 1,x1,x2,x3,x4,x5,x6,x7,x8,x9,k0,k1=>UfE n (fun x1 x2 x3 x4 x5 x6 x7 x8 x9=>Uci n m x1 x2 x3 x4 x5 x6 x7 x8 x9 k0 k1) x1 x2 x3 x4 x5 x6 x7 x8 x9 k0 k1
def Ut3 (n:Nat) (x1:Int) (x2:LP) (x3:ByteArray) (x4:Bool) (x5 x6:Int) (x7:LP) (x8 x9:Int) (k0:LP→ByteArray→Bool→Int→Bool→O R) (k1:LP→ByteArray→Bool→Int→O R):O R:=Uci n n x1 x2 x3 x4 x5 x6 x7 x8 x9 k0 k1
def UJa (n:Nat) (x1:LP) (x2:ByteArray) (x3:Bool) (x4 x5:Int) (k0:Bool→O R):O R :=
 Ut3 n x5 x1 x2 x3 x4 (-1) x1 ((x1).length:Int) 0 (fun y6 y7 y8 y9 y10=>k0 y10) (fun y11 y12 y13 y14=>p53 n y12 (fun y15=>k0 y15))
abbrev UPg (n:Nat):Code→Fr→Kc R→O R:=evC Tryz.prog (UqR n) Udf n (42,[])
noncomputable def UpL:Code:=Jj4 (Jll Tryz.f107) [1,1,0,1,0,0]
abbrev UeO:Sl (List SV):=(cI (.c (sBx 70 (cH (cS (cB (cI .n))))) (cI (cH (cI (cI .n))))))
abbrev Uk4 (n m:Nat) (K:Kc R):UeO.T (O R):=fun x1 x2 x3 x4 x5 x6 x7 x8 x9=>Uci n m x1 x2 x3 x4 x5 x6 x7 x8 x9 (fun y1 y2 y3 y4 y5=>xL Udf 3 K .ret [.bx 70 [vH y1,vS y2,vB y3,vI y4],vB y5]) (fun y1 y2 y3 y4=>xL Udf 3 K (.exit 0) [.bx 70 [vH y1,vS y2,vB y3,vI y4],dD])
abbrev UAk (n:Nat) (K:Kc R) (l0:UeO.T (O R)):UeO.T (O R):=fun x1 x2 x3 x4 x5 x6 x7 x8 x9=>UfE n l0 x1 x2 x3 x4 x5 x6 x7 x8 x9 (fun y1 y2 y3 y4 y5=>xL Udf 3 K .ret [.bx 70 [vH y1,vS y2,vB y3,vI y4],vB y5]) (fun y1 y2 y3 y4=>xL Udf 3 K (.exit 0) [.bx 70 [vH y1,vS y2,vB y3,vI y4],dD])
abbrev UGA (n:Nat):Orc R:=oL Udf (UPg n) n 3 UpL UeO (Uk4 n n) oN
abbrev UEN (n:Nat):Orc R:=oN
abbrev UM4 (R:Type) (n:Nat):=JcH (R:=R) Tryz.prog (UqR n) Udf n (42,[]) (UGA n) (UEN n)
theorem UCx (n:Nat):UM4 R n (false,3,UpL):=JkF (lo:=UGA n) (cu:=UEN n) (pO pN (by kernel_rfl)) UeO (Uk4 n n) (JiE (F:=Uk4 n) UeO (UAk n) (fun K _ _ _ _ _ _ _ _ _=>rfl) (fun _ _=>rfl) (fun L K _ _ _ _ _ _ _ _ _=>by show _=_; kernel_rfl) n) fun _ _=>rfl
theorem ULF (n:Nat):Je6 (UM4 R n) (JaJ Udf (Jll Tryz.f107)):=pO (pC (UCx n) pN) (by kernel_rfl)
abbrev UMn:Sl (List SV):=(.c (sP (JlI (.c sSh (.c Jly (.c Jlf (.c (Jlv .i64) .n)))))) (cI .n))
abbrev f107 (n:Nat) (K:List SV→O R):UMn.T (O R):=fun x1 x2 x3 x4 x5=>UJa n x1 x2 x3 x4 x5 (fun y1=>K [vB y1])
abbrev UFX (n:Nat):FS:=fT [false,false] UMn (f107 n)
theorem UKO (n:Nat):FSound Tryz.prog GI 107 (UFX n):=gd Udf n (Unc n) Tryz.func107 (.cons (Unc n) UMn (f107 n) (fun K _ _ _ _ _=>(Jkq (c:=Jll Tryz.f107) (by kernel_rfl) (ULF n) K).trans (by kernel_rfl)) .nil) (by kernel_rfl)
def Upk:Ann:={ loops:=[],cuts:=[],frz:=[],rm:=[.id] }
abbrev UxY (n:Nat):Env:=eC 107 (UFX n) eN
theorem Unb (n:Nat):EnvOK Tryz.prog GI (UxY n):=.cons (.nil) (UKO n)
def ULr (n:Nat) (x1:LP) (x2:ByteArray) (x3:Bool) (x4 x5:Int) (x6:LP) (k0:Bool→O R):O R :=
 UJa n x1 x2 x3 x4 x5 (fun y7=>k0 (!y7))
abbrev UKl (n:Nat):Orc R:=oN
abbrev UJy (n:Nat):Orc R:=oN
abbrev UPs (R:Type) (n:Nat):=JcH (R:=R) Tryz.prog (UxY n) Upk n (9,[]) (UKl n) (UJy n)
theorem ULE (n:Nat):Je6 (UPs R n) (JaJ Upk (Jll Tryz.f106)):=pO pN (by kernel_rfl)
abbrev UMm:Sl (List SV):=(.c (sP (JlI (.c sSh (.c Jly (.c Jlf (.c (Jlv .i64) .n)))))) (.c (sP (sFb (.c (Jlv .i64) (.c sSh .n)))) .n))
abbrev f106 (n:Nat) (K:List SV→O R):UMm.T (O R):=fun x1 x2 x3 x4 x5 x6=>ULr n x1 x2 x3 x4 x5 x6 (fun y1=>K [vB y1])
abbrev UFW (n:Nat):FS:=fT [false,false] UMm (f106 n)
theorem UKN (n:Nat):FSound Tryz.prog GI 106 (UFW n):=gd Upk n (Unb n) Tryz.func106 (.cons (Unb n) UMm (f106 n) (fun K _ _ _ _ _ _=>(Jkq (c:=Jll Tryz.f106) (by kernel_rfl) (ULE n) K).trans (by kernel_rfl)) .nil) (by kernel_rfl)
def Udl:Ann:={ loops:=[(2,ids [0,1,7,8],ids [4])],cuts:=[],frz:=[],rm:=[.id] }
abbrev Uq3 (n:Nat):Env:=eC 106 (UFW n) eN
theorem Uny (n:Nat):EnvOK Tryz.prog GI (Uq3 n):=.cons (.nil) (UKN n)
def UfP (n:Nat) (l0:LP→Int→LP→Int→Int→O R) (x1:LP) (x2:Int) (x3:LP) (x4 x5:Int) (k0:Int→O R) (k1:O R):O R :=
 bif (decide (x5<x4)) then (bif (inR x5 ((x1).length)) then (Jh2 ((x1).getD ((x5:Int).toNat) (.v (.bool false))) fun a6=>JdT a6 fun h7 t8=>Jkr h7 fun e9=>JdT t8 fun h10 t11=>Jj3 h10 fun e12=>JdT t11 fun h13 t14=>Jj2 h13 fun e15=>JdT t14 fun h16 t17=>Jj .i64 h16 fun e18=>Ji2 t17 (ULr n e9 e12 e15 e18 x2 x3 (fun y19=>bif y19 then (k0 x5) else (l0 x1 x2 x3 x4 (IntKind.i64.wrap (x5 + 1)))))) else none) else (k1)
def UbG (n:Nat):Nat→LP→Int→LP→Int→Int→(Int→O R)→(O R)→O R
 | 0,_,_,_,_,_,_,_=>none
 | m + 1,x1,x2,x3,x4,x5,k0,k1=>UfP n (fun x1 x2 x3 x4 x5=>UbG n m x1 x2 x3 x4 x5 k0 k1) x1 x2 x3 x4 x5 k0 k1
def Uud (n:Nat) (x1:LP) (x2:Int) (x3:LP) (x4 x5:Int) (k0:Int→O R) (k1:O R):O R:=UbG n n x1 x2 x3 x4 x5 k0 k1
def ULv (n:Nat) (x1:LP) (x2:Int) (x3:LP) (k0:Int→O R):O R :=
 Uud n x1 x2 x3 ((x1).length:Int) 0 (fun y4=>k0 y4) (k0 (-1))
abbrev UPm (n:Nat):Code→Fr→Kc R→O R:=evC Tryz.prog (Uq3 n) Udl n (19,[])
noncomputable def Up5:Code:=Jj4 (Jll Tryz.f135) [1,0,1,0,0]
abbrev UeY:Sl (List SV):=(cH (.c (sP (JlJ 106 (.c (sFb (.c (Jlv .i64) (.c sSh .n))) .n))) (cI (cI .n))))
abbrev Uld (n m:Nat) (K:Kc R):UeY.T (O R):=fun x1 x2 x3 x4 x5=>UbG n m x1 x2 x3 x4 x5 (fun y1=>xL Udl 2 K .ret [vI y1]) (xL Udl 2 K (.exit 0) [dD])
abbrev UAu (n:Nat) (K:Kc R) (l0:UeY.T (O R)):UeY.T (O R):=fun x1 x2 x3 x4 x5=>UfP n l0 x1 x2 x3 x4 x5 (fun y1=>xL Udl 2 K .ret [vI y1]) (xL Udl 2 K (.exit 0) [dD])
abbrev UGG (n:Nat):Orc R:=oL Udl (UPm n) n 2 Up5 UeY (Uld n n) oN
abbrev UET (n:Nat):Orc R:=oN
abbrev UN (R:Type) (n:Nat):=JcH (R:=R) Tryz.prog (Uq3 n) Udl n (19,[]) (UGG n) (UET n)
theorem UCS (n:Nat):UN R n (false,2,Up5):=JkF (lo:=UGG n) (cu:=UET n) (pO pN (by kernel_rfl)) UeY (Uld n n) (JiE (F:=Uld n) UeY (UAu n) (fun K _ _ _ _ _=>rfl) (fun _ _=>rfl) (fun L K _ _ _ _ _=>by show _=_; kernel_rfl) n) fun _ _=>rfl
theorem UL1 (n:Nat):Je6 (UN R n) (JaJ Udl (Jll Tryz.f135)):=pO (pC (UCS n) pN) (by kernel_rfl)
abbrev UMD:Sl (List SV):=(cH (.c (sP (JlJ 106 (.c (sFb (.c (Jlv .i64) (.c sSh .n))) .n))) .n))
abbrev f135 (n:Nat) (K:List SV→O R):UMD.T (O R):=fun x1 x2 x3=>ULv n x1 x2 x3 (fun y1=>K [vI y1])
abbrev UGa (n:Nat):FS:=fT [false,false] UMD (f135 n)
theorem UK2 (n:Nat):FSound Tryz.prog GI 135 (UGa n):=gd Udl n (Uny n) Tryz.func135 (.cons (Uny n) UMD (f135 n) (fun K _ _ _=>(Jkq (c:=Jll Tryz.f135) (by kernel_rfl) (UL1 n) K).trans (by kernel_rfl)) .nil) (by kernel_rfl)
def Upj:Ann:={ loops:=[],cuts:=[],frz:=[],rm:=[.id] }
abbrev UxX (n:Nat):Env:=eC 135 (UGa n) eN
theorem Una (n:Nat):EnvOK Tryz.prog GI (UxX n):=.cons (.nil) (UK2 n)
def ULq (n:Nat) (x1:LP) (x2:Int) (x3:LP) (k0:Bool→O R):O R :=
 ULv n x1 x2 x3 (fun y4=>k0 (decide (y4≥0)))
abbrev UKk (n:Nat):Orc R:=oN
abbrev UJx (n:Nat):Orc R:=oN
abbrev UPr (R:Type) (n:Nat):=JcH (R:=R) Tryz.prog (UxX n) Upj n (9,[]) (UKk n) (UJx n)
theorem ULD (n:Nat):Je6 (UPr R n) (JaJ Upj (Jll Tryz.f105)):=pO pN (by kernel_rfl)
abbrev t105:Sl (List SV):=(cH (.c (sP (JlJ 106 (.c (sFb (.c (Jlv .i64) (.c sSh .n))) .n))) .n))
abbrev f105 (n:Nat) (K:List SV→O R):t105.T (O R):=fun x1 x2 x3=>ULq n x1 x2 x3 (fun y1=>K [vB y1])
abbrev UFV (n:Nat):FS:=fT [false,false] t105 (f105 n)
theorem UKM (n:Nat):FSound Tryz.prog GI 105 (UFV n):=gd Upj n (Una n) Tryz.func105 (.cons (Una n) t105 (f105 n) (fun K _ _ _=>(Jkq (c:=Jll Tryz.f105) (by kernel_rfl) (ULD n) K).trans (by kernel_rfl)) .nil) (by kernel_rfl)
def UzX:Ann:={ loops:=[],cuts:=[],frz:=[],rm:=[.id] }
abbrev UFr (n:Nat):Env:=eC 105 (UFV n) eN
theorem Ur0 (n:Nat):EnvOK Tryz.prog GI (UFr n):=.cons (.nil) (UKM n)
def p65 (n:Nat) (x1:Int) (x2:LP) (k0:Int→O R):O R :=
 bif (decide (x1<0)) then (k0 2) else (bif (bif false then true else (decide (x1>2048))) then (k0 2) else (bif (decide (((x2).length:Int)>2048)) then (k0 6) else (ULq n x2 x1 x2 (fun y3=>bif y3 then (k0 3) else (k0 0)))))
abbrev UQT (n:Nat):Orc R:=oN
abbrev UP8 (n:Nat):Orc R:=oN
abbrev K65 (R:Type) (n:Nat):=JcH (R:=R) Tryz.prog (UFr n) UzX n (19,[]) (UQT n) (UP8 n)
theorem USI (n:Nat):Je6 (K65 R n) (JaJ UzX (Jll Tryz.f65)):=pO pN (by kernel_rfl)
abbrev t65:Sl (List SV):=(.c (sP (JlI (.c (Jlv .i64) (.c sSh .n)))) .n)
abbrev f65 (n:Nat) (K:List SV→O R):t65.T (O R):=fun x1 x2=>p65 n x1 x2 (fun y1=>K [vI y1])
abbrev UIS (n:Nat):FS:=fT [false] t65 (f65 n)
theorem ULn (n:Nat):FSound Tryz.prog GI 65 (UIS n):=gd UzX n (Ur0 n) Tryz.func65 (.cons (Ur0 n) t65 (f65 n) (fun K _ _=>(Jkq (c:=Jll Tryz.f65) (by kernel_rfl) (USI n) K).trans (by kernel_rfl)) .nil) (by kernel_rfl)
def Uh6:Ann:={ loops:=[(3,ids [1,2,5,6],ids [2,4])],cuts:=[],frz:=[],rm:=[.id] }
abbrev UBC (n:Nat):Env:=eC 84 (UGu n) eN
theorem Usg (n:Nat):EnvOK Tryz.prog GI (UBC n):=.cons (.nil) (UI7 n)
def Ujd (n:Nat) (l0:Int→LP→ByteArray→Bool→Int→Int→Int→O R) (x1:Int) (x2:LP) (x3:ByteArray) (x4:Bool) (x5 x6 x7:Int) (k0:LP→ByteArray→Bool→Int→Bool→O R) (k1:LP→ByteArray→Bool→Int→O R):O R :=
 bif (decide (x7<((x2).length:Int))) then (bif (inR x7 ((x2).length)) then (Jh2 ((x2).getD ((x7:Int).toNat) (.v (.bool false))) fun a8=>JdT a8 fun h9 t10=>Jj .i64 h9 fun e11=>JdT t10 fun h12 t13=>Jj3 h12 fun e14=>Ji2 t13 (bif (decide (e11≤x6)) then (k0 x2 x3 x4 x5 false) else (bif (bif false then true else (decide (e11≥x1))) then (k0 x2 x3 x4 x5 false) else (bif (bif false then true else eqS e14 (⟨#[48]⟩:ByteArray)) then (k0 x2 x3 x4 x5 false) else (p84 n e14 (fun y15=>bif (bif false then true else (!y15)) then (k0 x2 x3 x4 x5 false) else (l0 x1 x2 x3 x4 x5 e11 (IntKind.i64.wrap (x7 + 1))))))))) else none) else (k1 x2 x3 x4 x5)
def UeA (n:Nat):Nat→Int→LP→ByteArray→Bool→Int→Int→Int→(LP→ByteArray→Bool→Int→Bool→O R)→(LP→ByteArray→Bool→Int→O R)→O R
 | 0,_,_,_,_,_,_,_,_,_=>none
 | m + 1,x1,x2,x3,x4,x5,x6,x7,k0,k1=>Ujd n (fun x1 x2 x3 x4 x5 x6 x7=>UeA n m x1 x2 x3 x4 x5 x6 x7 k0 k1) x1 x2 x3 x4 x5 x6 x7 k0 k1
def Uza (n:Nat) (x1:Int) (x2:LP) (x3:ByteArray) (x4:Bool) (x5 x6 x7:Int) (k0:LP→ByteArray→Bool→Int→Bool→O R) (k1:LP→ByteArray→Bool→Int→O R):O R:=UeA n n x1 x2 x3 x4 x5 x6 x7 k0 k1
def p82 (n:Nat) (x1:LP) (x2:ByteArray) (x3:Bool) (x4 x5:Int) (k0:Bool→O R):O R :=
 Uza n x5 x1 x2 x3 x4 (-1) 0 (fun y6 y7 y8 y9 y10=>k0 y10) (fun y11 y12 y13 y14=>p84 n y12 (fun y15=>k0 y15))
abbrev E82 (n:Nat):Code→Fr→Kc R→O R:=evC Tryz.prog (UBC n) Uh6 n (46,[])
noncomputable def UxF:Code:=Jj4 (Jll Tryz.f82) [1,1,0,1,0,0]
abbrev UhH:Sl (List SV):=(cI (.c (sBx 70 (cH (cS (cB (cI .n))))) (cI (cI .n))))
abbrev Uts (n m:Nat) (K:Kc R):UhH.T (O R):=fun x1 x2 x3 x4 x5 x6 x7=>UeA n m x1 x2 x3 x4 x5 x6 x7 (fun y1 y2 y3 y4 y5=>xL Uh6 3 K .ret [.bx 70 [vH y1,vS y2,vB y3,vI y4],vB y5]) (fun y1 y2 y3 y4=>xL Uh6 3 K (.exit 0) [.bx 70 [vH y1,vS y2,vB y3,vI y4],dD])
abbrev UEx (n:Nat) (K:Kc R) (l0:UhH.T (O R)):UhH.T (O R):=fun x1 x2 x3 x4 x5 x6 x7=>Ujd n l0 x1 x2 x3 x4 x5 x6 x7 (fun y1 y2 y3 y4 y5=>xL Uh6 3 K .ret [.bx 70 [vH y1,vS y2,vB y3,vI y4],vB y5]) (fun y1 y2 y3 y4=>xL Uh6 3 K (.exit 0) [.bx 70 [vH y1,vS y2,vB y3,vI y4],dD])
abbrev UOK (n:Nat):Orc R:=oL Uh6 (E82 n) n 3 UxF UhH (Uts n n) oN
abbrev UNv (n:Nat):Orc R:=oN
abbrev K82 (R:Type) (n:Nat):=JcH (R:=R) Tryz.prog (UBC n) Uh6 n (46,[]) (UOK n) (UNv n)
theorem UHZ (n:Nat):K82 R n (false,3,UxF):=JkF (lo:=UOK n) (cu:=UNv n) (pO pN (by kernel_rfl)) UhH (Uts n n) (JiE (F:=Uts n) UhH (UEx n) (fun K _ _ _ _ _ _ _=>rfl) (fun _ _=>rfl) (fun L K _ _ _ _ _ _ _=>by show _=_; kernel_rfl) n) fun _ _=>rfl
theorem USZ (n:Nat):Je6 (K82 R n) (JaJ Uh6 (Jll Tryz.f82)):=pO (pC (UHZ n) pN) (by kernel_rfl)
abbrev t82:Sl (List SV):=(.c (sP (JlI (.c sSh (.c Jly (.c Jlf (.c (Jlv .i64) .n)))))) (cI .n))
abbrev f82 (n:Nat) (K:List SV→O R):t82.T (O R):=fun x1 x2 x3 x4 x5=>p82 n x1 x2 x3 x4 x5 (fun y1=>K [vB y1])
abbrev UOl (n:Nat):FS:=fT [false,false] t82 (f82 n)
theorem URO (n:Nat):FSound Tryz.prog GI 82 (UOl n):=gd Uh6 n (Usg n) Tryz.func82 (.cons (Usg n) t82 (f82 n) (fun K _ _ _ _ _=>(Jkq (c:=Jll Tryz.f82) (by kernel_rfl) (USZ n) K).trans (by kernel_rfl)) .nil) (by kernel_rfl)
def Ugf:Ann:={ loops:=[(6,ids [1,3],ids [2])],cuts:=[(3,ids [1],ids [2])],frz:=[],rm:=[.id] }
abbrev UBm (n:Nat):Env:=eC 82 (UOl n) eN
theorem UrD (n:Nat):EnvOK Tryz.prog GI (UBm n):=.cons (.nil) (URO n)
def UiW (n:Nat) (l0:Int→LP→Int→O R) (x1:Int) (x2:LP) (x3:Int) (k0:Int→O R) (k1:O R):O R :=
 bif (decide (x3<((x2).length:Int))) then (bif (inR x3 ((x2).length)) then (Jh2 ((x2).getD ((x3:Int).toNat) (.v (.bool false))) fun a4=>JdT a4 fun h5 t6=>Jkr h5 fun e7=>JdT t6 fun h8 t9=>Jj3 h8 fun e10=>JdT t9 fun h11 t12=>Jj2 h11 fun e13=>JdT t12 fun h14 t15=>Jj .i64 h14 fun e16=>Ji2 t15 (p82 n e7 e10 e13 e16 x1 (fun y17=>bif (!y17) then (k0 3) else (l0 x1 x2 (IntKind.i64.wrap (x3 + 1)))))) else none) else (k1)
def Uc2 (n:Nat):Nat→Int→LP→Int→(Int→O R)→(O R)→O R
 | 0,_,_,_,_,_=>none
 | m + 1,x1,x2,x3,k0,k1=>UiW n (fun x1 x2 x3=>Uc2 n m x1 x2 x3 k0 k1) x1 x2 x3 k0 k1
def UyX (n:Nat) (x1:Int) (x2:LP) (x3:Int) (k0:Int→O R) (k1:O R):O R:=Uc2 n n x1 x2 x3 k0 k1
def Uuv (n:Nat) (x1:Int) (x2:LP) (k0:Int→O R):O R :=
 bif (decide (((x2).length:Int)>2048)) then (k0 6) else (UyX n x1 x2 0 (fun y3=>k0 y3) (k0 0))
def p39 (n:Nat) (x1:Int) (x2:LP) (k0:Int→O R):O R :=
 bif (decide (x1<0)) then (k0 2) else (bif (bif false then true else (decide (x1>2048))) then (k0 2) else (Uuv n x1 x2 (fun y3=>k0 y3)))
abbrev E39 (n:Nat):Code→Fr→Kc R→O R:=evC Tryz.prog (UBm n) Ugf n (32,[])
noncomputable def Uxn:Code:=Jj4 (Jll Tryz.f39) [1,1]
abbrev Uu9:Sl (List SV):=(.c (sBx 24 (cI (cH .n))) .n)
abbrev Uyn (n:Nat) (K:Kc R):Uu9.T (O R):=fun x1 x2=>Uuv n x1 x2 (fun y1=>xC Ugf 3 K .ret [vI y1])
noncomputable def Uxo:Code:=Jj4 (Jll Tryz.f39) [1,1,1,0,1,0,0]
abbrev Uhs:Sl (List SV):=(.c (sBx 24 (cI (cH .n))) (cI .n))
abbrev Us8 (n m:Nat) (K:Kc R):Uhs.T (O R):=fun x1 x2 x3=>Uc2 n m x1 x2 x3 (fun y1=>xL Ugf 6 K .ret [vI y1]) (xL Ugf 6 K (.exit 0) [dD])
abbrev UEi (n:Nat) (K:Kc R) (l0:Uhs.T (O R)):Uhs.T (O R):=fun x1 x2 x3=>UiW n l0 x1 x2 x3 (fun y1=>xL Ugf 6 K .ret [vI y1]) (xL Ugf 6 K (.exit 0) [dD])
abbrev UKD (n:Nat):Orc R:=oL Ugf (E39 n) n 6 Uxo Uhs (Us8 n n) oN
abbrev UJQ (n:Nat):Orc R:=oC Ugf (E39 n) 3 Uxn Uu9 (Uyn n) oN
abbrev K39 (R:Type) (n:Nat):=JcH (R:=R) Tryz.prog (UBm n) Ugf n (32,[]) (UKD n) (UJQ n)
theorem UHH (n:Nat):K39 R n (false,6,Uxo):=JkF (lo:=UKD n) (cu:=UJQ n) (pO pN (by kernel_rfl)) Uhs (Us8 n n) (JiE (F:=Us8 n) Uhs (UEi n) (fun K _ _ _=>rfl) (fun _ _=>rfl) (fun L K _ _ _=>by show _=_; kernel_rfl) n) fun _ _=>rfl
theorem UHG (n:Nat):K39 R n (true,3,Uxn):=JkW (lo:=UKD n) (cu:=UJQ n) (pO (pC (UHH n) pN) (by kernel_rfl)) Uu9 (Uyn n) (fun K _ _=>by show _=_; kernel_rfl) fun _ _=>rfl
theorem USl (n:Nat):Je6 (K39 R n) (JaJ Ugf (Jll Tryz.f39)):=pO (pC (UHG n) pN) (by kernel_rfl)
abbrev t39:Sl (List SV):=(.c (sP (JlI (.c (Jlv .i64) (.c sSh .n)))) .n)
abbrev f39 (n:Nat) (K:List SV→O R):t39.T (O R):=fun x1 x2=>p39 n x1 x2 (fun y1=>K [vI y1])
abbrev UIP (n:Nat):FS:=fT [false] t39 (f39 n)
theorem ULk (n:Nat):FSound Tryz.prog GI 39 (UIP n):=gd Ugf n (UrD n) Tryz.func39 (.cons (UrD n) t39 (f39 n) (fun K _ _=>(Jkq (c:=Jll Tryz.f39) (by kernel_rfl) (USl n) K).trans (by kernel_rfl)) .nil) (by kernel_rfl)
def UzT:Ann:={ loops:=[],cuts:=[],frz:=[],rm:=[.id] }
abbrev UFn (n:Nat):Env:=eN
theorem UrS (n:Nat):EnvOK Tryz.prog GI (UFn n):=.nil
def p55 (n:Nat) (x1 x2:Int) (k0:Int→O R):O R :=
 bif (decide (x1<x2)) then (k0 (-1)) else (bif (decide (x1>x2)) then (k0 1) else (k0 0))
abbrev UQP (n:Nat):Orc R:=oN
abbrev UP4 (n:Nat):Orc R:=oN
abbrev K55 (R:Type) (n:Nat):=JcH (R:=R) Tryz.prog (UFn n) UzT n (13,[]) (UQP n) (UP4 n)
theorem USA (n:Nat):Je6 (K55 R n) (JaJ UzT (Jll Tryz.f55)):=pO pN (by kernel_rfl)
abbrev t55:Sl (List SV):=(cI (cI .n))
abbrev f55 (n:Nat) (K:List SV→O R):t55.T (O R):=fun x1 x2=>p55 n x1 x2 (fun y1=>K [vI y1])
abbrev UO (n:Nat):FS:=fT [false,false] t55 (f55 n)
theorem URC (n:Nat):FSound Tryz.prog GI 55 (UO n):=gd UzT n (UrS n) Tryz.func55 (.cons (UrS n) t55 (f55 n) (fun K _ _=>(Jkq (c:=Jll Tryz.f55) (by kernel_rfl) (USA n) K).trans (by kernel_rfl)) .nil) (by kernel_rfl)
def UjZ:Ann:={ loops:=[],cuts:=[(8,ids [8,10],ids [4]),(12,ids [8,10],ids [4])],frz:=[],rm:=[.id] }
abbrev UBc (n:Nat):Env:=eC 58 (UGr n) (eC 57 (UIR n) (eC 56 (UGq n) (eC 55 (UO n) (eC 54 (UIQ n) eN))))
theorem Url (n:Nat):EnvOK Tryz.prog GI (UBc n):=.cons (.cons (.cons (.cons (.cons (.nil) (ULl n)) (URC n)) (UI3 n)) (ULm n)) (UI4 n)
def Uee (n:Nat) (x1:Bool) (x2 x3:LP) (x4:Bool) (x5 x6:LP) (k0:Int→O R):O R :=
 p58 n x2 x6 (fun y7=>p58 n x5 x3 (fun y8=>p57 n y7 y8 (fun y9=>bif x1 then (k0 (IntKind.i64.wrap (0 - y9))) else (k0 y9))))
def Uuo (n:Nat) (x1:Bool) (x2 x3:LP) (x4:Bool) (x5 x6:LP) (k0:Int→O R):O R :=
 bif x1 then (bif (bif true then (!x4) else false) then (k0 (-1)) else (bif x4 then (bif (bif true then (!x1) else false) then (k0 1) else (Uee n x1 x2 x3 x4 x5 x6 (fun y7=>k0 y7))) else (Uee n x1 x2 x3 x4 x5 x6 (fun y8=>k0 y8)))) else (bif x4 then (bif (bif true then (!x1) else false) then (k0 1) else (Uee n x1 x2 x3 x4 x5 x6 (fun y9=>k0 y9))) else (Uee n x1 x2 x3 x4 x5 x6 (fun y10=>k0 y10)))
def p19 (n:Nat) (x1 x2:ByteArray) (k0:Int→O R):O R :=
 p54 n x1 x2 (fun y3 y4 y5=>bif y5 then (p55 n y3 y4 (fun y6=>k0 y6)) else (p56 n x1 (fun y7 y8 y9 y10=>p56 n x2 (fun y11 y12 y13 y14=>bif (!y10) then (k0 0) else (bif (bif false then true else (!y14)) then (k0 0) else (Uuo n y7 y8 y9 y11 y12 y13 (fun y15=>k0 y15)))))))
abbrev E19 (n:Nat):Code→Fr→Kc R→O R:=evC Tryz.prog (UBc n) UjZ n (72,[])
noncomputable def Uw9:Code:=Jj4 (Jll Tryz.f19) [1,1,1,1,1]
abbrev Uu2:Sl (List SV):=(.c (sBx 99 (cB (cH (cH .n)))) (.c (sBx 99 (cB (cH (cH .n)))) .n))
abbrev Uyg (n:Nat) (K:Kc R):Uu2.T (O R):=fun x1 x2 x3 x4 x5 x6=>Uuo n x1 x2 x3 x4 x5 x6 (fun y1=>xC UjZ 8 K .ret [vI y1])
noncomputable def Uqn:Code:=Jj4 (Jll Tryz.f19) [1,1,1,1,1,1]
abbrev Umd:Sl (List SV):=(.c (sBx 99 (cB (cH (cH .n)))) (.c (sBx 99 (cB (cH (cH .n)))) .n))
abbrev UsU (n:Nat) (K:Kc R):Umd.T (O R):=fun x1 x2 x3 x4 x5 x6=>Uee n x1 x2 x3 x4 x5 x6 (fun y1=>xC UjZ 12 K .ret [vI y1])
abbrev UKA (n:Nat):Orc R:=oN
abbrev UJN (n:Nat):Orc R:=oC UjZ (E19 n) 12 Uqn Umd (UsU n) (oC UjZ (E19 n) 8 Uw9 Uu2 (Uyg n) oN)
abbrev K19 (R:Type) (n:Nat):=JcH (R:=R) Tryz.prog (UBc n) UjZ n (72,[]) (UKA n) (UJN n)
theorem UD (n:Nat):K19 R n (true,12,Uqn):=JkW (lo:=UKA n) (cu:=UJN n) (pO pN (by kernel_rfl)) Umd (UsU n) (fun K _ _ _ _ _ _=>by show _=_; kernel_rfl) fun _ _=>rfl
theorem UHn (n:Nat):K19 R n (true,8,Uw9):=JkW (lo:=UKA n) (cu:=UJN n) (pO (pC (UD n) pN) (by kernel_rfl)) Uu2 (Uyg n) (fun K _ _ _ _ _ _=>by show _=_; kernel_rfl) fun _ _=>rfl
theorem UR4 (n:Nat):Je6 (K19 R n) (JaJ UjZ (Jll Tryz.f19)):=pO (pC (UHn n) pN) (by kernel_rfl)
abbrev t19:Sl (List SV):=(cS (cS .n))
abbrev f19 (n:Nat) (K:List SV→O R):t19.T (O R):=fun x1 x2=>p19 n x1 x2 (fun y1=>K [vI y1])
abbrev UBZ (n:Nat):FS:=fT [false,false] t19 (f19 n)
theorem UDQ (n:Nat):FSound Tryz.prog GI 19 (UBZ n):=gd UjZ n (Url n) Tryz.func19 (.cons (Url n) t19 (f19 n) (fun K _ _=>(Jkq (c:=Jll Tryz.f19) (by kernel_rfl) (UR4 n) K).trans (by kernel_rfl)) .nil) (by kernel_rfl)
def UzQ:Ann:={ loops:=[],cuts:=[],frz:=[],rm:=[.id] }
abbrev UFk (n:Nat):Env:=eC 19 (UBZ n) eN
theorem UrN (n:Nat):EnvOK Tryz.prog GI (UFk n):=.cons (.nil) (UDQ n)
def p50 (n:Nat) (x1:ByteArray) (k0:Bool→O R):O R :=
 p19 n x1 ⟨#[48]⟩ (fun y2=>k0 (decide (y2<0)))
abbrev UQM (n:Nat):Orc R:=oN
abbrev UP1 (n:Nat):Orc R:=oN
abbrev K50 (R:Type) (n:Nat):=JcH (R:=R) Tryz.prog (UFk n) UzQ n (6,[]) (UQM n) (UP1 n)
theorem USv (n:Nat):Je6 (K50 R n) (JaJ UzQ (Jll Tryz.f50)):=pO pN (by kernel_rfl)
abbrev t50:Sl (List SV):=(cS .n)
abbrev f50 (n:Nat) (K:List SV→O R):t50.T (O R):=fun x1=>p50 n x1 (fun y1=>K [vB y1])
abbrev UN8 (n:Nat):FS:=fT [false] t50 (f50 n)
theorem URA (n:Nat):FSound Tryz.prog GI 50 (UN8 n):=gd UzQ n (UrN n) Tryz.func50 (.cons (UrN n) t50 (f50 n) (fun K _=>(Jkq (c:=Jll Tryz.f50) (by kernel_rfl) (USv n) K).trans (by kernel_rfl)) .nil) (by kernel_rfl)
def UAc:Ann:={ loops:=[],cuts:=[],frz:=[],rm:=[.id] }
abbrev UFH (n:Nat):Env:=eC 53 (UB0 n) eN
theorem Usr (n:Nat):EnvOK Tryz.prog GI (UFH n):=.cons (.nil) (UDR n)
def p93 (n:Nat) (x1:ByteArray) (k0:Bool→O R):O R :=
 p53 n x1 (fun y2=>k0 (!y2))
abbrev UQ9 (n:Nat):Orc R:=oN
abbrev UQn (n:Nat):Orc R:=oN
abbrev K93 (R:Type) (n:Nat):=JcH (R:=R) Tryz.prog (UFH n) UAc n (6,[]) (UQ9 n) (UQn n)
theorem UT (n:Nat):Je6 (K93 R n) (JaJ UAc (Jll Tryz.f93)):=pO pN (by kernel_rfl)
abbrev t93:Sl (List SV):=(cS .n)
abbrev f93 (n:Nat) (K:List SV→O R):t93.T (O R):=fun x1=>p93 n x1 (fun y1=>K [vB y1])
abbrev UOo (n:Nat):FS:=fT [false] t93 (f93 n)
theorem URR (n:Nat):FSound Tryz.prog GI 93 (UOo n):=gd UAc n (Usr n) Tryz.func93 (.cons (Usr n) t93 (f93 n) (fun K _=>(Jkq (c:=Jll Tryz.f93) (by kernel_rfl) (UT n) K).trans (by kernel_rfl)) .nil) (by kernel_rfl)
def UbU:Ann:={ loops:=[(2,ids [0,1,7,8],ids [4])],cuts:=[],frz:=[],rm:=[.id] }
abbrev Urc (n:Nat):Env:=eC 93 (UOo n) (eC 50 (UN8 n) eN)
theorem UkY (n:Nat):EnvOK Tryz.prog GI (Urc n):=.cons (.cons (.nil) (URA n)) (URR n)
def Ujk (n:Nat) (l0:LP→Int→Int→O R) (x1:LP) (x2 x3:Int) (k0:Int→O R) (k1:O R):O R :=
 bif (decide (x3<x2)) then (bif (inR x3 ((x1).length)) then (Jj3 ((x1).getD ((x3:Int).toNat) (.v (.bool false))) fun e4=>p93 n e4 (fun y5=>bif y5 then (k0 x3) else (l0 x1 x2 (IntKind.i64.wrap (x3 + 1))))) else none) else (k1)
def Uc4 (n:Nat):Nat→LP→Int→Int→(Int→O R)→(O R)→O R
 | 0,_,_,_,_,_=>none
 | m + 1,x1,x2,x3,k0,k1=>Ujk n (fun x1 x2 x3=>Uc4 n m x1 x2 x3 k0 k1) x1 x2 x3 k0 k1
def Uzh (n:Nat) (x1:LP) (x2 x3:Int) (k0:Int→O R) (k1:O R):O R:=Uc4 n n x1 x2 x3 k0 k1
def p94 (n:Nat) (x1:LP) (k0:Int→O R):O R :=
 Uzh n x1 ((x1).length:Int) 0 (fun y2=>k0 y2) (k0 (-1))
def UdT (n:Nat) (l0:LP→Int→Int→O R) (x1:LP) (x2 x3:Int) (k0:Int→O R) (k1:O R):O R :=
 bif (decide (x3<x2)) then (bif (inR x3 ((x1).length)) then (Jj3 ((x1).getD ((x3:Int).toNat) (.v (.bool false))) fun e4=>p50 n e4 (fun y5=>bif y5 then (k0 x3) else (l0 x1 x2 (IntKind.i64.wrap (x3 + 1))))) else none) else (k1)
def Ubp (n:Nat):Nat→LP→Int→Int→(Int→O R)→(O R)→O R
 | 0,_,_,_,_,_=>none
 | m + 1,x1,x2,x3,k0,k1=>UdT n (fun x1 x2 x3=>Ubp n m x1 x2 x3 k0 k1) x1 x2 x3 k0 k1
def Uoy (n:Nat) (x1:LP) (x2 x3:Int) (k0:Int→O R) (k1:O R):O R:=Ubp n n x1 x2 x3 k0 k1
def UCo (n:Nat) (x1:LP) (k0:Int→O R):O R :=
 Uoy n x1 ((x1).length:Int) 0 (fun y2=>k0 y2) (k0 (-1))
abbrev E94 (n:Nat):Code→Fr→Kc R→O R:=evC Tryz.prog (Urc n) UbU n (19,[])
noncomputable def Uj3:Code:=Jj4 (Jll Tryz.f94) [1,0,1,0,0]
abbrev Uda:Sl (List SV):=(cH (.c (sP (sFn 93)) (cI (cI .n))))
abbrev Udb:Sl (List SV):=(cH (.c (sP (sFn 50)) (cI (cI .n))))
abbrev Uiq (n m:Nat) (K:Kc R):Uda.T (O R):=fun x1 x2 x3=>Uc4 n m x1 x2 x3 (fun y1=>xL UbU 2 K .ret [vI y1]) (xL UbU 2 K (.exit 0) [dD])
abbrev UAP (n:Nat) (K:Kc R) (l0:Uda.T (O R)):Uda.T (O R):=fun x1 x2 x3=>Ujk n l0 x1 x2 x3 (fun y1=>xL UbU 2 K .ret [vI y1]) (xL UbU 2 K (.exit 0) [dD])
abbrev Uir (n m:Nat) (K:Kc R):Udb.T (O R):=fun x1 x2 x3=>Ubp n m x1 x2 x3 (fun y1=>xL UbU 2 K .ret [vI y1]) (xL UbU 2 K (.exit 0) [dD])
abbrev UAQ (n:Nat) (K:Kc R) (l0:Udb.T (O R)):Udb.T (O R):=fun x1 x2 x3=>UdT n l0 x1 x2 x3 (fun y1=>xL UbU 2 K .ret [vI y1]) (xL UbU 2 K (.exit 0) [dD])
abbrev UGM (n:Nat):Orc R:=fun i vs K=>JfK (Nat.beq i 2) (Jjg (Uda.ap vs (Uiq n n K)) (Jjg (Udb.ap vs (Uir n n K)) (JcB UbU 2 (E94 n Uj3) n vs K))) (oN i vs K)
abbrev UEZ (n:Nat):Orc R:=oN
abbrev K94 (R:Type) (n:Nat):=JcH (R:=R) Tryz.prog (Urc n) UbU n (19,[]) (UGM n) (UEZ n)
theorem UuE (n:Nat):Je6 (K94 R n) (JaJ UbU Uj3):=pO pN (by kernel_rfl)
theorem UA7 (n:Nat):∀ m (K:Kc R),Uda.all (fun vs r=>JcB UbU 2 (JcU Tryz.prog (Urc n) UbU (19,[]) (UGM n) (UEZ n) Uj3) m vs K=r) (Uiq n m K):=JiE (F:=Uiq n) Uda (UAP n) (fun K _ _ _=>rfl) (fun _ _=>rfl) (fun L K _ _ _=>by show _=_; kernel_rfl)
theorem UA8 (n:Nat):∀ m (K:Kc R),Udb.all (fun vs r=>JcB UbU 2 (JcU Tryz.prog (Urc n) UbU (19,[]) (UGM n) (UEZ n) Uj3) m vs K=r) (Uir n m K):=JiE (F:=Uir n) Udb (UAQ n) (fun K _ _ _=>rfl) (fun _ _=>rfl) (fun L K _ _ _=>by show _=_; kernel_rfl)
theorem UH9 (n:Nat):K94 R n (false,2,Uj3):=JkF (lo:=UGM n) (cu:=UEZ n) (UuE n) Uda (Uiq n n) (UA7 n n) (JkF (lo:=UGM n) (cu:=UEZ n) (UuE n) Udb (Uir n n) (UA8 n n) fun _ _=>rfl)
theorem UPb (n:Nat):Je6 (K94 R n) (JaJ UbU (Jll Tryz.f94)):=pO (pC (UH9 n) pN) (by kernel_rfl)
abbrev UMU:Sl (List SV):=(cH (.c (sP (sFn 93)) .n))
abbrev UNJ (n:Nat) (K:List SV→O R):UMU.T (O R):=fun x1=>p94 n x1 (fun y1=>K [vI y1])
abbrev UMV:Sl (List SV):=(cH (.c (sP (sFn 50)) .n))
abbrev UNK (n:Nat) (K:List SV→O R):UMV.T (O R):=fun x1=>UCo n x1 (fun y1=>K [vI y1])
abbrev UOp (n:Nat):FS:={ om:=[false,false],run:=fun args K=>Jjg (UMU.ap args (UNJ n K)) (Jjg (UMV.ap args (UNK n K)) none) }
theorem URS (n:Nat):FSound Tryz.prog GI 94 (UOp n):=gd UbU n (UkY n) Tryz.func94 (.cons (UkY n) UMU (UNJ n) (fun K _=>(Jkq (c:=Jll Tryz.f94) (by kernel_rfl) (UPb n) K).trans (by kernel_rfl)) (.cons (UkY n) UMV (UNK n) (fun K _=>(Jkq (c:=Jll Tryz.f94) (by kernel_rfl) (UPb n) K).trans (by kernel_rfl)) .nil)) (by kernel_rfl)
def UzP:Ann:={ loops:=[],cuts:=[],frz:=[],rm:=[.id] }
abbrev UFj (n:Nat):Env:=eC 94 (UOp n) eN
theorem UkW (n:Nat):EnvOK Tryz.prog GI (UFj n):=.cons (.nil) (URS n)
def p49 (n:Nat) (x1:LP) (k0:Bool→O R):O R :=
 p94 n x1 (fun y2=>k0 (decide (y2≥0)))
def Uwk (n:Nat) (x1:LP) (k0:Bool→O R):O R :=
 UCo n x1 (fun y2=>k0 (decide (y2≥0)))
abbrev UQL (n:Nat):Orc R:=oN
abbrev UP0 (n:Nat):Orc R:=oN
abbrev K49 (R:Type) (n:Nat):=JcH (R:=R) Tryz.prog (UFj n) UzP n (9,[]) (UQL n) (UP0 n)
theorem UP (n:Nat):Je6 (K49 R n) (JaJ UzP (Jll Tryz.f49)):=pO pN (by kernel_rfl)
abbrev UMQ:Sl (List SV):=(cH (.c (sP (sFn 93)) .n))
abbrev UNF (n:Nat) (K:List SV→O R):UMQ.T (O R):=fun x1=>p49 n x1 (fun y1=>K [vB y1])
abbrev UMR:Sl (List SV):=(cH (.c (sP (sFn 50)) .n))
abbrev UNG (n:Nat) (K:List SV→O R):UMR.T (O R):=fun x1=>Uwk n x1 (fun y1=>K [vB y1])
abbrev UJ5 (n:Nat):FS:={ om:=[false,false],run:=fun args K=>Jjg (UMQ.ap args (UNF n K)) (Jjg (UMR.ap args (UNG n K)) none) }
theorem UOW (n:Nat):FSound Tryz.prog GI 49 (UJ5 n):=gd UzP n (UkW n) Tryz.func49 (.cons (UkW n) UMQ (UNF n) (fun K _=>(Jkq (c:=Jll Tryz.f49) (by kernel_rfl) (UP n) K).trans (by kernel_rfl)) (.cons (UkW n) UMR (UNG n) (fun K _=>(Jkq (c:=Jll Tryz.f49) (by kernel_rfl) (UP n) K).trans (by kernel_rfl)) .nil)) (by kernel_rfl)
def UzO:Ann:={ loops:=[],cuts:=[],frz:=[],rm:=[.id] }
abbrev UFi (n:Nat):Env:=eC 65 (UIS n) (eC 49 (UJ5 n) eN)
theorem UrM (n:Nat):EnvOK Tryz.prog GI (UFi n):=.cons (.cons (.nil) (UOW n)) (ULn n)
def p48 (n:Nat) (x1:Int) (x2 x3:LP) (k0:Int→O R):O R :=
 p65 n x1 x2 (fun y4=>bif (y4 != 0) then (k0 3) else (bif (((x3).length:Int) != x1) then (k0 2) else (p49 n x3 (fun y5=>bif y5 then (k0 3) else (k0 0)))))
abbrev UQK (n:Nat):Orc R:=oN
abbrev UPZ (n:Nat):Orc R:=oN
abbrev K48 (R:Type) (n:Nat):=JcH (R:=R) Tryz.prog (UFi n) UzO n (15,[]) (UQK n) (UPZ n)
theorem USu (n:Nat):Je6 (K48 R n) (JaJ UzO (Jll Tryz.f48)):=pO pN (by kernel_rfl)
abbrev t48:Sl (List SV):=(.c (sP (JlI (.c (Jlv .i64) (.c sSh .n)))) (cH .n))
abbrev f48 (n:Nat) (K:List SV→O R):t48.T (O R):=fun x1 x2 x3=>p48 n x1 x2 x3 (fun y1=>K [vI y1])
abbrev UN7 (n:Nat):FS:=fT [false,false] t48 (f48 n)
theorem URz (n:Nat):FSound Tryz.prog GI 48 (UN7 n):=gd UzO n (UrM n) Tryz.func48 (.cons (UrM n) t48 (f48 n) (fun K _ _ _=>(Jkq (c:=Jll Tryz.f48) (by kernel_rfl) (USu n) K).trans (by kernel_rfl)) .nil) (by kernel_rfl)
def Udi:Ann:={ loops:=[(6,ids [1,5],ids [4])],cuts:=[],frz:=[],rm:=[.id] }
abbrev UqY (n:Nat):Env:=eC 84 (UGu n) (eC 39 (UIP n) eN)
theorem Uno (n:Nat):EnvOK Tryz.prog GI (UqY n):=.cons (.cons (.nil) (ULk n)) (UI7 n)
def UfL (n:Nat) (l0:LP→Int→O R) (x1:LP) (x2:Int) (k0:Int→O R) (k1:O R):O R :=
 bif (decide (x2<((x1).length:Int))) then (bif (inR x2 ((x1).length)) then (Jj3 ((x1).getD ((x2:Int).toNat) (.v (.bool false))) fun e3=>p84 n e3 (fun y4=>bif (!y4) then (k0 3) else (l0 x1 (IntKind.i64.wrap (x2 + 1))))) else none) else (k1)
def UbE (n:Nat):Nat→LP→Int→(Int→O R)→(O R)→O R
 | 0,_,_,_,_=>none
 | m + 1,x1,x2,k0,k1=>UfL n (fun x1 x2=>UbE n m x1 x2 k0 k1) x1 x2 k0 k1
def Uu (n:Nat) (x1:LP) (x2:Int) (k0:Int→O R) (k1:O R):O R:=UbE n n x1 x2 k0 k1
def UG7 (n:Nat) (x1:Int) (x2 x3:LP) (k0:Int→O R):O R :=
 p39 n x1 x2 (fun y4=>bif (y4 != 0) then (k0 3) else (bif (((x3).length:Int) != x1) then (k0 2) else (Uu n x3 0 (fun y5=>k0 y5) (k0 0))))
abbrev UPj (n:Nat):Code→Fr→Kc R→O R:=evC Tryz.prog (UqY n) Udi n (26,[])
noncomputable def UpZ:Code:=Jj4 (Jll Tryz.f119) [1,1,1,0,1,0,0]
abbrev UeU:Sl (List SV):=(cH (cI .n))
abbrev Ul (n m:Nat) (K:Kc R):UeU.T (O R):=fun x1 x2=>UbE n m x1 x2 (fun y1=>xL Udi 6 K .ret [vI y1]) (xL Udi 6 K (.exit 0) [dD])
abbrev UAq (n:Nat) (K:Kc R) (l0:UeU.T (O R)):UeU.T (O R):=fun x1 x2=>UfL n l0 x1 x2 (fun y1=>xL Udi 6 K .ret [vI y1]) (xL Udi 6 K (.exit 0) [dD])
abbrev UGD (n:Nat):Orc R:=oL Udi (UPj n) n 6 UpZ UeU (Ul n n) oN
abbrev UEQ (n:Nat):Orc R:=oN
abbrev UM7 (R:Type) (n:Nat):=JcH (R:=R) Tryz.prog (UqY n) Udi n (26,[]) (UGD n) (UEQ n)
theorem UCM (n:Nat):UM7 R n (false,6,UpZ):=JkF (lo:=UGD n) (cu:=UEQ n) (pO pN (by kernel_rfl)) UeU (Ul n n) (JiE (F:=Ul n) UeU (UAq n) (fun K _ _=>rfl) (fun _ _=>rfl) (fun L K _ _=>by show _=_; kernel_rfl) n) fun _ _=>rfl
theorem ULR (n:Nat):Je6 (UM7 R n) (JaJ Udi (Jll Tryz.f119)):=pO (pC (UCM n) pN) (by kernel_rfl)
abbrev t119:Sl (List SV):=(.c (sP (JlI (.c (Jlv .i64) (.c sSh .n)))) (cH .n))
abbrev f119 (n:Nat) (K:List SV→O R):t119.T (O R):=fun x1 x2 x3=>UG7 n x1 x2 x3 (fun y1=>K [vI y1])
abbrev UBS (n:Nat):FS:=fT [false,false] t119 (f119 n)
theorem UGT (n:Nat):FSound Tryz.prog GI 119 (UBS n):=gd Udi n (Uno n) Tryz.func119 (.cons (Uno n) t119 (f119 n) (fun K _ _ _=>(Jkq (c:=Jll Tryz.f119) (by kernel_rfl) (ULR n) K).trans (by kernel_rfl)) .nil) (by kernel_rfl)
end
end Go.Proofs.YtmgfmlhdnadglaaGreatDoor
set_option linter.unusedVariables false
set_option linter.unusedSimpArgs false
namespace Go.Proofs.YtmgfmlhdnadglaaGreatDoor
open Go Th Go.Proofs
variable {R:Type}
noncomputable def okT (cols:Int):Int→List TermT→Bool
 | _,[]=>true
 | last,t::r=>if t.1≤last then false else if t.1≥cols then false else if t.2=[48] then false else qb t.2&&okT cols t.1 r
noncomputable def okR (cols:Int) (r:RowT):Bool:=okT cols (-1) r.tm&&qb r.c
def smT (l:List TermT):Prop:=l.length<2 ^ 17∧∀ t∈l,t.2.length<2 ^ 17
def smR (r:RowT):Prop:=smT r.tm∧r.c.length<2 ^ 17
noncomputable def Uo9 (cols:Int) (kbad:Option R) (last:Int) (t:TermT) (K:Int→Option R):Option R :=
 if t.1≤last then kbad else if t.1≥cols then kbad else if t.2=[48] then kbad else if qb t.2=true then K t.1 else kbad
theorem UMg (cols:Int) (kbad kend:Option R):∀ (l:List TermT) (last:Int),Uzk (Uo9 cols kbad) (fun _=>kend) last l=if okT cols last l then kend else kbad
 | [],last=>rfl
 | t::l,last=>by
  have ih:=UMg cols kbad kend l t.1
  simp only [Uzk,Uo9,okT]
  by_cases h1:t.1≤last
  · simp [h1]
  · by_cases h2:t.1≥cols
    · simp [h1,h2]
    · by_cases h3:t.2=[48]
      · simp [h1,h2,h3]
      · rcases Bool.eq_false_or_eq_true (qb t.2) with h4 | h4 <;> simp [h1,h2,h3,h4,ih]
theorem e48 (s:List UInt8):eqS (bs s) (⟨#[48]⟩:ByteArray)=decide (s=[48]):=by
 rw [show eqS (bs s) (⟨#[48]⟩:ByteArray)=(s == [48]) from rfl,Bool.eq_iff_iff]; simp
theorem UlR (n:Nat) (hn:10 ^ 400≤n) (cols:Int) (r:RowT) (hr:smR r) (k0:Bool→Option R):UJa n (tms r.tm) (bs r.c) r.eq r.mark cols k0=k0 (okR cols r):=by
 have hN:=Ual hn
 have hL:=hr.1.1
 have hv1:=fun k=>Ucc (R:=R) n hn r.c hr.2 k
 unfold UJa Ut3
 have h:=UgI (R:=R) (l:=r.tm) (step:=Uo9 cols (k0 false)) (kend:=fun _=>k0 (qb r.c))
  (fun m s i=>Uci n m cols (tms r.tm) (bs r.c) r.eq r.mark s (tms r.tm) ((tms r.tm).length:Int) (i:Int) (fun _ _ _ _ y=>k0 y) (fun _ y _ _=>p53 n y fun y15=>k0 y15))
  (fun m s=>by simp only [Uci,UfE]; simp (disch:=(first | omega | (simp only [JlE]; omega))) only [↓JlH,JlF,Ua,hv1])
  (fun m s i hi=>by
    have hv:=fun k=>Ucc (R:=R) n hn (r.tm[i]).2 (hr.1.2 _ (List.getElem_mem hi)) k
    simp only [Uci,UfE,Uo9]
    by_cases h1:(r.tm[i]).1≤s
    · simp (disch:=(first | omega | (simp only [JlE]; omega))) only [↓JlH,JlF,Ua,Jji,Uas hi,i1]
    · by_cases h2:(r.tm[i]).1≥cols
      · simp (disch:=(first | omega | (simp only [JlE]; omega))) only [↓JlH,JlF,Ua,Jji,Uas hi,i1]
      · by_cases h3:(r.tm[i]).2=[48]
        · simp (disch:=(first | omega | (simp only [JlE]; omega))) only [↓JlH,JlF,Ua,Jji,Uas hi,i1,Uj1 h3]
        · simp (disch:=(first | omega | (simp only [JlE]; omega))) only [↓JlH,JlF,Ua,Jji,Uas hi,i1,Ugi h3,hv]
          cases qb (r.tm[i]).2 <;> rfl) r.tm.length n 0 (-1) (by omega) (by omega)
 rw [List.drop_zero,UMg] at h
 refine Eq.trans h ?_
 unfold okR
 cases okT cols (-1) r.tm <;> rfl
theorem UwR (n:Nat) (hn:10 ^ 400≤n) (cols:Int) (r:RowT) (hr:smR r) (k0:Bool→Option R):p82 n (tms r.tm) (bs r.c) r.eq r.mark cols k0=k0 (okR cols r):=by
 have hN:=Ual hn
 have hL:=hr.1.1
 have hv1:=fun k=>UcH (R:=R) n hn r.c hr.2 k
 unfold p82 Uza
 have h:=UgI (R:=R) (l:=r.tm) (step:=Uo9 cols (k0 false)) (kend:=fun _=>k0 (qb r.c))
  (fun m s i=>UeA n m cols (tms r.tm) (bs r.c) r.eq r.mark s (i:Int) (fun _ _ _ _ y=>k0 y) (fun _ y _ _=>p84 n y fun y15=>k0 y15))
  (fun m s=>by simp only [UeA,Ujd]; simp (disch:=(first | omega | (simp only [JlE]; omega))) only [↓JlH,JlF,Ua,hv1])
  (fun m s i hi=>by
    have hv:=fun k=>UcH (R:=R) n hn (r.tm[i]).2 (hr.1.2 _ (List.getElem_mem hi)) k
    simp only [UeA,Ujd,Uo9]
    by_cases h1:(r.tm[i]).1≤s
    · simp (disch:=(first | omega | (simp only [JlE]; omega))) only [↓JlH,JlF,Ua,Jji,Uas hi,i1]
    · by_cases h2:(r.tm[i]).1≥cols
      · simp (disch:=(first | omega | (simp only [JlE]; omega))) only [↓JlH,JlF,Ua,Jji,Uas hi,i1]
      · by_cases h3:(r.tm[i]).2=[48]
        · simp (disch:=(first | omega | (simp only [JlE]; omega))) only [↓JlH,JlF,Ua,Jji,Uas hi,i1,Uj1 h3]
        · simp (disch:=(first | omega | (simp only [JlE]; omega))) only [↓JlH,JlF,Ua,Jji,Uas hi,i1,Ugi h3,hv]
          cases qb (r.tm[i]).2 <;> rfl) r.tm.length n 0 (-1) (by omega) (by omega)
 rw [List.drop_zero,UMg] at h
 refine Eq.trans h ?_
 unfold okR
 cases okT cols (-1) r.tm <;> rfl
noncomputable def Ufj (cols:Int) (rows:List RowT):Int:=if cols<0 then 2 else if cols>2048 then 2 else if rows.length>2048 then 6 else if rows.all (okR cols) then 0 else 3
def smA (rows:List RowT):Prop:=rows.length<2 ^ 17∧∀ r∈rows,smR r
theorem UlU (n:Nat) (hn:10 ^ 400≤n) (cols:Int) (rows:List RowT) (hr:smA rows) (k0:Int→Option R):p39 n cols (rws rows) k0=k0 (Ufj cols rows):=by
 have hN:=Ual hn
 have hL:=hr.1
 unfold p39 Uuv UyX Ufj
 by_cases h1:cols<0
 · simp (disch:=(first | omega | (simp only [JlE]; omega))) only [↓JlH,JlF]
 · by_cases h2:cols>2048
   · simp (disch:=(first | omega | (simp only [JlE]; omega))) only [↓JlH,JlF]
   · by_cases h3:rows.length>2048
     · have h3':((rows.length:Nat):Int)>2048:=by omega
       simp (disch:=(first | omega | (simp only [JlE]; omega))) only [↓JlH,JlF,Uab]
     · have h3':¬ ((rows.length:Nat):Int)>2048:=by omega
       have h:=Uaj (R:=R) (l:=rows) (ok:=okR cols) (kbad:=k0 3) (kend:=k0 0) (fun m i=>Uc2 n m cols (rws rows) (i:Int) k0 (k0 0))
        (fun m=>by simp only [Uc2,UiW]; simp (disch:=(first | omega | (simp only [JlE]; omega))) only [↓JlH,JlF,Uab])
        (fun m i hi=>by
          have hv:=fun k=>UwR (R:=R) n hn cols rows[i] (hr.2 _ (List.getElem_mem hi)) k
          simp only [Uc2,UiW]
          simp (disch:=(first | omega | (simp only [JlE]; omega))) only [↓JlH,JlF,Uab,Jji,Uau hi,hv,i1]
          cases okR cols rows[i] <;> rfl) rows.length n 0 (by omega) (by omega)
       rw [List.drop_zero] at h
       have h':Uc2 n n cols (rws rows) 0 k0 (k0 0)=_:=h
       simp (disch:=(first | omega | (simp only [JlE]; omega))) only [↓JlH,JlF,Uab,h']
       cases rows.all (okR cols) <;> rfl
theorem Uzn (n:Nat) (hn:10 ^ 400≤n) (cols:Int) (rows:List RowT) (hr:smA rows) (k0:Int→Option R):p65 n cols (rws rows) k0=k0 (Ufj cols rows):=by
 have hN:=Ual hn
 have hL:=hr.1
 unfold p65 ULq ULv Uud Ufj
 by_cases h1:cols<0
 · simp (disch:=(first | omega | (simp only [JlE]; omega))) only [↓JlH,JlF]
 · by_cases h2:cols>2048
   · simp (disch:=(first | omega | (simp only [JlE]; omega))) only [↓JlH,JlF]
   · by_cases h3:rows.length>2048
     · have h3':((rows.length:Nat):Int)>2048:=by omega
       simp (disch:=(first | omega | (simp only [JlE]; omega))) only [↓JlH,JlF,Uab]
     · have h3':¬ ((rows.length:Nat):Int)>2048:=by omega
       have h:=Uaj (R:=R) (l:=rows) (ok:=okR cols) (kbad:=k0 3) (kend:=k0 0)
        (fun m i=>UbG n m (rws rows) cols (rws rows) ((rws rows).length:Int) (i:Int) (fun y=>bif decide (y≥0) then k0 3 else k0 0) (bif decide ((-1:Int)≥0) then k0 3 else k0 0))
        (fun m=>by simp only [UbG,UfP]; simp (disch:=(first | omega | (simp only [JlE]; omega))) only [↓JlH,JlF,Uab])
        (fun m i hi=>by
          have hv:=fun k=>UlR (R:=R) n hn cols rows[i] (hr.2 _ (List.getElem_mem hi)) k
          simp only [UbG,UfP,ULr]
          simp (disch:=(first | omega | (simp only [JlE]; omega))) only [↓JlH,JlF,Uab,Jji,Uau hi,hv,i1]
          cases okR cols rows[i] <;> simp (disch:=(first | omega | (simp only [JlE]; omega))) only [↓JlH,JlF] <;> rfl) rows.length n 0 (by omega) (by omega)
       rw [List.drop_zero] at h
       have h':UbG n n (rws rows) cols (rws rows) ((rws rows).length:Int) 0 (fun y=>bif decide (y≥0) then k0 3 else k0 0) (bif decide ((-1:Int)≥0) then k0 3 else k0 0)=_:=h
       have e:∀ a b:Option R,(bif decide (((rws rows).length:Int)>2048) then a else b)=b:=fun a b=>by rw [Uab,decide_eq_false h3']; rfl
       simp only [c_neg h1,c_neg h2,Uaf,e,h']
       rw [if_neg h1,if_neg h2,if_neg h3]
       cases rows.all (okR cols) <;> rfl
noncomputable def UkG (cols:Int) (rows:List RowT) (v:List (List UInt8)):Int:=if Ufj cols rows≠0 then 3 else if (v.length:Int)≠cols then 2 else if Ude v then 0 else 3
theorem UD7 (n:Nat) (hn:10 ^ 400≤n) (cols:Int) (rows:List RowT) (hr:smA rows) (v:List (List UInt8)) (hv:smS v) (k0:Int→Option R):p48 n cols (rws rows) (sl v) k0=k0 (UkG cols rows v):=by
 have hN:=Ual hn
 have hL:=hv.1
 have h0:=fun k=>Uzn (R:=R) n hn cols rows hr k
 unfold p48 p49 p94 Uzh UkG
 rw [h0]
 have h:=Uaj (R:=R) (l:=v) (ok:=qb) (kbad:=k0 3) (kend:=k0 0)
  (fun m i=>Uc4 n m (sl v) ((sl v).length:Int) (i:Int) (fun y=>bif decide (y≥0) then k0 3 else k0 0) (bif decide ((-1:Int)≥0) then k0 3 else k0 0))
  (fun m=>by simp only [Uc4,Ujk]; simp (disch:=(first | omega | (simp only [JlE]; omega))) only [↓JlH,JlF,Uac])
  (fun m i hi=>by
    have hw:=fun k=>Ucc (R:=R) n hn v[i] (hv.2 _ (List.getElem_mem hi)) k
    simp only [Uc4,Ujk,p93]
    simp (disch:=(first | omega | (simp only [JlE]; omega))) only [↓JlH,JlF,Uac,Jji,UaO hi,hw,i1]
    cases qb v[i] <;> simp (disch:=(first | omega | (simp only [JlE]; omega))) only [↓JlH,JlF] <;> rfl) v.length n 0 (by omega) (by omega)
 rw [List.drop_zero] at h
 have h':Uc4 n n (sl v) ((sl v).length:Int) 0 (fun y=>bif decide (y≥0) then k0 3 else k0 0) (bif decide ((-1:Int)≥0) then k0 3 else k0 0)=_:=h
 by_cases h1:Ufj cols rows=0
 · have e1:(Ufj cols rows != 0)=false:=by rw [h1]; rfl
   rw [e1,Uaf,if_neg (by simp [h1]),Uac]
   by_cases h2:(v.length:Int)=cols
   · have e2:((v.length:Int) != cols)=false:=by simp [h2]
     rw [e2,Uaf,if_neg (by simp [h2])]
     rw [Uac] at h'
     refine Eq.trans h' ?_
     unfold Ude
     cases v.all qb <;> rfl
   · have e2:((v.length:Int) != cols)=true:=by simp [h2]
     rw [e2,Uay,if_pos h2]
 · have e1:(Ufj cols rows != 0)=true:=by simp [h1]
   rw [e1,Uay,if_pos h1]
theorem UuH (n:Nat) (hn:10 ^ 400≤n) (cols:Int) (rows:List RowT) (hr:smA rows) (v:List (List UInt8)) (hv:smS v) (k0:Int→Option R):UG7 n cols (rws rows) (sl v) k0=k0 (UkG cols rows v):=by
 have hN:=Ual hn
 have hL:=hv.1
 have h0:=fun k=>UlU (R:=R) n hn cols rows hr k
 unfold UG7 Uu UkG
 rw [h0]
 have h:=Uaj (R:=R) (l:=v) (ok:=qb) (kbad:=k0 3) (kend:=k0 0) (fun m i=>UbE n m (sl v) (i:Int) k0 (k0 0))
  (fun m=>by simp only [UbE,UfL]; simp (disch:=(first | omega | (simp only [JlE]; omega))) only [↓JlH,JlF,Uac])
  (fun m i hi=>by
    have hw:=fun k=>UcH (R:=R) n hn v[i] (hv.2 _ (List.getElem_mem hi)) k
    simp only [UbE,UfL]
    simp (disch:=(first | omega | (simp only [JlE]; omega))) only [↓JlH,JlF,Uac,Jji,UaO hi,hw,i1]
    cases qb v[i] <;> rfl) v.length n 0 (by omega) (by omega)
 rw [List.drop_zero] at h
 have h':UbE n n (sl v) 0 k0 (k0 0)=_:=h
 by_cases h1:Ufj cols rows=0
 · have e1:(Ufj cols rows != 0)=false:=by rw [h1]; rfl
   rw [e1,Uaf,if_neg (by simp [h1]),Uac]
   by_cases h2:(v.length:Int)=cols
   · have e2:((v.length:Int) != cols)=false:=by simp [h2]
     rw [e2,Uaf,if_neg (by simp [h2])]
     refine Eq.trans h' ?_
     unfold Ude
     cases v.all qb <;> rfl
   · have e2:((v.length:Int) != cols)=true:=by simp [h2]
     rw [e2,Uay,if_pos h2]
 · have e1:(Ufj cols rows != 0)=true:=by simp [h1]
   rw [e1,Uay,if_pos h1]
end Go.Proofs.YtmgfmlhdnadglaaGreatDoor
