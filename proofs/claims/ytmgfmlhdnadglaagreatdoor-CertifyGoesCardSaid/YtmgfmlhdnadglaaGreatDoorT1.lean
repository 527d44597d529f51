/- Proved: what the evaluator of pure values says of a function's code, its calls keep (part 2; no further conditions). -/
import Derived.Test.YtmgfmlhdnadglaaGreatDoorT0
import Derived.Laws.StructEq
import Derived.Laws.BytesString
import Derived.Laws.IdiomStrings
import Derived.Below
import Derived.Shelf.Strings.Builder1
import Derived.Shelf.Strings.Builder2
import Derived.Lib.FrozenHead
set_option linter.unusedVariables false
set_option linter.unusedSimpArgs false
namespace Go.Proofs.YtmgfmlhdnadglaaGreatDoor.Th
open Go
variable {R:Type} {res:R}
section
variable {P:Program} {G:Gd} {F:Nat→Prop} {Bs:Nat→List Nat} {st:St} {a:Act} {w:World}
theorem Ja2 {T E:TypeId} (h:Jbe P T=some E):P.underlying T=some (.slice E):=by
 unfold Jbe at h
 split at h
 · simp at h; subst h; assumption
 · cases h
theorem JbW {T:TypeId} {es:List PV} {c:Value} {B:List Nat} (h:RS P F w (.own T es) c B) :
 (c=.slice none 0 0∧es=[]∧B=[])∨∃ g cap,c=.slice (some ⟨g,0,none⟩) es.length cap∧es.length≤cap∧cap≤maxLen∧B=[g]:=by
 cases h with
 | own h1 h2 h3 h4 h5 h6 h7 =>
  rcases h5.2 with ⟨rfl,hn⟩ | ⟨g,cap,cur,rfl,_,_,hnc,hcm,_,_⟩
  · exact .inl ⟨rfl,List.length_eq_zero_iff.1 hn,rfl⟩
  · exact .inr ⟨g,cap,rfl,hnc,hcm,rfl⟩
theorem JeS {o:Oper} {T:TypeId} {x i:Operand} {K:Out→Option R} {env:Env} (hd:a.defers=[]) (h:Rel P G F Bs st a.tmps w) (ho:o.op=.indexAddr T x i)
 (hk:opK P env (.indexAddr T x i) o.type (opd st) K=some res):∃ out,K out=some res∧Eff P G st a w o out:=by
 have hrx:=Jag h x
 have hri:=Jag h i
 simp only [opK,Jb2] at hk
 split at hk
 · rename_i E k n hE hi
   rw [hi] at hri
   have e2:=Jbd hri
   have hu:=Ja2 hE
   split at hk
   · rename_i sz hsz
     have run:∀ b off len cap,a.eval x=.slice (some ⟨b,off,none⟩) len cap→0≤n→n<(len:Int) →
      (execOp a.eval o).run P w=.ok (.value (.pointer (some ⟨b,off + n.toNat * sz,none⟩))) w:=by
      intro b off len cap hv h0 hl
      simp [execOp,ho,e2,hv,Instr.indexAt,asIntOf,run_underlying hu,h0,hl,JaR hsz,Jb0]
     split at hk
     · rename_i s cx T' es hx
       rw [hx] at hrx
       obtain ⟨hT0,hk1⟩:=Jaa hk
       have hT:=eqB hT0
       subst hT
       obtain ⟨hin,hk2⟩:=Jaa hk1
       simp only [inR,Bool.and_eq_true,decide_eq_true_eq] at hin
       have hpl:=h.place hrx
       rcases JbW hpl.1 with ⟨_,rfl,_⟩ | ⟨g,cap,e,_,_,_⟩
       · simp at hin; omega
       · have hrx2:JaZ st.fr a.tmps w s cx T' es (a.eval x):=hrx
         rw [e] at hrx2
         have hr:=run g 0 _ cap e hin.1 hin.2
         rw [Nat.zero_add] at hr
         have:=JdX (P:=P) (off:=0) (i:=n.toNat) hrx2 (by omega) hsz
         exact ⟨_,hk2,Jab hr (JbC hd h this)⟩
     · rename_i es hx
       rw [hx] at hrx
       obtain ⟨hin,hk1⟩:=Jaa hk
       simp only [inR,Bool.and_eq_true,decide_eq_true_eq] at hin
       obtain ⟨hk2,hl,_,_⟩:=JbO hk1
       obtain ⟨hlen0,hk3⟩:=Jaa hk2
       have hlen:=eqB hlen0
       have hlt:n.toNat<es.length:=by omega
       have hget:=JbA (d:=.v (.bool false)) hlt
       have hrx':RP F w (.sh es) (a.eval x):=hrx
       generalize hv:a.eval x=c at hrx'
       cases hrx' with
       | sh h1 h2 h3 h4 h5 h6 h7 =>
        rename_i xs ad len cap sz'
        have he:=h2 _ (List.mem_of_getElem? hget)
        have hss:sz'=sz:=by omega
        subst hss
        obtain ⟨rest,hr⟩:=Jcm (fun e he=>(h2 e he).1) hget
        have hxs:=(h1.drop (n.toNat * sz')).take sz'
        rw [hr,show ((cellsOf (es.getD n.toNat (.v (.bool false)))++rest).take sz')=cellsOf (es.getD n.toNat (.v (.bool false))) by rw [←he.1]; exact List.take_left] at hxs
        rcases h4 with hnil | ⟨b,off,rfl,hb,hc⟩
        · exfalso
          have:=h1.length
          rw [JaI (fun e he=>(h2 e he).1),hnil,List.length_nil] at this
          have:es.length=0:=by
           rcases Nat.mul_eq_zero.1 this with q | q
           · exact q
           · omega
          omega
        · refine ⟨_,hk3,Jab (run b off _ cap hv hin.1 (by omega)) (JaF hd h (.fb hxs he.2 (.inr ⟨b,_,rfl,hb,fun j v hj=>?_⟩)))⟩
          rw [List.getElem?_take] at hj
          split at hj
          · rw [List.getElem?_drop] at hj
            have:=hc _ _ hj
            rwa [←Nat.add_assoc] at this
          · cases hj
     · cases hk
   · cases hk
 · cases hk
theorem JeH {sz:Nat}:∀ {es:List PV} (n:Nat),(∀ e∈es,(cellsOf e).length=sz)→Jbk (es.take n)=(Jbk es).take (n * sz)
 | [],n,_=>by simp [Jbk]
 | e::es,0,h=>by simp [Jbk]
 | e::es,n + 1,h=>by
  have he:=h e (by simp)
  rw [List.take_succ_cons,JaN,JaN,JeH n fun e he=>h e (by simp [he]),show (n + 1) * sz=(cellsOf e).length + n * sz by rw [he,Nat.add_mul]; omega,List.take_length_add_append]
theorem JdI {sz:Nat}:∀ {es:List PV} (n:Nat),(∀ e∈es,(cellsOf e).length=sz)→Jbk (es.drop n)=(Jbk es).drop (n * sz)
 | [],n,_=>by simp [Jbk]
 | e::es,0,h=>by simp
 | e::es,n + 1,h=>by
  have he:=h e (by simp)
  have e1:(n + 1) * sz=(cellsOf e).length + n * sz:=by rw [he,Nat.add_mul]; omega
  have e2:(cellsOf e).drop ((cellsOf e).length + n * sz)=[]:=List.drop_eq_nil_of_le (by omega)
  have e3:(cellsOf e).length + n * sz - (cellsOf e).length=n * sz:=by omega
  rw [List.drop_succ_cons,JaN,JdI n fun e he=>h e (by simp [he]),e1,List.drop_append,e2,e3,List.nil_append]
theorem Jf9 {es:List PV} {ad:Option Addr} {len cap n l hh:Nat} (h:RP F w (.sh es) (.slice ad len cap)) (hsz:Jgw n es=true) (h1:l≤hh) (h2:hh≤es.length) :
 RP F w (.sh ((es.take hh).drop l)) (.slice (if cap=l then ad else ad.map (·.add (l * n))) (hh - l) (cap - l)):=by
 cases h with
 | sh g1 g2 g3 g4 g5 g6 g7 =>
  rename_i xs sz
  by_cases he:(es.take hh).drop l=[]
  · rw [he]
    have hl:=congrArg List.length he
    rw [List.length_drop,List.length_take,List.length_nil] at hl
    exact .sh (xs:=[]) (sz:=1) .nil (by simp) (by decide) (.inl rfl) (by rw [List.length_nil]; omega) (by omega) (by omega)
  · have hlen:((es.take hh).drop l).length=hh - l:=by rw [List.length_drop,List.length_take]; omega
    have hpos:0<hh - l:=by rw [←hlen]; exact List.length_pos_iff.2 he
    have hn:sz=n:=by
     cases es with
     | nil=>simp at h2; omega
     | cons e es =>
      have:=(g2 e (by simp)).1
      simp only [Jgw] at hsz
      rw [←this]; exact eqB hsz
    subst hn
    have hall:∀ e∈es,(cellsOf e).length=sz:=fun e he=>(g2 e he).1
    have hall2:∀ e∈es.take hh,(cellsOf e).length=sz:=fun e he=>hall e (List.mem_of_mem_take he)
    have hr:=(g1.take (hh * sz)).drop (l * sz)
    rw [←JeH hh hall,←JdI l hall2] at hr
    rw [if_neg (by omega)]
    refine .sh hr (fun e he=>g2 e (List.mem_of_mem_take (List.mem_of_mem_drop he))) g3 ?_ hlen.symm (by omega) (by omega)
    rcases g4 with rfl | ⟨b,off,rfl,hb,hc⟩
    · exact .inl (by simp)
    · refine .inr ⟨b,off + l * sz,by simp [Jb0],hb,fun j v hj=>?_⟩
      rw [List.getElem?_drop,List.getElem?_take] at hj
      split at hj
      · have:=hc _ _ hj
        rwa [←Nat.add_assoc] at this
      · cases hj
theorem Jcv {isSlice:Bool} {len cap:Nat} {lo hi:Option Operand} {l hh:Int} (hr:∀ x,RVR P F st.fr a.tmps w (opd st x) (a.eval x)) (h1:Jas (lo.map (opd st)) 0=some l)
 (h2:Jas (hi.map (opd st)) (len:Int)=some hh) (hc:Je5 l hh len=true) (hlc:len≤cap) :
 (Instr.sliceBounds isSlice len cap (lo.map a.eval) (hi.map a.eval) none).run P w=.ok (l.toNat,hh.toNat,cap) w:=by
 simp only [Je5,Bool.and_eq_true,decide_eq_true_eq] at hc
 obtain ⟨⟨c1,c2⟩,c3⟩:=hc
 have get:∀ (x:Option Operand) (d v:Int),Jas (x.map (opd st)) d=some v→(x=none∧v=d)∨∃ y k,x=some y∧a.eval y=.int k v:=by
  intro x d v hx
  cases x with
  | none=>simp [Jas] at hx; exact .inl ⟨rfl,hx.symm⟩
  | some y =>
   simp only [Option.map_some] at hx
   unfold Jas at hx
   split at hx
   · rename_i hq; cases hq
   · rename_i k n hq
     simp only [Option.some.injEq] at hq hx
     subst hx
     have:=hr y
     rw [hq] at this
     exact .inr ⟨y,k,rfl,Jbd this⟩
   · cases hx
 rcases get hi _ _ h2 with ⟨rfl,rfl⟩ | ⟨y,k,rfl,ey⟩
 · rcases get lo _ _ h1 with ⟨rfl,rfl⟩ | ⟨z,k',rfl,ez⟩
   · simp [Instr.sliceBounds]
   · have:l.toNat≤len:=by omega
     simp [Instr.sliceBounds,ez,Instr.sliceBound,asIntOf,c1,c2]
 · rcases get lo _ _ h1 with ⟨rfl,rfl⟩ | ⟨z,k',rfl,ez⟩
   · have:hh≤(cap:Int):=by omega
     have h0:0≤hh:=by omega
     simp [Instr.sliceBounds,ey,Instr.sliceBound,asIntOf,this,h0]
   · have e1:hh≤(cap:Int):=by omega
     have h0:0≤hh:=by omega
     have e2:l≤max hh 0:=by omega
     simp [Instr.sliceBounds,ey,ez,Instr.sliceBound,asIntOf,e1,h0,c1,e2]
theorem JgE {E:TypeId} (h:Je P E=true):∃ n,Jal P E=some n:=by
 unfold Je at h
 split at h
 · exact ⟨_,by assumption⟩
 · cases h
theorem JiM {o:Oper} {T:TypeId} {x:Operand} {lo hi mx:Option Operand} {K:Out→Option R} {env:Env} (hd:a.defers=[]) (h:Rel P G F Bs st a.tmps w) (ho:o.op=.slice T x lo hi mx)
 (hk:opK P env (.slice T x lo hi mx) o.type (opd st) K=some res):∃ out,K out=some res∧Eff P G st a w o out:=by
 have hrx:=Jag h x
 simp only [opK] at hk
 obtain ⟨hm,hk0⟩:=Jaa hk
 clear hk
 have hmx:mx=none:=by
  cases mx with
  | none=>rfl
  | some _=>simp [JjB] at hm
 subst hmx
 unfold Jdr at hk0
 have runS:∀ E ad len cap l hh sz,P.underlying T=some (.slice E)→Jal P E=some sz→a.eval x=.slice ad len cap→Jas (lo.map (opd st)) 0=some l→Jas (hi.map (opd st)) (len:Int)=some hh →
  Je5 l hh len=true→len≤cap →
  (execOp a.eval o).run P w=.ok (.value (.slice (if cap=l.toNat then ad else ad.map (·.add (l.toNat * sz))) (hh.toNat - l.toNat) (cap - l.toNat))) w:=by
  intro E ad len cap l hh sz hu hs hv h1 h2 hc hlc
  have hb:=Jcv (P:=P) (isSlice:=true) (cap:=cap) (Jag h) h1 h2 hc hlc
  simp [execOp,ho,hv,Instr.sliceAt,run_underlying hu,Instr.slice,hb,JaR hs]
 split at hk0
 · rename_i s hu hx
   rw [hx] at hrx
   have e1:=Jbd hrx
   split at hk0
   · rename_i l hh h1 h2
     obtain ⟨hc,hk⟩:=Jaa hk0
     have hb:=Jcv (P:=P) (isSlice:=false) (cap:=s.size) (Jag h) h1 h2 hc (Nat.le_refl _)
     have hrun:(execOp a.eval o).run P w=.ok (.value (.string (s.extract l.toNat hh.toNat))) w:=by
      simp [execOp,ho,e1,Instr.sliceAt,run_underlying hu,Instr.slice,hb]
     exact ⟨_,hk,Jab hrun (JaF hd h (.v _))⟩
   · cases hk0
 · rename_i E es hu hx
   rw [hx] at hrx
   split at hk0
   · rename_i sz l hh hs h1 h2
     obtain ⟨hc,hk⟩:=Jaa hk0
     simp only [Bool.and_eq_true] at hc
     have hrx':RP F w (.sh es) (a.eval x):=hrx
     have hcc:=hc.2
     simp only [Je5,Bool.and_eq_true,decide_eq_true_eq] at hcc
     cases hv:a.eval x with
     | slice ad len cap =>
      rw [hv] at hrx'
      have hlen:len=es.length∧len≤cap:=by cases hrx' with | sh _ _ _ _ e1 e2 _=>exact ⟨e1,e2⟩
      have hrun:=runS E ad len cap l hh sz hu hs hv h1 (by rw [hlen.1]; exact h2) (by rw [hlen.1]; exact hc.2) hlen.2
      exact ⟨_,hk,Jab hrun (JaF hd h (Jf9 hrx' hc.1 (by omega) (by omega)))⟩
     | _=>rw [hv] at hrx'; cases hrx'
   · cases hk0
 · rename_i E s cx T' es hu hx
   rw [hx] at hrx
   split at hk0
   · rename_i sz l hh hs h1 h2
     obtain ⟨hc,hk⟩:=Jaa hk0
     simp only [Bool.and_eq_true] at hc
     have hT:=eqB hc.1
     subst hT
     have hcc:=hc.2
     simp only [Je5,Bool.and_eq_true,decide_eq_true_eq] at hcc
     obtain ⟨F',Bs',r1,r2,r3,r4⟩:=Jbs h hrx
     have hhd:Jgw sz es=true:=by
      have hpl:=(h.place hrx).1
      cases es with
      | nil=>rfl
      | cons e es =>
       cases hpl with
       | own q1 _ _ _ _ _ q7 =>
        have:=(q7 e (by simp)).1
        simp [Jal,q1] at hs
        simp only [Jgw]
        rw [this,hs]; exact JkL _
     cases hv:a.eval x with
     | slice ad len cap =>
      rw [hv] at r2
      have hlen:len=es.length∧len≤cap:=by cases r2 with | sh _ _ _ _ e1 e2 _=>exact ⟨e1,e2⟩
      have hrun:=runS T' ad len cap l hh sz hu hs hv h1 (by rw [hlen.1]; exact h2) (by rw [hlen.1]; exact hc.2) hlen.2
      exact ⟨_,hk,Jab hrun (Jau hd r1 (.p (Jf9 r2 hhd (by omega) (by omega))))⟩
     | _=>rw [hv] at r2; cases r2
   · cases hk0
 · rename_i E hu hx
   rw [hx] at hrx
   obtain ⟨hsz,hk0⟩:=Jaa hk0
   split at hk0
   · rename_i l hh h1 h2
     obtain ⟨hc,hk⟩:=Jaa hk0
     have hcc:=hc
     simp only [Je5,Bool.and_eq_true,decide_eq_true_eq] at hcc
     have hv:a.eval x=.slice none 0 0:=hrx
     have hb:=Jcv (P:=P) (isSlice:=true) (len:=0) (cap:=0) (Jag h) h1 (by simpa using h2) hc (Nat.le_refl _)
     have el:l=0:=by omega
     have eh:hh=0:=by omega
     subst el; subst eh
     obtain ⟨n,hn⟩:=JgE hsz
     have hrun:(execOp a.eval o).run P w=.ok (.value (.slice none 0 0)) w:=by
      simp [execOp,ho,hv,Instr.sliceAt,run_underlying hu,Instr.slice,hb,JaR hn]
     exact ⟨_,hk,Jab hrun (Jau hd (by rw [Jak]; exact h) .nl)⟩
   · cases hk0
 · cases hk0
theorem JdJ:∀ (ns:List Int) (s:ByteArray),ns.foldl (fun r n=>r.push (UInt8.ofNat n.toNat)) s=⟨s.data++(ns.map fun n=>UInt8.ofNat n.toNat).toArray⟩
 | [],s=>by simp
 | n::ns,s=>by
  rw [List.foldl_cons,JdJ ns]
  simp [ByteArray.push]
theorem Jg:∀ {es:List PV} {xs:List Value},RPs F w (Jbk es) xs→Jeo es=true→xs=(es.map fun e=>match e with | .v (.int _ n)=>n | _=>0).map (Value.int .u8)
 | [],xs,h,_=>by
  have h':RPs F w [] xs:=h
  cases h'; rfl
 | e::es,xs,h,ha=>by
  simp only [Jeo,Bool.and_eq_true] at ha
  obtain ⟨h1,h2⟩:=ha
  unfold Jk4 at h1
  split at h1
  · rename_i n
    rw [JaN] at h
    have h':RPs F w (.v (.int .u8 n)::Jbk es) xs:=h
    cases h' with
    | cons p q=>rw [Jbd p,Jg q h2]; rfl
  · cases h1
theorem JiY:∀ {es:List PV},Jeo es=true→(⟨((es.map fun e=>match e with | .v (.int _ n)=>n | _=>0).map fun (n:Int)=>UInt8.ofNat n.toNat).toArray⟩:ByteArray)=JgH es:=by
 intro es ha
 unfold JgH
 congr 2
 rw [List.map_map]
 apply List.map_congr_left
 intro e he
 induction es with
 | nil=>simp at he
 | cons x es ih =>
  simp only [Jeo,Bool.and_eq_true] at ha
  rcases List.mem_cons.1 he with rfl | he
  · have h1:=ha.1
    unfold Jk4 at h1
    split at h1
    · rfl
    · cases h1
  · exact ih ha.2 he
theorem Jes {src dst:TypeId} {es:List PV} {c:Value} {e:TypeId} (hs:P.underlying src=some (.slice e)) (he:P.underlying e=some (.int .u8)) (hd:P.underlying dst=some .string)
 (h:RP F w (.sh es) c) (ha:Jeo es=true):(convert src dst c).run P w=.ok (.string (JgH es)) w:=by
 cases h with
 | sh h1 h2 h3 h4 h5 h6 h7 =>
  rename_i xs ad n cap sz
  rw [run_convert_bytes_string w src dst e ad n cap hs he hd]
  cases ad with
  | none =>
   have hes:es=[]:=by
    rcases h4 with rfl | ⟨b,off,q,_⟩
    · have:=h1.length
      rw [JaI (fun e he=>(h2 e he).1),List.length_nil] at this
      rcases Nat.mul_eq_zero.1 this with q | q
      · exact List.length_eq_zero_iff.1 q
      · omega
    · cases q
   subst hes
   simp [Conv.bytesToString,JgH]; rfl
  | some ad =>
   have hx:=Jg h1 ha
   have hlen:xs.length=es.length:=by rw [hx]; simp
   have hcells:∀ j v,xs[j]? = some v→w.cell? (ad.add j)=some v:=by
    intro j v hj
    rcases h4 with rfl | ⟨b,off,q,_,hc⟩
    · simp at hj
    · cases q; rw [Jb0]; exact hc j v hj
   have hl:=run_loadCells_list (P:=P) w ad xs hcells
   rw [hlen,←h5,hx] at hl
   rw [run_bytesToString w ad n cap _ hl,JdJ,←JiY ha]
   simp
theorem alloc_old (w:World) (o:Obj) (i:Nat) (h:i<w.heap.size):(w.alloc o).heap[i]? = w.heap[i]? := by
 show (w.heap.push o)[i]? = w.heap[i]?
 rw [Array.getElem?_push,if_neg (Nat.ne_of_lt h)]
theorem Rel.grow {tm:Array Value} (h:Rel P G F Bs st tm w) {w':World} {F':Nat→Prop} (hw:∀ b,b<w.heap.size→w'.heap[b]? = w.heap[b]?) (hz:w.heap.size≤w'.heap.size)
 (hos:w'.os=w.os∧w'.tape=w.tape∧w'.output=w.output) (hF:∀ b,F b→F' b) (hF':∀ b,F' b→F b∨(w.heap.size≤b∧b<w'.heap.size)):Rel P G F' Bs st tm w':=by
 refine ⟨h.sz,fun i=>(h.sl i).mono hF fun b hb=>?_,h.nd,h.dj,fun i b hb hf=>?_,h.nw,fun i b hb=>Nat.lt_of_lt_of_le (h.lt i b hb) hz,fun b hb=>?_,fun b hb=>hF b (h.f0 b hb),fun b hb=>?_,?_,?_,h.pn⟩
 · exact hw b (hb.elim (h.fl b) (h.lt i b))
 · rcases hF' b hf with q | q
   · exact h.nf i b hb q
   · have:=h.lt i b hb; omega
 · rcases hF' b hb with q | q
   · exact Nat.lt_of_lt_of_le (h.fl b q) hz
   · exact q.2
 · rcases hF' b hb with q | q
   · exact h.fn b q
   · exact .inr (.inl (Nat.le_trans h.kb.size q.1))
 · exact ⟨hos.1.trans h.kb.os,hos.2.1.trans h.kb.tape,hos.2.2.trans h.kb.output,Nat.le_trans h.kb.size hz,fun b hb hA=>(hw b (Nat.lt_of_lt_of_le hb h.kb.size)).trans (h.kb.block b hb hA)⟩
 · intro t q hm
   have hok:=h.rf t q hm
   have box:∀ u T cs b,st.fr u=.bx T cs→tm.getD u undef=.pointer (some ⟨b,0,none⟩)→w'.heap[b]? = w.heap[b]? := by
    intro u T cs b hu ht
    have hsl:=h.sl u
    rw [hu,ht] at hsl
    exact hw b (h.lt u b hsl.bx_mem)
   cases q with
   | b u off=>exact hok
   | o u j =>
    cases j with
    | none=>exact hok
    | some j =>
     intro T cs b cur T' f hu ht hb
     rw [box u T cs b hu ht] at hb
     exact hok T cs b cur T' f hu ht hb
   | e u j T i off =>
    cases j with
    | none=>exact hok
    | some j =>
     intro Tb cs b cur T' f hu ht hb
     rw [box u Tb cs b hu ht] at hb
     exact hok Tb cs b cur T' f hu ht hb
theorem Jck (F:Nat→Prop) (w:World):∀ l:List UInt8,RPs F w (Jbk (l.map fun b=>.v (.int .u8 b.toNat))) (l.map fun b=>Value.int .u8 b.toNat)
 | []=>.nil
 | b::l=>.cons (.v _) (Jck F w l)
theorem JjK {o:Oper} {src dst:TypeId} {x:Operand} {K:Out→Option R} {env:Env} (hd:a.defers=[]) (h:Rel P G F Bs st a.tmps w) (ho:o.op=.convert src dst x)
 (hk:opK P env (.convert src dst x) o.type (opd st) K=some res):∃ out,K out=some res∧Eff P G st a w o out:=by
 have hrx:=Jag h x
 simp only [opK,Jfc] at hk
 cases hkn:JaH P src with
 | false=>rw [hkn] at hk; simp at hk
 | true =>
  rw [hkn] at hk
  simp only [Bool.not_true,cond_false] at hk
  obtain ⟨ds,hds⟩:=Jhn hkn
  have run:∀ v w',(convert src dst (a.eval x)).run P w=.ok v w'→(execOp a.eval o).run P w=.ok (.value v) w':=by
   intro v w' hv
   simp [execOp,ho,hv]
  have byt:∀ es F' Bs' (us:List (Nat × SV)),Rel P G F' Bs' (st.upS us []) a.tmps w→RP F' w (.sh es) (a.eval x)→P.underlying dst=some .string→Jcj P src es (fun r=>K r)=some res→us=[] →
   ∃ out,K out=some res∧Eff P G st a w o out:=by
   intro es F' Bs' us hrel hre hdst hb hus
   subst hus
   rw [Jak] at hrel
   unfold Jcj at hb
   split at hb
   · rename_i e he
     split at hb
     · rename_i hu8
       obtain ⟨hall,hb⟩:=Jaa hb
       exact ⟨_,hb,Jab (run _ _ (Jes (Ja2 he) hu8 hdst hre hall)) (JaF hd h (.v _))⟩
     · cases hb
   · cases hb
  split at hk
  · rename_i k n hu hx hi
    rw [hi] at hrx
    have e1:=Jbd hrx
    refine ⟨_,hk,Jab (run _ _ ?_) (JaF hd h (.v _))⟩
    rw [e1]
    cases ds <;> simp [convert,run_underlying hds,run_underlying hx,Conv.intToInt]
  · rename_i s hu hx
    rw [hx] at hrx
    have e1:=Jbd hrx
    refine ⟨_,hk,Jab (run _ _ ?_) (JaF hd h (.v _))⟩
    rw [e1]
    cases ds <;> simp [convert,run_underlying hds,run_underlying hu]
  · rename_i k n hu hi
    rw [hi] at hrx
    have e1:=Jbd hrx
    refine ⟨_,hk,Jab (run _ _ ?_) (JaF hd h (.v _))⟩
    rw [e1]
    cases ds <;> simp [convert,run_underlying hds,run_underlying hu,Conv.intToString]
  · rename_i es hu hx
    rw [hx] at hrx
    exact byt es F Bs [] (by rw [Jak]; exact h) hrx hu hk rfl
  · rename_i s cx T es hu hx
    rw [hx] at hrx
    have hpl:=h.place hrx
    have hfz:RP (fun b=>F b∨b∈blk (a.eval x)) w (.sh es) (a.eval x):=hpl.1.frozen (fun _ q=>.inl q) (fun _ q=>.inr q)
    unfold Jcj at hk
    split at hk
    · rename_i e he
      split at hk
      · rename_i hu8
        obtain ⟨hall,hb⟩:=Jaa hk
        exact ⟨_,hb,Jab (run _ _ (Jes (Ja2 he) hu8 hu hfz hall)) (JaF hd h (.v _))⟩
      · cases hk
    · cases hk
  · rename_i hu hx
    rw [hx] at hrx
    have hv:a.eval x=.slice none 0 0:=hrx
    exact byt [] F Bs [] (by rw [Jak]; exact h) (by rw [hv]; exact JcI F w) hu hk rfl
  · rename_i s hu hx
    rw [hx] at hrx
    have e1:=Jbd hrx
    rename_i E hdu _
    obtain ⟨hc,hk⟩:=Jaa hk
    simp only [Bool.and_eq_true] at hc
    obtain ⟨⟨c1,c2⟩,c3⟩:=hc
    have hsrc:P.underlying src=some .string:=by
     unfold Jhm at c1
     split at c1
     · assumption
     · cases c1
    unfold Jjw at c2
    split at c2
    · rename_i e he
      split at c2
      · rename_i hu8
        have hrun:=run_bytes_of_string (P:=P) w src dst e s hsrc (Ja2 he) hu8
        simp only [Jbu,Bool.and_eq_true,decide_eq_true_eq] at c3
        have hsz:s.size≤maxLen:=by simp only [maxLen]; omega
        have hge:=grownCap_ge w s.size 0 e
        have hle:=grownCap_le_maxLen w s.size 0 e hsz
        obtain ⟨O,hO⟩:∃ O,O=Obj.cells (bytesRow s (grownCap w s.size 0 e)) e ((bytesRow s (grownCap w s.size 0 e)).size,(bytesRow s (grownCap w s.size 0 e)).size + 1):=⟨_,rfl⟩
        rw [←hO] at hrun
        have hnew:(w.drew.alloc O).heap[w.heap.size]? = some O:=heap_alloc_new w.drew O
        have hold:∀ b,b<w.heap.size→(w.drew.alloc O).heap[b]? = w.heap[b]? := fun b hb=>alloc_old w.drew O b hb
        obtain ⟨w1,hW⟩:∃ w1,w1=w.drew.alloc O:=⟨_,rfl⟩
        rw [←hW] at hrun hnew hold
        have hsz1:w1.heap.size=w.heap.size + 1:=by rw [hW]; simp
        have hgrow:=h.grow (w':=w1) (F':=fun b=>F b∨b=w.heap.size) (fun b hb=>hold b hb) (by omega) (by rw [hW]; exact ⟨rfl,rfl,rfl⟩) (fun _ q=>.inl q)
         (fun b q=>q.imp id fun q=>by omega)
        have hlen:(Jcw s).length=s.size:=by simp [Jcw]
        have hre:RP (fun b=>F b∨b=w.heap.size) w1 (.sh (Jcw s)) (.slice (some ⟨w.heap.size,0,none⟩) s.size (grownCap w s.size 0 e)):=by
         refine .sh (sz:=1) (Jck _ _ s.data.toList) (fun x hx=>?_) (by decide) (.inr ⟨w.heap.size,0,rfl,.inr rfl,fun j v hj=>?_⟩) hlen.symm hge hle
         · simp only [Jcw,List.mem_map] at hx
           obtain ⟨b,_,rfl⟩:=hx
           exact ⟨rfl,rfl⟩
         · rw [Nat.zero_add]
           have hc:w1.cell? ⟨w.heap.size,j,none⟩=(bytesRow s (grownCap w s.size 0 e))[j]? := by
            rw [hO] at hnew
            rw [cell_of_row w1 w.heap.size j _ _ _ hnew]
           rw [hc]
           have hjl:=Jcr hj
           simp only [bytesRow]
           rw [Array.getElem?_append_left (by simpa using hjl)]
           simpa using hj
        exact ⟨_,hk,fun hf=>⟨_,w1,.inl (run _ _ (by rw [e1]; exact hrun)),JaF hd hgrow hre hf⟩⟩
      · cases c2
    · cases c2
  · cases hk
theorem Jfr {o:Oper} {f:FuncId} {first caps:Array Operand} {K:Out→Option R} {env:Env} (hd:a.defers=[]) (h:Rel P G F Bs st a.tmps w) (ho:o.op=.makeFunc (.func f) first caps)
 (hk:opK P env (.makeFunc (.func f) first caps) o.type (opd st) K=some res):∃ out,K out=some res∧Eff P G st a w o out:=by
 simp only [opK] at hk
 split at hk
 · rename_i ys us hfi hv
   obtain ⟨hdi,hk⟩:=Jaa hk
   have hfirst:first=#[]:=by
    cases first with
    | mk l=>simp at hfi; rw [hfi]
   obtain ⟨F',Bs',r1,r2,r3,r4⟩:=Jbx (vs:=caps.toList.map a.eval) h (fun j q hj=>by
    rw [List.getElem?_map] at hj
    cases hc:caps.toList[j]? with
    | none=>rw [hc] at hj; cases hj
    | some y =>
     rw [hc] at hj
     simp only [Option.map_some,Option.some.injEq] at hj
     subst hj
     exact ⟨a.eval y,by rw [List.getElem?_map,hc]; rfl,Jag h y⟩) (by simp) hv hdi
   have hrun:(execOp a.eval o).run P w=.ok (.value (.func (.func f) #[] (caps.toList.map a.eval).toArray)) w:=by
    have e:caps.map a.eval=(caps.toList.map a.eval).toArray:=by apply Array.ext'; simp
    simp only [execOp,ho,hfirst,Instr.makeFunc,Sem.run_bind,Sem.run_pure,Result.andThen_ok,e]
    have e0:Array.map a.eval #[]=#[]:=by simp
    rw [e0]
   exact ⟨_,hk,Jab hrun (Jau hd r1 (.p (.clo r2)))⟩
 · cases hk
def Jiy (P:Program):List Field→List PV→Prop
 | [],[]=>True
 | f::l,x::r=>((∃ k n,P.underlying f.type=some (.int k)∧x=.v (.int k n))∨(∃ s,P.underlying f.type=some .string∧x=.v (.string s))∨(∃ b,P.underlying f.type=some .bool∧x=.v (.bool b)))∧Jiy P l r
 | _,_=>False
theorem JbN:∀ {l:List Field} {o:Nat} {cs:List PV} {K:List PV→Option R},JdH P o l=true→Jd6 (l.flatMap fun f=>cks P 19 f.type) cs K=some res→K cs=some res∧Jiy P l cs
 | [],o,cs,K,_,hk=>by
  simp only [List.flatMap_nil,Jd6,Ji1] at hk
  split at hk
  · exact ⟨hk,trivial⟩
  · cases hk
 | f::l,o,cs,K,hf,hk=>by
  simp only [JdH,Bool.and_eq_true] at hf
  obtain ⟨⟨⟨_,_⟩,hu⟩,hl⟩:=hf
  rw [List.flatMap_cons] at hk
  split at hu
  · rename_i k hku
    have hc:cks P 19 f.type=[.i k]:=by simp only [cks,hku]
    rw [hc,List.singleton_append] at hk
    simp only [Jd6] at hk
    obtain ⟨x,r,rfl,h1⟩:=Jbc hk
    obtain ⟨n,rfl,h2⟩:=JeJ h1
    obtain ⟨h3,h4⟩:=JbN hl h2
    exact ⟨h3,.inl ⟨k,n,hku,rfl⟩,h4⟩
  · rename_i hku
    have hc:cks P 19 f.type=[.s]:=by simp only [cks,hku]
    rw [hc,List.singleton_append] at hk
    simp only [Jd6] at hk
    obtain ⟨x,r,rfl,h1⟩:=Jbc hk
    simp only [Jha] at h1
    unfold Jj2 at h1
    split at h1
    · obtain ⟨h3,h4⟩:=JbN hl h1
      exact ⟨h3,.inr (.inl ⟨_,hku,rfl⟩),h4⟩
    · cases h1
  · rename_i hku
    have hc:cks P 19 f.type=[.b]:=by simp only [cks,hku]
    rw [hc,List.singleton_append] at hk
    simp only [Jd6] at hk
    obtain ⟨x,r,rfl,h1⟩:=Jbc hk
    simp only [Jha] at h1
    unfold Jj1 at h1
    split at h1
    · obtain ⟨h3,h4⟩:=JbN hl h1
      exact ⟨h3,.inr (.inr ⟨_,hku,rfl⟩),h4⟩
    · cases h1
  · cases hu
theorem JcK:∀ (l:List Field) (o:Nat) (xa bs:List PV) (xs ys:List Value),JdH P o l=true→Jiy P l xa→Jiy P l bs→RPs F w xa (xs.drop o)→RPs F w bs (ys.drop o) →
 (Op.eqFields 9999 xs.toArray ys.toArray l).run P w=.ok (Jbz xa bs) w
 | [],o,xa,bs,xs,ys,_,fa,fb,_,_=>by
  cases xa with
  | nil=>rfl
  | cons _ _=>exact fa.elim
 | f::l,o,xa,bs,xs,ys,hf,fa,fb,ha,hb=>by
  cases xa with
  | nil=>exact fa.elim
  | cons x xa =>
   cases bs with
   | nil=>exact fb.elim
   | cons y bs =>
    simp only [JdH,Bool.and_eq_true,Bool.not_eq_true',beq_eq_false_iff_ne] at hf
    obtain ⟨⟨⟨hoff,hnm⟩,hu⟩,hl⟩:=hf
    have hoff:=eqB hoff
    generalize hxs:xs.drop o=xs' at ha
    generalize hys:ys.drop o=ys' at hb
    cases ha with
    | cons a1 a2 =>
     rename_i c1 r1
     cases hb with
     | cons b1 b2 =>
      rename_i c2 r2
      have gx:xs[o]? = some c1:=by
       have:=congrArg (·[0]?) hxs
       simpa using this
      have gy:ys[o]? = some c2:=by
       have:=congrArg (·[0]?) hys
       simpa using this
      have dx:xs.drop (o + 1)=r1:=by rw [←List.drop_drop,hxs]; rfl
      have dy:ys.drop (o + 1)=r2:=by rw [←List.drop_drop,hys]; rfl
      have ih:=JcK l (o + 1) xa bs xs ys hl fa.2 fb.2 (by rw [dx]; exact a2) (by rw [dy]; exact b2)
      have kn:JaH P f.type=true∧Jai P f.type=false:=by
       rcases fa.1 with ⟨_,_,q,_⟩ | ⟨_,q,_⟩ | ⟨_,q,_⟩ <;> simp [JaH,Jai,q]
      have p1:=Jee (P:=P) (w:=w) (T:=f.type) (xs:=xs.toArray) (off:=f.offset) (v:=c1) kn.1 kn.2 (by rw [hoff]; simpa using gx)
      have p2:=Jee (P:=P) (w:=w) (T:=f.type) (xs:=ys.toArray) (off:=f.offset) (v:=c2) kn.1 kn.2 (by rw [hoff]; simpa using gy)
      have he:(Op.equalIn 9999 f.type c1 c2).run P w=.ok (JfS x y) w:=by
       rcases fa.1 with ⟨k,n,q,rfl⟩ | ⟨s,q,rfl⟩ | ⟨s,q,rfl⟩
       · rcases fb.1 with ⟨k',m,q',rfl⟩ | ⟨_,q',_⟩ | ⟨_,q',_⟩
         · rw [q] at q'; cases q'
           rw [Jbd a1,Jbd b1]; exact run_equalIn_int w 9998 _ _ _ _ _ q
         · rw [q] at q'; cases q'
         · rw [q] at q'; cases q'
       · rcases fb.1 with ⟨_,_,q',_⟩ | ⟨t,q',rfl⟩ | ⟨_,q',_⟩
         · rw [q] at q'; cases q'
         · rw [Jbd a1,Jbd b1,run_equalIn_string w 9998 _ _ _ q]
           simp only [JfS,eqS,ByteArray.toList_eq]
         · rw [q] at q'; cases q'
       · rcases fb.1 with ⟨_,_,q',_⟩ | ⟨_,q',_⟩ | ⟨t,q',rfl⟩
         · rw [q] at q'; cases q'
         · rw [q] at q'; cases q'
         · rw [Jbd a1,Jbd b1]; exact run_equalIn_bool' w 9998 _ _ _ q
      simp only [Op.eqFields]
      rw [if_pos hnm]
      simp only [Sem.run_bind,p1,p2,he,Result.andThen_ok]
      cases hq:JfS x y with
      | false=>simp [Jbz,hq]
      | true=>simpa [Jbz,hq] using ih
theorem JkB {o:Oper} {op:BinOp} {T yT:TypeId} {x y:Operand} {K:Out→Option R} {env:Env} (hd:a.defers=[]) (h:Rel P G F Bs st a.tmps w) (ho:o.op=.binOp op T x y yT)
 (hk:opK P env (.binOp op T x y yT) o.type (opd st) K=some res):∃ out,K out=some res∧Eff P G st a w o out:=by
 have hrx:=Jag h x
 have hry:=Jag h y
 simp only [opK] at hk
 split at hk
 · rename_i u v hx hy
   rw [hx] at hrx; rw [hy] at hry
   have fin:∀ c z,(execOp a.eval o).run P w=.ok (.value c) w→K (JaM (.v z))=some res→c=z→∃ out,K out=some res∧Eff P G st a w o out:=by
    intro c z hr hz e
    subst e
    exact ⟨_,hz,Jab hr (JaF hd h (.v _))⟩
   unfold JkM at hk
   split at hk
   · rename_i k m k' n
     have e1:=Jbd hrx
     have e2:=Jbd hry
     have go:∀ v,(∀ T,(Go.binOp op T (.int k m) (.int k' n)).run P w=.ok v w)→(execOp a.eval o).run P w=.ok (.value v) w:=by
      intro v hv
      simp [execOp,ho,e1,e2,Jkr,hv]
     cases hs:Jde op with
     | true =>
      rw [hs,cond_true] at hk
      obtain ⟨v,h1,h2⟩:=JiU (P:=P) (w:=w) (k':=k') hk
      exact fin v v (go v h2) h1 rfl
     | false =>
      rw [hs,cond_false] at hk
      obtain ⟨h1,hk⟩:=Jaa hk
      rw [←JbQ h1] at go
      obtain ⟨v,h1,h2⟩:=Jg2 (P:=P) (w:=w) hs hk
      exact fin v v (go v h2) h1 rfl
   · rename_i m n
     have e1:=Jbd hrx
     have e2:=Jbd hry
     obtain ⟨v,h1,h2⟩:=Jg3 (P:=P) (w:=w) hk
     exact fin v v (by simp [execOp,ho,e1,e2,Jks,h2]) h1 rfl
   · rename_i xa bs
     obtain ⟨hq,hk⟩:=Jaa hk
     unfold eqT at hq
     split at hq
     · rename_i fs hu
       simp only [Bool.and_eq_true,Bool.not_eq_true'] at hq
       obtain ⟨⟨q1,q2⟩,q3⟩:=hq
       have hcks:cks P 20 T=fs.toList.flatMap fun f=>cks P 19 f.type:=by simp only [cks,hu]
       rw [hcks] at hk
       obtain ⟨hk,f1⟩:=JbN q1 hk
       obtain ⟨hk,f2⟩:=JbN q1 hk
       have hrx':RP F w (.agg xa) (a.eval x):=hrx
       have hry':RP F w (.agg bs) (a.eval y):=hry
       generalize hcx:a.eval x=c1 at hrx'
       generalize hcy:a.eval y=c2 at hry'
       cases hrx' with
       | agg ha ha2 =>
        rename_i xs
        cases hry' with
        | agg hb hb2 =>
         rename_i ys
         have hfo:P.fieldsOf T=fs:=by simp only [Program.fieldsOf,hu]
         have hrun:(Op.equalIn 10000 T (.agg xs.toArray) (.agg ys.toArray)).run P w=.ok (Jbz xa bs) w:=by
          rw [run_equalIn_struct w 9999 T _ _ (by rw [hfo]; exact hu) q2,hfo]
          exact JcK fs.toList 0 xa bs xs ys q1 f1 f2 (by simpa using ha) (by simpa using hb)
         have hg:=run_eqGuard_agg (P:=P) w op T x y xs.toArray ys.toArray q3
         unfold eqO at hk
         split at hk
         · exact fin _ _ (by simp [execOp,ho,hcx,hcy,hg,run_eql_struct,hrun]) hk rfl
         · exact fin _ _ (by simp [execOp,ho,hcx,hcy,hg,run_neq_struct,hrun]) hk rfl
         · cases hk
     · cases hq
   · rename_i m n
     have e1:=Jbd hrx
     have e2:=Jbd hry
     obtain ⟨hb,hk⟩:=Jaa hk
     have hu:=Jid hb
     have heq:(Op.equal T (.bool m) (.bool n)).run P w=.ok (m == n) w:=Jgt hu m n
     split at hk
     · exact fin _ _ (by simp [execOp,ho,e1,e2,Jj,Go.binOp,heq]) hk rfl
     · exact fin _ _ (by simp [execOp,ho,e1,e2,Jj,Go.binOp,heq]) hk rfl
     · cases hk
   · cases hk
 · cases hk
end
end Go.Proofs.YtmgfmlhdnadglaaGreatDoor.Th
set_option linter.unusedVariables false
set_option linter.unusedSimpArgs false
namespace Go.Proofs.YtmgfmlhdnadglaaGreatDoor.Th
open Go
variable {R:Type} {res:R}
section
variable {P:Program} {G:Gd} {F:Nat→Prop} {Bs:Nat→List Nat} {st:St} {a:Act} {w:World}
theorem Ja4 {l:List Value} (h:JaW l=true):∀ x∈l,x.oneCell'=true:=by
 induction l with
 | nil=>simp
 | cons y l ih =>
  simp only [JaW,Bool.and_eq_true] at h
  intro x hx
  rcases List.mem_cons.1 hx with rfl | hx
  · exact h.1
  · exact ih h.2 x hx
theorem Jb6 {T:TypeId} {zs:List Value} (h:JcG P T=some zs):∃ i z,P.info? T=some i∧i.zero=some z∧z.cells.size=i.size∧z.cells.toList=zs:=by
 unfold JcG at h
 split at h
 · rename_i i hi
   split at h
   · rename_i z hz
     cases hb:Nat.beq z.cells.size i.size with
     | false=>rw [hb] at h; cases h
     | true=>rw [hb] at h; simp only [cond_true,Option.some.injEq] at h; exact ⟨i,z,hi,hz,eqB hb,h⟩
   · cases h
 · cases h
theorem JjW (F:Nat→Prop) (w:World) (x:Value):RS P F w (zsv x) x []:=by
 unfold zsv
 split
 · exact .nl
 · exact .p (.v x)
theorem Jgd (F:Nat→Prop) (w:World):∀ l:List Value,RSs P F w (l.map zsv) l []
 | []=>.nil
 | x::l=>.cons (B:=[]) (JjW F w x) (Jgd F w l)
theorem Jcg (w:World) (o:Obj):(w.alloc o).heap[w.heap.size]? = some o:=by
 show (w.heap.push o)[w.heap.size]? = some o
 simp
theorem Jdh {d:Option Nat} {us:List (Nat × SV)} {T:TypeId} {cs:List SV} {cells:Array Value} {B:List Nat} (hd:a.defers=[]) (h:Rel P G F Bs (st.upS us []) a.tmps w)
 (hc:RSs P F w cs cells.toList B) (h1:∀ x∈cells.toList,x.oneCell'=true) (hn:B.Nodup) (hj:∀ i b,b∈B→b∉Bs i) (hf:∀ b∈B,¬ F b) (hw:∀ b∈B,G.W.heap.size≤b∨G.A b)
 (hl:∀ b∈B,b<w.heap.size):∀ hf:(⟨.bx T cs,none,us,[]⟩:Out).fits G.N d=true,
   SRel P G (st.put d ⟨.bx T cs,none,us,[]⟩) (a.put d (.pointer (some ⟨w.heap.size,0,none⟩))) (w.alloc (.cells cells T)):=by
 have hg:=h.grow (w':=w.alloc (.cells cells T)) (F':=F) (fun b hb=>alloc_old w _ b hb) (by simp) ⟨rfl,rfl,rfl⟩ (fun _ q=>q) (fun _ q=>.inl q)
 have hbx:RS P F (w.alloc (.cells cells T)) (.bx T cs) (.pointer (some ⟨w.heap.size,0,none⟩)) (w.heap.size::B) :=
  .bx (Jcg w _) (hc.mono (fun _ q=>q) fun b hb=>alloc_old w _ b (hb.elim (h.fl b) (hl b))) h1
 refine JaE hd hg hbx (List.nodup_cons.2 ⟨fun q=>Nat.lt_irrefl _ (hl _ q),hn⟩) ?_ ?_ ?_ ?_ (by simp)
 · intro i b hb hb'
   rcases List.mem_cons.1 hb with rfl | hb
   · exact Nat.lt_irrefl _ (h.lt i _ hb')
   · exact hj i b hb hb'
 · intro b hb hF
   rcases List.mem_cons.1 hb with rfl | hb
   · exact Nat.lt_irrefl _ (h.fl _ hF)
   · exact hf b hb hF
 · intro b hb
   rcases List.mem_cons.1 hb with rfl | hb
   · exact .inl h.kb.size
   · exact hw b hb
 · intro b hb
   rcases List.mem_cons.1 hb with rfl | hb
   · simp
   · have:=hl b hb; simp; omega
theorem JiG {o:Oper} {T:TypeId} {K:Out→Option R} {env:Env} (hd:a.defers=[]) (h:Rel P G F Bs st a.tmps w) (ho:o.op=.alloc T)
 (hk:opK P env (.alloc T) o.type (opd st) K=some res):∃ out,K out=some res∧Eff P G st a w o out:=by
 simp only [opK] at hk
 split at hk
 · rename_i zs hz
   obtain ⟨h1,hk⟩:=Jaa hk
   obtain ⟨i,z,hi,hzz,hsz,hzs⟩:=Jb6 hz
   have hrun:(execOp a.eval o).run P w=.ok (.value (.pointer (some ⟨w.heap.size,0,none⟩))) (w.alloc (.cells z.cells T)):=by
    simp [execOp,ho,Instr.alloc,zeroValue,typeInfo,hi,hzz,newVar,newRow]
   exact ⟨_,hk,fun hf=>⟨_,_,.inl hrun,Jdh hd (by rw [Jak]; exact h) (by rw [hzs]; exact Jgd F w zs) (by rw [hzs]; exact Ja4 h1) (by simp) (by simp) (by simp) (by simp) (by simp) hf⟩⟩
 · cases hk
theorem JkC {o:Oper} {T:TypeId} {x:Operand} {K:Out→Option R} {env:Env} (hd:a.defers=[]) (h:Rel P G F Bs st a.tmps w) (ho:o.op=.box T x)
 (hk:opK P env (.box T x) o.type (opd st) K=some res):∃ out,K out=some res∧Eff P G st a w o out:=by
 have hrx:=Jag h x
 have hrun:(execOp a.eval o).run P w=.ok (.value (.pointer (some ⟨w.heap.size,0,none⟩))) (w.alloc (.cells (a.eval x).cells T)):=by
  simp [execOp,ho,Instr.box,newVar,newRow]
 simp only [opK] at hk
 split at hk
 · rename_i n hn
   split at hk
   · rename_i y hx
     rw [hx] at hrx
     obtain ⟨hc,hk⟩:=Jaa hk
     simp only [Bool.and_eq_true] at hc
     have hcr:=Jc7 (F:=F) (w:=w) hrx hc.2
     exact ⟨_,hk,fun hf=>⟨_,_,.inl hrun,Jdh hd (by rw [Jak]; exact h) (RSs.pure hcr) (Jcp hcr hc.2) (by simp) (by simp) (by simp) (by simp) (by simp) hf⟩⟩
   · rename_i hx
     rw [hx] at hrx
     have hv:a.eval x=.slice none 0 0:=hrx
     obtain ⟨hc,hk⟩:=Jaa hk
     have hcl:(a.eval x).cells.toList=[.slice none 0 0]:=by rw [hv]; rfl
     exact ⟨_,hk,fun hf=>⟨_,_,.inl hrun,Jdh hd (by rw [Jak]; exact h) (by rw [hcl]; exact .cons (B:=[]) .nl .nil) (by rw [hcl]; simp [Value.oneCell']) (by simp) (by simp) (by simp) (by simp) (by simp) hf⟩⟩
   · rename_i s cx T2 es hx
     rw [hx] at hrx
     obtain ⟨hc,hk1⟩:=Jaa hk
     clear hk
     have hpl:=h.place hrx
     have hcl:(a.eval x).cells.toList=[a.eval x]∧(a.eval x).oneCell'=true:=by
      rcases JbW hpl.1 with ⟨e,_,_⟩ | ⟨g,cap,e,_,_,_⟩ <;> rw [e] <;> exact ⟨rfl,rfl⟩
     cases hdi:JaP x s cx with
     | true =>
      rw [hdi] at hk1
      obtain ⟨rfl,rfl⟩:=Jc hdi
      obtain ⟨g1,g2⟩:=h.own_inv hrx.1
      refine ⟨_,hk1,fun hf=>⟨_,_,.inl hrun,Jdh hd (h.empty s) (B:=Bs s) (by rw [hcl.1]; have:=RSs.cons (P:=P) g1 .nil; rw [List.append_nil] at this; exact this)
       (by rw [hcl.1]; simp [hcl.2]) (h.nd s) (fun i b hb=>?_) (h.nf s) (h.nw s) (h.lt s) hf⟩⟩
      by_cases hi:i=s
      · subst hi; rw [Jah]; simp
      · rw [Jaf _ _ hi]; exact h.dj s i b (Ne.symm hi) hb
     | false =>
      rw [hdi] at hk1
      obtain ⟨F',Bs',r1,r2,r3,r4⟩:=Jbs h hrx
      exact ⟨_,hk1,fun hf=>⟨_,_,.inl hrun,Jdh hd r1 (by rw [hcl.1]; exact .cons (B:=[]) (.p r2) .nil) (by rw [hcl.1]; simp [hcl.2]) (by simp) (by simp) (by simp) (by simp) (by simp) hf⟩⟩
   · cases hk
 · cases hk
theorem JeI:∀ (l:List Value) (k off:Nat) (cur:Array Value),off + k + l.length≤cur.size →
 ((l.zipIdx k).foldl (fun cs (q:Value × Nat)=>cs.setIfInBounds (off + q.2) q.1) cur).toList=cur.toList.take (off + k)++l++cur.toList.drop (off + k + l.length)
 | [],k,off,cur,h=>by simp
 | v::l,k,off,cur,h=>by
  simp only [List.zipIdx_cons,List.foldl_cons]
  have ih:=JeI l (k + 1) off (cur.setIfInBounds (off + k) v) (by simp at h ⊢; omega)
  rw [ih]
  have e:=list_seg_step cur.toList (off + k) v l (by simp at h ⊢; omega)
  simpa [Array.toList_setIfInBounds,Nat.add_assoc] using e
theorem JfU {off:Nat} {v:Value} {cur:Array Value} (h:off + v.cells.size≤cur.size) :
 (v.cells.zipIdx.foldl (fun cs (q:Value × Nat)=>cs.setIfInBounds (off + q.2) q.1) cur).toList=cur.toList.take off++v.cells.toList++cur.toList.drop (off + v.cells.size):=by
 have:=JeI v.cells.toList 0 off cur (by simpa using h)
 rw [←Array.foldl_toList,Array.toList_zipIdx]
 simpa using this
theorem RPs.splice {cs ys:List PV} {xs vs:List Value} (h:RPs F w cs xs) (hy:RPs F w ys vs) (off:Nat):RPs F w (Jaw cs off ys) (xs.take off++vs++xs.drop (off + vs.length)):=by
 unfold Jaw
 rw [hy.length]
 exact ((h.take off).append hy).append (h.drop _)
theorem JcM {a b:List PV} (h1:Jan a=true) (h2:Jan b=true):Jan (a++b)=true :=
 JaQ fun x hx=>(List.mem_append.1 hx).elim (JaG h1 x) (JaG h2 x)
theorem JbV {cs ys:List PV} (off:Nat) (h1:Jan cs=true) (h2:Jan ys=true):Jan (Jaw cs off ys)=true :=
 JcM (JcM (JaQ fun x hx=>JaG h1 x (List.mem_of_mem_take hx)) h2) (JaQ fun x hx=>JaG h1 x (List.mem_of_mem_drop hx))
theorem JgF {T:TypeId} {n:Nat} (h:Jal P T=some n):∃ i,P.info? T=some i∧i.size=n:=by
 unfold Jal at h
 cases hi:P.info? T with
 | none=>simp [hi] at h
 | some i=>simp [hi] at h; exact ⟨i,rfl,h⟩
theorem Jca:∀ {l:List Field},Jb8 P l=true→∃ places,l.mapM (fun f=>(P.info? f.type).map fun i=>(f.offset,i.size))=some places ∧
 ∀ (f:Nat) (fl:Field) (n:Nat),l[f]? = some fl→Jal P fl.type=some n→places[f]? = some (fl.offset,n)
 | [],_=>⟨[],rfl,by simp⟩
 | x::l,h=>by
  simp only [Jb8,Bool.and_eq_true] at h
  obtain ⟨places,h1,h2⟩:=Jca h.2
  cases hi:P.info? x.type with
  | none=>rw [hi] at h; simp at h
  | some i =>
   refine ⟨(x.offset,i.size)::places,by simp [List.mapM_cons,hi,h1],?_⟩
   intro f fl n hf hn
   cases f with
   | zero=>simp at hf; subst hf; simp [Jal,hi] at hn; simp [hn]
   | succ f=>simp at hf; simpa using h2 f fl n hf hn
theorem Jda {S:TypeId} {fs:Array Field} {places:List (Nat × Nat)} (hu:P.underlying S=some (.struct fs)) (hp:∀ (f:Nat) (fl:Field) (n:Nat),fs.toList[f]? = some fl→Jal P fl.type=some n→places[f]? = some (fl.offset,n)) :
 ∀ (l:List (Nat × PV)) (vs:List Value) (cs cs':List PV) (cur:Array Value),RPs F w (l.map (·.2)) vs→RPs F w cs cur.toList→Jan cs=true→Jdx P S l cs=some cs' →
  ∃ cur',Instr.fill (places.toArray[·]?) cur ((l.map (·.1)).zip vs)=some cur'∧RPs F w cs' cur'.toList∧Jan cs'=true
 | [],vs,cs,cs',cur,hv,hc,hl,hf=>by
  simp [Jdx] at hf; subst hf
  exact ⟨cur,rfl,hc,hl⟩
 | (f,y)::l,vs,cs,cs',cur,hv,hc,hl,hf=>by
  cases hv with
  | cons hy hv =>
   rename_i v vs
   simp only [Jdx] at hf
   split at hf
   · rename_i off T hfo
     split at hf
     · rename_i n hn
       obtain ⟨hcond,hf⟩:=Jaa hf
       simp only [Bool.and_eq_true] at hcond
       obtain ⟨⟨c1,c2⟩,c3⟩:=hcond
       have c1:=eqB c1
       have c2:off + n≤cs.length:=by simpa using c2
       obtain ⟨fs',fl,hu',hfl,rfl,rfl⟩:=Jfj hfo
       rw [hu] at hu'; cases hu'
       have hplace:=hp f fl n (by simpa using hfl) hn
       have hcell:=Jc7 hy c3
       have hvs:v.cells.size=n:=by rw [←c1,hcell.length]; simp
       have hcl:=hc.length
       have hle:fl.offset + v.cells.size≤cur.size:=by simp at hcl; omega
       have hone:=JfU hle
       have hsp:=hc.splice hcell fl.offset
       have e:v.cells.toList.length=v.cells.size:=by simp
       rw [e,←hone] at hsp
       obtain ⟨cur',q1,q2,q3⟩:=Jda hu hp l vs _ cs' _ hv hsp (JbV _ hl c3) hf
       refine ⟨cur',?_,q2,q3⟩
       simp only [List.map_cons,List.zip_cons_cons,Instr.fill]
       have hpl:places.toArray[f]? = some (fl.offset,n):=by simpa using hplace
       rw [hpl]
       simp only []
       rw [if_neg (by simp [hvs]; omega)]
       exact q1
     · cases hf
   · cases hf
theorem Jd {l:List (Nat × Operand)} (h:Rel P G F Bs st a.tmps w):∀ (j:Nat) (q:Operand × RV),(l.map fun q=>(q.2,opd st q.2))[j]? = some q→∃ c,(l.map fun q=>a.eval q.2)[j]? = some c∧RVR P F st.fr a.tmps w q.2 c:=by
 intro j q hj
 rw [List.getElem?_map] at hj
 cases hc:l[j]? with
 | none=>rw [hc] at hj; cases hj
 | some y =>
  rw [hc] at hj
  simp only [Option.map_some,Option.some.injEq] at hj
  subst hj
  exact ⟨a.eval y.2,by rw [List.getElem?_map,hc]; rfl,Jag h y.2⟩
theorem zip_map {l:List (Nat × Operand)} (f:Operand→Value):(l.map (·.1)).zip (l.map fun q=>f q.2)=l.map fun q=>(q.1,f q.2):=by
 induction l with
 | nil=>rfl
 | cons x l ih=>simp [ih]
theorem Jem {α:Type}:∀ {l:List Nat} {ys:List α},ys.length=l.length→(l.zip ys).map (·.2)=ys
 | [],[],_=>rfl
 | x::l,y::ys,h=>by simp at h; simp [Jem h]
theorem Jel {α:Type}:∀ {l:List Nat} {ys:List α},ys.length=l.length→(l.zip ys).map (·.1)=l
 | [],[],_=>rfl
 | x::l,y::ys,h=>by simp at h; simp [Jel h]
theorem JiH {o:Oper} {T:TypeId} {parts:Array (Nat × Operand)} {K:Out→Option R} {env:Env} (hd:a.defers=[]) (h:Rel P G F Bs st a.tmps w) (ho:o.op=.build T parts)
 (hk:opK P env (.build T parts) o.type (opd st) K=some res):∃ out,K out=some res∧Eff P G st a w o out:=by
 simp only [opK] at hk
 split at hk
 · rename_i fs zs ys us hu hz hv
   obtain ⟨hcond,hk⟩:=Jaa hk
   simp only [Bool.and_eq_true] at hcond
   obtain ⟨⟨c1,c2⟩,c3⟩:=hcond
   split at hk
   · rename_i cs hfill
     obtain ⟨F',Bs',r1,r2,r3,r4⟩:=Jbx (vs:=parts.toList.map fun q=>a.eval q.2) h (Jd h) (by simp) hv c1
     obtain ⟨i,z,hi,hzz,hsz,hzs⟩:=Jb6 hz
     obtain ⟨places,hp1,hp2⟩:=Jca c3
     have hlen:ys.length=(parts.toList.map (·.1)).length:=by rw [r2.length]; simp
     have hcs0:RPs F' w (zs.map cpv) z.cells.toList:=by rw [hzs]; exact JcS F' w zs
     have hl0:Jan (zs.map cpv)=true:=JaQ fun x hx=>by
      obtain ⟨v,hv,rfl⟩:=List.mem_map.1 hx
      exact JbD (Jfd F' w v) (Ja4 c2 v hv)
     obtain ⟨cur',q1,q2,q3⟩:=Jda (P:=P) hu hp2 _ _ _ _ z.cells (by rw [Jem hlen]; exact r2) hcs0 hl0 hfill
     rw [Jel hlen,zip_map] at q1
     have hb:P.built T (parts.map fun (i,x)=>(i,a.eval x)).toList=some cur':=by
      unfold Program.built
      rw [hi,hu]
      simp only [hzz,hp1]
      rw [←q1]
      congr 1
      simp
     have hrun:(execOp a.eval o).run P w=.ok (.value (.agg cur')) w:=by
      simp only [execOp,ho,Sem.run_bind,run_build w T _ cur' hb,Result.andThen_ok]
      rfl
     have hagg:=RP.agg q2 q3
     rw [show cur'.toList.toArray=cur' by simp] at hagg
     exact ⟨_,hk,Jab hrun (Jau hd r1 (.p hagg))⟩
   · cases hk
 · cases hk
theorem Jjj (F:Nat→Prop) (w:World):∀ l:List Value,RPs F w (l.map .v) l
 | []=>.nil
 | x::l=>.cons (.v x) (Jjj F w l)
theorem JjR {x:PV} {c:Value} (h:RP F w x c):RS P F w (psv x) c []:=by
 unfold psv
 split
 · rw [Jbd h]; exact .nl
 · exact .p h
theorem Jf7:∀ {l:List PV} {vs:List Value},RPs F w l vs→RSs P F w (l.map psv) vs []
 | [],_,h=>by cases h; exact .nil
 | x::l,_,h=>by cases h with | cons a b=>exact .cons (B:=[]) (JjR a) (Jf7 b)
theorem JhJ {o:Oper} {T:TypeId} {parts:Array (Nat × Operand)} {K:Out→Option R} (hd:a.defers=[]) (h:Rel P G F Bs st a.tmps w) (ho:o.op=.build T parts)
 (hk:Jc4 P T (parts.toList.map (·.1)) (JaS (parts.toList.map fun q=>(q.2,opd st q.2))) K=some res):∃ out,K out=some res∧Eff P G st a w o out:=by
 unfold Jc4 at hk
 split at hk
 · rename_i fs zs ys us hu hz hv
   obtain ⟨hcond,hk⟩:=Jaa hk
   simp only [Bool.and_eq_true] at hcond
   obtain ⟨⟨c1,c2⟩,c3⟩:=hcond
   split at hk
   · rename_i cs hfill
     obtain ⟨F',Bs',r1,r2,r3,r4⟩:=Jbx (vs:=parts.toList.map fun q=>a.eval q.2) h (Jd h) (by simp) hv c1
     obtain ⟨i,z,hi,hzz,hsz,hzs⟩:=Jb6 hz
     obtain ⟨places,hp1,hp2⟩:=Jca c3
     have hlen:ys.length=(parts.toList.map (·.1)).length:=by rw [r2.length]; simp
     have hcs0:RPs F' w (zs.map .v) z.cells.toList:=by rw [hzs]; exact Jjj F' w zs
     have hl0:Jan (zs.map .v)=true:=JaQ fun x hx=>by
      obtain ⟨v,hv,rfl⟩:=List.mem_map.1 hx
      exact Ja4 c2 v hv
     obtain ⟨cur',q1,q2,q3⟩:=Jda (P:=P) hu hp2 _ _ _ _ z.cells (by rw [Jem hlen]; exact r2) hcs0 hl0 hfill
     rw [Jel hlen,zip_map] at q1
     have hb:P.built T (parts.map fun (i,x)=>(i,a.eval x)).toList=some cur':=by
      unfold Program.built
      rw [hi,hu]
      simp only [hzz,hp1]
      rw [←q1]
      congr 1
      simp
     have hrun:(execOp a.eval o).run P w=.ok (.value (.agg cur')) w:=by
      simp only [execOp,ho,Sem.run_bind,run_build w T _ cur' hb,Result.andThen_ok]
      rfl
     have hst:RS P F' w (.st (cs.map psv)) (.agg cur'.toList.toArray) []:=.st (Jf7 q2) (Jcp q2 q3)
     rw [show cur'.toList.toArray=cur' by simp] at hst
     exact ⟨_,hk,Jab hrun (Jau hd r1 hst)⟩
   · cases hk
 · cases hk
end
end Go.Proofs.YtmgfmlhdnadglaaGreatDoor.Th
set_option linter.unusedVariables false
set_option linter.unusedSimpArgs false
namespace Go.Proofs.YtmgfmlhdnadglaaGreatDoor.Th
open Go
variable {R:Type} {res:R}
section
variable {P:Program} {G:Gd} {F:Nat→Prop} {Bs:Nat→List Nat} {st:St} {a:Act} {w:World}
theorem Jgb {T:TypeId} {ze:PV} (h:Je4 P T=some ze):∃ i z,P.info? T=some i∧i.zero=some z∧z.cells.size=i.size∧0<i.size ∧
 cellsOf ze=z.cells.toList.map cpv∧Jan (cellsOf ze)=true∧(∀ x∈z.cells.toList,x.oneCell'=true):=by
 unfold Je4 at h
 split at h
 · rename_i zs hz
   obtain ⟨i,z,hi,hzz,hsz,rfl⟩:=Jb6 hz
   cases hc:(JaW z.cells.toList&&Nat.blt 0 z.cells.toList.length&&(Jai P T||Nat.beq z.cells.toList.length 1)) with
   | false=>rw [hc] at h; cases h
   | true =>
    rw [hc] at h
    simp only [cond_true,Option.some.injEq] at h
    subst h
    simp only [Bool.and_eq_true,Bool.or_eq_true] at hc
    obtain ⟨⟨c1,c2⟩,c3⟩:=hc
    have hl:Jan (z.cells.toList.map cpv)=true:=JaQ fun x hx=>by
     obtain ⟨v,hv,rfl⟩:=List.mem_map.1 hx
     exact JbD (Jfd (fun _=>False) default v) (Ja4 c1 v hv)
    have he:cellsOf (mkE (Jai P T) (z.cells.toList.map cpv))=z.cells.toList.map cpv:=by
     cases hag:Jai P T with
     | true=>rfl
     | false =>
      rw [hag] at c3
      have h1:z.cells.toList.length=1:=by simpa using c3
      obtain ⟨v,hv⟩:=List.length_eq_one_iff.1 h1
      rw [hv] at hl ⊢
      have hlf:(cpv v).leaf=true:=JaG hl _ (by simp)
      show cellsOf (cpv v)=[cpv v]
      exact Ja1 hlf
    exact ⟨i,z,hi,hzz,hsz,(by have:0<z.cells.toList.length:=(by simpa using c2); simp at this; omega),he,by rw [he]; exact hl,Ja4 c1⟩
 · cases h
theorem Jdc {α:Type} (l:List α):∀ (n j:Nat) (x:α),j<n * l.length→l[j % l.length]? = some x→(List.replicate n l).flatten[j]? = some x
 | 0,j,x,h,_=>by simp at h
 | n + 1,j,x,h,hx=>by
  rw [List.replicate_succ,List.flatten_cons]
  by_cases hj:j<l.length
  · rw [List.getElem?_append_left hj]
    rwa [Nat.mod_eq_of_lt hj] at hx
  · rw [List.getElem?_append_right (by omega)]
    refine Jdc l n _ x ?_ ?_
    · rw [Nat.add_mul] at h; omega
    · rwa [←Nat.mod_eq_sub_mod (by omega)]
theorem Jb7 (z:Array Value) (n:Nat) (hz:0<z.size):(madeCells z (n * z.size)).toList=(List.replicate n z.toList).flatten:=by
 apply List.ext_getElem?
 intro j
 by_cases hj:j<n * z.size
 · have hm:j % z.size<z.size:=Nat.mod_lt _ hz
   have h1:(madeCells z (n * z.size)).toList[j]? = some z[j % z.size]:=by
    simp [madeCells,hj]
    rw [getElem!_pos z (j % z.size) hm]
   rw [h1,Jdc z.toList n j z[j % z.size] (by simpa using hj) (by simp [hm])]
 · rw [List.getElem?_eq_none (by simp [size_madeCells]; omega),List.getElem?_eq_none (by simp; omega)]
theorem JfW (n:Nat) (e:PV):Jbk (List.replicate n e)=(List.replicate n (cellsOf e)).flatten:=by
 induction n with
 | zero=>rfl
 | succ n ih=>rw [List.replicate_succ,JaN,ih,List.replicate_succ,List.flatten_cons]
theorem Jfu (F:Nat→Prop) (w:World) (l:List Value):∀ n,RPs F w (List.replicate n (l.map cpv)).flatten (List.replicate n l).flatten
 | 0=>.nil
 | n + 1=>by rw [List.replicate_succ,List.replicate_succ,List.flatten_cons,List.flatten_cons]; exact (JcS F w l).append (Jfu F w l n)
theorem Jho {d:Option Nat} {us:List (Nat × SV)} {E:TypeId} {es:List PV} {cells:Array Value} {n cap:Nat} {i:TypeInfo} {z:Value} (hd:a.defers=[])
 (h:Rel P G F Bs (st.upS us []) a.tmps w) (hi:P.info? E=some i) (hz:i.zero=some z) (hzs:z.cells.size=i.size) (hp:0<i.size)
 (hr:RPs F w (Jbk es) (cells.toList.take (n * i.size))) (he:∀ e∈es,(cellsOf e).length=i.size∧Jan (cellsOf e)=true) (hn:n=es.length) (hcs:cells.size=cap * i.size) (hnc:n≤cap) (hcm:cap≤maxLen) :
 ∀ hf:(⟨.own E es,none,us,[]⟩:Out).fits G.N d=true,
  SRel P G (st.put d ⟨.own E es,none,us,[]⟩) (a.put d (.slice (some ⟨w.heap.size,0,none⟩) n cap)) (w.alloc (.cells cells E)):=by
 have hg:=h.grow (w':=w.alloc (.cells cells E)) (F':=F) (fun b hb=>alloc_old w _ b hb) (by simp) ⟨rfl,rfl,rfl⟩ (fun _ q=>q) (fun _ q=>.inl q)
 have hown:(w.alloc (.cells cells E)).ownsRow 0 E i.size (.slice (some ⟨w.heap.size,0,none⟩) n cap) es.length (cells.toList.take (n * i.size)):=by
  refine ⟨?_,.inr ⟨w.heap.size,cap,cells,by rw [hn],Nat.zero_le _,Jcg w _,by omega,hcm,hcs,by rw [hn]⟩⟩
  rw [List.length_take,←hn]
  have:n * i.size≤cap * i.size:=Nat.mul_le_mul_right _ hnc
  simp; omega
 have hrs:RS P F (w.alloc (.cells cells E)) (.own E es) (.slice (some ⟨w.heap.size,0,none⟩) n cap) [w.heap.size] :=
  RS.own hi hz hzs hp hown (hr.mono (fun _ q=>q) fun b hb=>alloc_old w _ b (h.fl b hb)) he
 refine JaE hd hg hrs (by simp) ?_ ?_ ?_ ?_ (by simp)
 · intro j b hb hb'
   simp only [List.mem_singleton] at hb; subst hb
   exact Nat.lt_irrefl _ (h.lt j _ hb')
 · intro b hb hF
   simp only [List.mem_singleton] at hb; subst hb
   exact Nat.lt_irrefl _ (h.fl _ hF)
 · intro b hb
   simp only [List.mem_singleton] at hb; subst hb
   exact .inl h.kb.size
 · intro b hb
   simp only [List.mem_singleton] at hb; subst hb
   simp
theorem JfG {T:TypeId} {b:Nat} (h:JcJ P T=some b) {i:TypeInfo} (hi:P.info? T=some i):i.bytes=b:=by
 simp [JcJ,hi] at h; exact h
theorem JeT {o:Oper} {T:TypeId} {l c:Operand} {K:Out→Option R} {env:Env} (hd:a.defers=[]) (h:Rel P G F Bs st a.tmps w) (ho:o.op=.makeSlice T l c)
 (hk:opK P env (.makeSlice T l c) o.type (opd st) K=some res):∃ out,K out=some res∧Eff P G st a w o out:=by
 have hrl:=Jag h l
 have hrc:=Jag h c
 simp only [opK] at hk
 split at hk
 · rename_i E k1 n k2 m hE hl hc
   rw [hl] at hrl; rw [hc] at hrc
   have e1:=Jbd hrl
   have e2:=Jbd hrc
   split at hk
   · rename_i ze bytes hz hb
     obtain ⟨hcond,hk⟩:=Jaa hk
     simp only [Bool.and_eq_true,decide_eq_true_eq,Jbu] at hcond
     obtain ⟨⟨c1,c2⟩,c3,c4⟩:=hcond
     obtain ⟨i,z,hi,hzz,hzs,hpos,hce,hle,h1⟩:=Jgb hz
     have hby:=JfG hb hi
     have hbytes:(i.bytes:Int) * m≤281474976710656:=by
      have h3:bytes * m.toNat≤281474976710656:=by rw [Nat.mul_comm]; omega
      have e:((bytes * m.toNat:Nat):Int)≤281474976710656:=by omega
      rw [Int.natCast_mul,Int.toNat_of_nonneg (by omega)] at e
      rw [hby]; exact e
     have hmk:=run_make (P:=P) w T E i z (Ja2 hE) hi hzz k1 k2 n m c1 c2 hbytes (by omega)
     have hrun:(execOp a.eval o).run P w=.ok (.value (.slice (some ⟨w.heap.size,0,none⟩) n.toNat m.toNat)) (w.alloc (.cells (madeCells z.cells (m.toNat * i.size)) E)):=by
      have hex:execOp a.eval o=(do pure (.value (←Instr.makeSlice T (a.eval l) (a.eval c)))):=by unfold execOp; rw [ho]
      rw [hex,e1,e2,Sem.run_bind,hmk]; rfl
     have hnm:n.toNat≤m.toNat:=by omega
     have hflat:RPs F w (Jbk (List.replicate n.toNat ze)) ((madeCells z.cells (m.toNat * i.size)).toList.take (n.toNat * i.size)):=by
      rw [←hzs,Jb7 z.cells m.toNat (by omega),JfW,hce]
      have hr:=Jfu F w z.cells.toList n.toNat
      have:((List.replicate m.toNat z.cells.toList).flatten).take (n.toNat * z.cells.size)=(List.replicate n.toNat z.cells.toList).flatten:=by
       rw [show m.toNat=n.toNat + (m.toNat - n.toNat) by omega,←List.replicate_append_replicate,List.flatten_append]
       have hl:((List.replicate n.toNat z.cells.toList).flatten).length=n.toNat * z.cells.size:=by simp
       rw [←hl]; exact List.take_left
      rw [this]; exact hr
     refine ⟨_,hk,fun hf=>⟨_,_,.inl hrun,Jho hd (by rw [Jak]; exact h) hi hzz hzs hpos hflat ?_ (by simp) (by simp [size_madeCells]) hnm (by simp only [maxLen]; omega) hf⟩⟩
     intro e he
     rw [(List.mem_replicate.1 he).2]
     exact ⟨by rw [hce]; simp [hzs],hle⟩
   · cases hk
 · cases hk
theorem JbH:∀ (l:List (Nat × PV)) (es:List PV),(Jdq l es).length=es.length
 | [],es=>rfl
 | (i,y)::l,es=>by rw [Jdq,JbH l]; simp
theorem Jd9 {sz:Nat} {y:PV}:∀ {es:List PV} {i:Nat},(∀ e∈es,(cellsOf e).length=sz)→(cellsOf y).length=sz→i<es.length→Jbk (es.set i y)=Jaw (Jbk es) (i * sz) (cellsOf y)
 | [],i,_,_,hi=>by simp at hi
 | x::es,0,h,hy,hi=>by
  have hx:=h x (by simp)
  simp only [List.set_cons_zero,JaN,Jaw,Nat.zero_mul,List.take_zero,List.nil_append,Nat.zero_add]
  rw [hy,←hx,List.drop_left]
 | x::es,i + 1,h,hy,hi=>by
  have hx:=h x (by simp)
  have ih:=Jd9 (es:=es) (i:=i) (fun e he=>h e (by simp [he])) hy (by simp at hi; omega)
  simp only [List.set_cons_succ,JaN,ih,Jaw]
  have e1:(i + 1) * sz=(cellsOf x).length + i * sz:=by rw [hx,Nat.add_mul]; omega
  have e2:(cellsOf x++Jbk es).take ((cellsOf x).length + i * sz)=cellsOf x++(Jbk es).take (i * sz):=List.take_length_add_append _
  have e3:(cellsOf x++Jbk es).drop ((cellsOf x).length + i * sz + (cellsOf y).length)=(Jbk es).drop (i * sz + (cellsOf y).length):=by
   rw [Nat.add_assoc,List.drop_append,List.drop_eq_nil_of_le (by omega),List.nil_append]
   congr 1; omega
  rw [e1,e2,e3]
  simp
theorem JdQ {sz len:Nat}:∀ (l:List (Nat × PV)) (vs:List Value) (es:List PV) (cur:Array Value),RPs F w (l.map (·.2)) vs→RPs F w (Jbk es) cur.toList →
 (∀ e∈es,(cellsOf e).length=sz∧Jan (cellsOf e)=true)→es.length=len→Jdl sz len l=true →
 ∃ cur',Instr.fill (fun i=>some (i * sz,sz)) cur ((l.map (·.1)).zip vs)=some cur'∧RPs F w (Jbk (Jdq l es)) cur'.toList∧(∀ e∈Jdq l es,(cellsOf e).length=sz∧Jan (cellsOf e)=true)
 | [],vs,es,cur,hv,hc,he,hl,hok=>⟨cur,rfl,hc,he⟩
 | (i,y)::l,vs,es,cur,hv,hc,he,hl,hok=>by
  cases hv with
  | cons hy hv =>
   rename_i v vs
   simp only [Jdl,Bool.and_eq_true] at hok
   obtain ⟨⟨⟨c1,c2⟩,c3⟩,c4⟩:=hok
   have c1:i<len:=by simpa using c1
   have c2:=eqB c2
   have hcell:=Jc7 hy c3
   have hvs:v.cells.size=sz:=by rw [←c2,hcell.length]; simp
   have hcl:cur.size=len * sz:=by
    have:=hc.length
    rw [JaI fun e h=>(he e h).1] at this
    simp at this; rw [←this,hl]
   have hle:i * sz + v.cells.size≤cur.size:=by
    rw [hcl,hvs]
    have:(i + 1) * sz≤len * sz:=Nat.mul_le_mul_right _ c1
    rw [Nat.add_mul] at this; omega
   have hone:=JfU hle
   have hsp:=hc.splice hcell (i * sz)
   have e:v.cells.toList.length=v.cells.size:=by simp
   rw [e,←hone,←Jd9 (fun e h=>(he e h).1) c2 (by omega)] at hsp
   obtain ⟨cur',q1,q2,q3⟩:=JdQ l vs (es.set i y) _ hv hsp (fun e h=>by
    rcases List.mem_or_eq_of_mem_set h with h | h
    · exact he e h
    · rw [h]; exact ⟨c2,c3⟩) (by simpa using hl) c4
   refine ⟨cur',?_,q2,q3⟩
   simp only [List.map_cons,List.zip_cons_cons,Instr.fill]
   rw [if_neg (by simp [hvs]; omega)]
   exact q1
theorem Jdz {T E:TypeId} {len n:Nat} {i:TypeInfo} {z:Value} {parts:Array (Nat × Value)} {cur:Array Value} (hu:P.underlying T=some (.slice E)) (hn:Jal P E=some n)
 (hi:P.info? E=some i) (hz:i.zero=some z) (hl:len * n≤1000) (hf:Instr.fill (fun i=>some (i * n,n)) (madeCells z.cells (len * n)) parts.toList=some cur) :
 (Instr.buildSlice T len parts).run P w=.ok (.slice (some ⟨w.heap.size,0,none⟩) len len) (w.alloc (.cells cur E)):=by
 have hbig:¬ (len * n>2 ^ 24):=by omega
 have hz0:(zeroValue E).run P w=.ok z w:=by simp [zeroValue,typeInfo,hi,hz]
 unfold Instr.buildSlice
 simp only [Sem.run_bind,run_underlying hu,Result.andThen_ok,JaR hn]
 by_cases h0:len * n=0
 · have hq:(Array.range (len * n)).map (fun i=>(#[]:Array Value)[i % (#[]:Array Value).size]!)=madeCells z.cells (len * n):=by rw [h0]; simp [madeCells]
   simp only [if_neg hbig,if_pos h0,Sem.run_bind,Sem.run_pure,Result.andThen_ok,hq,hf]
   rfl
 · have hq:(Array.range (len * n)).map (fun i=>z.cells[i % z.cells.size]!)=madeCells z.cells (len * n):=rfl
   simp only [if_neg hbig,if_neg h0,Sem.run_bind,hz0,Sem.run_pure,Result.andThen_ok,hq,hf]
   rfl
theorem Jed {o:Oper} {T:TypeId} {len:Nat} {parts:Array (Nat × Operand)} {K:Out→Option R} {env:Env} (hd:a.defers=[]) (h:Rel P G F Bs st a.tmps w) (ho:o.op=.buildSlice T len parts)
 (hk:opK P env (.buildSlice T len parts) o.type (opd st) K=some res):∃ out,K out=some res∧Eff P G st a w o out:=by
 simp only [opK] at hk
 split at hk
 · rename_i E ys us hE hv
   split at hk
   · rename_i ze n hz hn
     obtain ⟨hcond,hk⟩:=Jaa hk
     simp only [Bool.and_eq_true] at hcond
     obtain ⟨⟨c1,c2⟩,c3⟩:=hcond
     have c2:len * n≤1000:=by simpa using c2
     obtain ⟨i,z,hi,hzz,hzs,hpos,hce,hle,h1⟩:=Jgb hz
     have hin:i.size=n:=by simp [Jal,hi] at hn; exact hn
     obtain ⟨F',Bs',r1,r2,r3,r4⟩:=Jbx (vs:=parts.toList.map fun q=>a.eval q.2) h (Jd h) (by simp) hv c1
     have hlen:ys.length=(parts.toList.map (·.1)).length:=by rw [r2.length]; simp
     have hze:∀ e∈List.replicate len ze,(cellsOf e).length=n∧Jan (cellsOf e)=true:=by
      intro e he
      rw [(List.mem_replicate.1 he).2]
      exact ⟨by rw [hce]; simp [hzs,hin],hle⟩
     have h0:RPs F' w (Jbk (List.replicate len ze)) (madeCells z.cells (len * n)).toList:=by
      rw [←hin,←hzs,Jb7 z.cells len (by omega),JfW,hce]
      exact Jfu F' w z.cells.toList len
     obtain ⟨cur',q1,q2,q3⟩:=JdQ _ _ _ _ (by rw [Jem hlen]; exact r2) h0 hze (by simp) c3
     rw [Jel hlen,zip_map] at q1
     have hcs:cur'.size=len * n:=by
      have:=q2.length
      rw [JaI fun e he=>(q3 e he).1,JbH] at this
      simp at this; omega
     have hrun:(execOp a.eval o).run P w=.ok (.value (.slice (some ⟨w.heap.size,0,none⟩) len len)) (w.alloc (.cells cur' E)):=by
      have e:(parts.map fun (i,x)=>(i,a.eval x)).toList=parts.toList.map fun q=>(q.1,a.eval q.2):=by simp
      have hq:Instr.fill (fun i=>some (i * n,n)) (madeCells z.cells (len * n)) (parts.map fun (i,x)=>(i,a.eval x)).toList=some cur':=by rw [e]; exact q1
      simp only [execOp,ho,Sem.run_bind,Jdz (Ja2 hE) hn hi hzz c2 hq,Result.andThen_ok]
      rfl
     refine ⟨_,hk,fun hf=>⟨_,_,.inl hrun,Jho hd r1 hi hzz hzs hpos (n:=len) (by rw [List.take_of_length_le (by simp [hcs,hin])]; exact q2) (by rw [hin]; exact q3) (by rw [JbH]; simp) (by rw [hcs,hin]) (Nat.le_refl _) ?_ hf⟩⟩
     have:len * 1≤len * n:=Nat.mul_le_mul_left _ (by omega)
     simp only [maxLen]; omega
   · cases hk
 · cases hk
end
end Go.Proofs.YtmgfmlhdnadglaaGreatDoor.Th
set_option linter.unusedVariables false
set_option linter.unusedSimpArgs false
namespace Go.Proofs.YtmgfmlhdnadglaaGreatDoor.Th
open Go
variable {R:Type} {res:R}
section
variable {P:Program} {G:Gd} {F:Nat→Prop} {Bs:Nat→List Nat} {st:St} {a:Act} {w:World}
theorem Jbb {T T':TypeId} {g o n:Nat} {v:Value} {cur:Array Value} (hs:Jal P T=some n) (hv:v.cells.size=n) (hg:w.heap[g]? = some (.cells cur T' (0,0)))
 (hle:o + n≤cur.size) (h1:∀ x∈v.cells.toList,x.oneCell'=true) :
 (Instr.storeAt T (.pointer (some ⟨g,o,none⟩)) v).run P w=.ok () (w.setRow g (cur.toList.take o++v.cells.toList++cur.toList.drop (o + v.cells.toList.length)).toArray):=by
 have hst:=run_storeCells_at P g o T' v.cells.toList 0 cur w hg (by simp; omega) h1
 simp only [Instr.storeAt,Instr.sureAddr,storeVar,Sem.run_bind,Sem.run_pure,Result.andThen_ok,JaR hs,hv,ne_eq,not_true_eq_false,if_false]
 simpa using hst
theorem Rel.storeBox (h:Rel P G F Bs st a.tmps w) {s off:Nat} {T:TypeId} {cs new:List SV} {vs:List Value} {Bn:List Nat} (hs:st.fr s=.bx T cs) (hnew:RSs P F w new vs Bn)
 (h1:∀ x∈vs,x.oneCell'=true) (hle:off + new.length≤cs.length) (hBn:∀ b∈Bn,(∀ i,b∉Bs i)∧¬ F b∧(G.W.heap.size≤b∨G.A b)∧b<w.heap.size) (hnd:Bn.Nodup) :
 ∃ b cur Bs',a.tmps.getD s undef=.pointer (some ⟨b,0,none⟩)∧w.heap[b]? = some (.cells cur T (0,0))∧cur.size=cs.length ∧
  Rel P G F Bs' (st.upS [(s,.bx T (cs.take off++new++cs.drop (off + new.length)))] [s]) a.tmps (w.setRow b (cur.toList.take off++vs++cur.toList.drop (off + vs.length)).toArray):=by
 obtain ⟨b,cur,B,e1,e2,e3,e4,e5⟩:=h.box_inv hs
 obtain ⟨B1,B2,B3,rfl,g1,g2,g3⟩:=Jc2 e3 off new.length
 have hsn:=h.nd s
 rw [e5] at hsn
 obtain ⟨n1,n2,n3⟩:=JhD hsn
 have hbs:b∈Bs s:=by rw [e5]; simp
 have hbF:¬ F b:=h.nf s b hbs
 have hm1:∀ x∈B1,x∈Bs s:=fun x hx=>by rw [e5]; simp [hx]
 have hm3:∀ x∈B3,x∈Bs s:=fun x hx=>by rw [e5]; simp [hx]
 have hb13:b∉B1++B3:=(List.nodup_cons.1 n1).1
 have hbn:b∉Bn:=fun q=>(hBn b q).1 s hbs
 obtain ⟨C,hC⟩:∃ C,C=(cur.toList.take off++vs++cur.toList.drop (off + vs.length)).toArray:=⟨_,rfl⟩
 have hoth:∀ x,x≠b→(w.setRow b C).heap[x]? = w.heap[x]? := fun x hx=>setRow_other w b x C hx
 have hvl:vs.length=new.length:=hnew.length.symm
 have mono:∀ {l:List SV} {v:List Value} {B:List Nat},RSs P F w l v B→b∉B→RSs P F (w.setRow b C) l v B:=fun hr hb =>
  hr.mono (fun _ q=>q) fun x hx=>hoth x fun e=>by subst e; exact hx.elim hbF hb
 have hcells:RSs P F (w.setRow b C) (cs.take off++new++cs.drop (off + new.length)) C.toList (B1++(Bn++B3)):=by
  have:=(mono g1 fun q=>hb13 (by simp [q])).join ((mono hnew hbn).join (mono g3 fun q=>hb13 (by simp [q])))
  have hCl:C.toList=cur.toList.take off++(vs++cur.toList.drop (off + new.length)):=by rw [hC,hvl]; simp
  rw [hCl,List.append_assoc]
  exact this
 have hone:∀ x∈C.toList,x.oneCell'=true:=by
  intro x hx
  rw [hC] at hx
  simp only [List.mem_append] at hx
  rcases hx with (hx | hx) | hx
  · exact e4 x (List.mem_of_mem_take hx)
  · exact h1 x hx
  · exact e4 x (List.mem_of_mem_drop hx)
 refine ⟨b,cur,upB Bs s (b::(B1++(Bn++B3))),e1,e2,by have:=e3.length; simp at this; omega,?_⟩
 rw [←hC]
 have hsz:(w.setRow b C).heap.size=w.heap.size:=by simp
 refine h.turn (drop:=[s]) (F':=F) (w':=w.setRow b C) (by rw [e1]; exact .bx (setRow_heap w b cur C T _ e2) hcells hone) ?_ ?_ (fun _ q=>q) (fun _ q=>.inl q) ?_
  (fun x _ hx=>hoth x fun e=>hx (by rw [e]; exact hbs)) (by omega) ⟨rfl,rfl,rfl⟩ (fun _ _ _ _ _=>.inl (by simp)) (fun _ _ _=>.inl (by simp))
 · intro x hx
   rcases List.mem_cons.1 hx with rfl | hx
   · exact .inl hbs
   · rcases List.mem_append.1 hx with hx | hx
     · exact .inl (hm1 x hx)
     · rcases List.mem_append.1 hx with hx | hx
       · obtain ⟨q1,q2,q3,q4⟩:=hBn x hx
         exact .inr ⟨fun ⟨i,hi⟩=>q1 i hi,q3,by omega⟩
       · exact .inl (hm3 x hx)
 · have n1':=List.nodup_cons.1 n1
   have n13:=List.nodup_append.1 n1'.2
   refine List.nodup_cons.2 ⟨fun q=>?_,List.nodup_append.2 ⟨n13.1,List.nodup_append.2 ⟨hnd,n13.2.1,?_⟩,?_⟩⟩
   · rcases List.mem_append.1 q with q | q
     · exact n1'.1 (by simp [q])
     · rcases List.mem_append.1 q with q | q
       · exact hbn q
       · exact n1'.1 (by simp [q])
   · intro x hx y hy e
     subst e
     exact (hBn x hx).1 s (hm3 x hy)
   · intro x hx y hy e
     subst e
     rcases List.mem_append.1 hy with q | q
     · exact (hBn x q).1 s (hm1 x hx)
     · exact n13.2.2 x hx x q rfl
 · intro x hx
   rcases List.mem_cons.1 hx with rfl | hx
   · exact hbF
   · rcases List.mem_append.1 hx with hx | hx
     · exact h.nf s x (hm1 x hx)
     · rcases List.mem_append.1 hx with hx | hx
       · exact (hBn x hx).2.1
       · exact h.nf s x (hm3 x hx)
theorem Jeg {α:Type} {l m r ys:List α} {k off:Nat} (hk:k≤l.length) (h:l.drop k=m++r) (hle:off + ys.length≤m.length) :
 l.take k++(m.take off++ys++m.drop (off + ys.length))++l.drop (k + m.length)=l.take (k + off)++ys++l.drop (k + off + ys.length):=by
 have hl:l=l.take k++(m++r):=by rw [←h,List.take_append_drop]
 have hkl:(l.take k).length=k:=by rw [List.length_take]; omega
 generalize l.take k=p at hl hkl
 subst hl
 subst hkl
 have e1:(p++(m++r)).drop (p.length + m.length)=r:=by rw [←List.drop_drop,List.drop_left,List.drop_left]
 have e2:(p++(m++r)).take (p.length + off)=p++m.take off:=by
  rw [List.take_length_add_append]
  congr 1
  rw [List.take_append_of_le_length (by omega)]
 have e3:(p++(m++r)).drop (p.length + off + ys.length)=m.drop (off + ys.length)++r:=by
  rw [Nat.add_assoc,←List.drop_drop,List.drop_left,List.drop_append_of_le_length hle]
 rw [e1,e2,e3]
 simp
theorem Jfz {α:Type} {l vs:List α} {o n:Nat} (h:o + vs.length≤n) (hn:n≤l.length) :
 (l.take o++vs++l.drop (o + vs.length)).take n=(l.take n).take o++vs++(l.take n).drop (o + vs.length):=by
 have h1:(l.take o).length=o:=by rw [List.length_take]; omega
 rw [List.take_take,Nat.min_eq_left (by omega),List.drop_take]
 rw [show n=(l.take o++vs).length + (n - (o + vs.length)) by rw [List.length_append,h1]; omega,List.take_length_add_append]
 congr 2
 rw [List.length_append,h1]; omega
theorem Rel.storeEl (h:Rel P G F Bs st a.tmps w) {s:Nat} {cx:Option (Nat × TypeId × List SV)} {T:TypeId} {es:List PV} {g n cap i off sz:Nat} {e e':PV} {new:List PV} {vs:List Value}
 (hp:JaZ st.fr a.tmps w s cx T es (.slice (some ⟨g,0,none⟩) n cap)) (hi:es[i]? = some e) (hsz:Jal P T=some sz) (hnew:RPs F w new vs) (hl:Jan new=true)
 (hle:off + new.length≤(cellsOf e).length) (he':cellsOf e'=Jaw (cellsOf e) off new) :
 ∃ cur Bs',w.heap[g]? = some (.cells cur T (0,0))∧i * sz + off + new.length≤cur.size ∧
  Rel P G F Bs' (st.upS [Jaz s cx (.own T (es.set i e'))] []) a.tmps (w.setRow g (cur.toList.take (i * sz + off)++vs++cur.toList.drop (i * sz + off + vs.length)).toArray) ∧
  (∀ i b,b∈Bs' i→b∈Bs i):=by
 have hpl:=h.place hp
 have hrs:=hpl.1
 cases hrs with
 | own q1 q2 q3 q4 q5 q6 q7 =>
  rename_i xs inf z
  have hs:inf.size=sz:=by simp [Jal,q1] at hsz; exact hsz
  rw [hs] at q3 q4 q5 q7
  have hall:∀ e∈es,(cellsOf e).length=sz:=fun e he=>(q7 e he).1
  rcases q5.2 with ⟨q,_⟩ | ⟨g',cap',cur,q,_,hg,hnc,hcm,hcs,htake⟩
  · simp at q
  · simp only [Value.slice.injEq,Option.some.injEq,Addr.mk.injEq,and_true,true_and] at q
    obtain ⟨rfl,rfl,rfl⟩:=q
    have hilt:=Jcr hi
    have he:=q7 e (List.mem_of_getElem? hi)
    obtain ⟨rest,hr⟩:=Jcm hall hi
    have hfl:=JaI hall
    have hvl:vs.length=new.length:=hnew.length.symm
    have hisz:i * sz + sz≤es.length * sz:=by
     have:(i + 1) * sz≤es.length * sz:=Nat.mul_le_mul_right _ hilt
     rwa [Nat.add_mul,Nat.one_mul] at this
    have hcap:es.length * sz≤cap * sz:=Nat.mul_le_mul_right _ hnc
    have hlen':(cellsOf e').length=sz:=by
     rw [he']; simp [Jaw]; omega
    have hflat:Jbk (es.set i e')=Jaw (Jbk es) (i * sz + off) new:=by
     rw [Jd9 hall hlen' hilt,he']
     have:=Jeg (l:=Jbk es) (k:=i * sz) (off:=off) (ys:=new) (by rw [hfl]; omega) hr hle
     unfold Jaw
     rw [←this]
     congr 2
     simp; omega
    obtain ⟨C,hC⟩:∃ C,C=(cur.toList.take (i * sz + off)++vs++cur.toList.drop (i * sz + off + vs.length)).toArray:=⟨_,rfl⟩
    have hCsize:C.size=cap * sz:=by
     rw [hC]; simp; omega
    have hoth:∀ x,x≠g→(w.setRow g C).heap[x]? = w.heap[x]? := fun x hx=>setRow_other w g x C hx
    have hgs:g∈Bs s:=hpl.2 g (by simp [blk,Value.ownBlock])
    have hgF:¬ F g:=h.nf s g hgs
    have hrel:=q6.splice hnew (i * sz + off)
    rw [←hflat] at hrel
    have hrow:(w.setRow g C).ownsRow 0 T sz (.slice (some ⟨g,0,none⟩) es.length cap) (es.set i e').length (xs.take (i * sz + off)++vs++xs.drop (i * sz + off + vs.length)):=by
     refine ⟨?_,.inr ⟨g,cap,C,by simp,Nat.zero_le _,setRow_heap w g cur C T _ hg,by simpa using hnc,hcm,hCsize,?_⟩⟩
     · have:=hrel.length
       rw [←this,JaI (sz:=sz) fun x hx=>?_]
       rcases List.mem_or_eq_of_mem_set hx with hx | hx
       · exact hall x hx
       · rw [hx]; exact hlen'
     · rw [hC,List.length_set,←htake]
       have:=Jfz (l:=cur.toList) (vs:=vs) (o:=i * sz + off) (n:=es.length * sz) (by omega) (by simp [hcs]; omega)
       simpa using this
    have hnew':RS P F (w.setRow g C) (.own T (es.set i e')) (.slice (some ⟨g,0,none⟩) es.length cap) [g]:=by
     refine RS.own q1 q2 (by rw [hs]; exact q3) (by rw [hs]; exact q4) (by rw [hs]; exact hrow) (hrel.mono (fun _ q=>q) fun b hb=>hoth b fun e=>hgF (by rw [←e]; exact hb)) ?_
     intro x hx
     rw [hs]
     rcases List.mem_or_eq_of_mem_set hx with hx | hx
     · exact q7 x hx
     · rw [hx]; exact ⟨hlen',by rw [he']; exact JbV _ he.2 hl⟩
    have hsz1:(w.setRow g C).heap.size=w.heap.size:=by simp
    obtain ⟨Bs',r1,r2,r3⟩:=h.turnPl hp (F':=F) hnew' (by simp [blk,Value.ownBlock]) (by simp) (fun _ q=>q) (fun _ q=>.inl q) (by simpa using hgF)
     (fun b _ hb=>hoth b fun e=>hb (by simp [blk,Value.ownBlock,e])) (by omega) ⟨rfl,rfl,rfl⟩ (by simp)
    exact ⟨cur,Bs',hg,by rw [hcs]; omega,by rw [←hC]; exact r1,r2⟩
theorem Jh0 {cs:List SV} {off:Nat} {x:SV} (h:off<cs.length):cs.set off x=cs.take off++[x]++cs.drop (off + [x].length):=by
 rw [List.set_eq_take_append_cons_drop,if_pos h]
 simp
theorem JbU {d:Option Nat} {us:List (Nat × SV)} {drop:List Nat} {c:Value} {w':World} (hd:a.defers=[]) (h:Rel P G F Bs (st.upS us drop) a.tmps w') :
 (⟨.dead,none,us,drop⟩:Out).fits G.N d=true→SRel P G (st.put d ⟨.dead,none,us,drop⟩) (a.put d c) w' :=
 Jau hd h (.dead _)
theorem JaO {o:Oper} {T:TypeId} {x y:Operand} {w':World} (ho:o.op=.store T x y) (hr:(Instr.storeAt T (a.eval x) (a.eval y)).run P w=.ok () w'):(execOp a.eval o).run P w=.ok .skip w':=by
 have hex:execOp a.eval o=(do Instr.storeAt T (a.eval x) (a.eval y); pure .skip):=by unfold execOp; rw [ho]
 rw [hex,Sem.run_bind,hr]; rfl
theorem JfA (fr:Fr) {s t:Nat} (x y:SV) (h:s≠t):JaA fr [(s,x),(t,y)]=JaA fr [(t,y),(s,x)]:=by
 funext i
 simp only [JaA]
 by_cases h1:i=s
 · subst h1
   rw [Jar _ _ h,JaK,JaK]
 · by_cases h2:i=t
   · subst h2
     rw [JaK,Jar _ _ h1,JaK]
   · rw [Jar _ _ h2,Jar _ _ h1,Jar _ _ h1,Jar _ _ h2]
theorem Jek (st:St) {p q:Nat × SV} (dr:List Nat) (h:p.1≠q.1):st.upS [p,q] dr=st.upS [q,p] dr:=by
 obtain ⟨s,x⟩:=p
 obtain ⟨t,y⟩:=q
 simp only [St.upS,JfA st.fr x y h]
theorem Jkc {i n:Nat} (h:Nat.blt i n=true):i<n:=by simpa using h
theorem Jg5 {i n:Nat} (h:Nat.ble i n=true):i≤n:=by simpa using h
theorem JhL {o:Oper} {T:TypeId} {x y:Operand} {K:Out→Option R} (hd:a.defers=[]) (h:Rel P G F Bs st a.tmps w) (ho:o.op=.store T x y) (hs1:Jal P T=some 1)
 (hk:Jei P (opd st x) y (opd st y) K=some res):∃ out,K out=some res∧Eff P G st a w o out:=by
 have hrx:=Jag h x
 have hry:=Jag h y
 unfold Jei at hk
 split at hk
 · rename_i s off Tb cs hx
   rw [hx] at hrx
   obtain ⟨h1,b,h2,h3⟩:=hrx
   obtain ⟨hlt,hk1⟩:=Jaa hk
   have hlt:=Jkc hlt
   clear hk
   have one:∀ (F1:Nat→Prop) (Bs1:Nat→List Nat) (us:List (Nat × SV)) (z:SV) (Bz:List Nat),Rel P G F1 Bs1 (st.upS us []) a.tmps w→(st.upS us []).fr s=.bx Tb cs→RS P F1 w z (a.eval y) Bz →
    (a.eval y).oneCell'=true→(∀ b∈Bz,(∀ i,b∉Bs1 i)∧¬ F1 b∧(G.W.heap.size≤b∨G.A b)∧b<w.heap.size)→Bz.Nodup→(∀ p∈us,p.1≠s)→us.length≤1 →
    K ⟨.dead,none,(s,.bx Tb (cs.set off z))::us,[s]⟩=some res→∃ out,K out=some res∧Eff P G st a w o out:=by
    intro F1 Bs1 us z Bz hrel hfr hz hone hBz hnd hus hul hk
    have hcl:(a.eval y).cells=#[a.eval y]:=Jdn hone
    obtain ⟨b',cur,Bs',g1,g2,g3,g4⟩:=hrel.storeBox (off:=off) (new:=[z]) (vs:=[a.eval y]) hfr (by have:=RSs.cons (P:=P) hz .nil; rw [List.append_nil] at this; exact this)
     (by simp [hone]) (by simp; omega) hBz hnd
    rw [h2] at g1; cases g1
    rw [←Jh0 hlt,JbZ] at g4
    have hsw:us++[(s,.bx Tb (cs.set off z))]=us++[(s,.bx Tb (cs.set off z))]:=rfl
    have g5:Rel P G F1 Bs' (st.upS ((s,.bx Tb (cs.set off z))::us) [s]) a.tmps (w.setRow b (cur.toList.take off++[a.eval y]++cur.toList.drop (off + [a.eval y].length)).toArray):=by
     cases us with
     | nil=>exact g4
     | cons p l =>
      have hl:l=[]:=by cases l with | nil=>rfl | cons _ _=>simp at hul
      subst hl
      rw [Jek st [s] (by exact (hus p (by simp)).symm)]
      exact g4
    have hst:=Jbb (P:=P) (w:=w) (T':=Tb) (o:=off) (v:=a.eval y) hs1 (by rw [hcl]; rfl) g2 (by omega) (by rw [hcl]; simp [hone])
    rw [hcl] at hst
    rw [←h3] at hst
    exact ⟨_,hk,fun hf=>⟨undef,_,.inr ⟨JaO ho hst,rfl⟩,JbU hd g5 hf⟩⟩
   split at hk1
   · rename_i z hy
     rw [hy] at hry
     obtain ⟨hl,hk2⟩:=Jaa hk1
     exact one F Bs [] (.p z) [] (by rw [Jak]; exact h) h1 (.p hry) (JcV hry hl) (by simp) (by simp) (by simp) (by simp) hk2
   · rename_i hy
     rw [hy] at hry
     have hv:a.eval y=.slice none 0 0:=hry
     exact one F Bs [] .nl [] (by rw [Jak]; exact h) h1 (by rw [hv]; exact .nl) (by rw [hv]; rfl) (by simp) (by simp) (by simp) (by simp) hk1
   · rename_i s2 cx2 T2 es2 hy
     rw [hy] at hry
     have hpl:=h.place hry
     have hone:(a.eval y).oneCell'=true:=by
      rcases JbW hpl.1 with ⟨e,_,_⟩ | ⟨g,cap,e,_,_,_⟩ <;> rw [e] <;> rfl
     cases hne:Nat.beq s2 s with
     | true=>rw [hne] at hk1; cases hk1
     | false =>
      rw [hne,cond_false] at hk1
      have hne:=neB hne
      cases hdi:JaP y s2 cx2 with
      | true =>
       rw [hdi] at hk1
       obtain ⟨rfl,rfl⟩:=Jc hdi
       obtain ⟨g1,g2⟩:=h.own_inv hry.1
       have hev:a.eval (.tmp s2)=a.tmps.getD s2 undef:=rfl
       refine one F (upB Bs s2 []) [(s2,.dead)] (.own T2 es2) (Bs s2) (h.empty s2) ?_ g1 hone (fun b hb=>⟨fun i=>?_,h.nf s2 b hb,h.nw s2 b hb,h.lt s2 b hb⟩) (h.nd s2) (by simpa using hne) (by simp) hk1
       · show JdU st.fr s2 .dead s=_
         rw [Jar _ _ (Ne.symm hne)]; exact h1
       · by_cases hi:i=s2
         · subst hi; rw [Jah]; simp
         · rw [Jaf _ _ hi]; exact h.dj s2 i b (Ne.symm hi) hb
      | false =>
       rw [hdi] at hk1
       obtain ⟨F',Bs',r1,r2,r3,r4⟩:=Jbs h hry
       refine one F' Bs' [Jaz s2 cx2 (.p (.sh es2))] (.p (.sh es2)) [] r1 ?_ (.p r2) hone (by simp) (by simp) (by simpa [JaX] using hne) (by simp) hk1
       show JaA st.fr [Jaz s2 cx2 (.p (.sh es2))] s=_
       rw [Jaq _ _ _ (by simpa [JaX] using Ne.symm hne)]; exact h1
   · cases hk1
 · rename_i s cx T' es i off hx
   rw [hx] at hrx
   obtain ⟨g,n,cap,sz,h1,h2,h3,h4⟩:=hrx
   have hn:=JfR h h1
   have hget:=JbA (d:=.v (.bool false)) (by omega:i<es.length)
   obtain ⟨xs,k1,k2,k3,k4⟩:=JhT (h.place h1).1 h3 hget
   have one:∀ (F1:Nat→Prop) (Bs1:Nat→List Nat) (us:List (Nat × SV)) (z:PV),Rel P G F1 Bs1 (st.upS us []) a.tmps w→JaZ (st.upS us []).fr a.tmps w s cx T' es (.slice (some ⟨g,0,none⟩) n cap) →
    RP F1 w z (a.eval y)→(a.eval y).oneCell'=true→(∀ p∈us,p.1≠s)→us.length≤1 →
    Jgl P T' (es.getD i (.v (.bool false))) (fun ys=>bif Nat.blt off ys.length then K ⟨.dead,none,Jaz s cx (.own T' (es.set i (mkE (Jai P T') (ys.set off z))))::us,[]⟩ else none)=some res →
    ∃ out,K out=some res∧Eff P G st a w o out:=by
    intro F1 Bs1 us z hrel hp hz hone hus hul hk
    obtain ⟨hk,hl,hm,hna⟩:=JbO hk
    obtain ⟨hlt,hk⟩:=Jaa hk
    have hlt:=Jkc hlt
    have hcl:(a.eval y).cells=#[a.eval y]:=Jdn hone
    have hzl:z.leaf=true:=JbD hz hone
    have hset:(cellsOf (es.getD i (.v (.bool false)))).set off z=Jaw (cellsOf (es.getD i (.v (.bool false)))) off [z]:=by
     unfold Jaw
     rw [List.set_eq_take_append_cons_drop,if_pos hlt]
     simp
    have hce:cellsOf (mkE (Jai P T') ((cellsOf (es.getD i (.v (.bool false)))).set off z))=Jaw (cellsOf (es.getD i (.v (.bool false)))) off [z]:=by
     cases hag:Jai P T' with
     | true=>rw [←hset]; rfl
     | false =>
      have hlf:=Ja1 (hna hag)
      rw [hlf] at hlt ⊢
      have h0:off=0:=by simp at hlt; exact hlt
      subst h0
      simp [mkE,Jaw,Ja1 hzl]
    obtain ⟨cur,Bs',g1,g2,g3,g4⟩:=hrel.storeEl (off:=off) (new:=[z]) (vs:=[a.eval y]) hp hget h3 (.cons hz .nil) (by simp [Jan,hzl]) (by show off + 1≤_; omega) hce
    rw [JbZ] at g3
    have g5:Rel P G F1 Bs' (st.upS (Jaz s cx (.own T' (es.set i (mkE (Jai P T') ((cellsOf (es.getD i (.v (.bool false)))).set off z))))::us) []) a.tmps
     (w.setRow g (cur.toList.take (i * sz + off)++[a.eval y]++cur.toList.drop (i * sz + off + [a.eval y].length)).toArray):=by
     cases us with
     | nil=>exact g3
     | cons p l =>
      have hl:l=[]:=by cases l with | nil=>rfl | cons _ _=>simp at hul
      subst hl
      rw [Jek st [] (by rw [JaX]; exact (hus p (by simp)).symm)]
      exact g3
    have hst:=Jbb (P:=P) (w:=w) (T':=T') (o:=i * sz + off) (v:=a.eval y) hs1 (by rw [hcl]; rfl) g1 (by simpa using g2) (by rw [hcl]; simp [hone])
    rw [hcl] at hst
    rw [←h4] at hst
    exact ⟨_,hk,fun hf=>⟨undef,_,.inr ⟨JaO ho hst,rfl⟩,JbU hd g5 hf⟩⟩
   split at hk
   · rename_i z hy
     rw [hy] at hry
     obtain ⟨hl,hk⟩:=Jaa hk
     exact one F Bs [] z (by rw [Jak]; exact h) h1 hry (JcV hry hl) (by simp) (by simp) hk
   · rename_i hy
     rw [hy] at hry
     have hv:a.eval y=.slice none 0 0:=hry
     exact one F Bs [] (.sh []) (by rw [Jak]; exact h) h1 (by rw [hv]; exact JcI F w) (by rw [hv]; rfl) (by simp) (by simp) hk
   · rename_i s2 cx2 T2 es2 hy
     rw [hy] at hry
     have hpl:=h.place hry
     have hone:(a.eval y).oneCell'=true:=by
      rcases JbW hpl.1 with ⟨e,_,_⟩ | ⟨g,cap,e,_,_,_⟩ <;> rw [e] <;> rfl
     cases hne:Nat.beq s2 s with
     | true=>rw [hne] at hk; cases hk
     | false =>
      rw [hne,cond_false] at hk
      have hne:=neB hne
      obtain ⟨F',Bs',r1,r2,r3,r4⟩:=Jbs h hry
      refine one F' Bs' [Jaz s2 cx2 (.p (.sh es2))] (.sh es2) r1 ?_ r2 hone (by simpa [JaX] using hne) (by simp) hk
      have hfr:(st.upS [Jaz s2 cx2 (.p (.sh es2))] []).fr s=st.fr s:=Jaq _ _ _ (by simpa [JaX] using Ne.symm hne)
      cases cx with
      | none=>exact ⟨by rw [hfr]; exact h1.1,h1.2⟩
      | some q=>obtain ⟨j,Tb,cs⟩:=q; exact ⟨by rw [hfr]; exact h1.1,h1.2⟩
   · cases hk
 · cases hk
end
end Go.Proofs.YtmgfmlhdnadglaaGreatDoor.Th
set_option linter.unusedVariables false
set_option linter.unusedSimpArgs false
namespace Go.Proofs.YtmgfmlhdnadglaaGreatDoor.Th
open Go
variable {R:Type} {res:R}
section
variable {P:Program} {G:Gd} {F:Nat→Prop} {Bs:Nat→List Nat} {st:St} {a:Act} {w:World}
theorem JhM {o:Oper} {T:TypeId} {x y:Operand} {n:Nat} {K:Out→Option R} (hd:a.defers=[]) (h:Rel P G F Bs st a.tmps w) (ho:o.op=.store T x y) (hsn:Jal P T=some n)
 (hk:Jej P n (opd st x) (opd st y) K=some res):∃ out,K out=some res∧Eff P G st a w o out:=by
 have hrx:=Jag h x
 have hry:=Jag h y
 unfold Jej at hk
 split at hk
 · rename_i zs hy
   rw [hy] at hry
   obtain ⟨hc,hk⟩:=Jaa hk
   simp only [Bool.and_eq_true] at hc
   have hzn:=eqB hc.1
   have hzl:=hc.2
   have hry':RP F w (.agg zs) (a.eval y):=hry
   obtain ⟨vs,hv,hvs⟩:∃ vs:List Value,a.eval y=.agg vs.toArray∧RPs F w zs vs:=by
    generalize a.eval y=c at hry'
    cases hry' with | agg p q=>exact ⟨_,rfl,p⟩
   have hvl:vs.length=n:=by rw [←hvs.length,hzn]
   have hone:∀ v∈vs,v.oneCell'=true:=Jcp hvs hzl
   have hcl:(a.eval y).cells.toList=vs:=by rw [hv]; rfl
   have hcz:(a.eval y).cells.size=n:=by rw [←hvl,←hcl]; simp
   split at hk
   · rename_i s off Tb cs hx
     rw [hx] at hrx
     obtain ⟨h1,b,h2,h3⟩:=hrx
     obtain ⟨hle,hk1⟩:=Jaa hk
     have hle:=Jg5 hle
     obtain ⟨b',cur,Bs',g1,g2,g3,g4⟩:=h.storeBox (off:=off) (new:=zs.map .p) (vs:=vs) (Bn:=[]) h1 (RSs.pure hvs) hone (by simp; omega) (by simp) (by simp)
     rw [h2] at g1; cases g1
     have hsp:cs.take off++zs.map SV.p++cs.drop (off + (zs.map SV.p).length)=splice cs off zs:=by simp [splice]
     rw [hsp] at g4
     have hst:=Jbb (P:=P) (w:=w) (T':=Tb) (o:=off) (v:=a.eval y) hsn hcz g2 (by omega) (by rw [hcl]; exact hone)
     rw [hcl,←h3] at hst
     exact ⟨_,hk1,fun hf=>⟨undef,_,.inr ⟨JaO ho hst,rfl⟩,JbU hd g4 hf⟩⟩
   · rename_i s cx T' es i off hx
     rw [hx] at hrx
     obtain ⟨g,n',cap,sz,h1,h2,h3,h4⟩:=hrx
     have hn:=JfR h h1
     have hget:=JbA (d:=.v (.bool false)) (by omega:i<es.length)
     obtain ⟨hk1,hl,hm,hna⟩:=JbO hk
     obtain ⟨hle,hk2⟩:=Jaa hk1
     have hle:=Jg5 hle
     have hce:cellsOf (mkE (Jai P T') (Jaw (cellsOf (es.getD i (.v (.bool false)))) off zs))=Jaw (cellsOf (es.getD i (.v (.bool false)))) off zs:=by
      cases hag:Jai P T' with
      | true=>rfl
      | false =>
       have hlf:=Ja1 (hna hag)
       rw [hlf] at hle ⊢
       have hls:(Jaw [es.getD i (.v (.bool false))] off zs).length=1:=by
        simp [Jaw]; simp at hle; omega
       obtain ⟨q,hq⟩:=List.length_eq_one_iff.1 hls
       have hql:q.leaf=true:=JaG (JbV (cs:=[es.getD i (.v (.bool false))]) off (by simp only [Jan,Bool.and_true]; exact hna hag) hzl) q (by rw [hq]; simp)
       rw [hq]
       exact Ja1 hql
     obtain ⟨cur,Bs',g1,g2,g3,g4⟩:=h.storeEl (off:=off) (new:=zs) (vs:=vs) h1 hget h3 hvs hzl (by rw [hzn]; exact hle) hce
     have hst:=Jbb (P:=P) (w:=w) (T':=T') (o:=i * sz + off) (v:=a.eval y) hsn hcz g1 (by omega) (by rw [hcl]; exact hone)
     rw [hcl,←h4] at hst
     exact ⟨_,hk2,fun hf=>⟨undef,_,.inr ⟨JaO ho hst,rfl⟩,JbU hd g3 hf⟩⟩
   · cases hk
 · rename_i s2 ds hy
   rw [hy] at hry
   obtain ⟨hdn,hk⟩:=Jaa hk
   have hdn:=eqB hdn
   split at hk
   · rename_i s off Tb cs hx
     rw [hx] at hrx
     obtain ⟨h1,b,h2,h3⟩:=hrx
     obtain ⟨hc,hk1⟩:=Jaa hk
     simp only [Bool.and_eq_true,Bool.not_eq_true'] at hc
     have hne:=neB hc.1
     have hle:=Jg5 hc.2
     have hsl:=h.sl s2
     rw [hry.1,hry.2] at hsl
     obtain ⟨vs,hv,hvs,hone⟩:∃ vs:List Value,a.eval y=.agg vs.toArray∧RSs P F w ds vs (Bs s2)∧∀ x∈vs,x.oneCell'=true:=by
      generalize a.eval y=c at hsl
      generalize Bs s2=B at hsl
      cases hsl with | st p q=>exact ⟨_,rfl,p,q⟩
     have hvl:vs.length=n:=by rw [←hvs.length,hdn]
     have hcl:(a.eval y).cells.toList=vs:=by rw [hv]; rfl
     have hcz:(a.eval y).cells.size=n:=by rw [←hvl,←hcl]; simp
     have hfr:(st.upS [(s2,.dead)] []).fr s=.bx Tb cs:=by
      show JdU st.fr s2 .dead s=_
      rw [Jar _ _ (Ne.symm hne)]; exact h1
     obtain ⟨b',cur,Bs',g1,g2,g3,g4⟩:=(h.empty s2).storeBox (off:=off) (new:=ds) (vs:=vs) (Bn:=Bs s2) hfr hvs hone (by rw [hdn]; exact hle)
      (fun b hb=>⟨fun i=>by
        by_cases hi:i=s2
        · subst hi; rw [Jah]; simp
        · rw [Jaf _ _ hi]; exact h.dj s2 i b (Ne.symm hi) hb,h.nf s2 b hb,h.nw s2 b hb,h.lt s2 b hb⟩) (h.nd s2)
     rw [h2] at g1; cases g1
     rw [JbZ,hdn] at g4
     have g5:Rel P G F Bs' (st.upS [(s,.bx Tb (cs.take off++ds++cs.drop (off + n))),(s2,.dead)] [s]) a.tmps (w.setRow b (cur.toList.take off++vs++cur.toList.drop (off + vs.length)).toArray):=by
      rw [Jek st [s] (by exact (Ne.symm hne))]
      exact g4
     have hst:=Jbb (P:=P) (w:=w) (T':=Tb) (o:=off) (v:=a.eval y) hsn hcz g2 (by omega) (by rw [hcl]; exact hone)
     rw [hcl,←h3] at hst
     exact ⟨_,hk1,fun hf=>⟨undef,_,.inr ⟨JaO ho hst,rfl⟩,JbU hd g5 hf⟩⟩
   · cases hk
 · cases hk
theorem JiN {o:Oper} {T:TypeId} {x y:Operand} {K:Out→Option R} {env:Env} (hd:a.defers=[]) (h:Rel P G F Bs st a.tmps w) (ho:o.op=.store T x y)
 (hk:opK P env (.store T x y) o.type (opd st) K=some res):∃ out,K out=some res∧Eff P G st a w o out:=by
 simp only [opK] at hk
 cases hag:Jai P T with
 | true =>
  rw [hag] at hk
  simp only [cond_true] at hk
  split at hk
  · rename_i n hn; exact JhM hd h ho hn hk
  · cases hk
 | false =>
  rw [hag] at hk
  simp only [cond_false] at hk
  split at hk
  · rename_i n hn
    obtain ⟨h1,hk⟩:=Jaa hk
    rw [eqB h1] at hn
    exact JhL hd h ho hn hk
  · cases hk
theorem Jbg {o:Oper} {b:Builtin} {args:Array Operand} {tys:Array TypeId} {v:Value} {w':World} (ho:o.op=.call { callee:=.builtin b,args:=args,argTypes:=tys })
 (hr:(builtin b tys o.type (args.map fun | .const _=>true | _=>false) (args.map a.eval)).run P w=.ok (.value v) w'):(execOp a.eval o).run P w=.ok (.value v) w':=by
 have hex:execOp a.eval o=(do let d ← resolve a.eval { callee:=.builtin b,args:=args,argTypes:=tys } o.type; invoke d.target d.args):=by unfold execOp; rw [ho]
 rw [hex]
 simp only [resolve,pure_bind,invoke]
 exact hr
theorem JeL {args:Array Operand} {l:List RV} (h:args.toList.map (opd st)=l):∀ {x y:RV},l=[x,y]→∃ u v,args=#[u,v]∧opd st u=x∧opd st v=y:=by
 intro x y e
 subst e
 obtain ⟨l⟩:=args
 match l,h with
 | [u,v],h=>simp at h; exact ⟨u,v,rfl,h.1,h.2⟩
theorem Jht {args:Array Operand} {x:RV} (h:args.toList.map (opd st)=[x]):∃ u,args=#[u]∧opd st u=x:=by
 obtain ⟨l⟩:=args
 match l,h with
 | [u],h=>simp at h; exact ⟨u,rfl,h⟩
theorem JkD {o:Oper} {args:Array Operand} {tys:Array TypeId} {x:RV} {K:Out→Option R} (hd:a.defers=[]) (h:Rel P G F Bs st a.tmps w)
 (ho:o.op=.call { callee:=.builtin .len,args:=args,argTypes:=tys }) (hx:args.toList.map (opd st)=[x]) (hk:Jkv x K=some res) (ht:Jkw P tys.toList x=true) :
 ∃ out,K out=some res∧Eff P G st a w o out:=by
 obtain ⟨u,rfl,hu⟩:=Jht hx
 have hru:=Jag h u
 rw [hu] at hru
 have run:∀ v,(Builtin.len_ tys o.type #[a.eval u]).run P w=.ok v w→(execOp a.eval o).run P w=.ok (.value v) w:=by
  intro v hv
  refine Jbg ho ?_
  have e:#[u].map a.eval=#[a.eval u]:=by simp
  rw [e]
  simp [builtin,hv]
 unfold Jkw at ht
 have tysl:∀ t r,tys.toList=t::r→tys[0]? = some t:=by
  intro t r ht
  obtain ⟨l⟩:=tys
  simp at ht; subst ht; rfl
 split at ht
 · rename_i t r htl
   have h0:=tysl t r htl
   unfold Jkv at hk
   split at hk
   · rename_i s
     have e1:=Jbd hru
     simp only [] at ht
     have hus:P.underlying t=some .string:=by
      unfold Jhm at ht
      split at ht
      · assumption
      · cases ht
     exact ⟨_,hk,Jab (run _ (by simp [Builtin.len_,h0,e1,run_underlying hus,goInt])) (JaF hd h (.v _))⟩
   · rename_i es
     simp only [] at ht
     unfold isSlice at ht
     cases hE:Jbe P t with
     | none=>rw [hE] at ht; cases ht
     | some E =>
      have hus:=Ja2 hE
      have hru':RP F w (.sh es) (a.eval u):=hru
      generalize hv:a.eval u=c at hru'
      cases hru' with
      | sh p1 p2 p3 p4 p5 p6 p7 =>
       rename_i xs ad n cap sz
       exact ⟨_,hk,Jab (run _ (by simp [Builtin.len_,h0,hv,run_underlying hus,goInt,p5])) (JaF hd h (.v _))⟩
   · rename_i s cx T es
     simp only [] at ht
     unfold isSlice at ht
     cases hE:Jbe P t with
     | none=>rw [hE] at ht; cases ht
     | some E =>
      have hus:=Ja2 hE
      have hpl:=h.place hru
      rcases JbW hpl.1 with ⟨e,rfl,_⟩ | ⟨g,cap,e,_,_,_⟩
      · exact ⟨_,hk,Jab (run _ (by simp [Builtin.len_,h0,e,run_underlying hus,goInt])) (JaF hd h (.v _))⟩
      · exact ⟨_,hk,Jab (run _ (by simp [Builtin.len_,h0,e,run_underlying hus,goInt])) (JaF hd h (.v _))⟩
   · simp only [] at ht
     unfold isSlice at ht
     cases hE:Jbe P t with
     | none=>rw [hE] at ht; cases ht
     | some E =>
      have hus:=Ja2 hE
      have hv:a.eval u=.slice none 0 0:=hru
      exact ⟨_,hk,Jab (run _ (by simp [Builtin.len_,h0,hv,run_underlying hus,goInt])) (JaF hd h (.v _))⟩
   · cases hk
 · cases ht
theorem JeU {o:Oper} {b:Builtin} {args:Array Operand} {tys:Array TypeId} {k:IntKind} {m n:Int} {K:Out→Option R} (hd:a.defers=[]) (h:Rel P G F Bs st a.tmps w)
 (ho:o.op=.call { callee:=.builtin b,args:=args,argTypes:=tys }) (hx:args.toList.map (opd st)=[.pv (.v (.int k m)),.pv (.v (.int k n))]) (v:Int)
 (hv:((b=.min∧v=JgL m n)∨(b=.max∧v=JkT m n))) (hk:K (JaM (.v (.int k v)))=some res):∃ out,K out=some res∧Eff P G st a w o out:=by
 obtain ⟨x,y,rfl,h1,h2⟩:=JeL hx rfl
 have hrx:=Jag h x
 have hry:=Jag h y
 rw [h1] at hrx; rw [h2] at hry
 have e1:=Jbd hrx
 have e2:=Jbd hry
 have e:#[x,y].map a.eval=#[a.eval x,a.eval y]:=by simp
 refine ⟨_,hk,Jab (Jbg ho ?_) (JaF hd h (.v _))⟩
 rw [e,e1,e2]
 rcases hv with ⟨rfl,rfl⟩ | ⟨rfl,rfl⟩
 · simp [builtin,Builtin.min_,Builtin.min2,JgL]
 · simp [builtin,Builtin.max_,Builtin.max2,JkT]
theorem Jgx {args:Array Operand} {l:List RV} (h:args.toList.map (opd st)=l):∀ {x y z:RV},l=[x,y,z]→∃ u v t,args=#[u,v,t]∧opd st u=x∧opd st v=y∧opd st t=z:=by
 intro x y z hl
 subst hl
 cases args with
 | mk l =>
  match l,h with
  | [u,v,t],h=>simp at h; exact ⟨u,v,t,rfl,h.1,h.2.1,h.2.2⟩
theorem JjM {o:Oper} {args:Array Operand} {tys:Array TypeId} {k:IntKind} {m n q:Int} {K:Out→Option R} (hd:a.defers=[]) (h:Rel P G F Bs st a.tmps w)
 (ho:o.op=.call { callee:=.builtin .min,args:=args,argTypes:=tys }) (hx:args.toList.map (opd st)=[.pv (.v (.int k m)),.pv (.v (.int k n)),.pv (.v (.int k q))])
 (hk:K (JaM (.v (.int k (JgL (JgL m n) q))))=some res):∃ out,K out=some res∧Eff P G st a w o out:=by
 obtain ⟨x,y,z,rfl,h1,h2,h3⟩:=Jgx hx rfl
 have hrx:=Jag h x
 have hry:=Jag h y
 have hrz:=Jag h z
 rw [h1] at hrx; rw [h2] at hry; rw [h3] at hrz
 have e1:=Jbd hrx
 have e2:=Jbd hry
 have e3:=Jbd hrz
 have e:#[x,y,z].map a.eval=#[a.eval x,a.eval y,a.eval z]:=by simp
 refine ⟨_,hk,Jab (Jbg ho ?_) (JaF hd h (.v _))⟩
 rw [e,e1,e2,e3]
 have e4:(Builtin.min_ tys o.type #[.int k m,.int k n,.int k q]).run P w=.ok (.int k (JgL (JgL m n) q)) w:=rfl
 simp only [builtin,Sem.run_bind,e4,Result.andThen_ok,Sem.run_pure]
end
end Go.Proofs.YtmgfmlhdnadglaaGreatDoor.Th
set_option linter.unusedVariables false
set_option linter.unusedSimpArgs false
namespace Go.Proofs.YtmgfmlhdnadglaaGreatDoor.Th
open Go
variable {R:Type} {res:R}
section
variable {P:Program} {G:Gd} {F:Nat→Prop} {Bs:Nat→List Nat} {st:St} {a:Act} {w:World}
def Jj5 (F:Nat→Prop) (w:World) (n:Nat) (es:List PV) (c:Value):Prop :=
 ∃ xs ad cap,c=.slice ad es.length cap∧RPs F w (Jbk es) xs∧(∀ e∈es,(cellsOf e).length=n∧Jan (cellsOf e)=true) ∧
  (xs=[]∨∃ A,ad=some A∧∀ j u,xs[j]? = some u→w.cell? (A.add j)=some u)
theorem Jhx {n:Nat} {es:List PV} {c:Value} (h:RP F w (.sh es) c) (hs:Jgw n es=true):Jj5 F w n es c:=by
 cases h with
 | sh h1 h2 h3 h4 h5 h6 h7 =>
  rename_i xs ad len cap sz
  subst h5
  refine ⟨xs,ad,cap,rfl,h1,fun e he=>?_,?_⟩
  · have:=h2 e he
    refine ⟨?_,this.2⟩
    cases es with
    | nil=>simp at he
    | cons x l =>
     have hx:=(h2 x (by simp)).1
     simp only [Jgw] at hs
     rw [this.1,←hx]; exact eqB hs
  · rcases h4 with q | ⟨b,off,rfl,_,hc⟩
    · exact .inl q
    · exact .inr ⟨_,rfl,fun j u hj=>by rw [Jb0]; exact hc j u hj⟩
theorem Jf1 {T:TypeId} {n:Nat} {es:List PV} {c:Value} {B:List Nat} (h:RS P F w (.own T es) c B) (hn:Jal P T=some n):Jj5 F w n es c:=by
 cases h with
 | own q1 q2 q3 q4 q5 q6 q7 =>
  rename_i xs inf z
  have hs:inf.size=n:=by simp [Jal,q1] at hn; exact hn
  rw [hs] at q5 q7
  rcases q5.2 with ⟨rfl,hl⟩ | ⟨g,cap,cur,rfl,_,hg,hnc,hcm,hcs,htake⟩
  · have hes:es=[]:=List.length_eq_zero_iff.1 hl
    subst hes
    exact ⟨xs,none,0,rfl,q6,q7,.inl (by have:=q5.1; simpa using this)⟩
  · exact ⟨xs,_,cap,rfl,q6,q7,.inr ⟨_,rfl,q5.cells (g:=g) rfl⟩⟩
theorem Jgf {t ty E:TypeId} {i:TypeInfo} {z:Value} (ht:P.underlying t=some (.slice E)) (hi:P.info? E=some i) (hz:i.zero=some z) (hzs:z.cells.size=i.size) (hsz:0<i.size)
 {v:Value} {n m:Nat} {xs xs2:List Value} (hown:w.ownsRow 0 E i.size v n xs) {ad:Option Addr} {cap2:Nat} (hl:xs2.length=m * i.size)
 (hnews:xs2=[]∨∃ A,ad=some A∧∀ j u,xs2[j]? = some u→w.cell? (A.add j)=some u) (h1:∀ u∈xs2,u.oneCell'=true) (h63:n + m≤maxLen) (hbytes:(n + m) * i.bytes≤140737488355328) :
 ∃ v' w',(Builtin.append_ #[t,t] ty #[v,.slice ad m cap2]).run P w=.ok v' w'∧w'.ownsRow 0 E i.size v' (n + m) (xs++xs2)∧w.grownBy w' v.ownBlock ∧
  (∀ b∈blk v',b∈blk v∨w.heap.size≤b)∧(∀ b∈blk v',b<w'.heap.size):=by
 by_cases hm:m=0
 · subst hm
   have hx:xs2=[]:=List.length_eq_zero_iff.1 (by simpa using hl)
   subst hx
   have hrun:(Builtin.append_ #[t,t] ty #[v,.slice ad 0 cap2]).run P w=.ok v w:=by
    rcases hown.2 with ⟨rfl,rfl⟩ | ⟨g,cap,cur,rfl,_,_,hnc,_⟩
    · cases ad <;> simp [Builtin.append_,run_underlying ht,sizeOf,typeInfo,hi,Builtin.lenOf,Builtin.firstCells,loadCells,loadCellsFrom]
    · cases ad <;> simp [Builtin.append_,run_underlying ht,sizeOf,typeInfo,hi,Builtin.lenOf,Builtin.firstCells,hnc,storeCells,loadCells,loadCellsFrom]
   refine ⟨v,w,hrun,by simpa using hown,⟨rfl,rfl,rfl,Nat.le_refl _,fun _ _ _=>rfl⟩,fun b hb=>.inl hb,fun b hb=>(hown.lt b (by simpa [blk] using hb)).2⟩
 · have hne:xs2≠[]:=fun e=>by rw [e] at hl; have:=Nat.mul_pos (Nat.pos_of_ne_zero hm) hsz; simp at hl; omega
   obtain ⟨A,rfl,hA⟩:=hnews.resolve_left hne
   have hsmall:n + m≤9223372036854775807:=by simp only [maxLen] at h63; omega
   have hlen:(xs++xs2).length=(n + m) * i.size:=by rw [List.length_append,hown.1,hl,Nat.add_mul]
   have grown:∀ (old:Nat),old<n + m→∀ (row:Option Nat),
    (w.drew.alloc (.cells (xs.toArray++xs2.toArray++Builtin.zeroCells z.cells (grownCap w (n + m) old E - (n + m))) E)).ownsRow 0 E i.size
      (.slice (some ⟨w.heap.size,0,none⟩) (n + m) (grownCap w (n + m) old E)) (n + m) (xs++xs2) ∧
    w.grownBy (w.drew.alloc (.cells (xs.toArray++xs2.toArray++Builtin.zeroCells z.cells (grownCap w (n + m) old E - (n + m))) E)) row:=by
    intro old ho row
    have hge:=grownCap_ge w (n + m) old E
    have hcm:grownCap w (n + m) old E≤maxLen:=grownCap_le_maxLen w (n + m) old E h63
    refine ⟨⟨hlen,.inr ⟨w.heap.size,_,_,rfl,Nat.zero_le _,Jcg w.drew _,hge,hcm,?_,?_⟩⟩,⟨rfl,rfl,rfl,by simp,fun k hk _=>alloc_old w.drew _ k hk⟩⟩
    · simp only [Array.size_append,List.size_toArray,size_zeroCells,hzs,hown.1,hl,←Nat.add_mul]
      congr 1
      omega
    · simp only [Array.toList_append,List.append_assoc]
      rw [←List.append_assoc,←hlen]
      exact List.take_left
   rcases hown.2 with ⟨rfl,rfl⟩ | ⟨g,cap,cur,rfl,hbg,hg,hnc,hcm,hcs,htake⟩
   · have hx:xs=[]:=List.eq_nil_of_length_eq_zero (by simpa using hown.1)
     subst hx
     have hr:=run_append_nil (P:=P) w t ty E i z ht hi hz A m cap2 xs2 hl hA (by omega) (by omega) (by have hb:=hbytes; simp only [Nat.zero_add] at hb; omega)
     have hgr:=grown 0 (by omega) (Value.ownBlock (.slice none 0 0))
     simp only [Nat.zero_add,List.nil_append,Array.empty_append] at hgr ⊢
     exact ⟨_,_,hr,hgr.1,hgr.2,fun b hb=>by simp [blk,Value.ownBlock] at hb; subst hb; exact .inr (Nat.le_refl _),fun b hb=>by simp [blk,Value.ownBlock] at hb; subst hb; simp⟩
   · by_cases hroom:n + m≤cap
     · have hfit:n * i.size + xs2.length≤cur.size:=by rw [hl,hcs,←Nat.add_mul]; exact Nat.mul_le_mul_right _ hroom
       have hr:=run_append_room (P:=P) w t ty E i ht hi g n cap cur hg A m cap2 xs2 hl hA h1 hroom hfit
       have hgl:g<w.heap.size:=(Array.getElem?_eq_some_iff.1 hg).1
       refine ⟨_,_,hr,⟨hlen,.inr ⟨g,cap,_,rfl,hbg,setRow_heap w g cur _ E _ hg,hroom,hcm,?_,?_⟩⟩,⟨rfl,rfl,rfl,by simp,fun k _ hk=>setRow_other w g k _ (fun e=>hk (by simp [Value.ownBlock,e]))⟩,
        fun b hb=>.inl (by simpa [blk,Value.ownBlock] using hb),fun b hb=>by simp [blk,Value.ownBlock] at hb; subst hb; simpa using hgl⟩
       · simp only [List.size_toArray,List.length_append,List.length_take,List.length_drop,Array.length_toList]
         omega
       · rw [htake,←hlen]
         exact List.take_left
     · have holds:∀ j u,xs[j]? = some u→w.cell? ((⟨g,0,none⟩:Addr).add j)=some u:=hown.cells (g:=g) rfl
       have hr:=run_append_grow (P:=P) w t ty E i z ht hi hz ⟨g,0,none⟩ n cap xs hown.1 holds A m cap2 xs2 hl hA (by omega) (by omega) (growslice_fits (by omega) hbytes)
       have hgr:=grown cap (by omega) (Value.ownBlock (.slice (some ⟨g,0,none⟩) n cap))
       exact ⟨_,_,hr,hgr.1,hgr.2,fun b hb=>by simp [blk,Value.ownBlock] at hb; subst hb; exact .inr (Nat.le_refl _),fun b hb=>by simp [blk,Value.ownBlock] at hb; subst hb; simp⟩
theorem JhH {o:Oper} {args:Array Operand} {t t2 E:TypeId} {n bytes:Nat} {x y:RV} {K:Out→Option R} (hd:a.defers=[]) (h:Rel P G F Bs st a.tmps w)
 (ho:o.op=.call { callee:=.builtin .append,args:=args,argTypes:=#[t,t] }) (hx:args.toList.map (opd st)=[x,y]) (hE:Jbe P t=some E) (hn:Jal P E=some n) (hb:JcJ P E=some bytes)
 (hn0:0<n) (hzr:Ja9 P E=true) (hk:Jb9 n bytes E x y K=some res):∃ out,K out=some res∧Eff P G st a w o out:=by
 obtain ⟨u,v,rfl,hu,hv⟩:=JeL hx rfl
 have hru:=Jag h u
 have hrv:=Jag h v
 rw [hu] at hru; rw [hv] at hrv
 have hus:=Ja2 hE
 obtain ⟨i,hi,hin⟩:=JgF hn
 have hby:=JfG hb hi
 obtain ⟨z,hz,hzs⟩:∃ z,i.zero=some z∧z.cells.size=i.size:=by
  unfold Ja9 at hzr
  split at hzr
  · rename_i zs hzt
    obtain ⟨i',z,e1,e2,e3,_⟩:=Jb6 hzt
    rw [hi] at e1; cases e1
    exact ⟨z,e2,e3⟩
  · cases hzr
 have run:∀ c w',(Builtin.append_ #[t,t] o.type #[a.eval u,a.eval v]).run P w=.ok c w'→(execOp a.eval o).run P w=.ok (.value c) w':=by
  intro c w' hr
  refine Jbg ho ?_
  have e:#[u,v].map a.eval=#[a.eval u,a.eval v]:=by simp
  rw [e]
  simp [builtin,hr]
 have core:∀ (es es2:List PV) (xs:List Value) (us:List (Nat × SV)) (Bs1:Nat→List Nat),w.ownsRow 0 E i.size (a.eval u) es.length xs→RPs F w (Jbk es) xs→(∀ e∈es,(cellsOf e).length=n∧Jan (cellsOf e)=true) →
  Jj5 F w n es2 (a.eval v)→Jbu (es.length + es2.length) bytes=true →
  (∀ w',w.grownBy w' (a.eval u).ownBlock→∃ Bs',Rel P G F Bs' (st.upS us []) a.tmps w'∧(∀ b∈blk (a.eval u),∀ j,b∉Bs' j)∧(∀ j b,b∈Bs' j→b<w.heap.size)) →
  (∀ b∈blk (a.eval u),¬ F b∧(G.W.heap.size≤b∨G.A b)) →
  K ⟨.own E (es++es2),none,us,[]⟩=some res→∃ out,K out=some res∧Eff P G st a w o out:=by
  intro es es2 xs us Bs1 hown hxs hes hnews hlen hrel hblk hk
  obtain ⟨xs2,ad,cap2,hc2,hxs2,hes2,hat⟩:=hnews
  simp only [Jbu,Bool.and_eq_true,decide_eq_true_eq] at hlen
  have hl2:xs2.length=es2.length * i.size:=by rw [←hxs2.length,JaI fun e he=>(hes2 e he).1,hin]
  have hlf:Jan (Jbk es2)=true:=JaQ fun y hy=>by
   obtain ⟨e,he,hye⟩:=List.mem_flatMap.1 hy
   exact JaG (hes2 e he).2 y hye
  obtain ⟨v',w',r1,r2,r3,r4,r5⟩:=Jgf (P:=P) (ty:=o.type) hus hi hz hzs (by omega) hown hl2 hat (Jcp hxs2 hlf) (by simp only [maxLen]; omega) (by rw [hby]; exact hlen.1)
  rw [←hc2] at r1
  obtain ⟨Bs',g1,g2,g3⟩:=hrel w' r3
  have hFk:∀ b,F b→w'.heap[b]? = w.heap[b]? := fun b hb=>r3.block b (h.fl b hb) fun e=>(hblk b (by simp [blk,←e])).1 hb
  have hrow:RS P F w' (.own E (es++es2)) v' (blk v'):=by
   refine RS.own hi hz hzs (by omega) (by simpa using r2) ?_ (fun e he=>?_)
   · rw [Jfi]; exact (hxs.append hxs2).mono (fun _ q=>q) hFk
   · rw [hin]
     rcases List.mem_append.1 he with q | q
     · exact hes e q
     · exact hes2 e q
  refine ⟨_,hk,fun hf=>⟨v',w',.inl (run v' w' r1),JaE hd g1 hrow ?_ ?_ ?_ ?_ r5 (by simp) hf⟩⟩
  · simp only [blk]
    cases v'.ownBlock <;> simp
  · intro j b hb hb'
    rcases r4 b hb with q | q
    · exact g2 b q j hb'
    · have:=g3 j b hb'; omega
  · intro b hb hF
    rcases r4 b hb with q | q
    · exact (hblk b q).1 hF
    · have:=h.fl b hF; omega
  · intro b hb
    rcases r4 b hb with q | q
    · exact (hblk b q).2
    · exact .inl (Nat.le_trans h.kb.size q)
 have nilCase:a.eval u=.slice none 0 0→∀ es2,Jj5 F w n es2 (a.eval v)→Jbu es2.length bytes=true→K (out (.own E es2))=some res→∃ out,K out=some res∧Eff P G st a w o out:=by
  intro hv0 es2 hnews hlen hk
  refine core [] es2 [] [] Bs (by rw [hv0]; exact World.ownsRow_nil w 0 E i.size) .nil (by simp) hnews (by simpa using hlen) (fun w' hg=>?_) (by rw [hv0]; simp [blk,Value.ownBlock]) hk
  refine ⟨Bs,?_,by rw [hv0]; simp [blk,Value.ownBlock],h.lt⟩
  rw [Jak]
  exact h.grow (F':=F) (fun b hb=>hg.block b hb (by rw [hv0]; simp [Value.ownBlock])) hg.size ⟨hg.os,hg.tape,hg.output⟩ (fun _ q=>q) (fun _ q=>.inl q)
 have ownCase:∀ s cx es,JaZ st.fr a.tmps w s cx E es (a.eval u)→∀ es2,Jj5 F w n es2 (a.eval v)→Jbu (es.length + es2.length) bytes=true→K ⟨.own E (es++es2),none,[Jaz s cx .dead],[]⟩=some res →
  ∃ out,K out=some res∧Eff P G st a w o out:=by
  intro s cx es hp es2 hnews hlen hk
  have hpl:=h.place hp
  have hrs:=hpl.1
  have hblk:∀ b∈blk (a.eval u),¬ F b∧(G.W.heap.size≤b∨G.A b):=fun b hb=>⟨h.nf s b (hpl.2 b hb),h.nw s b (hpl.2 b hb)⟩
  cases hrs with
  | own q1 q2 q3 q4 q5 q6 q7 =>
   rename_i xs inf z'
   rw [hi] at q1; cases q1
   refine core es es2 xs [Jaz s cx .dead] Bs q5 q6 (by rw [hin] at q7; exact q7) hnews hlen (fun w' hg=>?_) hblk hk
   obtain ⟨Bs',r1,r2,r3⟩:=h.turnPl hp (F':=F) (w':=w') (x:=.dead) (B:=[]) (.dead _) (by simp) (by simp) (fun _ q=>q) (fun _ q=>.inl q) (by simp)
    (fun b hb hnb=>hg.block b hb fun e=>hnb (by simp [blk,←e])) hg.size ⟨hg.os,hg.tape,hg.output⟩ (by simp)
   exact ⟨Bs',r1,fun b hb j=>r3 b hb (by simp) j,fun j b hb=>h.lt j b (r2 j b hb)⟩
 unfold Jb9 at hk
 split at hk
 · rename_i s1 cx T es
   obtain ⟨hT,hk1⟩:=Jaa hk
   have hT:=eqB hT
   subst hT
   clear hk
   split at hk1
   · have hv0:a.eval v=.slice none 0 0:=hrv
     have hpl:=h.place hru
     obtain ⟨Bs',r1,r2,r3⟩:=h.turnPl hru (F':=F) (w':=w) (x:=.dead) (B:=[]) (.dead _) (by simp) (by simp) (fun _ q=>q) (fun _ q=>.inl q) (by simp) (fun _ _ _=>rfl) (Nat.le_refl _) ⟨rfl,rfl,rfl⟩ (by simp)
     have hrun:(Builtin.append_ #[t,t] o.type #[a.eval u,a.eval v]).run P w=.ok (a.eval u) w:=by
      rw [hv0]
      have hrs:=hpl.1
      cases hrs with
      | own q1 q2 q3 q4 q5 q6 q7=>exact run_append_owned_none w 0 t o.type T _ _ hus q1 (a.eval u) es.length _ q5
     refine ⟨_,hk1,Jab (run _ _ hrun) (JaE hd r1 hpl.1 ?_ (fun j b hb=>r3 b hb (by simp) j) (fun b hb=>h.nf s1 b (hpl.2 b hb)) (fun b hb=>h.nw s1 b (hpl.2 b hb)) (fun b hb=>h.lt s1 b (hpl.2 b hb)) (by simp))⟩
     simp only [blk]
     cases (a.eval u).ownBlock <;> simp
   · rename_i es2
     obtain ⟨hc,hk2⟩:=Jaa hk1
     simp only [Bool.and_eq_true] at hc
     exact ownCase s1 cx es hru es2 (Jhx hrv hc.1) hc.2 hk2
   · rename_i s2 cx2 T2 es2
     obtain ⟨hc,hk2⟩:=Jaa hk1
     simp only [Bool.and_eq_true] at hc
     have hT2:=eqB hc.1.1
     subst hT2
     exact ownCase s1 cx es hru es2 (Jf1 (h.place hrv).1 hn) hc.2 hk2
   · cases hk1
 · have hv0:a.eval u=.slice none 0 0:=hru
   split at hk
   · have hv1:a.eval v=.slice none 0 0:=hrv
     have hrun:(Builtin.append_ #[t,t] o.type #[a.eval u,a.eval v]).run P w=.ok (.slice none 0 0) w:=by
      rw [hv0,hv1]
      exact run_append_owned_none w 0 t o.type E i i.size hus hi _ 0 [] (World.ownsRow_nil w 0 E i.size)
     exact ⟨_,hk,Jab (run _ _ hrun) (Jau hd (by rw [Jak]; exact h) .nl)⟩
   · rename_i es2
     obtain ⟨hc,hk2⟩:=Jaa hk
     simp only [Bool.and_eq_true] at hc
     exact nilCase hv0 es2 (Jhx hrv hc.1) hc.2 hk2
   · rename_i s2 cx2 T2 es2
     obtain ⟨hc,hk2⟩:=Jaa hk
     simp only [Bool.and_eq_true] at hc
     have hT2:=eqB hc.1
     subst hT2
     exact nilCase hv0 es2 (Jf1 (h.place hrv).1 hn) hc.2 hk2
   · cases hk
 · cases hk
end
end Go.Proofs.YtmgfmlhdnadglaaGreatDoor.Th
set_option linter.unusedVariables false
set_option linter.unusedSimpArgs false
namespace Go.Proofs.YtmgfmlhdnadglaaGreatDoor.Th
open Go
variable {R:Type} {res:R}
def bxv:List SV→List Value→List Value
 | .bx _ _::r,c::cs=>c::bxv r cs
 | .ob _ _ _::r,c::cs=>c::bxv r cs
 | _::r,_::cs=>bxv r cs
 | _,_=>[]
def JgQ:List Value→Value
 | [v]=>v
 | l=>.tuple l.toArray
def Jjk (P:Program) (F:Nat→Prop) (W:World) (args:List SV) (cargs:List Value) (B:List Nat) (rs:List SV) (v:Value) (w':World):Prop :=
 ∃ F' Br xs ys vs,rs=xs++ys∧xs.length=vs.length∧v=JgQ vs∧RSs P F' w' (xs++ys) (vs++bxv args cargs) Br∧Br.Nodup ∧
  (∀ b∈Br,¬ F' b∧b<w'.heap.size∧(W.heap.size≤b∨b∈B))∧(∀ b,F b→F' b)∧(∀ b,F' b→F b∨W.heap.size≤b∨b∈B)∧(∀ b,F' b→b<w'.heap.size)∧Keep W (·∈B) w'
structure FSound (P:Program) (I:GInv) (g:Nat) (fs:FS):Prop where
 det:∀ args,DetK (fun R K=>@FS.run fs R args K)
 fn:∃ fn,P.funcs[g]? = some fn∧fn.body.isNone=false∧(fn.name == "runtime.NumGoroutine")=false
 call:∀ {R:Type} {args:List SV} {K:List SV→Option R} {res:R},fs.run args K=some res →
  ∀ (F:Nat→Prop) (W:World) (cargs:Array Value) (B:List Nat),RSs P F W args cargs.toList B→B.Nodup→(∀ b∈B,¬ F b∧b<W.heap.size)→(∀ b,F b→b<W.heap.size)→I.ok F W →
  Calls P g cargs W fun | .returned v,w'=>∃ rs,K rs=some res∧Jjk P F W args cargs.toList B rs v w' | _,_=>False
section
variable {P:Program} {G:Gd} {F:Nat→Prop} {Bs:Nat→List Nat} {st:St} {tm:Array Value} {w:World}
theorem Jfo (d e:List Nat) (s:Nat):Jbf (d++e) s=(Jbf d s||Jbf e s):=by
 induction d with
 | nil=>simp [Jbf]
 | cons x d ih=>simp only [List.cons_append,Jbf]; cases Nat.beq x s <;> simp [ih]
theorem JbS (d e:List Nat):∀ l:List (Nat × Ref),Jae none e (Jae none d l)=Jae none (d++e) l
 | []=>rfl
 | (t,r)::l=>by
  have ih:=JbS d e l
  have hm:∀ s,Jbf (d++e) s=(Jbf d s||Jbf e s):=Jfo d e
  have e':Jaj none (d++e) t r=(Jaj none d t r&&Jaj none e t r):=by
   simp only [Jaj,hm,Bool.true_and]
   cases r.cell <;> cases Jbf d r.root <;> cases Jbf e r.root <;> rfl
  simp only [Jae]
  cases h1:Jaj none d t r <;> cases h2:Jaj none e t r <;> simp [e',h1,h2,Jae,ih]
theorem Jh2 (st:St) (u v:List (Nat × SV)) (d e:List Nat):(st.upS u d).upS v e=st.upS (u++v) (d++e):=by
 simp [St.upS,JbI,JbS]
theorem Jgv {s:Nat} {cx:Option (Nat × TypeId × List SV)} {T:TypeId} {es:List PV} {cv:Value} (h:Rel P G F Bs st tm w)
 (hp:JaZ st.fr tm w s cx T es cv) :
 ∃ F' Bs',Rel P G F' Bs' (st.upS [Jaz s cx (.p (.sh es))] []) tm w∧RP F' w (.sh es) cv∧(∀ b,F b→F' b)∧(∀ i b,b∈Bs' i→b∈Bs i)∧(∀ b,F' b→F b∨b∈Bs s):=by
 obtain ⟨h1,h2⟩:=h.place hp
 have hfr:RP (fun b=>F b∨b∈blk cv) w (.sh es) cv:=h1.frozen (fun _ q=>.inl q) (fun _ q=>.inr q)
 obtain ⟨Bs',r1,r2,r3⟩:=h.turnPl hp (F':=fun b=>F b∨b∈blk cv) (w':=w) (x:=.p (.sh es)) (B:=[]) (.p hfr) (by simp) (by simp) (fun _ q=>.inl q)
  (fun b q=>q.imp id fun r=>⟨r,by simp⟩) (by simp) (fun _ _ _=>rfl) (Nat.le_refl _) ⟨rfl,rfl,rfl⟩ (by simp)
 exact ⟨_,Bs',r1,hfr,fun _ q=>.inl q,r2,fun b q=>q.imp id (h2 b)⟩
theorem JgX (h:Rel P G F Bs st tm w) {m:Bool} {r:RV} {c:Value} {x:SV} {u:List (Nat × SV)} {bs:List Nat} (hr:RVR P F st.fr tm w r c) (ha:Jbn m r=some (x,u,bs)) :
 ∃ F' Bs' B,Rel P G F' Bs' (st.upS u []) tm w∧RS P F' w x c B∧B.Nodup∧(∀ b,F b→F' b)∧(∀ b,F' b→F b∨∃ i,i∈u.map (·.1)∧b∈Bs i)∧(∀ i b,b∈Bs' i→b∈Bs i)∧(∀ b∈B,¬ F' b) ∧
  (∀ b∈B,∃ i,i∈u.map (·.1)++bs∧b∈Bs i)∧(∀ b∈B,∀ i,b∈Bs' i→i∈bs)∧bs.map (fun s=>tm.getD s undef)=bxv [x] [c]:=by
 cases r with
 | bad=>simp [Jbn] at ha
 | nl =>
  have hc:c=.slice none 0 0:=hr
  subst hc
  simp only [Jbn] at ha
  cases m with
  | true =>
   simp only [cond_true,Option.some.injEq,Prod.mk.injEq] at ha
   obtain ⟨rfl,rfl,rfl⟩:=ha
   exact ⟨F,Bs,[],by rw [Jak]; exact h,.nl,by simp,fun _ q=>q,fun _ q=>.inl q,fun _ _ q=>q,by simp,by simp,by simp,rfl⟩
  | false =>
   simp only [cond_false,Option.some.injEq,Prod.mk.injEq] at ha
   obtain ⟨rfl,rfl,rfl⟩:=ha
   exact ⟨F,Bs,[],by rw [Jak]; exact h,.p (JcI F w),by simp,fun _ q=>q,fun _ q=>.inl q,fun _ _ q=>q,by simp,by simp,by simp,rfl⟩
 | pv y =>
  simp only [Jbn,Option.some.injEq,Prod.mk.injEq] at ha
  obtain ⟨rfl,rfl,rfl⟩:=ha
  exact ⟨F,Bs,[],by rw [Jak]; exact h,.p hr,by simp,fun _ q=>q,fun _ q=>.inl q,fun _ _ q=>q,by simp,by simp,by simp,rfl⟩
 | own s cx T es =>
  simp only [Jbn] at ha
  cases m with
  | true =>
   simp only [cond_true,Option.some.injEq,Prod.mk.injEq] at ha
   obtain ⟨rfl,rfl,rfl⟩:=ha
   obtain ⟨p1,p2⟩:=h.place hr
   obtain ⟨Bs',r1,r2,r3⟩:=h.turnPl hr (F':=F) (w':=w) (x:=.dead) (B:=[]) (.dead _) (by simp) (by simp) (fun _ q=>q) (fun _ q=>.inl q) (by simp) (fun _ _ _=>rfl) (Nat.le_refl _) ⟨rfl,rfl,rfl⟩ (by simp)
   refine ⟨F,Bs',blk c,r1,p1,?_,fun _ q=>q,fun _ q=>.inl q,r2,fun b hb=>h.nf s b (p2 b hb),fun b hb=>⟨s,by simp [JaX],p2 b hb⟩,fun b hb i hi=>absurd hi (r3 b hb (by simp) i),rfl⟩
   simp only [blk]; cases c.ownBlock <;> simp
  | false =>
   simp only [cond_false,Option.some.injEq,Prod.mk.injEq] at ha
   obtain ⟨rfl,rfl,rfl⟩:=ha
   obtain ⟨F',Bs',r1,r2,r3,r4,r5⟩:=Jgv h hr
   exact ⟨F',Bs',[],r1,.p r2,by simp,r3,fun b q=>(r5 b q).imp id fun q=>⟨s,by simp [JaX],q⟩,r4,by simp,by simp,by simp,rfl⟩
 | box s off T cs =>
  obtain ⟨h1,b,h2,h3⟩:=hr
  simp only [Jbn] at ha
  cases m with
  | true =>
   simp only [cond_true] at ha
   obtain ⟨ho,ha⟩:=Jaa ha
   simp only [Option.some.injEq,Prod.mk.injEq] at ha
   obtain ⟨rfl,rfl,rfl⟩:=ha
   have ho:=eqB ho
   subst ho
   have hsl:=h.sl s
   rw [h1,h2] at hsl
   refine ⟨F,Bs,Bs s,by rw [Jak]; exact h,by rw [h3]; exact hsl,h.nd s,fun _ q=>q,fun _ q=>.inl q,fun _ _ q=>q,h.nf s,fun b hb=>⟨s,by simp,hb⟩,fun b hb i hi=>?_,by show [tm.getD s undef]=[c]; rw [h2,h3]⟩
   rcases Nat.decEq i s with q | q
   · exact absurd hi (h.dj s i b (Ne.symm q) hb)
   · simp [q]
  | false =>
   simp only [cond_false] at ha
   cases hf:Jdu cs with
   | none=>rw [hf] at ha; cases ha
   | some ys =>
    rw [hf] at ha
    simp only [Option.some.injEq,Prod.mk.injEq] at ha
    obtain ⟨rfl,rfl,rfl⟩:=ha
    obtain ⟨F',Bs',b',q1,q2,q3,q4,q5,q6⟩:=JeG (off:=off) h h1 hf
    rw [h2] at q1
    cases q1
    exact ⟨F',Bs',[],q2,.p (by rw [h3]; exact q3),by simp,q4,fun b q=>(q6 b q).imp id fun q=>⟨s,by simp,q⟩,q5,by simp,by simp,by simp,rfl⟩
 | ob s T e bs =>
  obtain ⟨h1,h2⟩:=hr
  simp only [Jbn] at ha
  obtain ⟨_,ha⟩:=Jaa ha
  simp only [Option.some.injEq,Prod.mk.injEq] at ha
  obtain ⟨rfl,rfl,rfl⟩:=ha
  have hsl:=h.sl s
  rw [h1,h2] at hsl
  refine ⟨F,Bs,Bs s,by rw [Jak]; exact h,hsl,h.nd s,fun _ q=>q,fun _ q=>.inl q,fun _ _ q=>q,h.nf s,fun b hb=>⟨s,by simp,hb⟩,fun b hb i hi=>?_,by show [tm.getD s undef]=[c]; rw [h2]⟩
  rcases Nat.decEq i s with q | q
  · exact absurd hi (h.dj s i b (Ne.symm q) hb)
  · simp [q]
 | st s cs =>
  obtain ⟨h1,h2⟩:=hr
  simp only [Jbn] at ha
  cases m with
  | true=>cases ha
  | false =>
   simp only [cond_false] at ha
   cases hf:Jdu cs with
   | none=>rw [hf] at ha; cases ha
   | some ys =>
    rw [hf] at ha
    simp only [Option.some.injEq,Prod.mk.injEq] at ha
    obtain ⟨rfl,rfl,rfl⟩:=ha
    obtain ⟨F',Bs',q2,q3,q4,q5,q6⟩:=h.freezeSt h1 hf
    exact ⟨F',Bs',[],q2,.p (by rw [←h2]; exact q3),by simp,q4,fun b q=>(q6 b q).imp id fun q=>⟨s,by simp,q⟩,q5,by simp,by simp,by simp,rfl⟩
 | el s cx T es i off=>simp [Jbn] at ha
 | tup s l=>simp [Jbn] at ha
theorem Ji {F1:Nat→Prop} {fr fr1:Fr} {m:Bool} {r:RV} {x:SV} {u:List (Nat × SV)} {bs:List Nat} {c:Value} (ha:Jbn m r=some (x,u,bs))
 (hfr:∀ i∈u.map (·.1)++bs,fr1 i=fr i) (hF:∀ b,F b→F1 b) (h:RVR P F fr tm w r c):RVR P F1 fr1 tm w r c:=by
 cases r with
 | pv z=>exact RP.mono (w':=w) h hF fun _ _=>rfl
 | nl=>exact h
 | own s cx T es =>
  have hs:fr1 s=fr s:=by
   apply hfr s
   simp only [Jbn] at ha
   cases m <;> simp only [cond_true,cond_false,Option.some.injEq,Prod.mk.injEq] at ha <;> obtain ⟨_,rfl,rfl⟩:=ha <;> simp [JaX]
  cases cx with
  | none=>exact ⟨by rw [hs]; exact h.1,h.2⟩
  | some q =>
   obtain ⟨j,Tb,cs⟩:=q
   exact ⟨by rw [hs]; exact h.1,h.2⟩
 | box s off T cs =>
  have hs:fr1 s=fr s:=by
   apply hfr s
   simp only [Jbn] at ha
   cases m with
   | true =>
    simp only [cond_true] at ha
    obtain ⟨ho,ha⟩:=Jaa ha
    simp only [Option.some.injEq,Prod.mk.injEq] at ha
    obtain ⟨_,rfl,rfl⟩:=ha
    simp
   | false =>
    simp only [cond_false] at ha
    cases hf:Jdu cs with
    | none=>rw [hf] at ha; cases ha
    | some ys =>
     rw [hf] at ha
     simp only [Option.some.injEq,Prod.mk.injEq] at ha
     obtain ⟨_,rfl,rfl⟩:=ha
     simp
  exact ⟨by rw [hs]; exact h.1,h.2⟩
 | ob s T e bs =>
  have hs:fr1 s=fr s:=by
   apply hfr s
   simp only [Jbn] at ha
   obtain ⟨_,ha⟩:=Jaa ha
   simp only [Option.some.injEq,Prod.mk.injEq] at ha
   obtain ⟨_,rfl,rfl⟩:=ha
   simp
  exact ⟨by rw [hs]; exact h.1,h.2⟩
 | st s cs =>
  have hs:fr1 s=fr s:=by
   apply hfr s
   simp only [Jbn] at ha
   cases m with
   | true=>cases ha
   | false =>
    simp only [cond_false] at ha
    cases hf:Jdu cs with
    | none=>rw [hf] at ha; cases ha
    | some ys =>
     rw [hf] at ha
     simp only [Option.some.injEq,Prod.mk.injEq] at ha
     obtain ⟨_,rfl,rfl⟩:=ha
     simp
  exact ⟨by rw [hs]; exact h.1,h.2⟩
 | _=>simp [Jbn] at ha
theorem JfF (x:SV) (c:Value) (l:List SV) (cs:List Value):bxv (x::l) (c::cs)=bxv [x] [c]++bxv l cs:=by
 cases x <;> rfl
theorem Jbj:∀ {l:List Nat},Jap l=true↔l.Nodup
 | []=>by simp [Jap]
 | x::l=>by
  simp only [Jap,Bool.and_eq_true,Bool.not_eq_true',List.nodup_cons,Jbj (l:=l)]
  constructor
  · rintro ⟨h1,h2⟩
    exact ⟨fun hm=>by rw [Jec hm] at h1; exact absurd h1 (by simp),h2⟩
  · rintro ⟨h1,h2⟩
    refine ⟨?_,h2⟩
    cases hm:Jbf l x with
    | false=>rfl
    | true=>exact absurd (JhE hm) h1
theorem JdA:∀ {rs:List RV} {ms:List Bool} {cs:List Value} {st:St} {F:Nat→Prop} {Bs:Nat→List Nat} {avs:List SV} {us:List (Nat × SV)} {bs:List Nat},
 Rel P G F Bs st tm w→(∀ (j:Nat) (r:RV),rs[j]? = some r→∃ c,cs[j]? = some c∧RVR P F st.fr tm w r c)→cs.length=rs.length→JbL ms rs=some (avs,us,bs)→(us.map (·.1)++bs).Nodup →
 ∃ F' Bs' B,Rel P G F' Bs' (st.upS us []) tm w∧RSs P F' w avs cs B∧B.Nodup∧(∀ b,F b→F' b)∧(∀ b,F' b→F b∨∃ i,i∈us.map (·.1)∧b∈Bs i)∧(∀ i b,b∈Bs' i→b∈Bs i)∧(∀ b∈B,¬ F' b) ∧
  (∀ b∈B,∃ i,i∈us.map (·.1)++bs∧b∈Bs i)∧(∀ b∈B,∀ i,b∈Bs' i→i∈bs)∧bs.map (fun s=>tm.getD s undef)=bxv avs cs
 | [],ms,cs,st,F,Bs,avs,us,bs,h,hv,hl,hk,hd=>by
  simp only [JbL,Option.some.injEq,Prod.mk.injEq] at hk
  obtain ⟨rfl,rfl,rfl⟩:=hk
  have:cs=[]:=List.length_eq_zero_iff.1 (by simpa using hl)
  subst this
  exact ⟨F,Bs,[],by rw [Jak]; exact h,.nil,by simp,fun _ q=>q,fun _ q=>.inl q,fun _ _ q=>q,by simp,by simp,by simp,rfl⟩
 | r::rs,ms,cs,st,F,Bs,avs,us,bs,h,hv,hl,hk,hd=>by
  cases cs with
  | nil=>simp at hl
  | cons c cs =>
   have hr:RVR P F st.fr tm w r c:=by
    obtain ⟨c',e,q⟩:=hv 0 r rfl
    simp at e; subst e; exact q
   simp only [JbL] at hk
   cases hy:Jbn (ms.headD false) r with
   | none=>simp only [hy,reduceCtorEq] at hk
   | some q =>
    obtain ⟨y,u,b⟩:=q
    cases hys:JbL ms.tail rs with
    | none=>simp only [hy,hys,reduceCtorEq] at hk
    | some q2 =>
     obtain ⟨ys',us',bs'⟩:=q2
     simp only [hy,hys,Option.some.injEq,Prod.mk.injEq] at hk
     obtain ⟨rfl,rfl,rfl⟩:=hk
     have hd':(u.map (·.1)++b++(us'.map (·.1)++bs')).Nodup:=by
      refine (List.Perm.nodup_iff ?_).1 hd
      rw [List.map_append,List.append_assoc,List.append_assoc]
      refine List.Perm.append_left _ ?_
      rw [←List.append_assoc,←List.append_assoc]
      exact List.Perm.append_right _ List.perm_append_comm
     rw [List.nodup_append] at hd'
     obtain ⟨d1,d2,d3⟩:=hd'
     obtain ⟨F1,Bs1,B1,r1,r2,r2',r3,r3',r4,r5,r6,r7,r8⟩:=JgX h hr hy
     have hsub:∀ {rs:List RV} {ms:List Bool} {avs:List SV} {us:List (Nat × SV)} {bs:List Nat},JbL ms rs=some (avs,us,bs)→∀ (j:Nat) (q:RV),rs[j]? = some q →
      ∃ m x u b,Jbn m q=some (x,u,b)∧∀ i∈u.map (·.1)++b,i∈us.map (·.1)++bs:=by
      intro rs
      induction rs with
      | nil=>intro ms avs us bs _ j q hj; simp at hj
      | cons r rs ih =>
       intro ms avs us bs hk j q hj
       simp only [JbL] at hk
       cases hy:Jbn (ms.headD false) r with
       | none=>simp only [hy,reduceCtorEq] at hk
       | some q1 =>
        obtain ⟨y,u,b⟩:=q1
        cases hys:JbL ms.tail rs with
        | none=>simp only [hy,hys,reduceCtorEq] at hk
        | some q2 =>
         obtain ⟨ys',us',bs'⟩:=q2
         simp only [hy,hys,Option.some.injEq,Prod.mk.injEq] at hk
         obtain ⟨rfl,rfl,rfl⟩:=hk
         cases j with
         | zero =>
          simp at hj; subst hj
          refine ⟨_,y,u,b,hy,fun i hi=>?_⟩
          simp only [List.map_append,List.mem_append] at hi ⊢
          exact hi.elim (fun q=>.inl (.inl q)) fun q=>.inr (.inl q)
         | succ j =>
          simp at hj
          obtain ⟨m,y,u,b,e1,e2⟩:=ih hys j q hj
          refine ⟨m,y,u,b,e1,fun i hi=>?_⟩
          have:=e2 i hi
          simp only [List.map_append,List.mem_append] at this ⊢
          exact this.elim (fun q=>.inl (.inr q)) fun q=>.inr (.inr q)
     have hv':∀ (j:Nat) (q:RV),rs[j]? = some q→∃ c,cs[j]? = some c∧RVR P F1 (st.upS u []).fr tm w q c:=by
      intro j q hj
      obtain ⟨m,yq,uq,bq,e1,e2⟩:=hsub hys j q hj
      obtain ⟨c',e,hq⟩:=hv (j + 1) q (by simpa using hj)
      exact ⟨c',by simpa using e,Ji e1 (fun i hi=>Jaq _ _ _ fun hm=>d3 i (List.mem_append_left _ hm) i (e2 i hi) rfl) r3 hq⟩
     obtain ⟨F2,Bs2,B2,s1,s2,s2',s3,s3',s4,s5,s6,s7,s8⟩:=JdA r1 hv' (by simpa using hl) hys d2
     have hB1:∀ b∈B1,¬ F2 b:=fun x hx hf=>by
      rcases s3' x hf with q | ⟨i,q1,q2⟩
      · exact r5 x hx q
      · exact d3 i (List.mem_append_right _ (r7 x hx i q2)) i (List.mem_append_left _ q1) rfl
     refine ⟨F2,Bs2,B1++B2,by rw [←JbZ]; exact s1,.cons (r2.mono (w':=w) s3 fun _ _=>rfl) s2,?_,fun b q=>s3 b (r3 b q),fun b q=>?_,fun i b q=>r4 i b (s4 i b q),?_,?_,?_,?_⟩
     rotate_left
     · rcases s3' b q with q | ⟨i,q1,q2⟩
       · exact (r3' b q).imp id fun ⟨i,q1,q2⟩=>⟨i,by simp only [List.map_append,List.mem_append]; exact .inl q1,q2⟩
       · exact .inr ⟨i,by simp only [List.map_append,List.mem_append]; exact .inr q1,r4 i b q2⟩
     rotate_right 1
     · refine List.nodup_append.2 ⟨r2',s2',fun x hx y hy e=>?_⟩
       subst e
       obtain ⟨i1,q1,q2⟩:=r6 x hx
       obtain ⟨i2,q3,q4⟩:=s6 x hy
       exact h.dj i1 i2 x (fun e=>d3 i1 q1 i2 q3 e) q2 (r4 i2 x q4)
     · intro x hx
       rcases List.mem_append.1 hx with q | q
       · exact hB1 x q
       · exact s5 x q
     · intro x hx
       rcases List.mem_append.1 hx with q | q
       · obtain ⟨i,q1,q2⟩:=r6 x q
         refine ⟨i,?_,q2⟩
         simp only [List.map_append,List.mem_append] at q1 ⊢
         exact q1.elim (fun q=>.inl (.inl q)) fun q=>.inr (.inl q)
       · obtain ⟨i,q1,q2⟩:=s6 x q
         refine ⟨i,?_,r4 i x q2⟩
         simp only [List.map_append,List.mem_append] at q1 ⊢
         exact q1.elim (fun q=>.inl (.inr q)) fun q=>.inr (.inr q)
     · intro x hx i hi
       rcases List.mem_append.1 hx with q | q
       · exact List.mem_append_left _ (r7 x q i (s4 i x hi))
       · exact List.mem_append_right _ (s7 x q i hi)
     · rw [List.map_append,r8,s8,JfF y c ys' cs]
end
end Go.Proofs.YtmgfmlhdnadglaaGreatDoor.Th
set_option linter.unusedVariables false
set_option linter.unusedSimpArgs false
namespace Go.Proofs.YtmgfmlhdnadglaaGreatDoor.Th
open Go
variable {R:Type} {res:R}
def Jj4 {R:Type} (P:Program) (G:Gd) (st:St) (a:Act) (w:World) (o:Oper) (K:Out→Option R) (res:R):Prop :=
 (∀ r,K r=some res→r.fits G.N o.dst=true)→∀ (next:Act→World→Prop) (Q:Exit→Act→World→Prop),
   (∀ r a' w',K r=some res→SRel P G (st.put o.dst r) a' w'→next a' w')→o.wp P a w next Q
section
variable {P:Program} {G:Gd} {F:Nat→Prop} {Bs:Nat→List Nat} {st:St} {a:Act} {tm:Array Value} {w:World}
theorem Eff.effW {o:Oper} {K:Out→Option R} (h:∃ out,K out=some res∧Eff P G st a w o out):Jj4 P G st a w o K res:=by
 obtain ⟨out,h1,h2⟩:=h
 exact fun hf _ _ hn=>h2.wp (hf out h1) fun a' w'=>hn out a' w' h1
theorem JdV:∀ {l:List (Nat × SV)} {fr fr':Fr} {i:Nat},i∈l.map (·.1)→JaA fr l i=JaA fr' l i
 | [],_,_,_,h=>by simp at h
 | (s,x)::l,fr,fr',i,h=>by
  simp only [JaA]
  by_cases hi:i∈l.map (·.1)
  · exact JdV hi
  · rw [Jaq _ _ _ hi,Jaq _ _ _ hi]
    simp only [List.map_cons,List.mem_cons] at h
    rcases h with h | h
    · subst h; rw [JaK,JaK]
    · exact absurd h hi
theorem JcY:∀ {l:List Nat} {ys:List SV},ys.length=l.length→(JgR l ys).map (·.1)=l
 | [],[],_=>rfl
 | s::l,y::ys,h=>by simp [JgR,JcY (l:=l) (ys:=ys) (by simpa using h)]
 | [],_::_,h=>by simp at h
 | _::_,[],h=>by simp at h
theorem JfK:∀ (bs:List Nat) (fr:Fr) (s:Nat),s∈bs→JaA fr (bs.map fun s=>(s,.dead)) s=.dead
 | [],_,_,hs=>by simp at hs
 | x::bs,fr,s,hs=>by
  simp only [List.map_cons,JaA]
  by_cases hx:s∈bs
  · exact JfK bs _ s hx
  · rw [Jaq _ _ _ (by simpa using hx)]
    rcases List.mem_cons.1 hs with rfl | q
    · exact JaK _ _ _
    · exact absurd q hx
theorem Rel.empties:∀ (bs:List Nat) {st:St} {Bs:Nat→List Nat},Rel P G F Bs st tm w →
 ∃ Bs',Rel P G F Bs' (st.upS (bs.map fun s=>(s,.dead)) []) tm w∧(∀ i b,b∈Bs' i→b∈Bs i∧i∉bs)
 | [],st,Bs,h=>⟨Bs,by rw [List.map_nil,Jak]; exact h,fun i b hb=>⟨hb,by simp⟩⟩
 | s::bs,st,Bs,h=>by
  have h1:=Rel.empty (a:={ tmps:=tm,defers:=[] }) h s
  obtain ⟨Bs',r1,r2⟩:=Rel.empties bs h1
  refine ⟨Bs',by rw [JbZ] at r1; exact r1,fun i b hb=>?_⟩
  obtain ⟨q1,q2⟩:=r2 i b hb
  by_cases hi:i=s
  · subst hi; rw [Jah] at q1; cases q1
  · rw [Jaf _ _ hi] at q1; exact ⟨q1,by simp [hi,q2]⟩
theorem Rel.growB {B:List Nat} (h:Rel P G F Bs st tm w) {w':World} {F':Nat→Prop} (hw:∀ b,b<w.heap.size→b∉B→w'.heap[b]? = w.heap[b]?) (hz:w.heap.size≤w'.heap.size)
 (hos:w'.os=w.os∧w'.tape=w.tape∧w'.output=w.output) (hF:∀ b,F b→F' b) (hF':∀ b,F' b→F b∨w.heap.size≤b∨b∈B) (hlt:∀ b,F' b→b<w'.heap.size)
 (hBF:∀ b∈B,¬ F b) (hBB:∀ i b,b∈Bs i→b∉B) (hBw:∀ b∈B,G.W.heap.size≤b∨G.A b):Rel P G F' Bs st tm w':=by
 refine ⟨h.sz,fun i=>(h.sl i).mono hF fun b hb=>?_,h.nd,h.dj,fun i b hb hf=>?_,h.nw,fun i b hb=>Nat.lt_of_lt_of_le (h.lt i b hb) hz,hlt,fun b hb=>hF b (h.f0 b hb),fun b hb=>?_,?_,?_,h.pn⟩
 · rcases hb with q | q
   · exact hw b (h.fl b q) fun r=>hBF b r q
   · exact hw b (h.lt i b q) (hBB i b q)
 · rcases hF' b hf with q | q | q
   · exact h.nf i b hb q
   · have:=h.lt i b hb; omega
   · exact hBB i b hb q
 · rcases hF' b hb with q | q | q
   · exact h.fn b q
   · exact .inr (.inl (Nat.le_trans h.kb.size q))
   · exact .inr (hBw b q)
 · refine ⟨hos.1.trans h.kb.os,hos.2.1.trans h.kb.tape,hos.2.2.trans h.kb.output,Nat.le_trans h.kb.size hz,fun b hb hA=>(hw b (Nat.lt_of_lt_of_le hb h.kb.size) fun q=>?_).trans (h.kb.block b hb hA)⟩
   rcases hBw b q with r | r
   · omega
   · exact hA r
 · intro t q hm
   have hok:=h.rf t q hm
   have box:∀ u T cs b,st.fr u=.bx T cs→tm.getD u undef=.pointer (some ⟨b,0,none⟩)→w'.heap[b]? = w.heap[b]? := by
    intro u T cs b hu ht
    have hsl:=h.sl u
    rw [hu,ht] at hsl
    exact hw b (h.lt u b hsl.bx_mem) (hBB u b hsl.bx_mem)
   cases q with
   | b u off=>exact hok
   | o u j =>
    cases j with
    | none=>exact hok
    | some j =>
     intro T cs b cur T' f hu ht hb
     rw [box u T cs b hu ht] at hb
     exact hok T cs b cur T' f hu ht hb
   | e u j T i off =>
    cases j with
    | none=>exact hok
    | some j =>
     intro Tb cs b cur T' f hu ht hb
     rw [box u Tb cs b hu ht] at hb
     exact hok Tb cs b cur T' f hu ht hb
theorem Rel.lays:∀ (bs:List Nat) (ys:List SV) {st:St} {Bs:Nat→List Nat} {B:List Nat},Rel P G F Bs st tm w→RSs P F w ys (bs.map fun s=>tm.getD s undef) B→B.Nodup→bs.Nodup →
 (∀ b∈B,(∀ i,b∉Bs i)∧¬ F b∧(G.W.heap.size≤b∨G.A b)∧b<w.heap.size)→(∀ s∈bs,st.fr s=.dead) →
 ∃ Bs',Rel P G F Bs' (st.upS (JgR bs ys) bs) tm w∧∀ i b,b∈Bs' i→b∈Bs i∨b∈B
 | [],ys,st,Bs,B,h,hy,_,_,_,_=>by
  cases hy
  exact ⟨Bs,by simp only [JgR]; rw [Jak]; exact h,fun _ _ q=>.inl q⟩
 | s::bs,ys,st,Bs,B,h,hy,hn,hbs,hB,hd=>by
  cases hy with
  | cons h1 h2 =>
   rename_i y ys B1 B2
   rw [List.nodup_append] at hn
   have hds:=hd s (by simp)
   have ht:=h.turn (s:=s) (drop:=[s]) (F':=F) (w':=w) (x:=y) (B:=B1) h1 (fun b hb=>by
    obtain ⟨q1,q2,q3,q4⟩:=hB b (List.mem_append_left _ hb)
    exact .inr ⟨fun ⟨i,q⟩=>q1 i q,q3,q4⟩) hn.1 (fun _ q=>q) (fun _ q=>.inl q) (fun b hb=>(hB b (List.mem_append_left _ hb)).2.1)
    (fun _ _ _=>rfl) (Nat.le_refl _) ⟨rfl,rfl,rfl⟩ (fun T cs b hs _=>by rw [hds] at hs; cases hs) (fun _ _ _=>.inl (by simp))
   rw [List.nodup_cons] at hbs
   obtain ⟨Bs',r1,r2⟩:=Rel.lays bs ys ht h2 hn.2.1 hbs.2 (fun b hb=>by
    obtain ⟨q1,q2,q3,q4⟩:=hB b (List.mem_append_right _ hb)
    refine ⟨fun i=>?_,q2,q3,q4⟩
    by_cases hi:i=s
    · subst hi; rw [Jah]; exact fun q=>hn.2.2 b q b hb rfl
    · rw [Jaf _ _ hi]; exact q1 i) (fun s' hs'=>by
    show JdU st.fr s y s'=.dead
    have hne:s'≠s:=fun e=>by subst e; exact hbs.1 hs'
    rw [Jar _ _ hne]
    exact hd s' (by simp [hs']))
   refine ⟨Bs',by rw [Jh2] at r1; exact r1,fun i b hb=>?_⟩
   rcases r2 i b hb with q | q
   · by_cases hi:i=s
     · subst hi; rw [Jah] at q; exact .inr (List.mem_append_left _ q)
     · rw [Jaf _ _ hi] at q; exact .inl q
   · exact .inr (List.mem_append_right _ q)
theorem JjU {xs:List SV} {vs:List Value} {B:List Nat} (h:RSs P F w xs vs B):RS P F w (Ji0 xs) (JgQ vs) B:=by
 cases h with
 | nil=>exact .tup .nil
 | cons h1 h2 =>
  cases h2 with
  | nil=>rw [List.append_nil]; exact h1
  | cons h3 h4=>exact .tup (.cons h1 (.cons h3 h4))
theorem JfH {o:Oper} {g:Nat} {fs:FS} {rs:List RV} {cs:List Value} {K:Out→Option R} (hd:a.defers=[]) (h:Rel P G F Bs st a.tmps w) (hfs:FSound P G.I g fs)
 (hrun:(execOp a.eval o).run P w=.ok (.enter g cs.toArray) w) (hv:∀ (j:Nat) (r:RV),rs[j]? = some r→∃ c,cs[j]? = some c∧RVR P F st.fr a.tmps w r c) (hl:cs.length=rs.length)
 (hk:Jgj fs rs K=some res):Jj4 P G st a w o K res:=by
 unfold Jgj at hk
 cases ha:JbL fs.om rs with
 | none=>rw [ha] at hk; cases hk
 | some q =>
  obtain ⟨avs,us,bs⟩:=q
  rw [ha] at hk
  simp only [] at hk
  obtain ⟨hdi,hk⟩:=Jaa hk
  have hdi:=Jbj.1 hdi
  obtain ⟨F1,Bs1,B,r1,r2,r3,r4,r4',r5,r6,r7,r8,r9⟩:=JdA h hv hl ha hdi
  have told:=hfs.call hk
  have hBlt:∀ b∈B,b<w.heap.size:=fun b hb=>by obtain ⟨i,_,q⟩:=r7 b hb; exact h.lt i b q
  have hBw:∀ b∈B,G.W.heap.size≤b∨G.A b:=fun b hb=>by obtain ⟨i,_,q⟩:=r7 b hb; exact h.nw i b q
  intro hf next Q hn
  unfold Oper.wp
  rw [hrun,Oper.upon_enter]
  refine Calls.mono (told F1 w cs.toArray B (by simpa using r2) r3 (fun b hb=>⟨r6 b hb,hBlt b hb⟩) r1.fl (G.hI _ _ r1.f0 r1.kb)) fun e w' he=>?_
  cases e with
  | panicked chain=>exact he.elim
  | outgrown=>exact he.elim
  | returned v =>
   obtain ⟨rs',hkr,F2,Br,xs,ys,vs,rfl,e1,rfl,e2,e3,e4,e5,e6,e7,e8⟩:=he
   have hlen:ys.length=bs.length:=by
    have q1:=e2.length
    have q2:=congrArg List.length r9
    simp only [List.length_map,List.length_append] at q1 q2
    omega
   have htake:(xs++ys).take ((xs++ys).length - bs.length)=xs:=by
    rw [List.length_append,hlen,Nat.add_sub_cancel,List.take_left]
   have hdrop:(xs++ys).drop ((xs++ys).length - bs.length)=ys:=by
    rw [List.length_append,hlen,Nat.add_sub_cancel,List.drop_left]
   rw [htake,hdrop] at hkr
   obtain ⟨v1,v2,B1,B2,q1,rfl,g1,g2⟩:=e2.split
   have hv1:vs=v1∧bxv avs cs=v2:=List.append_inj q1 (by rw [←e1,g1.length])
   obtain ⟨rfl,rfl⟩:=hv1
   rw [←r9] at g2
   rw [List.nodup_append] at e3
   obtain ⟨Bs2,s1,s2⟩:=Rel.empties bs r1
   have s3:Rel P G F2 Bs2 ((st.upS us []).upS (bs.map fun s=>(s,.dead)) []) a.tmps w' :=
    s1.growB (B:=B) (fun b hb hnb=>e8.block b hb hnb) e8.size ⟨e8.os,e8.tape,e8.output⟩ e5 e6 e7 r6 (fun i b hb hbB=>(s2 i b hb).2 (r8 b hbB i (s2 i b hb).1)) hBw
   have hbsn:bs.Nodup:=(List.nodup_append.1 hdi).2.1
   have new:∀ b∈B1++B2,(∀ i,b∉Bs2 i)∧¬ F2 b∧(G.W.heap.size≤b∨G.A b)∧b<w'.heap.size:=fun b hb=>by
    obtain ⟨q1,q2,q3⟩:=e4 b hb
    refine ⟨fun i hi=>?_,q1,?_,q2⟩
    · rcases q3 with q | q
      · have:=s1.lt i b hi; omega
      · exact (s2 i b hi).2 (r8 b q i (s2 i b hi).1)
    · rcases q3 with q | q
      · exact .inl (Nat.le_trans h.kb.size q)
      · exact hBw b q
   obtain ⟨Bs3,t1,t2⟩:=Rel.lays bs ys s3 g2 e3.2.1 hbsn (fun b hb=>new b (List.mem_append_right _ hb)) (fun s hs=>by
    exact JfK bs _ s hs)
   have hst:((st.upS us []).upS (bs.map fun s=>(s,.dead)) []).upS (JgR bs ys) bs=st.upS (us++JgR bs ys) bs:=by
    rw [JbZ,JbZ]
    simp only [St.upS,JbI]
    congr 1
    funext i
    by_cases hi:i∈bs
    · exact JdV (by rw [JcY hlen]; exact hi)
    · rw [Jaq _ (JgR bs ys) i (by rw [JcY hlen]; exact hi),Jaq _ (JgR bs ys) i (by rw [JcY hlen]; exact hi),Jaq _ _ i (by simpa using hi)]
   rw [hst] at t1
   refine hn _ _ _ hkr (JaE hd t1 (JjU g1) e3.1 (fun i b hb hi=>?_) (fun b hb=>(new b (List.mem_append_left _ hb)).2.1) (fun b hb=>(new b (List.mem_append_left _ hb)).2.2.1)
    (fun b hb=>(new b (List.mem_append_left _ hb)).2.2.2) (by simp) (hf _ hkr))
   rcases t2 i b hi with q | q
   · exact (new b (List.mem_append_left _ hb)).1 i q
   · exact e3.2.2 b hb b q rfl
end
end Go.Proofs.YtmgfmlhdnadglaaGreatDoor.Th
set_option linter.unusedVariables false
set_option linter.unusedSimpArgs false
namespace Go.Proofs.YtmgfmlhdnadglaaGreatDoor.Th
open Go
variable {R:Type} {res:R}
def EnvOK (P:Program) (I:GInv) (env:Env):Prop:=∀ g fs,env g=some fs→FSound P I g fs
theorem EnvOK.det {P:Program} {I:GInv} {env:Env} (h:EnvOK P I env):Jbm env:=fun g fs he=>(h g fs he).det
section
variable {P:Program} {G:Gd} {F:Nat→Prop} {Bs:Nat→List Nat} {st:St} {a:Act} {tm:Array Value} {w:World}
theorem JeZ {o:Oper} {f:Operand} {args:Array Operand} {tys:Array TypeId} {g:Nat} {caps:List Value} {fs:FS} (ho:o.op=.call { callee:=.value f,args:=args,argTypes:=tys })
 (hf:a.eval f=.func (.func g) #[] caps.toArray) {I:GInv} (hfs:FSound P I g fs):(execOp a.eval o).run P w=.ok (.enter g (args.toList.map a.eval++caps).toArray) w:=by
 obtain ⟨fn,h1,h2,h3⟩:=hfs.fn
 have e:#[]++args.map a.eval++caps.toArray=(args.toList.map a.eval++caps).toArray:=by apply Array.ext'; simp
 simp only [execOp,ho,resolve,hf,Deferred.ofValue,invoke,Sem.run_bind,Sem.run_pure,Result.andThen_ok]
 rw [e]
 have hn:¬ fn.name = "runtime.NumGoroutine" := by intro e; rw [e] at h3; simp at h3
 have hb:¬ fn.body=none:=by intro e; rw [e] at h2; simp at h2
 simp [callFunc,go_sem,h1,hn,hb]
theorem JfD {l:List Operand} (h:Rel P G F Bs st a.tmps w):∀ (j:Nat) (r:RV),(l.map (opd st))[j]? = some r→∃ c,(l.map a.eval)[j]? = some c∧RVR P F st.fr a.tmps w r c:=by
 intro j r hj
 rw [List.getElem?_map] at hj
 cases hl:l[j]? with
 | none=>rw [hl] at hj; cases hj
 | some x =>
  rw [hl] at hj
  simp only [Option.map_some,Option.some.injEq] at hj
  subst hj
  exact ⟨a.eval x,by rw [List.getElem?_map,hl]; rfl,Jag h x⟩
theorem Jif {caps:List PV} {vs:List Value} (hc:RPs F w caps vs) {l:List Operand} (h:Rel P G F Bs st a.tmps w) :
 ∀ (j:Nat) (r:RV),(l.map (opd st)++caps.map RV.pv)[j]? = some r→∃ c,(l.map a.eval++vs)[j]? = some c∧RVR P F st.fr a.tmps w r c:=by
 intro j r hj
 by_cases hlt:j<l.length
 · rw [List.getElem?_append_left (by simpa using hlt)] at hj
   rw [List.getElem?_append_left (by simpa using hlt)]
   exact JfD h j r hj
 · rw [List.getElem?_append_right (by simp; omega)] at hj
   rw [List.getElem?_append_right (by simp; omega)]
   simp only [List.length_map] at hj ⊢
   rw [List.getElem?_map] at hj
   cases hl:caps[j - l.length]? with
   | none=>rw [hl] at hj; cases hj
   | some x =>
    rw [hl] at hj
    simp only [Option.map_some,Option.some.injEq] at hj
    subst hj
    obtain ⟨c,e1,e2⟩:=hc.get hl
    exact ⟨c,e1,e2⟩
theorem JjJ {env:Env} (henv:EnvOK P G.I env) {o:Oper} {f:Operand} {args:Array Operand} {tys:Array TypeId} {K:Out→Option R} (hd:a.defers=[]) (h:Rel P G F Bs st a.tmps w)
 (ho:o.op=.call { callee:=.value f,args:=args,argTypes:=tys }) (hk:opK P env (.call { callee:=.value f,args:=args,argTypes:=tys }) o.type (opd st) K=some res) :
 Jj4 P G st a w o K res:=by
 have hr:=Jag h f
 simp only [opK] at hk
 split at hk
 · rename_i g fi ca hf
   rw [hf] at hr
   have hv:=Jbd hr
   split at hk
   · rename_i hfi hca he
     have e1:fi=#[]:=by cases fi; simp at hfi; simp [hfi]
     have e2:ca=#[]:=by cases ca; simp at hca; simp [hca]
     subst e1 e2
     have hfs:=henv _ _ he
     have hrun:=JeZ (w:=w) (caps:=[]) ho hv hfs
     rw [List.append_nil] at hrun
     exact JfH hd h hfs hrun (JfD h) (by simp) hk
   · cases hk
 · rename_i g caps hf
   rw [hf] at hr
   split at hk
   · rename_i fs he
     have hfs:=henv _ _ he
     have hr:RP F w (.clo g caps) (a.eval f):=hr
     generalize hc:a.eval f=c at hr
     cases hr with
     | clo hcs=>exact JfH hd h hfs (JeZ ho hc hfs) (Jif hcs h) (by simp [hcs.length]) hk
   · cases hk
 · cases hk
theorem Jgz {env:Env} {o:Oper} {b:Builtin} {args:Array Operand} {tys:Array TypeId} {K:Out→Option R} (hd:a.defers=[]) (h:Rel P G F Bs st a.tmps w)
 (ho:o.op=.call { callee:=.builtin b,args:=args,argTypes:=tys }) (hk:JaB P b tys.toList (args.toList.map (opd st)) K=some res) :
 ∃ out,K out=some res∧Eff P G st a w o out:=by
 unfold JaB at hk
 split at hk
 · rename_i x hx
   obtain ⟨h1,h2⟩:=Jaa hk
   exact JkD hd h ho hx h2 h1
 · rename_i s x hx
   split at hk
   · rename_i t t2 ht
     obtain ⟨h1,hk1⟩:=Jaa hk
     clear hk
     have h1:=eqB h1
     subst h1
     split at hk1
     · rename_i E hE
       split at hk1
       · rename_i n bytes hn hb
         obtain ⟨h2,hk2⟩:=Jaa hk1
         simp only [Bool.and_eq_true,Nat.blt_eq] at h2
         have hty:tys=#[t,t]:=by cases tys; simp at ht; simp [ht]
         subst hty
         exact JhH (t2:=t) hd h ho hx hE hn hb h2.1 h2.2 hk2
       · cases hk1
     · cases hk1
   · cases hk
 · rename_i k m k' n hx
   obtain ⟨h1,hk1⟩:=Jaa hk
   clear hk
   have:=JbQ h1
   subst this
   exact JeU hd h ho hx _ (.inl ⟨rfl,rfl⟩) hk1
 · rename_i k m k' n k'' q hx
   obtain ⟨h1,hk1⟩:=Jaa hk
   clear hk
   simp only [Bool.and_eq_true] at h1
   have e1:=JbQ h1.1
   have e2:=JbQ h1.2
   subst e1 e2
   exact JjM hd h ho hx hk1
 · rename_i k m k' n hx
   obtain ⟨h1,hk1⟩:=Jaa hk
   clear hk
   have:=JbQ h1
   subst this
   exact JeU hd h ho hx _ (.inr ⟨rfl,rfl⟩) hk1
 · cases hk
theorem Jfq {env:Env} (henv:EnvOK P G.I env) {o:Oper} {op:Op} {K:Out→Option R} (hd:a.defers=[]) (h:Rel P G F Bs st a.tmps w) (ho:o.op=op)
 (hk:opK P env op o.type (opd st) K=some res):Jj4 P G st a w o K res:=by
 cases op with
 | move x=>exact Eff.effW (Jfs hd h ho (by simpa only [opK] using hk))
 | assign x=>exact Eff.effW (JhI hd h ho hk)
 | pick c x y=>exact Eff.effW (JjN hd h ho hk)
 | alloc T=>exact Eff.effW (JiG hd h ho hk)
 | box T x=>exact Eff.effW (JkC hd h ho hk)
 | build T parts=>exact Eff.effW (JiH hd h ho hk)
 | buildSlice T len parts=>exact Eff.effW (Jed hd h ho hk)
 | load T x=>exact Eff.effW (JjL hd h ho hk)
 | store T x y=>exact Eff.effW (JiN hd h ho hk)
 | nilCheck x=>exact Eff.effW (Jft hd h ho hk)
 | binOp op T x y yT=>exact Eff.effW (JkB hd h ho hk)
 | unOp op T x=>exact Eff.effW (Jla hd h ho hk)
 | convert s d x=>exact Eff.effW (JjK hd h ho hk)
 | makeFunc f first caps =>
  cases f with
  | func f=>exact Eff.effW (Jfr hd h ho hk)
  | _=>simp only [opK,reduceCtorEq] at hk
 | makeSlice T l c=>exact Eff.effW (JeT hd h ho hk)
 | slice T x lo hi mx=>exact Eff.effW (JiM hd h ho hk)
 | fieldAddr S x f=>exact Eff.effW (JeR hd h ho hk)
 | field S x f=>exact Eff.effW (JiI hd h ho hk)
 | indexAddr T x i=>exact Eff.effW (JeS hd h ho hk)
 | index T x i=>exact Eff.effW (JiJ hd h ho hk)
 | extract x i=>exact Eff.effW (JgA hd h ho hk)
 | call c =>
  obtain ⟨callee,args,tys⟩:=c
  cases callee with
  | builtin b=>exact Eff.effW (Jgz (env:=env) hd h ho (by simpa only [opK] using hk))
  | value f=>exact JjJ henv hd h ho hk
  | invoke x n=>simp only [opK,reduceCtorEq] at hk
 | _=>simp only [opK,reduceCtorEq] at hk
theorem JjF {env:Env} (henv:EnvOK P G.I env) {fz:List Nat} {o:Oper} {K:Out→Option R} (hd:a.defers=[]) (h:Rel P G F Bs st a.tmps w)
 (hk:opF P env fz o (opd st) K=some res):Jj4 P G st a w o K res:=by
 unfold opF at hk
 split at hk
 · rename_i x ho
   split at hk
   · rename_i d hdst
     cases hm:Jbf fz d with
     | true=>rw [hm] at hk; exact Eff.effW (JhK hd h ho hk)
     | false=>rw [hm] at hk; exact Eff.effW (Jfs hd h ho hk)
   · exact Eff.effW (Jfs hd h ho hk)
 · rename_i T parts ho
   cases ht:JdR fz o.dst with
   | true=>rw [ht] at hk; exact Eff.effW (JhJ hd h ho hk)
   | false=>rw [ht] at hk; exact Jfq henv hd h ho hk
 · rename_i T x ho
   cases ht:(JdR fz o.dst&&Jai P T&&JaH P T) with
   | true =>
    rw [ht,cond_true] at hk
    simp only [Bool.and_eq_true] at ht
    split at hk
    · rename_i n hn; exact Eff.effW (JjO hd h ho ht.2 ht.1.2 hn hk)
    · cases hk
   | false=>rw [ht] at hk; exact Jfq henv hd h ho hk
 · exact Jfq henv hd h rfl hk
end
end Go.Proofs.YtmgfmlhdnadglaaGreatDoor.Th
set_option linter.unusedVariables false
set_option linter.unusedSimpArgs false
namespace Go.Proofs.YtmgfmlhdnadglaaGreatDoor.Th
open Go
variable {R:Type} {res:R}
section
variable {P:Program} {G:Gd} {F:Nat→Prop} {Bs:Nat→List Nat} {st:St} {a:Act} {tm:Array Value} {w:World}
theorem JhZ {st:St} {d:Nat} {t:Bool} (h:st.fr d=.p (.v (.bool t))):JgP st d t=st:=by
 cases st with
 | mk fr ral =>
  simp only [JgP]
  congr 1
  funext j
  by_cases hj:j=d
  · subst hj; rw [JaK]; exact h.symm
  · rw [Jar _ _ hj]
theorem JiV (hs:SRel P G st a w) {d:Option Nat} (hf:Jce.fits G.N d=true):SRel P G (st.put d Jce) (a.put d undef) w:=by
 obtain ⟨hd,F,Bs,h⟩:=hs
 exact JaF (x:=.v (.tuple #[])) hd h (.v _) hf
theorem Jf3 {env:Env} (henv:EnvOK P G.I env) {fz:List Nat} {ops:Array Oper} {o:Oper} {K:St→Out→Option R} (hs:SRel P G st a w)
 (hk:JaT P env fz G.N ops.toList o st K=some res) {next:Act→World→Prop} {Q:Exit→Act→World→Prop}
 (hn:∀ r a' w',K st r=some res→SRel P G (st.put o.dst r) a' w'→next a' w') :
 (Region.wanted o (yielded ops a.tmps)=true→o.wp P a w next Q)∧(Region.wanted o (yielded ops a.tmps)=false→next (a.put o.dst undef) w):=by
 have go:∀ st',st'=st→goO P env fz G.N o st' K=some res→o.wp P a w next Q:=by
  intro st' e hg
  subst e
  obtain ⟨hd,F,Bs,h⟩:=hs
  unfold goO at hg
  exact JjF henv hd h hg (fun r hr=>(Jaa hr).1) next Q fun r a' w' hr hs=>hn r a' w' (Jaa hr).2 hs
 have sk:∀ st',st'=st→skO G.N o st' K=some res→next (a.put o.dst undef) w:=by
  intro st' e hg
  subst e
  unfold skO at hg
  obtain ⟨h1,h2⟩:=Jaa hg
  exact hn _ _ _ h2 (JiV hs h1)
 unfold JaT at hk
 split at hk
 · rename_i hg
   have hw:Region.wanted o (yielded ops a.tmps)=true:=by simp [Region.wanted,hg]
   exact ⟨fun _=>go st rfl hk,fun h=>absurd (hw.symm.trans h) (by simp)⟩
 · rename_i j want hg
   split at hk
   · cases hk
   · rename_i d hd'
     split at hk
     · cases hk
     · have hdst:(ops[j]?).bind (·.dst)=some d:=by rw [←Array.getElem?_toList]; exact hd'
       obtain ⟨hd,F,Bs,h⟩:=hs
       have hsl:=h.sl d
       split at hk
       · rename_i t hfr
         rw [hfr] at hsl
         have hv:a.tmps.getD d undef=.bool t:=by
          generalize a.tmps.getD d undef=c at hsl
          generalize Bs d=B at hsl
          cases hsl with | p h=>exact Jbd h
         have hy:yielded ops a.tmps j=some t:=by
          unfold yielded
          rw [hdst]
          simp only [Option.bind_some]
          cases hq:a.tmps[d]? with
          | none=>rw [Array.getD_eq_getD_getElem?,hq] at hv; simp [undef] at hv
          | some c=>rw [Array.getD_eq_getD_getElem?,hq] at hv; simp at hv; rw [hv]
         have hw:Region.wanted o (yielded ops a.tmps)=(t == want):=by
          simp only [Region.wanted,hg,hy]
          cases t <;> cases want <;> rfl
         rw [hw]
         have hsb:=JhZ hfr
         cases t <;> cases want <;> simp only [cond_true,cond_false] at hk <;>
          first
          | exact ⟨fun _=>go _ hsb hk,fun h=>by simp at h⟩
          | exact ⟨fun h=>by simp at h,fun _=>sk _ hsb hk⟩
       · rename_i l hfr
         rw [hfr] at hsl
         have hv:a.tmps.getD d undef=.tuple l:=by
          generalize a.tmps.getD d undef=c at hsl
          generalize Bs d=B at hsl
          cases hsl with | p h=>exact Jbd h
         have hy:yielded ops a.tmps j=none:=by
          unfold yielded
          rw [hdst]
          simp only [Option.bind_some]
          cases hq:a.tmps[d]? with
          | none=>rfl
          | some c=>rw [Array.getD_eq_getD_getElem?,hq] at hv; simp at hv; rw [hv]
         have hw:Region.wanted o (yielded ops a.tmps)=false:=by
          simp [Region.wanted,hg,hy]
         exact ⟨fun h=>absurd (hw.symm.trans h) (by simp),fun _=>sk st rfl hk⟩
       · cases hk
theorem JhR {env:Env} (henv:EnvOK P G.I env) {fz:List Nat} {ops:Array Oper} {Q:Exit→Act→World→Prop} {K:St→Option R}
 (hQ:∀ st' a' w',K st'=some res→SRel P G st' a' w'→Q .normal a' w'):∀ (l:List Oper) (i:Nat) {st:St} {a:Act} {w:World},ops.toList.drop i=l→SRel P G st a w →
 JgM P env fz G.N ops.toList l st K=some res→wpOps P ops Q (List.range' i l.length) a w
 | [],i,st,a,w,hl,hs,hk=>hQ st a w hk hs
 | o::l,i,st,a,w,hl,hs,hk=>by
  have ho:ops[i]? = some o:=by
   rw [←Array.getElem?_toList]
   have:=congrArg (·[0]?) hl
   simpa using this
  have hl':ops.toList.drop (i + 1)=l:=by
   have:=congrArg List.tail hl
   simpa using this
  simp only [JgM] at hk
  rw [List.length_cons,List.range'_succ,wpOps_cons]
  unfold wpOp
  rw [ho]
  simp only []
  obtain ⟨h1,h2⟩:=Jf3 henv hs hk (next:=wpOps P ops Q (List.range' (i + 1) l.length)) (Q:=Q) fun r a' w' hr hs'=>JhR henv hQ l (i + 1) hl' hs' hr
  cases hw:Region.wanted o (yielded ops a.tmps) with
  | true=>simp only [if_true]; exact .inl (h1 hw)
  | false=>simp only [Bool.false_eq_true,if_false]; exact h2 hw
theorem SRel.noRal (h:SRel P G st a w):SRel P G ⟨st.fr,[]⟩ a w:=by
 obtain ⟨hd,F,Bs,h⟩:=h
 exact ⟨hd,F,Bs,⟨h.sz,h.sl,h.nd,h.dj,h.nf,h.nw,h.lt,h.fl,h.f0,h.fn,h.kb,by simp,h.pn⟩⟩
theorem SRel.drawn {n:Nat} (h:SRel P G st a w):SRel P G st a { w with drawn:=n }:=by
 obtain ⟨hd,F,Bs,h⟩:=h
 refine ⟨hd,F,Bs,⟨h.sz,fun i=>(h.sl i).mono (fun _ q=>q) fun _ _=>rfl,h.nd,h.dj,h.nf,h.nw,h.lt,h.fl,h.f0,h.fn,⟨h.kb.os,h.kb.tape,h.kb.output,h.kb.size,h.kb.block⟩,h.rf,h.pn⟩⟩
theorem JhV {env:Env} (henv:EnvOK P G.I env) {fz:List Nat} {id:Nat} {ops:Array Oper} {Q:Exit→Act→World→Prop} {K:Fr→Option R} {fr:Fr}
 (hQ:∀ fr' a' w',K fr'=some res→SRel P G ⟨fr',[]⟩ a' w'→Q .normal a' w') (hs:SRel P G ⟨fr,[]⟩ a w)
 (hk:JgO P env fz G.N ops.toList false fr K=some res):(Code.region id ops false).wp P Q a w:=by
 simp only [JgO,cond_false] at hk
 refine wp_region ?_
 rw [List.range_eq_range']
 exact JhR henv (fun st' a' w' h1 h2=>hQ _ _ _ h1 h2.noRal) ops.toList 0 rfl hs hk
theorem JeW {env:Env} (henv:Jbm env) {fz:List Nat} {N:Nat × List Nat} {ops:List Oper} {K:St→List Fp→Option R}:∀ (l:List Oper) (k:Nat) (st:St) (tr:List Fp),JgB P env fz N ops l st tr K=some res →
 ∃ (evs:List Ev) (sF:St),K sF (tr++evs.map (·.f))=some res∧evs.map (·.o)=l∧evs.map (·.i)=List.range' k l.length∧((∀ e∈evs,e.f.calm=true)→Runs P env fz N ops evs st sF)
 | [],k,st,tr,h=>⟨[],st,by rw [List.map_nil,List.append_nil]; exact h,rfl,rfl,fun _=>.nil st⟩
 | o::l,k,st,tr,h=>by
  simp only [JgB] at h
  obtain ⟨r,h1,h2⟩:=Jeh henv h
  obtain ⟨evs,sF,q1,q2,q3,q4⟩:=JeW henv l (k + 1) _ _ h1
  refine ⟨⟨k,o,r,Jbr ops o st r⟩::evs,sF,by simpa using q1,by simp [q2],by simp [q3,List.range'_succ],fun hc=>?_⟩
  exact .cons h2 (hc _ (List.mem_cons_self ..)) (FEq.refl _) (q4 fun e he=>hc e (List.mem_cons_of_mem _ he))
theorem JeQ {f:Fp} {b:List Nat}:∀ {l:List Fp} {k:Nat},Jdm f b k l=true→∀ (i:Nat) (g:Fp),l[i]? = some g→(k + i)∈b∨NoClash g f
 | [],k,h,i,g,hg=>by simp at hg
 | x::l,k,h,0,g,hg=>by
  simp only [Jdm,Bool.and_eq_true,Bool.or_eq_true,Bool.not_eq_true'] at h
  simp only [List.getElem?_cons_zero,Option.some.injEq] at hg
  subst hg
  rcases h.1 with q | q
  · exact .inl (Ja7.1 q)
  · exact .inr (Jjz q)
 | x::l,k,h,i + 1,g,hg=>by
  simp only [Jdm,Bool.and_eq_true] at h
  have:=JeQ h.2 i g (by simpa using hg)
  rwa [show k + 1 + i=k + (i + 1) from by omega] at this
theorem JdO:∀ {fs ahead:List Fp} {bs:List (List Nat)},Jcb ahead bs fs=true→(∀ f∈fs,f.calm=true) ∧
 ∀ (i j:Nat) (f g:Fp),(ahead++fs)[i]? = some f→fs[j]? = some g→i<ahead.length + j→i∈bs.getD j []∨NoClash f g
 | [],ahead,bs,h=>⟨by simp,fun i j f g _ hg _=>by simp at hg⟩
 | x::fs,ahead,[],h=>by simp [Jcb] at h
 | x::fs,ahead,b::bs,h=>by
  simp only [Jcb,Bool.and_eq_true] at h
  obtain ⟨c1,c2⟩:=JdO h.2
  refine ⟨fun f hf=>?_,fun i j f g hf hg hlt=>?_⟩
  · rcases List.mem_cons.1 hf with rfl | hf
    · exact h.1.1
    · exact c1 f hf
  · cases j with
    | zero =>
     simp only [List.getElem?_cons_zero,Option.some.injEq] at hg
     subst hg
     have hi:i<ahead.length:=by omega
     rw [List.getElem?_append_left hi] at hf
     have:=JeQ h.1.2 i f hf
     simpa using this
    | succ j =>
     have:=c2 i j f g (by rw [List.append_assoc]; exact hf) (by simpa using hg) (by rw [List.length_append]; simp only [List.length_cons,List.length_nil]; omega)
     simpa using this
theorem JkJ (m i:Nat):tbN m i=m.testBit i:=by
 have e:Nat.land (Nat.shiftRight m i) 1=(m >>> i) &&& 1:=rfl
 unfold tbN Nat.testBit
 rw [e,Nat.and_comm]
 have h:1 &&& (m >>> i)=(m >>> i) % 2:=by rw [Nat.and_comm]; exact Nat.and_one_is_mod _
 rw [h]
 rcases Nat.mod_two_eq_zero_or_one (m >>> i) with q | q <;> rw [q] <;> rfl
theorem Jg4 (x i:Nat):(Jk1 x).testBit i=decide (x=i):=by
 show ((1:Nat) <<< x).testBit i=_
 rw [Nat.one_shiftLeft,Nat.testBit_two_pow]
theorem Jdi (a b i:Nat):(Nat.lor a b).testBit i=(a.testBit i||b.testBit i):=Nat.testBit_or a b i
theorem Jfn {a b:Nat} (h:Nat.beq (Nat.land a b) 0=true) (i:Nat):(a.testBit i&&b.testBit i)=false:=by
 have h':a &&& b=0:=Nat.eq_of_beq_eq_true h
 rw [←Nat.testBit_and,h',Nat.zero_testBit]
theorem JbF:∀ (l:List Nat) (i:Nat),(Jcs l).testBit i=true↔i∈l
 | [],i=>by simp [Jcs]
 | x::l,i=>by
  rw [Jcs,Jdi,Bool.or_eq_true,Jg4,JbF l i,decide_eq_true_iff,List.mem_cons]
  exact ⟨fun h=>h.imp Eq.symm id,fun h=>h.imp Eq.symm id⟩
theorem Jf6 {acc:List Nat} {accL:List (List Nat)} (h:∀ k i,(acc.getD k 0).testBit i=true→i∈accL.getD k []):∀ (l:List Nat) (i:Nat),(JhS acc l).testBit i=true→i∈l++l.flatMap fun k=>accL.getD k []
 | [],i,hi=>by simp [JhS] at hi
 | x::l,i,hi=>by
  rw [JhS,Jdi,Jdi,Jg4] at hi
  simp only [Bool.or_eq_true,decide_eq_true_iff] at hi
  simp only [List.cons_append,List.flatMap_cons,List.mem_cons,List.mem_append]
  rcases hi with (rfl | hi) | hi
  · exact .inl rfl
  · exact .inr (.inr (.inl (h x i hi)))
  · rcases List.mem_append.1 (Jf6 h l i hi) with q | q
    · exact .inr (.inl q)
    · exact .inr (.inr (.inr q))
theorem Jg0:∀ (l:List Oper) (acc:List Nat) (accL:List (List Nat)),acc.length=accL.length→(∀ k i,(acc.getD k 0).testBit i=true→i∈accL.getD k [])→(Jj8 l acc).length=(Jgg l accL).length ∧
 ∀ k i,((Jj8 l acc).getD k 0).testBit i=true→i∈(Jgg l accL).getD k []
 | [],acc,accL,hl,h=>⟨hl,h⟩
 | o::l,acc,accL,hl,h=>by
  rw [Jj8,Jgg]
  refine Jg0 l _ _ (by simp [hl]) fun k i hi=>?_
  simp only [List.getD_eq_getElem?_getD] at hi ⊢
  by_cases q:k<acc.length
  · rw [List.getElem?_append_left (by omega)]
    rw [List.getElem?_append_left q] at hi
    have:=h k i (by rw [List.getD_eq_getElem?_getD]; exact hi)
    rwa [List.getD_eq_getElem?_getD] at this
  · by_cases q2:k=acc.length
    · rw [List.getElem?_append_right (by omega)] at hi ⊢
      rw [show k - acc.length=0 from by omega] at hi
      rw [show k - accL.length=0 from by omega]
      have:=Jf6 h (JbG o) i (by simpa using hi)
      simpa using this
    · rw [List.getElem?_eq_none (by simp; omega)] at hi
      simp at hi
theorem Jdo {b:Nat} {bl:List Nat} (hb:∀ i,b.testBit i=true→i∈bl):∀ (l:List Nat) (k i m x:Nat),l[i]? = some m→m.testBit x=true→(k + i)∈bl∨(Jct b k l).testBit x=true
 | [],k,i,m,x,h,hx=>by simp at h
 | y::l,k,0,m,x,h,hx=>by
  simp only [List.getElem?_cons_zero,Option.some.injEq] at h
  subst h
  rw [Jct]
  cases q:tbN b k with
  | true=>rw [JkJ] at q; exact .inl (hb k q)
  | false=>rw [cond_false,Jdi,hx]; exact .inr rfl
 | y::l,k,i + 1,m,x,h,hx=>by
  have ih:=Jdo hb l (k + 1) i m x (by simpa using h) hx
  rw [show k + 1 + i=k + (i + 1) from by omega] at ih
  rcases ih with ih | ih
  · exact .inl ih
  · refine .inr ?_
    rw [Jct]
    cases tbN b k with
    | true=>exact ih
    | false=>rw [cond_false,Jdi]; rw [show (Jct b (Nat.succ k) l).testBit x=true from ih,Bool.or_true]
theorem Jeb {a b:List Nat} (h:∀ x,x∈a→x∈b→False):Jco a b=false:=by
 cases q:Jco a b with
 | false=>rfl
 | true =>
  exfalso
  induction a with
  | nil=>cases q
  | cons y a ih =>
   rw [Jco,Bool.or_eq_true] at q
   rcases q with q | q
   · exact h y (List.mem_cons_self ..) (Ja7.1 q)
   · exact ih (fun x hx=>h x (List.mem_cons_of_mem _ hx)) q
theorem JcN:∀ {fs ahead:List Fp} {bm:List Nat} {bs:List (List Nat)},bm.length=bs.length→(∀ k i,(bm.getD k 0).testBit i=true→i∈bs.getD k []) →
 JeP (ahead.map fun f=>Jcs f.wr) (ahead.map fun f=>Jcs f.rd) bm fs=true→Jcb ahead bs fs=true
 | [],ahead,bm,bs,hl,hb,h=>by cases bs <;> rfl
 | f::fs,ahead,[],bs,hl,hb,h=>by simp [JeP] at h
 | f::fs,ahead,m::bm,[],hl,hb,h=>by simp at hl
 | f::fs,ahead,m::bm,b::bs,hl,hb,h=>by
  simp only [JeP,Bool.and_eq_true] at h
  obtain ⟨⟨h1,h2⟩,h3⟩:=h
  simp only [Jcb,Bool.and_eq_true]
  refine ⟨⟨h1,?_⟩,JcN (by simpa using hl) (fun k i hi=>by simpa using hb (k + 1) i (by simpa using hi)) (by rw [List.map_append,List.map_append]; exact h3)⟩
  unfold Jkx at h2
  obtain ⟨g1,g2⟩:=(Bool.and_eq_true _ _).mp h2
  have hm:∀ i,m.testBit i=true→i∈b:=fun i hi=>by simpa using hb 0 i (by simpa using hi)
  have key:∀ (l:List Fp) (k:Nat),(∀ (i:Nat) (g:Fp),l[i]? = some g→ahead[k + i]? = some g)→Jdm f b k l=true:=by
   intro l
   induction l with
   | nil=>intro k _; rfl
   | cons g l ih =>
    intro k hk
    rw [Jdm,Bool.and_eq_true]
    refine ⟨?_,ih (k + 1) fun i x hx=>by rw [show k + 1 + i=k + (i + 1) from by omega]; exact hk (i + 1) x (by simpa using hx)⟩
    have hg:ahead[k]? = some g:=by simpa using hk 0 g (by simp)
    rw [Bool.or_eq_true]
    by_cases hkb:k∈b
    · exact .inl (Ja7.2 hkb)
    · refine .inr ?_
      have hw:=fun x hx=>(Jdo hm (ahead.map fun f=>Jcs f.wr) 0 k (Jcs g.wr) x (by rw [List.getElem?_map,hg]; rfl) hx).resolve_left (by rw [Nat.zero_add]; exact hkb)
      have hr:=fun x hx=>(Jdo hm (ahead.map fun f=>Jcs f.rd) 0 k (Jcs g.rd) x (by rw [List.getElem?_map,hg]; rfl) hx).resolve_left (by rw [Nat.zero_add]; exact hkb)
      unfold Jii
      rw [Jeb (a:=g.wr) (b:=f.wr) fun x hx hy=>?_,Jeb (a:=g.wr) (b:=f.rd) fun x hx hy=>?_,Jeb (a:=g.rd) (b:=f.wr) fun x hx hy=>?_]
      · rfl
      · have:=Jfn g1 x
        rw [(JbF _ x).2 hy,Jdi,hr x ((JbF _ x).2 hx),Bool.or_true] at this
        cases this
      · have:=Jfn g2 x
        rw [(JbF _ x).2 hy,hw x ((JbF _ x).2 hx)] at this
        cases this
      · have:=Jfn g1 x
        rw [(JbF _ x).2 hy,Jdi,hw x ((JbF _ x).2 hx),Bool.true_or] at this
        cases this
  exact key ahead 0 fun i g hg=>by rw [Nat.zero_add]; exact hg
theorem JeO {ops:List Oper} {tr:List Fp} (h:Jdk ops tr=true):JaU 0 ops=true∧Jcb [] (Jgg ops []) tr=true:=by
 unfold Jdk at h
 obtain ⟨h1,h2⟩:=(Bool.and_eq_true _ _).mp h
 obtain ⟨e1,e2⟩:=Jg0 ops [] [] rfl (fun k i hi=>by simp at hi)
 exact ⟨h1,JcN e1 e2 h2⟩
theorem Jd3:∀ (l:List Oper) (acc:List (List Nat)) (i:Nat),i<acc.length→(Jgg l acc).getD i []=acc.getD i []
 | [],acc,i,h=>rfl
 | o::l,acc,i,h=>by
  rw [Jgg,Jd3 l _ i (by simp; omega)]
  simp only [List.getD_eq_getElem?_getD]
  rw [List.getElem?_append_left h]
theorem Jen {i:Nat}:∀ {l:List Nat},Jh9 i l=true→∀ x∈l,x<i
 | [],_,x,hx=>by cases hx
 | y::l,h,x,hx=>by
  simp only [Jh9,Bool.and_eq_true] at h
  rcases List.mem_cons.1 hx with rfl | hx
  · simpa using h.1
  · exact Jen h.2 x hx
theorem Jd8:∀ {l:List Oper} {k:Nat},JaU k l=true→∀ (i:Nat) (o:Oper),l[i]? = some o→∀ x∈JbG o,x<k + i
 | [],k,h,i,o',ho,x,hx=>by simp at ho
 | o::l,k,h,0,o',ho,x,hx=>by
  simp only [JaU,Bool.and_eq_true] at h
  simp only [List.getElem?_cons_zero,Option.some.injEq] at ho
  subst ho
  exact Jen h.1 x hx
 | o::l,k,h,i + 1,o',ho,x,hx=>by
  simp only [JaU,Bool.and_eq_true] at h
  have:=Jd8 h.2 i o' (by simpa using ho) x hx
  omega
theorem Jg1:∀ {l:List Oper} {acc:List (List Nat)},JaU acc.length l=true→∀ (i:Nat) (o:Oper),l[i]? = some o →
 ∀ x∈(Jgg l acc).getD (acc.length + i) [],x∈JbG o∨∃ p∈JbG o,x∈(Jgg l acc).getD p []
 | [],acc,h,i,o',ho,x,hx=>by simp at ho
 | o::l,acc,h,0,o',ho,x,hx=>by
  simp only [List.getElem?_cons_zero,Option.some.injEq] at ho
  subst ho
  have hp:=Jd8 h 0 o rfl
  simp only [JaU,Bool.and_eq_true] at h
  rw [Jgg,Jd3 l _ _ (by simp)] at hx
  simp only [Nat.add_zero,List.getD_eq_getElem?_getD] at hx
  rw [List.getElem?_append_right (Nat.le_refl _)] at hx
  simp only [Nat.sub_self,List.getElem?_cons_zero,Option.getD_some,List.mem_append,List.mem_flatMap] at hx
  rcases hx with q | ⟨p,q1,q2⟩
  · exact .inl q
  · refine .inr ⟨p,q1,?_⟩
    have hlt:=hp p q1
    rw [Jgg,Jd3 l _ _ (by simp; omega)]
    simp only [List.getD_eq_getElem?_getD] at q2 ⊢
    rw [List.getElem?_append_left (by omega)]
    exact q2
 | o::l,acc,h,i + 1,o',ho,x,hx=>by
  simp only [JaU,Bool.and_eq_true] at h
  rw [Jgg] at hx ⊢
  have hl:(acc++[JbG o++(JbG o).flatMap fun i=>acc.getD i []]).length=acc.length + 1:=by simp
  refine Jg1 (acc:=acc++[JbG o++(JbG o).flatMap fun i=>acc.getD i []]) (by rw [hl]; exact h.2) i o' (by simpa using ho) x ?_
  rw [hl,show acc.length + 1 + i=acc.length + (i + 1) from by omega]
  exact hx
theorem Jj6 {env:Env} (henv:EnvOK P G.I env) {fz:List Nat} {ops:Array Oper} {Q:Exit→Act→World→Prop} {K:Fr→Option R}
 (hQ:∀ fr' a' w',K fr'=some res→SRel P G ⟨fr',[]⟩ a' w'→Q .normal a' w') (BF:Nat→List Nat) (hedge:∀ (i:Nat) (o:Oper),ops[i]? = some o→∀ x∈JbG o,x<i)
 (hBF:∀ (i:Nat) (o:Oper),ops[i]? = some o→∀ x∈BF i,x∈JbG o∨∃ p∈JbG o,x∈BF p) :
 ∀ (fuel:Nat) (evs:List Ev) (listed:Array Bool) (st:St) (a:Act) (w:World) (sF:St),Uq st→Runs P env fz G.N ops.toList evs st sF→evs.length=fuel→(∀ e∈evs,ops[e.i]? = some e.o) →
  evs.Pairwise (fun x y=>x.i<y.i)→evs.Pairwise (fun x y=>x.i∈BF y.i∨NoClash x.f y.f)→listed.size=ops.size→(∀ j,listed.getD j true=false↔∃ e∈evs,e.i=j) →
  (∀ j,j<ops.size→(∀ e∈evs,e.i≠j)→∀ x∈BF j,∀ e∈evs,e.i≠x)→K sF.fr=some res→SRel P G st a w→wpAny P .any ops Q fuel listed a w:=by
 intro fuel
 induction fuel with
 | zero =>
  intro evs listed st a w sF hu hr hl hops hs hp hz hL hI hK hrel
  have:evs=[]:=List.eq_nil_of_length_eq_zero hl
  subst this
  cases hr
  refine ⟨?_,hQ _ _ _ hK hrel.noRal⟩
  cases hq:Region.ready .any ops listed with
  | nil=>rfl
  | cons i l =>
   have:i∈Region.ready .any ops listed:=by rw [hq]; simp
   obtain ⟨h0,_⟩:=mem_ready.1 this
   obtain ⟨e,he,_⟩:=(hL i).1 h0
   cases he
 | succ fuel ih =>
  intro evs listed st a w sF hu hr hl hops hs hp hz hL hI hK hrel
  have listedT:∀ j,j<ops.size→(∀ e∈evs,e.i≠j)→listed.getD j false=true:=fun j hj hne=>by
   have h1:¬ listed.getD j true=false:=fun q=>by obtain ⟨e,he,q2⟩:=(hL j).1 q; exact hne e he q2
   rw [Array.getD_eq_getD_getElem?] at h1 ⊢
   rw [Array.getElem?_eq_getElem (by omega)] at h1 ⊢
   simpa using h1
  refine ⟨fun hnil=>?_,fun j hj=>?_⟩
  · exfalso
    cases evs with
    | nil=>simp at hl
    | cons e evs =>
     have hoe:=hops e (List.mem_cons_self ..)
     have:e.i∈Region.ready .any ops listed:=by
      refine mem_ready.2 ⟨(hL e.i).2 ⟨e,List.mem_cons_self ..,rfl⟩,e.o,hoe,fun d hd hb=>?_⟩
      have hpd:d.on∈JbG e.o:=by
       unfold JbG
       refine List.mem_map.2 ⟨d,List.mem_filter.2 ⟨by simpa using hd,hb⟩,rfl⟩
      have hlt:=hedge e.i e.o hoe d.on hpd
      have hsz:e.i<ops.size:=(Array.getElem?_eq_some_iff.1 hoe).1
      refine listedT d.on (by omega) fun e' he' q=>?_
      rcases List.mem_cons.1 he' with rfl | he'
      · omega
      · have:=List.rel_of_pairwise_cons hs he'
        omega
     rw [hnil] at this
     cases this
  · obtain ⟨h0,o,ho,hedges⟩:=mem_ready.1 hj
    obtain ⟨y,hy,rfl⟩:=(hL j).1 h0
    have hyo:=hops y hy
    rw [hyo] at ho
    cases ho
    obtain ⟨pre,l,rfl⟩:=List.append_of_mem hy
    have hysz:y.i<ops.size:=(Array.getElem?_eq_some_iff.1 hyo).1
    have hpred:∀ x∈JbG y.o,∀ e∈pre++y::l,e.i≠x:=fun x hx e he q=>by
     unfold JbG at hx
     obtain ⟨d,hd,rfl⟩:=List.mem_map.1 hx
     obtain ⟨hd1,hd2⟩:=List.mem_filter.1 hd
     have h1:=hedges d (by simpa using hd1) hd2
     have h2:listed.getD d.on true=false:=(hL d.on).2 ⟨e,he,q⟩
     rw [Array.getD_eq_getD_getElem?] at h1 h2
     cases hq:listed[d.on]? with
     | none=>rw [hq] at h2; cases h2
     | some b=>rw [hq] at h1 h2; simp at h1 h2; rw [h1] at h2; cases h2
    have hBy:∀ x∈BF y.i,∀ e∈pre++y::l,e.i≠x:=fun x hx=>by
     rcases hBF y.i y.o hyo x hx with q | ⟨p,q1,q2⟩
     · exact hpred x q
     · exact hI p (Nat.lt_trans (hedge y.i y.o hyo p q1) hysz) (hpred p q1) x q2
    have hnc:∀ x∈pre,NoClash x.f y.f:=fun x hx=>by
     have:=(List.pairwise_append.1 hp).2.2 x hx y (List.mem_cons_self ..)
     exact this.resolve_left fun q=>hBy x.i q x (by simp [hx]) rfl
    obtain ⟨s2,r1,r2⟩:=hr.front hu hnc
    cases r1 with
    | @cons i o r f _ _ _ t1 t2 t3 t4 =>
     have hsub:(pre++l).Sublist (pre++⟨i,o,r,f⟩::l):=List.Sublist.append_left (List.sublist_cons_self _ _) _
     have hne:∀ e∈pre++l,e.i≠i:=fun e he=>by
      rcases List.mem_append.1 he with q | q
      · have:=(List.pairwise_append.1 hs).2.2 e q ⟨i,o,r,f⟩ (List.mem_cons_self ..)
        exact Nat.ne_of_lt this
      · have:=List.rel_of_pairwise_cons (List.pairwise_append.1 hs).2.1 q
        exact Nat.ne_of_gt this
     have next:∀ a' w',SRel P G (st.put o.dst r) a' w'→wpAny P .any ops Q fuel (listed.setIfInBounds i true) a' w':=fun a' w' hrel'=>by
      refine ih (pre++l) _ _ a' w' s2 (hu.put _ _) t4 (by simp only [List.length_append,List.length_cons] at hl ⊢; omega) (fun e he=>hops e (hsub.subset he)) (hs.sublist hsub) (hp.sublist hsub) (by simpa using hz) (fun j=>?_) (fun j hj hne' x hx e he=>?_) (by rw [←r2.fr]; exact hK) hrel'
      · by_cases hji:j=i
        · subst hji
          constructor
          · intro q
            rw [Array.getD_eq_getD_getElem?,Array.getElem?_setIfInBounds] at q
            simp at q
            split at q <;> simp at q
          · rintro ⟨e,he,q⟩; exact absurd q (hne e he)
        · rw [getD_set_ne true (Ne.symm hji),hL j]
          constructor
          · rintro ⟨e,he,q⟩
            refine ⟨e,?_,q⟩
            rcases List.mem_append.1 he with q1 | q1
            · exact List.mem_append_left _ q1
            · rcases List.mem_cons.1 q1 with rfl | q1
              · exact absurd q.symm hji
              · exact List.mem_append_right _ q1
          · rintro ⟨e,he,q⟩; exact ⟨e,hsub.subset he,q⟩
      · by_cases hji:j=i
        · subst hji; exact hBy x hx e (hsub.subset he)
        · refine hI j hj (fun e' he'=>?_) x hx e (hsub.subset he)
          rcases List.mem_append.1 he' with q1 | q1
          · exact hne' e' (List.mem_append_left _ q1)
          · rcases List.mem_cons.1 q1 with rfl | q1
            · exact Ne.symm hji
            · exact hne' e' (List.mem_append_right _ q1)
     unfold wpOp
     rw [hyo]
     simp only []
     have hk:JaT P env fz G.N ops.toList o st (fun _ r'=>@ite _ (r'=r) (Classical.propDecidable _) (some ()) none)=some ():=by
      rw [t1]; simp
     obtain ⟨h1,h2⟩:=Jf3 henv hrel hk (next:=wpAny P .any ops Q fuel (listed.setIfInBounds i true)) (Q:=Q) fun r' a' w' hr' hs'=>by
      have:r'=r:=by
       by_cases q:r'=r
       · exact q
       · simp only [q,if_false] at hr'; cases hr'
      subst this
      exact next a' w' hs'
     cases hw:Region.wanted o (yielded ops a.tmps) with
     | true=>simp only [if_true]; exact .inl (h1 hw)
     | false=>simp only [Bool.false_eq_true,if_false]; exact h2 hw
theorem JgD {env:Env} (henv:EnvOK P G.I env) {fz:List Nat} {id:Nat} {ops:Array Oper} {Q:Exit→Act→World→Prop} {K:Fr→Option R} {fr:Fr}
 (hQ:∀ fr' a' w',K fr'=some res→SRel P G ⟨fr',[]⟩ a' w'→Q .normal a' w') (hs:SRel P G ⟨fr,[]⟩ a w)
 (hk:JgO P env fz G.N ops.toList true fr K=some res):(Code.region id ops true).wp P Q a w:=by
 simp only [JgO,cond_true] at hk
 obtain ⟨hm,hk⟩:=Jaa hk
 obtain ⟨evs,sF,q1,q2,q3,q4⟩:=JeW henv.det ops.toList 0 _ _ hk
 obtain ⟨hd,q1⟩:=Jaa q1
 rw [List.nil_append] at hd
 obtain ⟨hback,hpairs⟩:=JeO hd
 obtain ⟨c1,c2⟩:=JdO hpairs
 have hruns:=q4 fun e he=>c1 e.f (List.mem_map.2 ⟨e,he,rfl⟩)
 have hlen:evs.length=ops.size:=by have:=congrArg List.length q2; simpa using this
 have hi:∀ (k:Nat) (e:Ev),evs[k]? = some e→e.i=k:=fun k e he=>by
  have h1:(evs.map (·.i))[k]? = some e.i:=by rw [List.getElem?_map,he]; rfl
  rw [q3] at h1
  obtain ⟨h2,h3⟩:=List.getElem?_eq_some_iff.1 h1
  simp at h3
  omega
 have ho:∀ (k:Nat) (e:Ev),evs[k]? = some e→ops[k]? = some e.o:=fun k e he=>by
  have h1:(evs.map (·.o))[k]? = some e.o:=by rw [List.getElem?_map,he]; rfl
  rw [q2,Array.getElem?_toList] at h1
  exact h1
 have hf:∀ (k:Nat) (e:Ev),evs[k]? = some e→(evs.map (·.f))[k]? = some e.f:=fun k e he=>by rw [List.getElem?_map,he]; rfl
 refine wp_region_any hm (Jj6 henv (fz:=fz) hQ (fun j=>(Jgg ops.toList []).getD j []) (fun i o hio x hx=>?_) (fun i o hio x hx=>?_) ops.size evs _ _ a _ sF (show Uq ⟨fr,[]⟩ from List.nodup_nil) hruns hlen (fun e he=>?_) ?_ ?_ (by simp) (fun j=>?_) (fun j hj hne=>?_) q1 hs.drawn)
 · have:=Jd8 hback i o (by rw [Array.getElem?_toList]; exact hio) x hx
   omega
 · have:=Jg1 (l:=ops.toList) (acc:=[]) hback i o (by rw [Array.getElem?_toList]; exact hio) x (by simpa using hx)
   exact this
 · obtain ⟨k,hk1⟩:=List.mem_iff_getElem?.1 he
   rw [hi k e hk1]; exact ho k e hk1
 · rw [List.pairwise_iff_getElem]
   intro i j hi' hj' hij
   rw [hi i _ (List.getElem?_eq_getElem hi'),hi j _ (List.getElem?_eq_getElem hj')]
   exact hij
 · rw [List.pairwise_iff_getElem]
   intro i j hi' hj' hij
   have e1:=List.getElem?_eq_getElem hi'
   have e2:=List.getElem?_eq_getElem hj'
   rw [hi i _ e1,hi j _ e2]
   exact c2 i j _ _ (by rw [List.nil_append]; exact hf i _ e1) (hf j _ e2) (by simpa using hij)
 · constructor
   · intro q
     have hlt:j<ops.size:=by
      apply Classical.byContradiction
      intro hge
      rw [Array.getD_eq_getD_getElem?,Array.getElem?_eq_none (by simp; omega)] at q
      cases q
     exact ⟨evs[j]'(by omega),List.getElem_mem _,hi j _ (List.getElem?_eq_getElem (by omega))⟩
   · rintro ⟨e,he,rfl⟩
     obtain ⟨k,hk1⟩:=List.mem_iff_getElem?.1 he
     have:=hi k e hk1
     have hlt:k<evs.length:=(List.getElem?_eq_some_iff.1 hk1).1
     rw [this,Array.getD_eq_getD_getElem?,Array.getElem?_replicate,if_pos (by omega)]
     rfl
 · exfalso
   exact hne (evs[j]'(by omega)) (List.getElem_mem _) (hi j _ (List.getElem?_eq_getElem (by omega)))
inductive TurnL (P:Program):List SV→List SV→Prop
 | nil:TurnL P [] []
 | same (x:SV) {l l':List SV}:TurnL P l l'→TurnL P (x::l) (x::l')
 | own {T:TypeId} {l l':List SV}:Ja9 P T=true→Jh6 P T=true→TurnL P l l'→TurnL P (.nl::l) (.own T []::l')
inductive Turned (P:Program):SV→SV→Prop
 | dead (x:SV):Turned P x .dead
 | same (x:SV):Turned P x x
 | own {T:TypeId}:Ja9 P T=true→Jh6 P T=true→Turned P .nl (.own T [])
 | nil:Turned P .nl (.p (.sh []))
 | frz (T:TypeId) (es:List PV):Turned P (.own T es) (.p (.sh es))
 | bx {T:TypeId} {l l':List SV}:TurnL P l l'→Turned P (.bx T l) (.bx T l')
 | st {l l':List SV}:TurnL P l l'→Turned P (.st l) (.st l')
theorem Jgc {F:Nat→Prop} {w:World} {T:TypeId} (h:Ja9 P T=true) (hpos:Jh6 P T=true):RS P F w (.own T []) (.slice none 0 0) []:=by
 unfold Ja9 at h
 split at h
 · rename_i zs hz
   obtain ⟨i,z,e1,e2,e3,_⟩:=Jb6 hz
   have hp:0<i.size:=by simpa [Jh6,Jal,e1] using hpos
   exact .own (c:=.slice none 0 0) (xs:=[]) e1 e2 e3 hp (World.ownsRow_nil w 0 T i.size) .nil (by simp)
 · cases h
theorem TurnL.rel {F:Nat→Prop} {w:World} {l l':List SV} (h:TurnL P l l'):∀ {vs:List Value} {B:List Nat},RSs P F w l vs B→RSs P F w l' vs B:=by
 induction h with
 | nil=>intro vs B h; exact h
 | same x _ ih=>intro vs B h; cases h with | cons a b=>exact .cons a (ih b)
 | own h1 h2 _ ih =>
  intro vs B h
  cases h with
  | cons a b=>cases a; exact .cons (B:=[]) (Jgc h1 h2) (ih b)
theorem Rel.coes (h:Rel P G F Bs st tm w) {fr':Fr} (ht:∀ j,Turned P (st.fr j) (fr' j)):∃ F' Bs',Rel P G F' Bs' ⟨fr',[]⟩ tm w:=by
 let F':Nat→Prop:=fun b=>F b∨∃ j T es,st.fr j=.own T es∧fr' j=.p (.sh es)∧b∈Bs j
 have hF:∀ b,F b→F' b:=fun b q=>.inl q
 have each:∀ j,∃ B,RS P F' w (fr' j) (tm.getD j undef) B∧B.Nodup∧(∀ b∈B,b∈Bs j∧¬ F' b):=by
  intro j
  have hj:=ht j
  have hsl:=h.sl j
  generalize hx:st.fr j=x at hj hsl
  generalize hy:fr' j=y at hj
  cases hj with
  | dead=>exact ⟨[],.dead _,by simp,by simp⟩
  | same =>
   by_cases hfz:∃ T es,x=.own T es∧x=.p (.sh es)
   · obtain ⟨T,es,e1,e2⟩:=hfz; rw [e1] at e2; cases e2
   · refine ⟨Bs j,hsl.mono hF fun _ _=>rfl,h.nd j,fun b hb=>⟨hb,fun q=>?_⟩⟩
     rcases q with q | ⟨j',T,es,e1,e2,e3⟩
     · exact h.nf j b hb q
     · by_cases e:j=j'
       · subst e; exact hfz ⟨T,es,hx.symm.trans e1,hy.symm.trans e2⟩
       · exact h.dj j j' b e hb e3
  | own h1 h2 =>
   have hc:tm.getD j undef=.slice none 0 0:=by
    generalize tm.getD j undef=c at hsl
    generalize Bs j=B at hsl
    cases hsl; rfl
   exact ⟨[],by rw [hc]; exact Jgc h1 h2,by simp,by simp⟩
  | nil =>
   have hc:tm.getD j undef=.slice none 0 0:=by
    generalize tm.getD j undef=c at hsl
    generalize Bs j=B at hsl
    cases hsl; rfl
   exact ⟨[],by rw [hc]; exact .p (JcI _ _),by simp,by simp⟩
  | @bx T l l' hl =>
   refine ⟨Bs j,?_,h.nd j,fun b hb=>⟨hb,fun q=>?_⟩⟩
   · have:=hsl.mono (w':=w) hF fun _ _=>rfl
     generalize tm.getD j undef=c at this
     generalize Bs j=B at this
     cases this with | bx q1 q2 q3=>exact .bx q1 (hl.rel q2) q3
   · rcases q with q | ⟨j',T,es,e1,e2,e3⟩
     · exact h.nf j b hb q
     · by_cases e:j=j'
       · subst e; rw [hx] at e1; cases e1
       · exact h.dj j j' b e hb e3
  | @st l l' hl =>
   refine ⟨Bs j,?_,h.nd j,fun b hb=>⟨hb,fun q=>?_⟩⟩
   · have:=hsl.mono (w':=w) hF fun _ _=>rfl
     generalize tm.getD j undef=c at this
     generalize Bs j=B at this
     cases this with | st q1 q2=>exact .st (hl.rel q1) q2
   · rcases q with q | ⟨j',T,es,e1,e2,e3⟩
     · exact h.nf j b hb q
     · by_cases e:j=j'
       · subst e; rw [hx] at e1; cases e1
       · exact h.dj j j' b e hb e3
  | frz T es =>
   obtain ⟨h1,h2⟩:=h.own_inv hx
   exact ⟨[],.p (h1.frozen hF fun b hb=>.inr ⟨j,T,es,hx,hy,by rw [h2]; exact hb⟩),by simp,by simp⟩
 obtain ⟨Bs',hB⟩:=Classical.axiomOfChoice each
 refine ⟨F',Bs',⟨h.sz,fun i=>(hB i).1,fun i=>(hB i).2.1,fun i j b hij hb hb'=>h.dj i j b hij ((hB i).2.2 b hb).1 ((hB j).2.2 b hb').1,fun i b hb=>((hB i).2.2 b hb).2,
  fun i b hb=>h.nw i b ((hB i).2.2 b hb).1,fun i b hb=>h.lt i b ((hB i).2.2 b hb).1,fun b hb=>?_,fun b hb=>.inl (h.f0 b hb),fun b hb=>?_,h.kb,by simp,h.pn⟩⟩
 · rcases hb with q | ⟨j,T,es,e1,e2,e3⟩
   · exact h.fl b q
   · exact h.lt j b e3
 · rcases hb with q | ⟨j,T,es,e1,e2,e3⟩
   · exact h.fn b q
   · exact .inr (h.nw j b e3)
def Jgm (P:Program):List (Option TypeId)→Bool
 | []=>true
 | some T::l=>Ja9 P T&&Jh6 P T&&Jgm P l
 | none::l=>Jgm P l
def Jj0 (P:Program):Co→Bool
 | .own T=>Ja9 P T&&Jh6 P T
 | .cs l=>Jgm P l
 | _=>true
theorem JdS (P:Program):∀ l:List SV,TurnL P l l
 | []=>.nil
 | x::l=>.same x (JdS P l)
theorem Ja8:∀ {l:List (Option TypeId)} (_:Jgm P l=true) (xs:List SV),TurnL P xs (Jkg l xs)
 | [],_,xs=>JdS P xs
 | none::l,h,[]=>.nil
 | none::l,h,x::xs=>.same x (Ja8 (l:=l) (by simpa only [Jgm] using h) xs)
 | some T::l,h,[]=>.nil
 | some T::l,h,x::xs=>by
  simp only [Jgm,Bool.and_eq_true] at h
  cases x with
  | nl=>exact .own h.1.1 h.1.2 (Ja8 h.2 xs)
  | _=>exact .same _ (Ja8 h.2 xs)
def JgK (P:Program):Lv→Bool
 | []=>true
 | (_,c)::l=>Jj0 P c&&JgK P l
theorem Jcx {c:Co} (h:Jj0 P c=true) (x:SV):Turned P x (coe c x):=by
 cases c with
 | id=>exact .same x
 | own T =>
  simp only [Jj0,Bool.and_eq_true] at h
  cases x with
  | nl=>exact .own h.1 h.2
  | _=>exact .same _
 | sh =>
  cases x with
  | nl=>exact .nil
  | own T es=>exact .frz T es
  | _=>exact .same _
 | cs l =>
  cases x with
  | bx T cs=>exact .bx (Ja8 h cs)
  | st cs=>exact .st (Ja8 h cs)
  | _=>exact .same _
theorem JeM:∀ {l:Lv},JgK P l=true→∀ (fr:Fr) (j:Nat),Turned P (fr j) (lk l (JcQ l fr) j)
 | [],_,fr,j=>.dead _
 | (s,c)::l,h,fr,j=>by
  simp only [JgK,Bool.and_eq_true] at h
  simp only [JcQ,lk]
  cases hj:Nat.beq j s with
  | true=>rw [eqB hj,cond_true]; exact Jcx h.1 _
  | false=>rw [cond_false]; exact JeM h.2 fr j
theorem SRel.lk (h:SRel P G st a w) {l:Lv} (hl:JgK P l=true):SRel P G ⟨lk l (JcQ l st.fr),[]⟩ a w:=by
 obtain ⟨hd,F,Bs,h⟩:=h
 obtain ⟨F',Bs',h'⟩:=h.coes (JeM hl st.fr)
 exact ⟨hd,F',Bs',h'⟩
def Jc0 (P:Program):List (Nat × Lv × Lv)→Bool
 | []=>true
 | (_,l,o)::r=>JgK P l&&JgK P o&&Jc0 P r
theorem JfB {l:List (Nat × Lv × Lv)} (h:Jc0 P l=true) {c:Code} {live out:Lv} (ha:JdY l c=some (live,out)):JgK P live=true∧JgK P out=true:=by
 unfold JdY at ha
 split at ha
 · rename_i i hi
   clear hi
   induction l with
   | nil=>simp [Jdy] at ha
   | cons x l ih =>
    obtain ⟨k,x1,x2⟩:=x
    simp only [Jc0,Bool.and_eq_true] at h
    simp only [Jdy] at ha
    cases hk:Nat.beq k i with
    | true =>
     rw [hk] at ha
     simp only [cond_true,Option.some.injEq,Prod.mk.injEq] at ha
     rw [←ha.1,←ha.2]; exact h.1
    | false=>rw [hk] at ha; exact ih h.2 ha
 · cases ha
def JkP:Ex→Exit
 | .normal=>.normal
 | .exit i=>.exit i
 | .ret=>.ret
def JgS (P:Program) (G:Gd) (f:Fr→Kc R→Option R) (c:Code):Prop :=
 ∀ {fr:Fr} {K:Kc R} {res:R} {a:Act} {w:World},f fr K=some res→SRel P G ⟨fr,[]⟩ a w→∀ {Q:Exit→Act→World→Prop},
  (∀ e fr' a' w',K e fr'=some res→SRel P G ⟨fr',[]⟩ a' w'→Q (JkP e) a' w')→c.wp P Q a w
theorem Jhw {f:Fr→Kc R→Option R} {c:Code} {live out:Lv} (hf:JgS P G f c) (hl:JgK P live=true) (ho:JgK P out=true) :
 ∀ (n:Nat) {vs:List SV} {K:Kc R} {res:R} {a:Act} {w:World},JcL f live out n vs K=some res→SRel P G ⟨lk live vs,[]⟩ a w→∀ {Q:Exit→Act→World→Prop},
  (∀ e fr' a' w',K e fr'=some res→SRel P G ⟨fr',[]⟩ a' w'→Q (JkP e) a' w')→Code.rounds P c Q n a w
 | 0,vs,K,res,a,w,hk,hs,Q,hQ=>by cases hk
 | n + 1,vs,K,res,a,w,hk,hs,Q,hQ=>by
  simp only [JcL] at hk
  rw [rounds_succ]
  refine hf hk hs fun e fr' a' w' hk' hs'=>?_
  cases e with
  | normal=>exact Jhw hf hl ho n hk' (hs'.lk hl) hQ
  | exit i=>exact hQ (.exit i) _ a' w' hk' (hs'.lk ho)
  | ret=>exact hQ .ret _ a' w' hk' (hs'.lk ho)
theorem Jki {f:Fr→Kc R→Option R} {c:Code} {live out:Lv} (hf:JgS P G f c) (hl:JgK P live=true) (ho:JgK P out=true) {fr:Fr} {K:Kc R} {res:R} {a:Act} {w:World}
 (hk:Jgu f live out (JcQ live fr) K=some res) (hs:SRel P G ⟨fr,[]⟩ a w) {Q:Exit→Act→World→Prop}
 (hQ:∀ e fr' a' w',K e fr'=some res→SRel P G ⟨fr',[]⟩ a' w'→Q (JkP e) a' w'):c.wp P Q a w:=by
 simp only [Jgu] at hk
 exact hf hk (hs.lk hl) fun e fr' a' w' hk' hs'=>hQ e _ a' w' hk' (hs'.lk ho)
end
end Go.Proofs.YtmgfmlhdnadglaaGreatDoor.Th
set_option linter.unusedVariables false
set_option linter.unusedSimpArgs false
namespace Go.Proofs.YtmgfmlhdnadglaaGreatDoor.Th
open Go
variable {R:Type} {res:R}
section
variable {P:Program} {G:Gd} {F:Nat→Prop} {Bs:Nat→List Nat} {st:St} {a:Act} {tm:Array Value} {w:World}
theorem Jko {env:Env} (henv:EnvOK P G.I env) {ann:Ann} (hl:Jc0 P ann.loops=true) (hc:Jc0 P ann.cuts=true) (n:Nat) :
 ∀ c:Code,JgS (R:=R) P G (evC P env ann n G.N c) c:=by
 intro c
 induction c with
 | skip=>intro fr K res a w hk hs Q hQ; exact wp_skip (hQ .normal fr a w hk hs)
 | exit i=>intro fr K res a w hk hs Q hQ; exact wp_exit (hQ (.exit i) fr a w hk hs)
 | ret=>intro fr K res a w hk hs Q hQ; exact wp_ret (hQ .ret fr a w hk hs)
 | region id ops draw =>
  intro fr K res a w hk hs Q hQ
  simp only [evC] at hk
  cases draw with
  | true=>exact JgD henv (fun fr' a' w' h1 h2=>hQ .normal fr' a' w' h1 h2) hs hk
  | false=>exact JhV henv (fun fr' a' w' h1 h2=>hQ .normal fr' a' w' h1 h2) hs hk
 | seq x y ihx ihy =>
  intro fr K res a w hk hs Q hQ
  simp only [evC] at hk
  refine wp_seq (ihx hk hs fun e fr' a' w' hk' hs'=>?_)
  cases e with
  | normal =>
   show y.wp P Q a' w'
   simp only [] at hk'
   split at hk'
   · rename_i live out ha
     obtain ⟨o1,o2⟩:=JfB hc ha
     exact Jki ihy o1 o2 hk' hs' hQ
   · exact ihy hk' hs' hQ
  | exit i=>exact hQ (.exit i) fr' a' w' hk' hs'
  | ret=>exact hQ .ret fr' a' w' hk' hs'
 | cond cnd x y ihx ihy =>
  intro fr K res a w hk hs Q hQ
  simp only [evC] at hk
  split at hk
  · rename_i t ht
    obtain ⟨hd,F,Bs,h⟩:=hs
    have hr:=Jag h cnd
    rw [ht] at hr
    refine wp_cond (t:=t) (Jbd hr) ?_
    cases t with
    | true=>exact ihx hk ⟨hd,F,Bs,h⟩ hQ
    | false=>exact ihy hk ⟨hd,F,Bs,h⟩ hQ
  · cases hk
 | block id x ih =>
  intro fr K res a w hk hs Q hQ
  simp only [evC] at hk
  refine wp_block (ih hk hs fun e fr' a' w' hk' hs'=>?_)
  cases e with
  | normal=>exact hQ .normal fr' a' w' hk' hs'
  | ret=>exact hQ .ret fr' a' w' hk' hs'
  | exit i =>
   simp only [JkP,Exit.inBlock]
   simp only [] at hk'
   cases hi:Nat.beq i id with
   | true=>rw [hi] at hk'; rw [if_pos (eqB hi)]; exact hQ .normal fr' a' w' hk' hs'
   | false=>rw [hi] at hk'; rw [if_neg (neB hi)]; exact hQ (.exit i) fr' a' w' hk' hs'
 | loop x ih =>
  intro fr K res a w hk hs Q hQ
  simp only [evC] at hk
  split at hk
  · rename_i live out ha
    obtain ⟨o1,o2⟩:=JfB hl ha
    exact wp_loop_rounds n (Jhw ih o1 o2 n hk (hs.lk o1) hQ)
  · cases hk
 | _=>intro fr K res a w hk; simp only [evC,reduceCtorEq] at hk
theorem RSs.getD {l:List SV} {cs:List Value} {B:List Nat} (h:RSs P F w l cs B) :
 ∃ Bs:Nat→List Nat,(∀ j,RS P F w (l.getD j .dead) (cs.getD j undef) (Bs j))∧(∀ j b,b∈Bs j→b∈B)∧(B.Nodup→(∀ j,(Bs j).Nodup)∧∀ i j b,i≠j→b∈Bs i→b∉Bs j):=by
 induction l generalizing cs B with
 | nil =>
  cases h
  exact ⟨fun _=>[],fun j=>by simpa using RS.dead _,by simp,fun _=>⟨by simp,by simp⟩⟩
 | cons x l ih =>
  cases h with
  | cons h1 h2 =>
   rename_i c cs B1 B2
   obtain ⟨Bs,q1,q2,q3⟩:=ih h2
   refine ⟨fun j=>match j with | 0=>B1 | j + 1=>Bs j,fun j=>?_,fun j b hb=>?_,fun hn=>?_⟩
   · cases j with
     | zero=>simpa using h1
     | succ j=>simpa using q1 j
   · cases j with
     | zero=>exact List.mem_append_left _ hb
     | succ j=>exact List.mem_append_right _ (q2 j b hb)
   · rw [List.nodup_append] at hn
     obtain ⟨n1,n2,n3⟩:=hn
     obtain ⟨r1,r2⟩:=q3 n2
     refine ⟨fun j=>by cases j with | zero=>exact n1 | succ j=>exact r1 j,fun i j b hij hb hb'=>?_⟩
     cases i with
     | zero =>
      cases j with
      | zero=>exact hij rfl
      | succ j=>exact n3 b hb b (q2 j b hb') rfl
     | succ i =>
      cases j with
      | zero=>exact n3 b hb' b (q2 i b hb) rfl
      | succ j=>exact r2 i j b (fun e=>hij (by rw [e])) hb hb'
theorem Jlh {fn:Func} {args:List SV} {cargs:Array Value} {B:List Nat} (ha:RSs P F w args cargs.toList B) (hn:B.Nodup) (hB:∀ b∈B,¬ F b∧b<w.heap.size) (hF:∀ b,F b→b<w.heap.size)
 (hl:args.length≤fn.ntmps) (ix:List Nat) {I:GInv} (hgi:∀ (F':Nat→Prop) (w':World),(∀ b,F b→F' b)→Keep w (·∈B) w'→I.ok F' w'):SRel P ⟨w,(·∈B),F,(fn.ntmps,ix),fun j=>cargs.toList.getD j undef,I,hgi⟩ ⟨JgW args,[]⟩ { tmps:=cargs++Array.replicate (fn.ntmps - cargs.size) undef,defers:=[] } w:=by
 obtain ⟨Bs,q1,q2,q3⟩:=ha.getD
 obtain ⟨r1,r2⟩:=q3 hn
 have hlen:=ha.length
 have hv:∀ j,(cargs++Array.replicate (fn.ntmps - cargs.size) undef).getD j undef=cargs.toList.getD j undef:=by
  intro j
  rw [Array.getD_eq_getD_getElem?,List.getD_eq_getElem?_getD,Array.getElem?_toList,Array.getElem?_append]
  split
  · rfl
  · rename_i hj
    rw [Array.getElem?_replicate,Array.getElem?_eq_none (Nat.le_of_not_lt hj)]
    split <;> rfl
 refine ⟨rfl,F,Bs,⟨?_,fun i=>by rw [hv]; exact q1 i,r1,r2,fun i b hb=>(hB b (q2 i b hb)).1,fun i b hb=>.inr (q2 i b hb),fun i b hb=>(hB b (q2 i b hb)).2,hF,fun _ q=>q,fun _ q=>.inl q,
  ⟨rfl,rfl,rfl,Nat.le_refl _,fun _ _ _=>rfl⟩,by simp,fun i _=>hv i⟩⟩
 simp only [Array.size_append,Array.size_replicate]
 simp only [Array.length_toList] at hlen
 omega
end
end Go.Proofs.YtmgfmlhdnadglaaGreatDoor.Th
set_option linter.unusedVariables false
set_option linter.unusedSimpArgs false
namespace Go.Proofs.YtmgfmlhdnadglaaGreatDoor.Th
open Go
variable {R:Type} {res:R}
def Jfp:List Co→List ResultVar→Fr→Fr
 | cs,.tmp t::r,fr=>fun j=>bif Nat.beq j t then coe (cs.headD .sh) (fr j) else Jfp cs.tail r fr j
 | cs,.cell t _::r,fr=>fun j=>bif Nat.beq j t then coe (cs.headD .sh) (fr j) else Jfp cs.tail r fr j
 | _,[],fr=>fr
def Jdv (P:Program):List Co→Bool
 | []=>true
 | c::l=>Jj0 P c&&Jdv P l
section
variable {P:Program} {G:Gd} {F:Nat→Prop} {Bs:Nat→List Nat} {st:St} {a:Act} {tm:Array Value} {w:World}
theorem JcC:∀ (l:List ResultVar) (cs:List Co),Jdv P cs=true→∀ (fr:Fr) (j:Nat),Turned P (fr j) (Jfp cs l fr j)
 | [],cs,_,fr,j=>.same _
 | .tmp t::l,cs,h,fr,j=>by
  have h1:Jj0 P (cs.headD .sh)=true:=by
   cases cs with
   | nil=>rfl
   | cons c cs=>simp only [Jdv,Bool.and_eq_true] at h; exact h.1
  have h2:Jdv P cs.tail=true:=by
   cases cs with
   | nil=>rfl
   | cons c cs=>simp only [Jdv,Bool.and_eq_true] at h; exact h.2
  simp only [Jfp]
  cases Nat.beq j t with
  | true=>exact Jcx h1 _
  | false=>exact JcC l cs.tail h2 fr j
 | .cell t _::l,cs,h,fr,j=>by
  have h1:Jj0 P (cs.headD .sh)=true:=by
   cases cs with
   | nil=>rfl
   | cons c cs=>simp only [Jdv,Bool.and_eq_true] at h; exact h.1
  have h2:Jdv P cs.tail=true:=by
   cases cs with
   | nil=>rfl
   | cons c cs=>simp only [Jdv,Bool.and_eq_true] at h; exact h.2
  simp only [Jfp]
  cases Nat.beq j t with
  | true=>exact Jcx h1 _
  | false=>exact JcC l cs.tail h2 fr j
theorem Jdj:∀ (l:List ResultVar) (cs:List Co) (fr:Fr) (j:Nat),j∉Jat l→Jfp cs l fr j=fr j
 | [],cs,fr,j,_=>rfl
 | .tmp t::l,cs,fr,j,h=>by
  simp only [Jat,List.mem_cons,not_or] at h
  simp only [Jfp,Jj9 h.1,cond_false]
  exact Jdj l cs.tail fr j h.2
 | .cell t T::l,cs,fr,j,h=>by
  simp only [Jat,List.mem_cons,not_or] at h
  simp only [Jfp,Jj9 h.1,cond_false]
  exact Jdj l cs.tail fr j h.2
theorem Jfv:∀ (l:List ResultVar) (cs:List Co) {fr:Fr} {ys:List SV},Jh7 P fr cs l=some ys→(Jat l).Nodup→ys=(Jat l).map (Jfp cs l fr)
 | [],cs,fr,ys,h,_=>by simp only [Jh7,Option.some.injEq] at h; subst h; rfl
 | .cell t T::l,cs,fr,ys,h,hn=>by
  simp only [Jat,List.nodup_cons] at hn
  simp only [Jh7] at h
  cases hy:JhW P (cs.headD .sh) fr (.cell t T) with
  | none=>simp only [hy,reduceCtorEq] at h
  | some y =>
   cases hr:Jh7 P fr cs.tail l with
   | none=>simp only [hy,hr,reduceCtorEq] at h
   | some ys' =>
    simp only [hy,hr,Option.some.injEq] at h
    subst h
    have e1:=Jfv l cs.tail hr hn.2
    have hyt:y=coe (cs.headD .sh) (fr t):=by
     simp only [JhW] at hy
     split at hy <;> first | (rename_i e; rw [e]; simpa using hy.symm) | cases hy
    simp only [Jat,List.map_cons,List.cons.injEq]
    refine ⟨by simp only [Jfp,JkL,cond_true]; exact hyt,?_⟩
    rw [e1]
    refine List.map_congr_left fun j hj=>?_
    have hne:j≠t:=fun e=>by subst e; exact hn.1 hj
    simp only [Jfp,Jj9 hne,cond_false]
 | .tmp t::l,cs,fr,ys,h,hn=>by
  simp only [Jat,List.nodup_cons] at hn
  simp only [Jh7] at h
  cases hy:JhW P (cs.headD .sh) fr (.tmp t) with
  | none=>simp only [hy,reduceCtorEq] at h
  | some y =>
   cases hr:Jh7 P fr cs.tail l with
   | none=>simp only [hy,hr,reduceCtorEq] at h
   | some ys' =>
    simp only [hy,hr,Option.some.injEq] at h
    subst h
    have e1:=Jfv l cs.tail hr hn.2
    have hyt:y=coe (cs.headD .sh) (fr t):=by
     simp only [JhW] at hy
     split at hy <;> first | (rename_i e; rw [e]; simpa using hy.symm) | cases hy
    simp only [Jat,List.map_cons,List.cons.injEq]
    refine ⟨by simp only [Jfp,JkL,cond_true]; exact hyt,?_⟩
    rw [e1]
    refine List.map_congr_left fun j hj=>?_
    have hne:j≠t:=fun e=>by subst e; exact hn.1 hj
    simp only [Jfp,Jj9 hne,cond_false]
theorem Jd2:∀ (l:List Nat) {fr:Fr} {ys:List SV},Je9 fr l=some ys→ys=l.map fr
 | [],fr,ys,h=>by simp only [Je9,Option.some.injEq] at h; subst h; rfl
 | i::l,fr,ys,h=>by
  simp only [Je9] at h
  split at h
  · rename_i T cs l' e1 e2
    simp only [Option.some.injEq] at h
    subst h
    rw [List.map_cons,Jd2 l e2,e1]
  · rename_i T e bs l' e1 e2
    simp only [Option.some.injEq] at h
    subst h
    rw [List.map_cons,Jd2 l e2,e1]
  · cases h
theorem Je1 (h:Rel P G F Bs st tm w):∀ (l:List Nat),l.Nodup→∃ B,RSs P F w (l.map st.fr) (l.map fun i=>tm.getD i undef) B∧B.Nodup∧(∀ b∈B,∃ i,i∈l∧b∈Bs i)
 | [],_=>⟨[],.nil,by simp,by simp⟩
 | i::l,hn=>by
  rw [List.nodup_cons] at hn
  obtain ⟨B,h1,h2,h3⟩:=Je1 h l hn.2
  refine ⟨Bs i++B,.cons (h.sl i) h1,List.nodup_append.2 ⟨h.nd i,h2,fun x hx y hy e=>?_⟩,fun b hb=>?_⟩
  · subst e
    obtain ⟨j,q1,q2⟩:=h3 x hy
    exact h.dj i j x (fun e=>hn.1 (e ▸ q1)) hx q2
  · rcases List.mem_append.1 hb with q | q
    · exact ⟨i,by simp,q⟩
    · obtain ⟨j,q1,q2⟩:=h3 b q
      exact ⟨j,by simp [q1],q2⟩
theorem JdB:∀ (args:List SV) (k:Nat) (pre cs:List Value),pre.length=k→args.length=cs.length→(JaC k args).map (fun j=>(pre++cs).getD j undef)=bxv args cs
 | [],k,pre,cs,hp,hl=>by
  cases cs with
  | nil=>rfl
  | cons c cs=>simp at hl
 | x::args,k,pre,cs,hp,hl=>by
  cases cs with
  | nil=>simp at hl
  | cons c cs =>
   have ih:=JdB args (k + 1) (pre++[c]) cs (by simp [hp]) (by simpa using hl)
   rw [List.append_assoc,List.singleton_append] at ih
   have hk:(pre++c::cs).getD k undef=c:=by rw [List.getD_eq_getElem?_getD,List.getElem?_append_right (by omega),hp]; simp
   cases x <;> first | exact ih | (simp only [JaC,bxv,List.map_cons,hk,ih])
def Je0 (tmps:Array Value):ResultVar→Sem Value
 | .tmp t=>pure (tmps.getD t undef)
 | .cell a t=>do loadVar t (←asAddr (tmps.getD a undef))
def Jfx:ResultVar→Nat
 | .tmp t=>t
 | .cell t _=>t
theorem Jba:∀ l:List ResultVar,Jat l=l.map Jfx
 | []=>rfl
 | .tmp t::l=>by rw [Jat,Jba l]; rfl
 | .cell t T::l=>by rw [Jat,Jba l]; rfl
theorem Jfw {fn:Func} {l:List ResultVar} (h:fn.results.toList=l) (hl:l.length≤4) (tmps tm':Array Value) (hv:∀ x∈l,(Je0 tmps x).run P w=.ok (tm'.getD (Jfx x) undef) w) :
 (results fn tmps).run P w=.ok (JgQ (l.map fun x=>tm'.getD (Jfx x) undef)) w:=by
 have hr:fn.results=l.toArray:=by rw [←h]
 have hm:results fn tmps=(fn.results.mapM (Je0 tmps) >>= fun vs=>pure (if h:vs.size=1 then vs[0] else .tuple vs)):=by
  unfold results
  congr 1
 rw [hm]
 match l,hl,hr,hv with
 | [],_,hr,hv=>simp [hr,JgQ]
 | [x],_,hr,hv =>
  have h1:=hv x (by simp)
  simp [hr,JgQ,h1]
 | [x,y],_,hr,hv =>
  have h1:=hv x (by simp)
  have h2:=hv y (by simp)
  simp [hr,JgQ,h1,h2]
 | [x,y,z],_,hr,hv =>
  have h1:=hv x (by simp)
  have h2:=hv y (by simp)
  have h3:=hv z (by simp)
  simp [hr,JgQ,h1,h2,h3]
 | [x,y,z,u],_,hr,hv =>
  have h1:=hv x (by simp)
  have h2:=hv y (by simp)
  have h3:=hv z (by simp)
  have h4:=hv u (by simp)
  simp [hr,JgQ,h1,h2,h3,h4]
 | _::_::_::_::_::_,h,_,_=>simp at h
theorem Jig (hd:a.defers=[]) (h:Rel P G F Bs st a.tmps w) {t:Nat} {T:TypeId} {o:Out} {c0:Co} (hk:Jfa P c0 T t (st.fr t)=some o):∃ v,(Je0 a.tmps (.cell t T)).run P w=.ok v w∧Lay P G st a w (some t) o v:=by
 unfold Jfa at hk
 split at hk
 · rename_i Tb cs hs
   obtain ⟨hkn,hk⟩:=Jaa hk
   have rd:∀ (b:Nat) (v:Value),a.tmps.getD t undef=.pointer (some ⟨b,0,none⟩)→(Instr.loadAt T (.pointer (some ⟨b,0,none⟩))).run P w=.ok v w→(Je0 a.tmps (.cell t T)).run P w=.ok v w:=by
    intro b v hv hr
    simp only [Je0,hv,asAddr]
    simpa [Instr.loadAt,Instr.sureAddr] using hr
   cases hag:Jai P T with
   | true =>
    rw [hag,cond_true] at hk
    split at hk
    · rename_i n hsz
      split at hk
      · unfold JgI at hk
        simp only [] at hk
        obtain ⟨hle,hk⟩:=Jaa hk
        have hle:0 + n≤cs.length:=by simpa using hle
        obtain ⟨b',cur,e1,e2,e3,e4⟩:=h.takeCells hd hs hle
        cases hk
        refine ⟨_,rd b' _ e1 (JcW hkn hag hsz (xs:=(cur.toList.drop 0).take n) (by rw [List.length_take,List.length_drop]; omega) fun j v hj=>?_),e4 _⟩
        rw [List.getElem?_take] at hj
        split at hj
        · rw [List.getElem?_drop] at hj
          rw [cell_of_row w b' _ cur Tb _ e2]; simpa using hj
        · cases hj
      unfold JdN at hk
      simp only [] at hk
      obtain ⟨hle,hk⟩:=Jaa hk
      have hle:0 + n≤cs.length:=by simpa using hle
      split at hk
      · rename_i ys hy
        obtain ⟨F',Bs',b',cur,e1,e2,e3,e4,e5,e6,e7⟩:=h.freezeCells hs hy
        cases hk
        refine ⟨_,rd b' _ e1 (JcW hkn hag hsz (xs:=(cur.toList.drop 0).take n) (by rw [List.length_take,List.length_drop]; omega) fun j v hj=>?_),Jau hd e4 (.p (.agg e5 e6))⟩
        rw [List.getElem?_take] at hj
        split at hj
        · rw [List.getElem?_drop] at hj
          rw [cell_of_row w b' _ cur Tb _ e2]; simpa using hj
        · cases hj
      · cases hk
    · cases hk
   | false =>
    rw [hag,cond_false] at hk
    obtain ⟨b,cur,B,e1,e2,e3,e4,e5⟩:=h.box_inv hs
    unfold JdM at hk
    simp only [] at hk
    obtain ⟨hlt,hk⟩:=Jaa hk
    have cellv:∀ c,cur.toList[0]? = some c→w.cell? ⟨b,0,none⟩=some c:=fun c hc=>by rw [cell_of_row w b 0 cur Tb _ e2]; simpa using hc
    split at hk
    · rename_i y hy
      obtain ⟨c,Bj,pre,post,f1,f2,_⟩:=e3.get (getD_some hy (by simp))
      cases hk
      cases f2 with | p h4=>exact ⟨c,rd b c e1 (JcX hkn hag (cellv c f1)),JaF hd h h4⟩
    · rename_i hy
      obtain ⟨c,Bj,pre,post,f1,f2,_⟩:=e3.get (getD_some hy (by simp))
      cases hk
      cases f2 with | nl=>exact ⟨_,rd b _ e1 (JcX hkn hag (cellv _ f1)),Jau hd (by rw [Jak]; exact h) .nl⟩
    · rename_i T2 es hy
      obtain ⟨c,Bj,pre,post,f1,f2,_⟩:=e3.get (getD_some hy (by simp))
      cases hk
      refine ⟨c,rd b c e1 (JcX hkn hag (cellv c f1)),JbC hd h ?_⟩
      intro T' cs' b' cur' T'' f hs' ht hb
      rw [e1] at ht; cases ht
      rw [e2] at hb; cases hb
      exact f1
    · cases hk
 · cases hk
theorem JhC {o:Out} (h:JjA o=true):o.ref=none:=by
 unfold JjA at h
 split at h
 · rfl
 · cases h
theorem Jdp:∀ (l:List ResultVar) (rm:List Co) (fr fr':Fr) (a:Act),Jbi P G.N rm l fr=some fr'→SRel P G ⟨fr,[]⟩ a w→(Jat l).Nodup →
 ∃ a',SRel P G ⟨fr',[]⟩ a' w∧(∀ j,j∉Jat l→a'.tmps.getD j undef=a.tmps.getD j undef)∧∀ x∈l,(Je0 a.tmps x).run P w=.ok (a'.tmps.getD (Jfx x) undef) w
 | [],rm,fr,fr',a,h,hs,_=>by
  simp only [Jbi,Option.some.injEq] at h
  subst h
  exact ⟨a,hs,fun _ _=>rfl,by simp⟩
 | .tmp t::l,rm,fr,fr',a,h,hs,hn=>by
  simp only [Jat,List.nodup_cons] at hn
  obtain ⟨a',h1,h2,h3⟩:=Jdp l rm.tail fr fr' a h hs hn.2
  refine ⟨a',h1,fun j hj=>h2 j fun q=>hj (by simp [Jat,q]),fun x hx=>?_⟩
  rcases List.mem_cons.1 hx with rfl | hx
  · simp only [Jfx]; rw [h2 t hn.1]; rfl
  · exact h3 x hx
 | .cell t T::l,rm,fr,fr',a,h,hs,hn=>by
  simp only [Jat,List.nodup_cons] at hn
  simp only [Jbi] at h
  split at h
  · rename_i o ho
    obtain ⟨hc,h⟩:=Jaa h
    simp only [Bool.and_eq_true] at hc
    obtain ⟨hd,F,Bs,hr⟩:=hs
    obtain ⟨v,g1,g2⟩:=Jig (st:=⟨fr,[]⟩) hd hr ho
    have hs1:=g2 hc.1
    have hst:St.put ⟨fr,[]⟩ (some t) o=⟨(St.put ⟨fr,[]⟩ (some t) o).fr,[]⟩:=by
     have:=JhC hc.2
     simp only [St.put,this,Jae]
    rw [hst] at hs1
    obtain ⟨a',h1,h2,h3⟩:=Jdp l rm.tail _ fr' _ h hs1 hn.2
    have hlt:t<a.tmps.size:=by
     rw [hr.sz]
     have:=hc.1
     simp only [Out.fits,Bool.and_eq_true] at this
     simpa using this.1.1
    have hne:∀ j,j≠t→(a.put (some t) v).tmps.getD j undef=a.tmps.getD j undef:=fun j hj=>Jav hj
    refine ⟨a',h1,fun j hj=>?_,fun x hx=>?_⟩
    · simp only [Jat,List.mem_cons,not_or] at hj
      rw [h2 j hj.2,hne j hj.1]
    · rcases List.mem_cons.1 hx with rfl | hx
      · simp only [Jfx]
        rw [h2 t hn.1]
        have:(a.put (some t) v).tmps.getD t undef=v:=JbB hlt
        rw [this]; exact g1
      · have hxt:Jfx x≠t:=fun q=>hn.1 (by rw [Jba]; exact List.mem_map.2 ⟨x,hx,q⟩)
        rw [←h3 x hx]
        cases x with
        | tmp u=>simp only [Je0]; rw [hne u hxt]
        | cell u U=>simp only [Je0]; rw [hne u hxt]
  · cases h
theorem Ji8 {ann:Ann} (hrm:Jdv P ann.rm=true) {fn:Func} {args:List SV} {cargs:Array Value} {B:List Nat} {W:World} {fr:Fr} {K:List SV→Option R} (hlen:args.length=cargs.toList.length)
 (hBl:∀ b∈B,b<W.heap.size) {I:GInv} {hgi:∀ (F':Nat→Prop) (w:World),(∀ b,F b→F' b)→Keep W (·∈B) w→I.ok F' w}
 (hs:SRel P ⟨W,(·∈B),F,(fn.ntmps,JaC 0 args),fun j=>cargs.toList.getD j undef,I,hgi⟩ ⟨fr,[]⟩ a w) (hk:Jhj P ann fn args fr K=some res) :
 a.defers=[]∧∃ v,(results fn a.tmps).run P w=.ok v w∧∃ rs,K rs=some res∧Jjk P F W args cargs.toList B rs v w:=by
 refine ⟨hs.1,?_⟩
 unfold Jhj at hk
 split at hk
 · cases hk
 rename_i fr2 hcells
 split at hk
 · rename_i rs bs hrs hbs
   obtain ⟨hc,hk⟩:=Jaa hk
   simp only [Bool.and_eq_true] at hc
   have hn:=Jbj.1 hc.1
   have hn1:=(List.nodup_append.1 hn).1
   have hn3:=(List.nodup_append.1 hn).2.2
   obtain ⟨a0,hs0,t1,t2⟩:=Jdp _ _ _ _ a hcells hs hn1
   obtain ⟨hd,F',Bs',h⟩:=hs0
   generalize hfr:fr2=fr at *
   have e1:=Jfv _ _ hrs hn1
   have e3:=Jd2 _ hbs
   obtain ⟨F2,Bs2,h2⟩:=h.coes (fr':=Jfp ann.rm fn.results.toList fr) (JcC _ _ hrm fr)
   obtain ⟨Br,s1,s2,s3⟩:=Je1 h2 _ hn
   have e4:(JaC 0 args).map (Jfp ann.rm fn.results.toList fr)=bs:=by
    rw [e3]
    exact List.map_congr_left fun j hj=>Jdj _ _ _ _ fun q=>hn3 j q j hj rfl
   have e5:(JaC 0 args).map (fun i=>a0.tmps.getD i undef)=bxv args cargs.toList:=by
    rw [←JdB args 0 [] cargs.toList rfl hlen]
    exact List.map_congr_left fun j hj=>h.pn j hj
   rw [List.map_append,List.map_append,←e1,e4,e5] at s1
   refine ⟨_,Jfw rfl (by have:=Jg5 hc.2; rw [e1,List.length_map,Jba,List.length_map] at this; exact this) a.tmps a0.tmps t2,_,hk,F2,Br,rs,bs,(Jat fn.results.toList).map (fun t=>a0.tmps.getD t undef),rfl,by rw [e1]; simp,by rw [Jba,List.map_map]; rfl,s1,s2,
    fun b hb=>?_,fun b hb=>h2.f0 b hb,fun b hb=>h2.fn b hb,h2.fl,h2.kb⟩
   obtain ⟨i,q1,q2⟩:=s3 b hb
   exact ⟨h2.nf i b q2,h2.lt i b q2,h2.nw i b q2⟩
 · cases hk
def JgV (P:Program) (ann:Ann):Bool:=Jc0 P ann.loops&&Jc0 P ann.cuts&&Jdv P ann.rm
theorem EnvOK.nil {I:GInv}:EnvOK P I (fun _=>none):=fun g fs h=>by cases h
theorem EnvOK.cons {I:GInv} {env:Env} {g:Nat} {fs:FS} (h:EnvOK P I env) (hf:FSound P I g fs):EnvOK P I (fun i=>bif Nat.beq i g then some fs else env i):=by
 intro i fs' hi
 replace hi:(bif Nat.beq i g then some fs else env i)=some fs':=hi
 cases hb:Nat.beq i g with
 | true =>
  rw [hb] at hi
  simp only [cond_true,Option.some.injEq] at hi
  rw [eqB hb,←hi]; exact hf
 | false=>rw [hb] at hi; exact h i fs' hi
theorem gI {I:GInv} {F:Nat→Prop} {W:World} {B:List Nat} (hF:∀ b,F b→b<W.heap.size) (hB:∀ b∈B,¬ F b∧b<W.heap.size) (hI:I.ok F W) (F':Nat→Prop) (w:World) (h1:∀ b,F b→F' b) (h2:Keep W (·∈B) w):I.ok F' w :=
 I.st F F' W w hI h1 hF fun b hb=>h2.block b (hF b hb) fun q=>(hB b q).1 hb
theorem Jjt {I:GInv} {env:Env} (henv:EnvOK P I env) {ann:Ann} (hann:JgV P ann=true) {n:Nat} {fn:Func} {g:Nat} (hg:P.funcs[g]? = some fn) (hnm:(fn.name == "runtime.NumGoroutine")=false)
 {args:List SV} {K:List SV→Option R} (hk:Jh4 P env ann n fn args K=some res)
 (F:Nat→Prop) (W:World) (cargs:Array Value) (B:List Nat) (ha:RSs P F W args cargs.toList B) (hn:B.Nodup) (hB:∀ b∈B,¬ F b∧b<W.heap.size) (hF:∀ b,F b→b<W.heap.size) (hI:I.ok F W) :
 Calls P g cargs W fun | .returned v,w'=>∃ rs,K rs=some res∧Jjk P F W args cargs.toList B rs v w' | _,_=>False:=by
 simp only [JgV,Bool.and_eq_true] at hann
 unfold Jh4 at hk
 split at hk
 · rename_i c hc
   obtain ⟨hl,hk⟩:=Jaa hk
   refine calls_of_wp hg hc (Jko (G:=⟨W,(·∈B),F,(fn.ntmps,JaC 0 args),fun j=>cargs.toList.getD j undef,I,gI hF hB hI⟩) henv hann.1.1 hann.1.2 n c hk (Jlh ha hn hB hF (Jg5 hl) _ _) fun e fr' a' w' hk' hs'=>?_)
   cases e with
   | exit i=>cases hk'
   | normal =>
    obtain ⟨h1,v,h2,h3⟩:=Ji8 hann.2 ha.length (fun b hb=>(hB b hb).2) hs' hk'
    exact ⟨h1,v,h2,h3⟩
   | ret =>
    obtain ⟨h1,v,h2,h3⟩:=Ji8 hann.2 ha.length (fun b hb=>(hB b hb).2) hs' hk'
    exact ⟨h1,v,h2,h3⟩
 · cases hk
theorem FSound.of {I:GInv} {env:Env} (henv:EnvOK P I env) {ann:Ann} (hann:JgV P ann=true) {n:Nat} {fn:Func} {g:Nat} (hg:P.funcs[g]? = some fn) (hb:fn.body.isNone=false) (hnm:(fn.name == "runtime.NumGoroutine")=false)
 {fs:FS} (hf:∀ {R:Type} {args:List SV} {K:List SV→Option R} {res:R},fs.run args K=some res→Jh4 P env ann n fn args K=some res) (hdet:∀ args,DetK (fun R K=>@FS.run fs R args K)):FSound P I g fs :=
 ⟨hdet,⟨fn,hg,hb,hnm⟩,fun hk F W cargs B ha hn hB hF hI=>Jjt henv hann hg hnm (hf hk) F W cargs B ha hn hB hF hI⟩
end
end Go.Proofs.YtmgfmlhdnadglaaGreatDoor.Th
set_option linter.unusedVariables false
set_option linter.unusedSimpArgs false
namespace Go.Proofs.YtmgfmlhdnadglaaGreatDoor.Th
open Go
variable {R:Type}
def JcA (l:List (Nat × Lv × Lv)) (i:Nat):Lv:=((Jdy l i).getD ([],[])).1
def JgN (l:List (Nat × Lv × Lv)) (i:Nat):Lv:=((Jdy l i).getD ([],[])).2
def isA (l:List (Nat × Lv × Lv)) (i:Nat):Bool :=
 match Jdy l i with
 | some _=>true
 | none=>false
abbrev Orc (R:Type):=Nat→List SV→Kc R→Option R
def evO (P:Program) (env:Env) (ann:Ann) (N:Nat × List Nat) (lo cu:Orc R):Code→Fr→Kc R→Option R
 | .skip,fr,K=>K .normal fr
 | .region _ ops draw,fr,K=>JgO P env ann.frz N ops.toList draw fr fun fr'=>K .normal fr'
 | .seq a b,fr,K=>evO P env ann N lo cu a fr fun e fr'=>match e with
  | .normal=>(match JaL b with
   | some i=>bif isA ann.cuts i then cu i (JcQ (JcA ann.cuts i) fr') K else evO P env ann N lo cu b fr' K
   | none=>evO P env ann N lo cu b fr' K)
  | .exit i=>K (.exit i) fr'
  | .ret=>K .ret fr'
 | .cond c a b,fr,K=>(match opd ⟨fr,[]⟩ c with
  | .pv (.v (.bool t))=>bif t then evO P env ann N lo cu a fr K else evO P env ann N lo cu b fr K
  | _=>none)
 | .block id a,fr,K=>evO P env ann N lo cu a fr fun e fr'=>match e with
  | .exit i=>bif Nat.beq i id then K .normal fr' else K (.exit i) fr'
  | .normal=>K .normal fr'
  | .ret=>K .ret fr'
 | .loop a,fr,K=>(match JaL a with
  | some i=>bif isA ann.loops i then lo i (JcQ (JcA ann.loops i) fr) K else none
  | none=>none)
 | .exit i,fr,K=>K (.exit i) fr
 | .ret,fr,K=>K .ret fr
 | _,_,_=>none
def JaJ (ann:Ann):Code→List (Bool × Nat × Code)
 | .seq a b=>JaJ ann a++(match JaL b with
  | some i=>bif isA ann.cuts i then [(true,i,b)] else JaJ ann b
  | none=>JaJ ann b)
 | .cond _ a b=>JaJ ann a++JaJ ann b
 | .block _ a=>JaJ ann a
 | .loop a=>match JaL a with
  | some i=>[(false,i,a)]
  | none=>[]
 | _=>[]
def JcH (P:Program) (env:Env) (ann:Ann) (n:Nat) (N:Nat × List Nat) (lo cu:Orc R) (x:Bool × Nat × Code):Prop :=
 match x with
 | (true,i,b)=>∀ vs K,Jgu (fun f k=>evC P env ann n N b f k) (JcA ann.cuts i) (JgN ann.cuts i) vs K=cu i vs K
 | (false,i,a)=>∀ vs K,JcL (fun f k=>evC P env ann n N a f k) (JcA ann.loops i) (JgN ann.loops i) n vs K=lo i vs K
def Je6 (p:Bool × Nat × Code→Prop):List (Bool × Nat × Code)→Prop
 | []=>True
 | x::l=>p x∧Je6 p l
theorem JcZ {p:Bool × Nat × Code→Prop} {a b:List (Bool × Nat × Code)} (h:Je6 p (a++b)):Je6 p a∧Je6 p b:=by
 induction a with
 | nil=>exact ⟨trivial,h⟩
 | cons x a ih=>exact ⟨⟨h.1,(ih h.2).1⟩,(ih h.2).2⟩
theorem Jdb (l:List (Nat × Lv × Lv)) (i:Nat):(isA l i=true∧Jdy l i=some (JcA l i,JgN l i))∨(isA l i=false∧Jdy l i=none):=by
 unfold isA JcA JgN
 cases Jdy l i with
 | none=>exact .inr ⟨rfl,rfl⟩
 | some x=>exact .inl ⟨rfl,rfl⟩
theorem Jhh {P:Program} {env:Env} {ann:Ann} {n:Nat} {N:Nat × List Nat} {lo cu:Orc R}:∀ (c:Code),Je6 (JcH P env ann n N lo cu) (JaJ ann c) →
 ∀ fr K,evC P env ann n N c fr K=evO P env ann N lo cu c fr K:=by
 intro c
 induction c with
 | seq a b iha ihb =>
  intro h fr K
  simp only [JaJ] at h
  obtain ⟨h1,h2⟩:=JcZ h
  simp only [evC,evO]
  rw [iha h1]
  congr 1
  funext e fr'
  cases e with
  | normal =>
   simp only [JdY]
   cases hi:JaL b with
   | none=>rw [hi] at h2; exact ihb h2 fr' K
   | some i =>
    rw [hi] at h2
    simp only [] at h2 ⊢
    rcases Jdb ann.cuts i with ⟨q1,q2⟩ | ⟨q1,q2⟩
    · rw [q1] at h2 ⊢
      rw [q2]
      exact h2.1 _ _
    · rw [q1] at h2 ⊢
      rw [q2]
      exact ihb h2 fr' K
  | exit i=>rfl
  | ret=>rfl
 | cond cnd a b iha ihb =>
  intro h fr K
  simp only [JaJ] at h
  obtain ⟨h1,h2⟩:=JcZ h
  simp only [evC,evO,iha h1,ihb h2]
  rfl
 | block id a ih =>
  intro h fr K
  simp only [evC,evO]
  rw [ih h]
  congr 1
 | loop a ih =>
  intro h fr K
  simp only [evC,evO,JdY]
  simp only [JaJ] at h
  cases hi:JaL a with
  | none=>rfl
  | some i =>
   rw [hi] at h
   simp only []
   rcases Jdb ann.loops i with ⟨q1,q2⟩ | ⟨q1,q2⟩
   · rw [q1,q2]; exact h.1 _ _
   · rw [q1,q2]; rfl
 | _=>intro h fr K; rfl
def Jjs (P:Program) (env:Env) (ann:Ann) (lo cu:Orc R) (fn:Func) (args:List SV) (K:List SV→Option R):Option R :=
 match fn.body with
 | some c=>bif Nat.ble args.length fn.ntmps then evO P env ann (fn.ntmps,JaC 0 args) lo cu c (JgW args) fun e fr=>match e with
  | .exit _=>none
  | .normal=>Jhj P ann fn args fr K
  | .ret=>Jhj P ann fn args fr K
  else none
 | none=>none
theorem Jiw {P:Program} {env:Env} {ann:Ann} {n:Nat} {lo cu:Orc R} {fn:Func} {c:Code} (hc:fn.body=some c) {args:List SV} (h:Je6 (JcH P env ann n (fn.ntmps,JaC 0 args) lo cu) (JaJ ann c)) (K:List SV→Option R) :
 Jh4 P env ann n fn args K=Jjs P env ann lo cu fn args K:=by
 unfold Jh4 Jjs
 rw [hc]
 simp only []
 rw [Jhh c h]
 rfl
end Go.Proofs.YtmgfmlhdnadglaaGreatDoor.Th
set_option linter.unusedVariables false
namespace Go.Proofs.YtmgfmlhdnadglaaGreatDoor.Th
open Go
def JgY (rs:List SV):Option Bool :=
 match rs with
 | [.p (.v (.bool b))]=>some b
 | _=>none
section
variable {P:Program}
theorem Jkd:∀ (l:List PV) (vs:List Value),bxv (l.map SV.p) vs=[]
 | [],[]=>rfl
 | [],_::_=>rfl
 | _::_,[]=>rfl
 | _::l,_::vs=>by simpa [bxv] using Jkd l vs
theorem Jja {I:GInv} {g:Nat} {fs:FS} (hf:FSound P I g fs) {cargs:Array Value} {args:List PV} (w:World) (F:Nat→Prop) (hF:∀ b,F b→b<w.heap.size) (hI:I.ok F w)
 (ha:RSs P F w (args.map SV.p) cargs.toList []) (hk:fs.run (args.map SV.p) JgY=some true) :
 Calls P g cargs w fun e w'=>e=.returned (.bool true)∧RowKit.Below w.heap.size w w':=by
 refine Calls.mono (hf.call hk F w cargs [] ha (by simp) (by simp) hF hI) fun e w' he=>?_
 cases e with
 | panicked c=>exact he.elim
 | outgrown=>exact he.elim
 | returned v =>
  obtain ⟨rs,h1,F',Br,xs,ys,vs,rfl,h2,rfl,h3,h4,h5,h6,h7,h8,h9⟩:=he
  rw [Jkd,List.append_nil] at h3
  unfold JgY at h1
  split at h1
  · rename_i b hxs
    cases h1
    rw [hxs] at h3
    cases h3 with
    | cons q1 q2 =>
     cases q2 with
     | nil =>
      cases q1 with
      | p q1 =>
       cases q1 with
       | v =>
        refine ⟨rfl,?_⟩
        exact ⟨h9.os,h9.tape,h9.output,h9.size,fun b hb=>h9.block b hb (by simp)⟩
  · cases h1
end
end Go.Proofs.YtmgfmlhdnadglaaGreatDoor.Th
set_option linter.unusedVariables false
set_option linter.unusedSimpArgs false
namespace Go.Proofs.YtmgfmlhdnadglaaGreatDoor.Th
open Go
section
variable {P:Program} {w:World}
theorem Je8 {t u ty e:TypeId} {i:TypeInfo} (ht:P.underlying t=some (.slice e)) (hu:P.underlying u=some .string) (hi:P.info? e=some i) (hz:i.zero=some (.int .u8 0))
 (hsize:i.size=1) (hby:i.bytes=1) {v:Value} {n:Nat} {xs:List Value} (hown:w.ownsRowF 0 e 1 v n xs) (s:ByteArray) (hbytes:n + s.size≤140737488355328) :
 ∃ v' w',(Builtin.append_ #[t,u] ty #[v,.string s]).run P w=.ok v' w'∧w'.ownsRowF 0 e 1 v' (n + s.size) (xs++Lib.strCells s)∧w.grownBy w' v.ownBlock ∧
  (∀ k,v'.ownBlock=some k→v.ownBlock=some k∨w.heap.size≤k):=by
 have h63:n + s.size≤maxLen:=by simp only [maxLen]; omega
 rcases hown.2 with ⟨rfl,rfl⟩ | ⟨g,cap,cur,fz,rfl,hbg,hg,hfz,hnc,hcm,hcs,htake⟩
 · obtain ⟨v',w',h1,h2,h3,h4⟩:=Lib.run_append_own_string (P:=P) w w.heap.size t u ty e i ht hu hi hz hsize hby (.slice none 0 0) 0 xs ⟨hown.1,.inl ⟨rfl,rfl⟩⟩ s h63 hbytes (Nat.le_refl _)
   refine ⟨v',w',h1,?_,h3,fun k hk=>.inr (h2.lt k hk).1⟩
   have h5:=World.ownsRowF_of h2
   refine ⟨h5.1,?_⟩
   rcases h5.2 with q | ⟨g,cap,cur,fz,q1,q2,q3⟩
   · exact .inl q
   · exact .inr ⟨g,cap,cur,fz,q1,Nat.zero_le _,q3⟩
 · have hxl:xs.length=n:=by simpa using hown.1
   have hlen:(xs++Lib.strCells s).length=(n + s.size) * 1:=by rw [List.length_append,hxl,Lib.strCells_length,Nat.mul_one]
   by_cases hroom:n + s.size≤cap
   · have hcs':cur.size=cap:=by simpa using hcs
     have hr:=Lib.run_append_room_stringF (P:=P) w t u ty e i ht hu hi hsize g n cap cur fz hg (by simpa using hfz) s hroom (by omega)
     refine ⟨_,_,hr,⟨hlen,.inr ⟨g,cap,_,fz,rfl,hbg,setRow_heap w g cur _ e _ hg,by omega,hroom,hcm,?_,?_⟩⟩,⟨rfl,rfl,rfl,by simp,fun k _ hk=>setRow_other w g k _ (fun e=>hk (by simp [Value.ownBlock,e]))⟩,fun k hk=>.inl hk⟩
     · simp only [List.size_toArray,List.length_append,List.length_take,List.length_drop,Array.length_toList,Lib.strCells_length]
       omega
     · have ht':cur.toList.take n=xs:=by simpa using htake
       rw [ht',←hlen]
       exact List.take_left
   · have holds:∀ j u,xs[j]? = some u→w.cell? ((⟨g,0,none⟩:Addr).add j)=some u:=hown.cells (g:=g) rfl
     have hr:=Lib.run_append_grow_string (P:=P) w t u ty e i (.int .u8 0) ht hu hi hz ⟨g,0,none⟩ n cap xs (by rw [hsize]; simpa using hxl) holds s (by omega) (by omega) (by rw [hby]; exact growslice_fits (by omega) (by omega))
     have hge:=grownCap_ge w (n + s.size) cap e
     have hcm2:grownCap w (n + s.size) cap e≤maxLen:=grownCap_le_maxLen w (n + s.size) cap e h63
     refine ⟨_,_,hr,⟨hlen,.inr ⟨w.heap.size,_,_,(0,0),rfl,Nat.zero_le _,Jcg w.drew _,Nat.zero_le _,hge,hcm2,?_,?_⟩⟩,⟨rfl,rfl,rfl,by simp,fun k hk _=>alloc_old w.drew _ k hk⟩,fun k hk=>by simp [Value.ownBlock] at hk; exact .inr (by omega)⟩
     · have hz1:(Value.int IntKind.u8 0).cells.size=1:=rfl
       simp only [Array.size_append,List.size_toArray,size_zeroCells,hz1,hxl,Lib.strCells_length]
       omega
     · simp only [Array.toList_append,List.append_assoc]
       rw [←List.append_assoc,←hlen]
       exact List.take_left
end
end Go.Proofs.YtmgfmlhdnadglaaGreatDoor.Th
set_option linter.unusedVariables false
set_option linter.unusedSimpArgs false
namespace Go.Proofs.YtmgfmlhdnadglaaGreatDoor.Th
open Go Go.Proofs Go.Shelf Go.RowKit
def BV (T e:TypeId) (b:Nat) (p v:Value) (bs:List Value) (w:World):Prop :=
 w.heap[b]? = some (.cells #[p,v] T (0,0))∧w.ownsRowF 0 e 1 v bs.length bs∧v.ownBlock≠some b
section
variable {P:Program} {ρ:Ren} {w:World} {T e:TypeId} {b:Nat} {p v:Value} {bs:List Value}
theorem BV.at' (h:BV T e b p v bs w):Lib.BuilderAtF T e 0 b p bs w:=⟨Nat.zero_le _,v,h⟩
theorem BV.lt (h:BV T e b p v bs w):b<w.heap.size:=h.at'.lt
theorem Keep.refl (w:World) (A:Nat→Prop):Keep w A w:=⟨rfl,rfl,rfl,Nat.le_refl _,fun _ _ _=>rfl⟩
theorem Keep.trans {w1 w2 w3:World} {A B:Nat→Prop} (h:Keep w1 A w2) (k:Keep w2 B w3) (hAB:∀ b,b<w1.heap.size→B b→A b):Keep w1 A w3 :=
 ⟨k.os.trans h.os,k.tape.trans h.tape,k.output.trans h.output,Nat.le_trans h.size k.size,fun b hb hA=>(k.block b (Nat.lt_of_lt_of_le hb h.size) fun q=>hA (hAB b hb q)).trans (h.block b hb hA)⟩
theorem Keep.set (w:World) (b o:Nat) (x:Value):Keep w (·=b) (w.setCell ⟨b,o,none⟩ x) :=
 ⟨rfl,rfl,rfl,by simp [World.setCell],fun k _ hk=>Below.heap_setCell _ _ _ _ (fun e=>hk (by simpa using e))⟩
theorem Keep.grown {w w':World} {r:Option Nat} (h:w.grownBy w' r):Keep w (fun k=>r=some k) w' :=
 ⟨h.os,h.tape,h.output,h.size,fun k hk hn=>h.block k hk fun e=>hn e.symm⟩
theorem Keep.mono {w w':World} {A B:Nat→Prop} (h:Keep w A w') (hAB:∀ b,A b→B b):Keep w B w':=⟨h.os,h.tape,h.output,h.size,fun b hb hB=>h.block b hb fun q=>hB (hAB b q)⟩
theorem BV.used (h:BV T e b p v bs w) (q:Value):BV T e b q v bs (w.setCell ⟨b,0,none⟩ q):=by
 obtain ⟨hb,hown,hne⟩:=h
 refine ⟨?_,?_,hne⟩
 · simp [World.setCell,Array.getElem?_modify,hb]
 · exact Jcd hown fun k hk=>(Keep.set w b 0 q).block k (hown.lt k (by simpa using hk)).2 fun e=>hne (by rw [←e]; simpa using hk)
theorem BV.put {v':Value} {bs':List Value} (hb:w.heap[b]? = some (.cells #[p,v] T (0,0))) (hown:w.ownsRowF 0 e 1 v' bs'.length bs') (hTe:T≠e) :
 BV T e b p v' bs' (w.setCell ⟨b,1,none⟩ v'):=by
 have hne:=Lib.ownBlock_neF hown hb hTe
 refine ⟨?_,?_,hne⟩
 · simp [World.setCell,Array.getElem?_modify,hb]
 · exact Jcd hown fun k hk=>(Keep.set w b 1 v').block k (hown.lt k (by simpa using hk)).2 fun e=>hne (by rw [←e]; simpa using hk)
theorem Jjl (L:Lays.n240 P ρ) (X:Builder.X72 P ρ) (hp:p=.pointer none∨p=.pointer (some ⟨b,0,none⟩)) (h:BV (ρ.t 72) (ρ.t 5) b p v bs w) :
 Calls P (ρ.f 240) #[.pointer (some ⟨b,0,none⟩)] w fun e w'=>e=.returned (.tuple #[])∧BV (ρ.t 72) (ρ.t 5) b (.pointer (some ⟨b,0,none⟩)) v bs w'∧Keep w (·=b) w':=by
 rcases hp with rfl | rfl
 · refine (Any.Builder_copyCheck_fresh L X b w h.at'.cell0 h.at'.shape h.at'.frozen0).mono ?_
   rintro e w' ⟨rfl,rfl⟩
   exact ⟨rfl,h.used _,Keep.set w b 0 _⟩
 · refine (Any.Builder_copyCheck_used L X b w h.at'.cell0).mono ?_
   rintro e w' ⟨rfl,rfl⟩
   exact ⟨rfl,h,Keep.refl _ _⟩
theorem JjV {ops:Array Oper} {rest:List Oper} {o:Oper} {a:Act} {Q:Exit→Act→World→Prop} (hgd:o.guard=none) (sl x:Operand) (t u:TypeId)
 (ho:o.op=.call { callee:=.builtin .append,args:=#[sl,x],argTypes:=#[t,u] })
 (e:TypeId) (i:TypeInfo) (ht:P.underlying t=some (.slice e)) (hu:P.underlying u=some .string) (hi:P.info? e=some i) (hz:i.zero=some (.int .u8 0))
 (hsize:i.size=1) (hby:i.bytes=1) (v:Value) (n:Nat) (xs:List Value) (hs:a.eval sl=v) (hown:w.ownsRowF 0 e 1 v n xs) (s:ByteArray) (hx:a.eval x=.string s) (hbytes:n + s.size≤140737488355328)
 (h:∀ v' w',w'.ownsRowF 0 e 1 v' (n + s.size) (xs++Lib.strCells s)→w.grownBy w' v.ownBlock→(∀ k,v'.ownBlock=some k→v.ownBlock=some k∨w.heap.size≤k)→wpList P ops Q rest (a.put o.dst v') w'):wpList P ops Q (o::rest) a w:=by
 refine wpList_plain hgd fun K hK=>?_
 obtain ⟨v',w',hr,h2,h3,h4⟩:=Je8 (P:=P) (ty:=o.type) ht hu hi hz hsize hby hown s hbytes
 unfold Oper.wp execOp
 simp only [ho,resolve,invoke,builtin,Sem.run_bind,Sem.run_pure,Result.andThen_ok,List.map_toArray,List.map_cons,List.map_nil,hs,hx,hr]
 exact hK _ _ (h v' w' h2 h3 h4)
def Wrote (T e:TypeId) (b:Nat) (v:Value) (bs:List Value) (w w':World):Prop :=
 ∃ v',BV T e b (.pointer (some ⟨b,0,none⟩)) v' bs w'∧Keep w (fun k=>k=b∨v.ownBlock=some k) w'∧(∀ k,v'.ownBlock=some k→v.ownBlock=some k∨w.heap.size≤k)
set_option maxHeartbeats 2000000 in
set_option maxRecDepth 100000 in
theorem Jd1 (L:Lays.n166 P ρ) (X:Builder.Extra P ρ) (hp:p=.pointer none∨p=.pointer (some ⟨b,0,none⟩)) (s:ByteArray) (h:BV (ρ.t 72) (ρ.t 5) b p v bs w) (hlen:bs.length + s.size≤140737488355328) :
 Calls P (ρ.f 166) #[.pointer (some ⟨b,0,none⟩),.string s] w fun e w'=>e=.returned (.tuple #[.int .i64 s.size,.nilIface])∧Wrote (ρ.t 72) (ρ.t 5) b v (bs++Lib.strCells s) w w':=by
 obtain ⟨i0,hi,hz0,hz1,hz2⟩:=info_parts X.infoByte
 have mixed:=L.mixed
 have t72:=L.t72; have a72:=L.a72; have z72:=L.z72; have v72:=L.v72; have u72:=run_underlying L.t72
 have t70:=L.t70; have a70:=L.a70; have z70:=L.z70; have v70:=L.v70; have u70:=run_underlying L.t70
 have t37:=L.t37; have a37:=L.a37; have z37:=L.z37; have v37:=L.v37; have u37:=run_underlying L.t37
 have t3:=L.t3; have a3:=L.a3; have z3:=L.z3; have v3:=L.v3; have u3:=run_underlying L.t3
 have t9:=L.t9; have a9:=L.a9; have z9:=L.z9; have v9:=L.v9; have u9:=run_underlying L.t9
 have t4:=L.t4; have a4:=L.a4; have z4:=L.z4; have v4:=L.v4; have u4:=run_underlying L.t4
 have t164:=L.t164; have a164:=L.a164; have z164:=L.z164; have v164:=L.v164; have u164:=run_underlying L.t164
 have t5:=X.t5; have a5:=X.a5; have z5:=X.z5; have v5:=X.v5; have u5:=run_underlying X.t5
 have e240:∀ args w,(callFunc (ρ.f 240) args).run P w=.ok (.enter (ρ.f 240) args) w:=enters_of L.f240 (by kernel_rfl) rfl
 go_enter L.f166,Body.n166_ntmps ρ
 go_wp2_with (go_at_fn (ρ.f 240); refine (Jjl { L with } X.toX72 hp h).mono ?_)
 rintro e w1 ⟨rfl,h1,k1⟩
 obtain ⟨hbk,hown,hne⟩:=h1
 have c0:w1.cell? ⟨b,0,none⟩=some (.pointer (some ⟨b,0,none⟩)):=by rw [Lib.cell_of_heap hbk]; rfl
 have c1:w1.cell? ⟨b,1,none⟩=some v:=by rw [Lib.cell_of_heap hbk]; rfl
 go_wp2_with (at_builtin; refine JjV rfl _ _ (ρ.t 37) (ρ.t 9) rfl (ρ.t 5) i0 L.t37 L.t9 hi hz0 hz1 hz2 _ _ _ rfl hown s rfl ?c4 ?_)
 case c4=>omega
 intro v' w2 hown' hgrow hblk
 have hlt:b<w1.heap.size:=(show BV (ρ.t 72) (ρ.t 5) b _ v bs w1 from ⟨hbk,hown,hne⟩).lt
 have hb2:w2.heap[b]? = some (.cells #[.pointer (some ⟨b,0,none⟩),v] (ρ.t 72) (0,0)):=by
  rw [hgrow.block b hlt (fun e=>hne e.symm)]
  exact hbk
 have d0:w2.cell? ⟨b,0,none⟩=some (.pointer (some ⟨b,0,none⟩)):=by rw [Lib.cell_of_heap hb2]; rfl
 have d1:w2.cell? ⟨b,1,none⟩=some v:=by rw [Lib.cell_of_heap hb2]; rfl
 have f1:w2.frozen? ⟨b,1,none⟩=false:=Lib.frozen_of_heap hb2 1
 obtain ⟨ao,n',cap,rfl⟩:∃ ao n' cap,v'=.slice ao n' cap:=by
  rcases hown'.2 with ⟨hv,_⟩ | ⟨g,cap,cur,fz,hv,_⟩
  · exact ⟨_,_,_,hv⟩
  · exact ⟨_,_,_,hv⟩
 go_wp2
 go_ret2
 refine ⟨rfl,_,BV.put hb2 (bs':=bs++Lib.strCells s) (by simpa [Lib.strCells_length] using hown') X.neB5,?_,fun k hk=>(hblk k hk).imp id fun q=>Nat.le_trans k1.size q⟩
 exact ((k1.mono fun k q=>.inl q).trans ((Keep.grown hgrow).mono (B:=fun k=>k=b∨v.ownBlock=some k) fun k q=>.inr q) fun _ _ q=>q).trans (Keep.set w2 b 1 _) fun _ _ q=>.inl q
end
end Go.Proofs.YtmgfmlhdnadglaaGreatDoor.Th
