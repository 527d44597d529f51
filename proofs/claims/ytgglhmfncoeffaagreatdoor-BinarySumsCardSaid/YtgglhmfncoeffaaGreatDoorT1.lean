/- Proved: what the evaluator of pure values says of a function's code, its calls keep (part 2; no further conditions). -/
import Derived.Test.YtgglhmfncoeffaaGreatDoorT0
import Derived.Laws.StructEq
import Derived.Laws.BytesString
import Derived.Laws.IdiomStrings
import Derived.Lib.FrozenHead
import Derived.Lib.AppendStr
set_option linter.unusedVariables false
set_option linter.unusedSimpArgs false
namespace Go.Proofs.YtgglhmfncoeffaaGreatDoor.Th
open Go
variable {R:Type} {res:R}
theorem JaW (e:PV) (es:List PV):Jbw (e::es)=Jad e++Jbw es:=by simp [Jbw]
theorem JdE (a b:List PV):Jbw (a++b)=Jbw a++Jbw b:=by simp [Jbw]
theorem JaR {sz:Nat}:∀ {es:List PV},(∀ e∈es,(Jad e).length=sz)→(Jbw es).length=es.length * sz
 | [],_=>by simp [Jbw]
 | e::es,h=>by
  rw [JaW,List.length_append,JaR (fun e he=>h e (by simp [he])),h e (by simp),List.length_cons,Nat.add_mul]
  omega
theorem JcL {sz:Nat}:∀ {es:List PV} {i:Nat} {e:PV},(∀ e∈es,(Jad e).length=sz)→es[i]? = some e→∃ rest,(Jbw es).drop (i * sz)=Jad e++rest
 | [],i,e,_,hi=>by simp at hi
 | x::es,0,e,h,hi=>by simp at hi; subst hi; exact ⟨Jbw es,by simp [JaW]⟩
 | x::es,i + 1,e,h,hi=>by
  obtain ⟨rest,hr⟩:=JcL (fun e he=>h e (by simp [he])) (by simpa using hi:es[i]? = some e)
  refine ⟨rest,?_⟩
  have hx:=h x (by simp)
  rw [JaW,show (i + 1) * sz=(Jad x).length + i * sz by rw [hx,Nat.add_mul]; omega,List.drop_append,List.drop_eq_nil_of_le (by omega),List.nil_append]
  rw [show (Jad x).length + i * sz - (Jad x).length=i * sz by omega]
  exact hr
theorem JbO (b o j:Nat):(⟨b,o,none⟩:Addr).add j=⟨b,o + j,none⟩:=by unfold Addr.add; split <;> simp_all
section
variable {P:Program} {G:Gd} {F:Nat→Prop} {Bs:Nat→List Nat} {st:St} {a:Act} {w:World}
theorem JcT {T:TypeId} {d:TypeDesc} (h:P.underlying T=some d) (w:World):(isAgg T).run P w=.ok (Jai P T) w:=by
 unfold isAgg Jai
 rw [Sem.run_bind,run_underlying h w,h]
 cases d <;> rfl
theorem JhW {T:TypeId} (h:JaF P T=true):∃ d,P.underlying T=some d:=by
 unfold JaF at h
 split at h
 · exact ⟨_,by assumption⟩
 · cases h
theorem JaK {T:TypeId} {n:Nat} (h:Jal P T=some n) (w:World):(sizeOf T).run P w=.ok n w:=by
 unfold Jal at h
 cases hi:P.info? T with
 | none=>simp [hi] at h
 | some i=>simp [hi] at h; simp [sizeOf,typeInfo,hi,h]
theorem JbU {T:TypeId} {b off:Nat} {v:Value} (hk:JaF P T=true) (ha:Jai P T=false) (hc:w.cell? ⟨b,off,none⟩=some v) :
 (Instr.loadAt T (.pointer (some ⟨b,off,none⟩))).run P w=.ok v w:=by
 obtain ⟨d,hd⟩:=JhW hk
 simp [Instr.loadAt,Instr.sureAddr,loadVar,JcT hd,ha,hc]
theorem Jdq {T:TypeId} {b off n:Nat} {xs:List Value} (hk:JaF P T=true) (ha:Jai P T=true) (hs:Jal P T=some n) (hl:xs.length=n)
 (hc:∀ j v,xs[j]? = some v→w.cell? ⟨b,off + j,none⟩=some v):(Instr.loadAt T (.pointer (some ⟨b,off,none⟩))).run P w=.ok (.agg xs.toArray) w:=by
 obtain ⟨d,hd⟩:=JhW hk
 have hl2:=run_loadCells_list (P:=P) w ⟨b,off,none⟩ xs (fun j v hv=>by rw [JbO]; exact hc j v hv)
 rw [hl] at hl2
 simp [Instr.loadAt,Instr.sureAddr,loadVar,JcT hd,ha,JaK hs,hl2]
theorem Jiq {T:TypeId} {es:List PV} {g n cap i sz:Nat} {B:List Nat} {e:PV} (h:RS P F w (.own T es) (.slice (some ⟨g,0,none⟩) n cap) B) (hsz:Jal P T=some sz) (hi:es[i]? = some e) :
 ∃ xs,RPs F w (Jad e) xs∧(Jad e).length=sz∧Jat (Jad e)=true∧∀ j v,xs[j]? = some v→w.cell? ⟨g,i * sz + j,none⟩=some v:=by
 cases h with
 | own h1 h2 h3 h4 h5 h6 h7 =>
  rename_i xs inf z
  have hs:inf.size=sz:=by simp [Jal,h1] at hsz; exact hsz
  rw [hs] at h7 h5
  obtain ⟨rest,hr⟩:=JcL (fun e he=>(h7 e he).1) hi
  have he:=h7 e (List.mem_of_getElem? hi)
  have hx:=(h6.drop (i * sz)).take sz
  rw [hr,show ((Jad e++rest).take sz)=Jad e by rw [←he.1]; exact List.take_left] at hx
  refine ⟨_,hx,he.1,he.2,fun j v hj=>?_⟩
  rw [List.getElem?_take] at hj
  split at hj
  · rename_i hlt
    rw [List.getElem?_drop] at hj
    have hlen:n=es.length:=by
     rcases h5.2 with ⟨q,_⟩ | ⟨g',cap',cur,fz,q,_,_,_,_,_,_⟩ <;> simp at q
     exact q.2.1
    subst hlen
    have:=h5.cellAt (i * sz + j) (by
     have h0:=JcQ hj
     rw [h5.1] at h0
     exact h0)
    rw [this]; exact hj
  · cases hj
theorem JbS {es:List PV} {i:Nat} {d:PV} (h:i<es.length):es[i]? = some (es.getD i d):=by
 rw [List.getD_eq_getElem?_getD,List.getElem?_eq_getElem h]; rfl
theorem Jgs {s:Nat} {cx:Option (Nat × TypeId × List SV)} {T:TypeId} {es:List PV} {g n cap:Nat} (h:Rel P G F Bs st a.tmps w)
 (hp:Ja8 st.fr a.tmps w s cx T es (.slice (some ⟨g,0,none⟩) n cap)):n=es.length:=by
 obtain ⟨h1,_⟩:=h.place hp
 cases h1 with
 | own _ _ _ _ h5 _ _ =>
  rcases h5.2 with ⟨q,_⟩ | ⟨g',cap',cur,fz,q,_,_,_,_,_,_⟩ <;> simp at q
  exact q.2.1
theorem CellsAt.at {b off:Nat} {xs:List Value} (h:CellsAt F w (some ⟨b,off,none⟩) xs):∀ j v,xs[j]? = some v→w.cell? ⟨b,off + j,none⟩=some v:=by
 intro j v hj
 rcases h with rfl | ⟨b',off',e,_,hc⟩
 · simp at hj
 · cases e; exact hc j v hj
theorem Jjo {o:Oper} {T:TypeId} {x:Operand} {K:Out→Option R} (hd:a.defers=G.D) (h:Rel P G F Bs st a.tmps w) (ho:o.op=.load T x) (hkn:JaF P T=true) (hag:Jai P T=false)
 (hk:Jei P (opd st x) K=some res):∃ out,K out=some res∧Eff P G st a w o out:=by
 have hrx:=Jag h x
 have run:∀ b off v,a.eval x=.pointer (some ⟨b,off,none⟩)→w.cell? ⟨b,off,none⟩=some v→(execOp a.eval o).run P w=.ok (.value v) w:=by
  intro b off v hv hc
  simp [execOp,ho,hv,JbU hkn hag hc]
 unfold Jei at hk
 split at hk
 · rename_i s off Tb cs hx
   rw [hx] at hrx
   obtain ⟨h1,b,h2,h3⟩:=hrx
   obtain ⟨b',cur,B,e1,e2,e3,e4,e5⟩:=h.box_inv h1
   rw [h2] at e1; cases e1
   obtain ⟨hlt,hk⟩:=Jab hk
   have cellv:∀ c,cur.toList[off]? = some c→w.cell? ⟨b,off,none⟩=some c:=fun c hc=>by rw [cell_of_row w b off cur Tb _ e2]; simpa using hc
   split at hk
   · unfold Jj3 at hk
     split at hk
     · rename_i y hy
       obtain ⟨c,Bj,pre,post,f1,f2,_⟩:=e3.get (getD_some hy (by simp))
       cases f2 with | p h4=>exact ⟨_,(JcH hk).1,Jaa (run b off c h3 (cellv c f1)) (JaE hd h h4)⟩
     · cases hk
   split at hk
   · rename_i y hy
     obtain ⟨c,Bj,pre,post,f1,f2,_⟩:=e3.get (getD_some hy (by simp))
     cases f2 with | p h4=>exact ⟨_,hk,Jaa (run b off c h3 (cellv c f1)) (JaE hd h h4)⟩
   · rename_i hy
     obtain ⟨c,Bj,pre,post,f1,f2,_⟩:=e3.get (getD_some hy (by simp))
     cases f2 with | nl=>exact ⟨_,hk,Jaa (run b off _ h3 (cellv _ f1)) (Jar hd (by rw [Jak]; exact h) .nl)⟩
   · rename_i T2 es hy
     obtain ⟨c,Bj,pre,post,f1,f2,_⟩:=e3.get (getD_some hy (by simp))
     refine ⟨_,hk,Jaa (run b off c h3 (cellv c f1)) (JaY hd h ?_)⟩
     intro T' cs' b' cur' T'' f hs ht hb
     rw [h2] at ht; cases ht
     rw [e2] at hb; cases hb
     exact f1
   · rename_i d ks vs hy
     obtain ⟨c,Bj,pre,post,f1,f2,_⟩:=e3.get (getD_some hy (by simp))
     refine ⟨_,hk,Jaa (run b off c h3 (cellv c f1)) (JaY hd h ?_)⟩
     intro T' cs' b' cur' T'' f hs ht hb
     rw [h2] at ht; cases ht
     rw [e2] at hb; cases hb
     exact f1
   · cases hk
 · rename_i s cx T' es i off hx
   rw [hx] at hrx
   obtain ⟨g,n,cap,sz,h1,h2,h3,h4⟩:=hrx
   have hn:=Jgs h h1
   obtain ⟨hk,hl,hm,_⟩:=Jbm hk
   obtain ⟨hlt,hk⟩:=Jab hk
   have hlt:off<(Jad (es.getD i (.v (.bool false)))).length:=by simpa using hlt
   obtain ⟨xs,g1,g2,g3,g4⟩:=Jiq (h.place h1).1 h3 (JbS (d:=.v (.bool false)) (by omega:i<es.length))
   obtain ⟨c,q1,q2⟩:=g1.get (JbS (d:=.v (.bool false)) hlt)
   exact ⟨_,hk,Jaa (run g (i * sz + off) c h4 (g4 off c q1)) (JaE hd h q2)⟩
 · rename_i cs hx
   rw [hx] at hrx
   obtain ⟨y,rest,rfl,hk⟩:=Jbv hk
   have hrx':RP F w (.fb (y::rest)) (a.eval x):=hrx
   generalize hv:a.eval x=c at hrx'
   cases hrx' with
   | fb h1 h2 h3 =>
    cases h1 with
    | cons p1 p2=>exact ⟨_,hk,Jaa (run _ _ _ hv (by have:=h3.at 0 _ rfl; simpa using this)) (JaE hd h p1)⟩
 · cases hk
theorem Jjp {o:Oper} {T:TypeId} {x:Operand} {K:Out→Option R} (hd:a.defers=G.D) (h:Rel P G F Bs st a.tmps w) (ho:o.op=.load T x) (hkn:JaF P T=true) (hag:Jai P T=false)
 (hk:Jfk (opd st x) K=some res):∃ out,K out=some res∧Eff P G st a w o out:=by
 have hrx:=Jag h x
 have run:∀ b off v,a.eval x=.pointer (some ⟨b,off,none⟩)→w.cell? ⟨b,off,none⟩=some v→(execOp a.eval o).run P w=.ok (.value v) w:=by
  intro b off v hv hc
  simp [execOp,ho,hv,JbU hkn hag hc]
 unfold Jfk at hk
 split at hk
 · rename_i s off Tb cs hx
   rw [hx] at hrx
   obtain ⟨h1,b,h2,h3⟩:=hrx
   obtain ⟨b',cur,B,e1,e2,e3,e4,e5⟩:=h.box_inv h1
   rw [h2] at e1; cases e1
   have cellv:∀ c,cur.toList[off]? = some c→w.cell? ⟨b,off,none⟩=some c:=fun c hc=>by rw [cell_of_row w b off cur Tb _ e2]; simpa using hc
   split at hk
   · rename_i T2 es hy
     have hg:=getD_some hy (by simp)
     obtain ⟨c,Bj,pre,post,f1,f2,_⟩:=e3.get hg
     obtain ⟨F',Bs',r1,r2,r3,r4⟩:=Jbp (cx:=some (off,Tb,cs)) (T:=T2) (es:=es) (cv:=c) h ⟨h1,hg,b,cur,h2,e2,f1⟩
     exact ⟨_,hk,Jaa (run b off c h3 (cellv c f1)) (Jar hd r1 (.p r2))⟩
   · rename_i hy
     obtain ⟨c,Bj,pre,post,f1,f2,_⟩:=e3.get (getD_some hy (by simp))
     cases f2 with | nl=>exact ⟨_,hk,Jaa (run b off _ h3 (cellv _ f1)) (Jar hd (by rw [Jak]; exact h) (.p (Jcs F w)))⟩
   · rename_i y hy
     obtain ⟨c,Bj,pre,post,f1,f2,_⟩:=e3.get (getD_some hy (by simp))
     cases f2 with | p h4=>exact ⟨_,hk,Jaa (run b off c h3 (cellv c f1)) (JaE hd h h4)⟩
   · cases hk
 · cases hk
theorem JfV {S:TypeId} {f:Nat} {o:Nat} {T:TypeId} (h:Jhr P S f=some (o,T)):∃ fs fl,P.underlying S=some (.struct fs)∧fs[f]? = some fl∧fl.offset=o∧fl.type=T:=by
 unfold Jhr at h
 split at h
 · rename_i fs hu
   cases hf:fs[f]? with
   | none=>simp [hf] at h
   | some fl=>simp [hf] at h; exact ⟨fs,fl,hu,hf,h.1,h.2⟩
 · cases h
theorem Jkm {T:TypeId} (h:JiE P T=true):∃ n,Jal P T=some n∧0<n:=by
 unfold JiE at h
 split at h
 · exact ⟨_,by assumption,by simpa using h⟩
 · cases h
theorem Jfq {o:Oper} {S:TypeId} {x:Operand} {f:Nat} {K:Out→Option R} {env:Env} (hd:a.defers=G.D) (h:Rel P G F Bs st a.tmps w) (ho:o.op=.fieldAddr S x f)
 (hk:opK P env (.fieldAddr S x f) o.type (opd st) K=some res):∃ out,K out=some res∧Eff P G st a w o out:=by
 have hrx:=Jag h x
 simp only [opK] at hk
 split at hk
 · rename_i off fT hf
   obtain ⟨fs,fl,hu,hfl,rfl,rfl⟩:=JfV hf
   obtain ⟨hpos,hk⟩:=Jab hk
   obtain ⟨n,hn,hn0⟩:=Jkm hpos
   have hn0':n≠0:=by omega
   have run:∀ b o',a.eval x=.pointer (some ⟨b,o',none⟩)→(execOp a.eval o).run P w=.ok (.value (.pointer (some ⟨b,o' + fl.offset,none⟩))) w:=by
    intro b o' hv
    simp [execOp,ho,hv,Instr.fieldAt,run_underlying hu,hfl,Instr.sureAddr,fieldPlace,JaK hn,hn0',JbO]
   split at hk
   · rename_i s o' Tb cs hx
     rw [hx] at hrx
     obtain ⟨h1,b,h2,h3⟩:=hrx
     refine ⟨_,hk,Jaa (run b o' h3) (JaY hd h fun b' hb'=>?_)⟩
     rw [h2] at hb'; cases hb'; rfl
   · rename_i s cx T es i o' hx
     rw [hx] at hrx
     obtain ⟨g,n',cap,sz,h1,h2,h3,h4⟩:=hrx
     refine ⟨_,hk,Jaa (run g _ h4) (JaY hd h ?_)⟩
     have:=Jes (P:=P) (off:=o' + fl.offset) h1 h2 h3
     rw [←Nat.add_assoc] at this
     exact this
   · rename_i cs hx
     rw [hx] at hrx
     have hrx':RP F w (.fb cs) (a.eval x):=hrx
     generalize hv:a.eval x=c at hrx'
     cases hrx' with
     | fb h1 h2 h3 =>
      rename_i xs b o'
      refine ⟨_,hk,Jaa (run _ _ hv) (JaE hd h (.fb (h1.drop fl.offset) (JaP fun y hy=>JaH h2 y (List.mem_of_mem_drop hy)) ?_))⟩
      rcases h3 with rfl | ⟨b2,o2,e,hb,hc⟩
      · exact .inl (by simp)
      · cases e
        refine .inr ⟨b,o' + fl.offset,rfl,hb,fun j v hj=>?_⟩
        rw [List.getElem?_drop] at hj
        have:=hc _ _ hj
        rwa [←Nat.add_assoc] at this
   · cases hk
 · cases hk
end
end Go.Proofs.YtgglhmfncoeffaaGreatDoor.Th
set_option linter.unusedVariables false
set_option linter.unusedSimpArgs false
namespace Go.Proofs.YtgglhmfncoeffaaGreatDoor.Th
open Go
variable {R:Type} {res:R}
section
variable {P:Program} {G:Gd} {F:Nat→Prop} {Bs:Nat→List Nat} {st:St} {a:Act} {w:World}
theorem RSs.split {l1 l2:List SV} {vs:List Value} {B:List Nat} (h:RSs P F w (l1++l2) vs B):∃ v1 v2 B1 B2,vs=v1++v2∧B=B1++B2∧RSs P F w l1 v1 B1∧RSs P F w l2 v2 B2:=by
 induction l1 generalizing vs B with
 | nil=>exact ⟨[],vs,[],B,rfl,rfl,.nil,h⟩
 | cons x l ih =>
  cases h with
  | cons h1 h2 =>
   obtain ⟨v1,v2,B1,B2,rfl,rfl,g1,g2⟩:=ih h2
   exact ⟨_::v1,v2,_++B1,B2,rfl,(List.append_assoc _ _ _).symm,.cons h1 g1,g2⟩
theorem RSs.join {l1 l2:List SV} {v1 v2:List Value} {B1 B2:List Nat} (h1:RSs P F w l1 v1 B1) (h2:RSs P F w l2 v2 B2):RSs P F w (l1++l2) (v1++v2) (B1++B2):=by
 induction l1 generalizing v1 B1 with
 | nil=>cases h1; exact h2
 | cons x l ih =>
  cases h1 with
  | cons p q=>rw [List.append_assoc]; exact .cons p (ih q)
theorem RSs.pure {l:List PV} {vs:List Value} (h:RPs F w l vs):RSs P F w (l.map .p) vs []:=by
 induction l generalizing vs with
 | nil=>cases h; exact .nil
 | cons x l ih=>cases h with | cons p q=>exact .cons (B:=[]) (.p p) (ih q)
theorem Jc9 {α:Type} (l:List α) (off n:Nat):l=l.take off++((l.drop off).take n++l.drop (off + n)):=by
 have h:(l.drop off).take n++(l.drop off).drop n=l.drop off:=List.take_append_drop n (l.drop off)
 rw [List.drop_drop] at h
 rw [h,List.take_append_drop]
theorem Jdu {cs:List SV} {vs:List Value} {B:List Nat} (h:RSs P F w cs vs B) (off n:Nat) :
 ∃ B1 B2 B3,B=B1++(B2++B3)∧RSs P F w (cs.take off) (vs.take off) B1∧RSs P F w ((cs.drop off).take n) ((vs.drop off).take n) B2∧RSs P F w (cs.drop (off + n)) (vs.drop (off + n)) B3:=by
 have hc:=h.length
 rw [Jc9 cs off n] at h
 obtain ⟨v1,v23,B1,B23,e1,rfl,g1,g23⟩:=h.split
 obtain ⟨v2,v3,B2,B3,e2,rfl,g2,g3⟩:=g23.split
 have l1:v1.length=min off vs.length:=by rw [←g1.length,List.length_take,hc]
 have l2:v2.length=min n (vs.length - off):=by rw [←g2.length,List.length_take,List.length_drop,hc]
 have q1:vs.take off=v1:=by
  rw [e1]
  rcases Nat.le_total off vs.length with q | q
  · rw [show off=v1.length by omega,List.take_left]
  · have:v23=[]:=by
     have:=congrArg List.length e1
     rw [List.length_append] at this
     exact List.length_eq_zero_iff.1 (by omega)
    rw [this,List.append_nil,List.take_of_length_le (by omega)]
 have q2:vs.drop off=v23:=by
  rw [e1]
  rcases Nat.le_total off vs.length with q | q
  · rw [show off=v1.length by omega,List.drop_left]
  · have:v23=[]:=by
     have:=congrArg List.length e1
     rw [List.length_append] at this
     exact List.length_eq_zero_iff.1 (by omega)
    rw [this,List.append_nil,List.drop_eq_nil_of_le (by omega)]
 have hl23:v23.length=vs.length - off:=by rw [←q2,List.length_drop]
 have q3:v23.take n=v2:=by
  rw [e2]
  rcases Nat.le_total n (vs.length - off) with q | q
  · rw [show n=v2.length by omega,List.take_left]
  · have:v3=[]:=by
     have:=congrArg List.length e2
     rw [List.length_append,hl23] at this
     exact List.length_eq_zero_iff.1 (by omega)
    rw [this,List.append_nil,List.take_of_length_le (by omega)]
 have q4:v23.drop n=v3:=by
  rw [e2]
  rcases Nat.le_total n (vs.length - off) with q | q
  · rw [show n=v2.length by omega,List.drop_left]
  · have:v3=[]:=by
     have:=congrArg List.length e2
     rw [List.length_append,hl23] at this
     exact List.length_eq_zero_iff.1 (by omega)
    rw [this,List.append_nil,List.drop_eq_nil_of_le (by omega)]
 refine ⟨B1,B2,B3,rfl,by rw [q1]; exact g1,by rw [q2,q3]; exact g2,?_⟩
 have q5:vs.drop (off + n)=v3:=by rw [←List.drop_drop,q2,q4]
 rw [q5]; exact g3
theorem Jh7 {B1 B2 B3:List Nat} {b:Nat} (h:(b::(B1++(B2++B3))).Nodup):(b::(B1++B3)).Nodup∧(∀ x∈B2,x∉b::(B1++B3))∧B2.Nodup:=by
 rw [List.nodup_cons,List.nodup_append,List.nodup_append] at h
 obtain ⟨h0,h1,⟨h2,h3,h4⟩,h5⟩:=h
 refine ⟨List.nodup_cons.2 ⟨fun q=>h0 ?_,List.nodup_append.2 ⟨h1,h3,fun x hx y hy e=>h5 x hx y (List.mem_append_right _ hy) e⟩⟩,fun x hx q=>?_,h2⟩
 · rcases List.mem_append.1 q with q | q <;> simp [q]
 · rcases List.mem_cons.1 q with q | q
   · subst q; exact h0 (by simp [hx])
   · rcases List.mem_append.1 q with q | q
     · exact h5 x q x (List.mem_append_left _ hx) rfl
     · exact h4 x hx x q rfl
theorem Rel.freezeCells (h:Rel P G F Bs st a.tmps w) {s off n:Nat} {T:TypeId} {cs:List SV} {ys:List PV} (hs:st.fr s=.bx T cs) (hf:Jdh ((cs.drop off).take n)=some ys) :
 ∃ F' Bs' b cur,a.tmps.getD s undef=.pointer (some ⟨b,0,none⟩)∧w.heap[b]? = some (.cells cur T (0,0))∧cur.toList.length=cs.length ∧
  Rel P G F' Bs' (st.upS (bif Jct ((cs.drop off).take n) then [(s,.bx T (splice cs off ys))] else []) []) a.tmps w ∧
  RPs F' w ys ((cur.toList.drop off).take n)∧Jat ys=true∧ys.length=((cs.drop off).take n).length:=by
 obtain ⟨b,cur,B,e1,e2,e3,e4,e5⟩:=h.box_inv hs
 obtain ⟨B1,B2,B3,rfl,g1,g2,g3⟩:=Jdu e3 off n
 have hone:∀ v∈(cur.toList.drop off).take n,v.oneCell'=true:=fun v hv=>e4 v (List.mem_of_mem_drop (List.mem_of_mem_take hv))
 have hlen:ys.length=((cs.drop off).take n).length:=(Jcl g2 hf (F':=fun b=>F b∨b∈B2) (fun _ q=>.inl q) (fun _ q=>.inr q)).2.2
 cases ha:Jct ((cs.drop off).take n) with
 | false =>
  have hB2:=JcY g2 hf ha
  subst hB2
  obtain ⟨r1,r2,r3⟩:=Jcl g2 hf (F':=F) (fun _ q=>q) (by simp)
  exact ⟨F,Bs,b,cur,e1,e2,e3.length.symm,by rw [cond_false,Jak]; exact h,r1,r2 hone,r3⟩
 | true =>
  obtain ⟨r1,r2,r3⟩:=Jcl g2 hf (F':=fun b=>F b∨b∈B2) (fun _ q=>.inl q) (fun _ q=>.inr q)
  have hnd:=h.nd s
  rw [e5] at hnd
  obtain ⟨n1,n2,n3⟩:=Jh7 hnd
  have m1:∀ {l:List SV} {v:List Value} {B:List Nat},RSs P F w l v B→RSs P (fun b=>F b∨b∈B2) w l v B:=fun h=>h.mono (fun _ q=>.inl q) fun _ _=>rfl
  have hcs:RSs P (fun b=>F b∨b∈B2) w (splice cs off ys) cur.toList (B1++([]++B3)):=by
   have:=(m1 g1).join ((RSs.pure (P:=P) r1).join (m1 g3))
   rw [←Jc9 cur.toList off n] at this
   unfold splice
   rw [List.append_assoc]
   have hdr:cs.drop (off + ys.length)=cs.drop (off + n):=by
    rw [hlen,List.length_take,List.length_drop]
    rcases Nat.le_total n (cs.length - off) with q | q
    · rw [Nat.min_eq_left q]
    · rw [Nat.min_eq_right q,List.drop_eq_nil_of_le (by omega),List.drop_eq_nil_of_le (by omega)]
   rw [hdr]; exact this
  have hmem:∀ x∈b::(B1++B3),x∈Bs s:=fun x hx=>by
   rw [e5]
   rcases List.mem_cons.1 hx with q | q
   · simp [q]
   · rcases List.mem_append.1 q with q | q <;> simp [q]
  have hmem2:∀ x∈B2,x∈Bs s:=fun x hx=>by rw [e5]; simp [hx]
  refine ⟨_,upB Bs s (b::(B1++B3)),b,cur,e1,e2,e3.length.symm,?_,r1,r2 hone,r3⟩
  rw [cond_true]
  refine h.turn (drop:=[]) (F':=fun b=>F b∨b∈B2) (w':=w) ?_ (fun x hx=>.inl (hmem x hx)) n1 (fun _ q=>.inl q)
   (fun x hx=>hx.imp id fun q=>⟨hmem2 x q,n2 x q⟩) (fun x hx q=>?_) (fun _ _ _=>rfl) (Nat.le_refl _) ⟨rfl,rfl,rfl⟩ (fun _ _ _ _ _=>.inr rfl) (fun _ _ _=>.inr ⟨T,cs,hs⟩)
  · rw [e1]; exact .bx e2 (by simpa using hcs) e4
  · rcases q with q | q
    · exact h.nf s x (hmem x hx) q
    · exact n2 x q hx
theorem Jjq {o:Oper} {T:TypeId} {x:Operand} {n:Nat} {K:Out→Option R} (hd:a.defers=G.D) (h:Rel P G F Bs st a.tmps w) (ho:o.op=.load T x) (hkn:JaF P T=true) (hag:Jai P T=true)
 (hsz:Jal P T=some n) (hk:Jej P n (opd st x) K=some res):∃ out,K out=some res∧Eff P G st a w o out:=by
 have hrx:=Jag h x
 have run:∀ (b off:Nat) (xs:List Value),a.eval x=.pointer (some ⟨b,off,none⟩)→xs.length=n→(∀ j v,xs[j]? = some v→w.cell? ⟨b,off + j,none⟩=some v)→(execOp a.eval o).run P w=.ok (.value (.agg xs.toArray)) w:=by
  intro b off xs hv hl hc
  simp [execOp,ho,hv,Jdq hkn hag hsz hl hc]
 unfold Jej at hk
 split at hk
 · rename_i s off Tb cs hx
   rw [hx] at hrx
   obtain ⟨h1,b,h2,h3⟩:=hrx
   obtain ⟨hle,hk⟩:=Jab hk
   have hle:off + n≤cs.length:=by simpa using hle
   split at hk
   · rename_i ys hy
     obtain ⟨F',Bs',b',cur,e1,e2,e3,e4,e5,e6,e7⟩:=h.freezeCells h1 hy
     rw [h2] at e1; cases e1
     refine ⟨_,hk,Jaa (run b off _ h3 (by rw [List.length_take,List.length_drop]; omega) fun j v hj=>?_) (Jar hd e4 (.p (.agg e5 e6)))⟩
     rw [List.getElem?_take] at hj
     split at hj
     · rw [List.getElem?_drop] at hj
       rw [cell_of_row w b _ cur Tb _ e2]; simpa using hj
     · cases hj
   · cases hk
 · rename_i s cx T' es i off hx
   rw [hx] at hrx
   obtain ⟨g,n',cap,sz,h1,h2,h3,h4⟩:=hrx
   have hn:=Jgs h h1
   obtain ⟨hk,hl,hm,_⟩:=Jbm hk
   obtain ⟨hle,hk⟩:=Jab hk
   have hle:off + n≤(Jad (es.getD i (.v (.bool false)))).length:=by simpa using hle
   obtain ⟨xs,g1,g2,g3,g4⟩:=Jiq (h.place h1).1 h3 (JbS (d:=.v (.bool false)) (by omega:i<es.length))
   have hxl:=g1.length
   refine ⟨_,hk,Jaa (run g (i * sz + off) ((xs.drop off).take n) h4 (by rw [List.length_take,List.length_drop]; omega) fun j v hj=>?_)
    (JaE hd h (.agg ((g1.drop off).take n) (JaP fun y hy=>JaH g3 y (List.mem_of_mem_drop (List.mem_of_mem_take hy)))))⟩
   rw [List.getElem?_take] at hj
   split at hj
   · rw [List.getElem?_drop] at hj
     have:=g4 _ _ hj
     rwa [←Nat.add_assoc] at this
   · cases hj
 · rename_i cs hx
   rw [hx] at hrx
   obtain ⟨hle,hk⟩:=Jab hk
   have hle:n≤cs.length:=by simpa using hle
   have hrx':RP F w (.fb cs) (a.eval x):=hrx
   generalize hv:a.eval x=c at hrx'
   cases hrx' with
   | fb h1 h2 h3 =>
    rename_i xs b off
    have hxl:=h1.length
    refine ⟨_,hk,Jaa (run b off (xs.take n) hv (by rw [List.length_take]; omega) fun j v hj=>?_) (JaE hd h (.agg (h1.take n) (JaP fun y hy=>JaH h2 y (List.mem_of_mem_take hy))))⟩
    rw [List.getElem?_take] at hj
    split at hj
    · exact h3.at j v hj
    · cases hj
 · cases hk
theorem Je4 (F:Nat→Prop) (w:World):∀ (vs:List Value),RSs P F w (List.replicate vs.length .dead) vs []
 | []=>.nil
 | v::vs=>.cons (B:=[]) (.dead v) (Je4 F w vs)
theorem Rel.takeCells (hd:a.defers=G.D) (h:Rel P G F Bs st a.tmps w) {s off n:Nat} {T:TypeId} {cs:List SV} (hs:st.fr s=.bx T cs) (hle:off + n≤cs.length) :
 ∃ b cur,a.tmps.getD s undef=.pointer (some ⟨b,0,none⟩)∧w.heap[b]? = some (.cells cur T (0,0))∧cur.toList.length=cs.length ∧
  ∀ d,Lay P G st a w d ⟨.st ((cs.drop off).take n),none,[(s,.bx T (cs.take off++List.replicate n .dead++cs.drop (off + n)))],[]⟩ (.agg ((cur.toList.drop off).take n).toArray):=by
 obtain ⟨b,cur,B,e1,e2,e3,e4,e5⟩:=h.box_inv hs
 obtain ⟨B1,B2,B3,rfl,g1,g2,g3⟩:=Jdu e3 off n
 have hone:∀ v∈(cur.toList.drop off).take n,v.oneCell'=true:=fun v hv=>e4 v (List.mem_of_mem_drop (List.mem_of_mem_take hv))
 have hl:=e3.length
 have hvl:((cur.toList.drop off).take n).length=n:=by rw [List.length_take,List.length_drop]; omega
 have hnd:=h.nd s
 rw [e5] at hnd
 obtain ⟨n1,n2,n3⟩:=Jh7 hnd
 have hmem:∀ x∈b::(B1++B3),x∈Bs s:=fun x hx=>by
  rw [e5]
  rcases List.mem_cons.1 hx with q | q
  · simp [q]
  · rcases List.mem_append.1 q with q | q <;> simp [q]
 have hmem2:∀ x∈B2,x∈Bs s:=fun x hx=>by rw [e5]; simp [hx]
 have hcs:RSs P F w (cs.take off++List.replicate n .dead++cs.drop (off + n)) cur.toList (B1++([]++B3)):=by
  have hdd:=Je4 (P:=P) F w ((cur.toList.drop off).take n)
  rw [hvl] at hdd
  have:=g1.join (hdd.join g3)
  rw [←Jc9 cur.toList off n] at this
  rw [List.append_assoc]; exact this
 refine ⟨b,cur,e1,e2,hl.symm,fun d=>?_⟩
 have hturn:=h.turn (s:=s) (drop:=[]) (F':=F) (w':=w) (x:=.bx T (cs.take off++List.replicate n .dead++cs.drop (off + n))) (B:=b::(B1++B3)) (by rw [e1]; exact .bx e2 (by simpa using hcs) e4)
  (fun x hx=>.inl (hmem x hx)) n1 (fun _ q=>q) (fun _ q=>.inl q) (fun x hx=>h.nf s x (hmem x hx)) (fun _ _ _=>rfl) (Nat.le_refl _) ⟨rfl,rfl,rfl⟩ (fun _ _ _ _ _=>.inr rfl) (fun _ _ _=>.inr ⟨T,cs,hs⟩)
 refine Jav hd hturn (.st g2 hone) n3 (fun i x hx=>?_) (fun x hx=>h.nf s x (hmem2 x hx)) (fun x hx=>h.nw s x (hmem2 x hx)) (fun x hx=>h.lt s x (hmem2 x hx)) (by simp)
 by_cases hi:i=s
 · subst hi; rw [Jaj]; exact n2 x hx
 · rw [Jah _ _ hi]; exact h.dj s i x (Ne.symm hi) (hmem2 x hx)
theorem Jkk {o:Oper} {T:TypeId} {x:Operand} {n:Nat} {K:Out→Option R} (hd:a.defers=G.D) (h:Rel P G F Bs st a.tmps w) (ho:o.op=.load T x) (hkn:JaF P T=true) (hag:Jai P T=true)
 (hsz:Jal P T=some n) (hk:Jho n (opd st x) K=some res):∃ out,K out=some res∧Eff P G st a w o out:=by
 have hrx:=Jag h x
 unfold Jho at hk
 split at hk
 · rename_i s off Tb cs hx
   rw [hx] at hrx
   obtain ⟨h1,b,h2,h3⟩:=hrx
   obtain ⟨hle,hk⟩:=Jab hk
   have hle:off + n≤cs.length:=by simpa using hle
   obtain ⟨b',cur,e1,e2,e3,e4⟩:=h.takeCells hd h1 hle
   rw [h2] at e1; cases e1
   refine ⟨_,hk,Jaa ?_ (e4 o.dst)⟩
   have hrun:=Jdq (P:=P) (w:=w) (b:=b) (off:=off) (xs:=(cur.toList.drop off).take n) hkn hag hsz (by rw [List.length_take,List.length_drop]; omega) fun j v hj=>by
    rw [List.getElem?_take] at hj
    split at hj
    · rw [List.getElem?_drop] at hj
      rw [cell_of_row w b _ cur Tb _ e2]; simpa using hj
    · cases hj
   simp [execOp,ho,h3,hrun]
 · cases hk
theorem Jkh {o:Oper} {T:TypeId} {x:Operand} {K:Out→Option R} {env:Env} (hd:a.defers=G.D) (h:Rel P G F Bs st a.tmps w) (ho:o.op=.load T x)
 (hk:opK P env (.load T x) o.type (opd st) K=some res):∃ out,K out=some res∧Eff P G st a w o out:=by
 simp only [opK] at hk
 cases hkn:JaF P T with
 | false=>rw [hkn] at hk; simp at hk
 | true =>
  rw [hkn] at hk
  simp only [Bool.not_true,cond_false] at hk
  cases hag:Jai P T with
  | false=>rw [hag] at hk; exact Jjo hd h ho hkn hag hk
  | true =>
   rw [hag] at hk
   simp only [cond_true] at hk
   split at hk
   · rename_i n hn; exact Jjq hd h ho hkn hag hn hk
   · cases hk
theorem Jdr {T:TypeId} {xs:Array Value} {off:Nat} {v:Value} (hk:JaF P T=true) (ha:Jai P T=false) (hx:xs[off]? = some v):(part T xs off).run P w=.ok v w:=by
 obtain ⟨d,hd⟩:=JhW hk
 simp [part,JcT hd,ha,hx]
theorem JgF {T:TypeId} {xs:Array Value} {off n:Nat} (hk:JaF P T=true) (ha:Jai P T=true) (hs:Jal P T=some n):(part T xs off).run P w=.ok (.agg (xs.extract off (off + n))) w:=by
 obtain ⟨d,hd⟩:=JhW hk
 simp [part,JcT hd,ha,JaK hs]
theorem Jjm {o:Oper} {S:TypeId} {x:Operand} {f:Nat} {K:Out→Option R} {env:Env} (hd:a.defers=G.D) (h:Rel P G F Bs st a.tmps w) (ho:o.op=.field S x f)
 (hk:opK P env (.field S x f) o.type (opd st) K=some res):∃ out,K out=some res∧Eff P G st a w o out:=by
 have hrx:=Jag h x
 simp only [opK] at hk
 split at hk
 · rename_i off T cs hf hx
   rw [hx] at hrx
   obtain ⟨fs,fl,hu,hfl,rfl,rfl⟩:=JfV hf
   cases hkn:JaF P fl.type with
   | false=>rw [hkn] at hk; simp at hk
   | true =>
    rw [hkn] at hk
    simp only [Bool.not_true,cond_false] at hk
    have hrx':RP F w (.agg cs) (a.eval x):=hrx
    generalize hv:a.eval x=c at hrx'
    cases hrx' with
    | agg h1 h2 =>
     rename_i vs
     split at hk
     · rename_i n hn
       cases hag:Jai P fl.type with
       | true =>
        rw [hag] at hk
        simp only [cond_true] at hk
        obtain ⟨hle,hk⟩:=Jab hk
        have e:vs.toArray.extract fl.offset (fl.offset + n)=((vs.drop fl.offset).take n).toArray:=by
         apply Array.ext'
         simp [List.extract,Nat.add_sub_cancel_left]
        have hrun:(execOp a.eval o).run P w=.ok (.value (.agg ((vs.drop fl.offset).take n).toArray)) w:=by
         simp [execOp,ho,hv,Instr.field,run_underlying hu,hfl,asAgg,JgF hkn hag hn,e]
        exact ⟨_,hk,Jaa hrun (JaE hd h (.agg ((h1.drop _).take _) (JaP fun y hy=>JaH h2 y (List.mem_of_mem_drop (List.mem_of_mem_take hy)))))⟩
       | false =>
        rw [hag] at hk
        simp only [cond_false] at hk
        obtain ⟨hlt,hk⟩:=Jab hk
        have hlt:fl.offset<cs.length:=by simpa using hlt
        obtain ⟨c,q1,q2⟩:=h1.get (JbS (d:=.v (.bool false)) hlt)
        have hrun:(execOp a.eval o).run P w=.ok (.value c) w:=by
         simp [execOp,ho,hv,Instr.field,run_underlying hu,hfl,asAgg,Jdr (P:=P) (w:=w) hkn hag (xs:=vs.toArray) (by simpa using q1)]
        exact ⟨_,hk,Jaa hrun (JaE hd h q2)⟩
     · cases hk
 · cases hk
end
end Go.Proofs.YtgglhmfncoeffaaGreatDoor.Th
set_option linter.unusedVariables false
set_option linter.unusedSimpArgs false
namespace Go.Proofs.YtgglhmfncoeffaaGreatDoor.Th
open Go
variable {R:Type} {res:R}
section
variable {P:Program} {G:Gd} {F:Nat→Prop} {Bs:Nat→List Nat} {st:St} {a:Act} {w:World}
theorem Ja5 {T E:TypeId} (h:Jbc P T=some E):P.underlying T=some (.slice E):=by
 unfold Jbc at h
 split at h
 · simp at h; subst h; assumption
 · cases h
theorem Jci {T:TypeId} {es:List PV} {c:Value} {B:List Nat} (h:RS P F w (.own T es) c B) :
 (c=.slice none 0 0∧es=[]∧B=[])∨∃ g cap,c=.slice (some ⟨g,0,none⟩) es.length cap∧es.length≤cap∧cap≤maxLen∧B=[g]:=by
 cases h with
 | own h1 h2 h3 h4 h5 h6 h7 =>
  rcases h5.2 with ⟨rfl,hn⟩ | ⟨g,cap,cur,fz,rfl,_,_,hnc,hcm,_,_⟩
  · exact .inl ⟨rfl,List.length_eq_zero_iff.1 hn,rfl⟩
  · exact .inr ⟨g,cap,rfl,hnc,hcm,rfl⟩
theorem Jfr {o:Oper} {T:TypeId} {x i:Operand} {K:Out→Option R} {env:Env} (hd:a.defers=G.D) (h:Rel P G F Bs st a.tmps w) (ho:o.op=.indexAddr T x i)
 (hk:opK P env (.indexAddr T x i) o.type (opd st) K=some res):∃ out,K out=some res∧Eff P G st a w o out:=by
 have hrx:=Jag h x
 have hri:=Jag h i
 simp only [opK,Jcm] at hk
 split at hk
 · rename_i E k n hE hi
   rw [hi] at hri
   have e2:=Jbk hri
   have hu:=Ja5 hE
   split at hk
   · rename_i sz hsz
     have run:∀ b off len cap,a.eval x=.slice (some ⟨b,off,none⟩) len cap→0≤n→n<(len:Int) →
      (execOp a.eval o).run P w=.ok (.value (.pointer (some ⟨b,off + n.toNat * sz,none⟩))) w:=by
      intro b off len cap hv h0 hl
      simp [execOp,ho,e2,hv,Instr.indexAt,asIntOf,run_underlying hu,h0,hl,JaK hsz,JbO]
     split at hk
     · rename_i s cx T' es hx
       rw [hx] at hrx
       obtain ⟨hT0,hk1⟩:=Jab hk
       have hT:=eqB hT0
       subst hT
       obtain ⟨hin,hk2⟩:=Jab hk1
       simp only [inR,Bool.and_eq_true,decide_eq_true_eq] at hin
       have hpl:=h.place hrx
       rcases Jci hpl.1 with ⟨_,rfl,_⟩ | ⟨g,cap,e,_,_,_⟩
       · simp at hin; omega
       · have hrx2:Ja8 st.fr a.tmps w s cx T' es (a.eval x):=hrx
         rw [e] at hrx2
         have hr:=run g 0 _ cap e hin.1 hin.2
         rw [Nat.zero_add] at hr
         have:=Jes (P:=P) (off:=0) (i:=n.toNat) hrx2 (by omega) hsz
         exact ⟨_,hk2,Jaa hr (JaY hd h this)⟩
     · rename_i es hx
       rw [hx] at hrx
       obtain ⟨hin,hk1⟩:=Jab hk
       simp only [inR,Bool.and_eq_true,decide_eq_true_eq] at hin
       obtain ⟨hk2,hl,_,_⟩:=Jbm hk1
       obtain ⟨hlen0,hk3⟩:=Jab hk2
       have hlen:=eqB hlen0
       have hlt:n.toNat<es.length:=by omega
       have hget:=JbS (d:=.v (.bool false)) hlt
       have hrx':RP F w (.sh es) (a.eval x):=hrx
       generalize hv:a.eval x=c at hrx'
       cases hrx' with
       | sh h1 h2 h3 h4 h5 h6 h7 =>
        rename_i xs ad len cap sz'
        have he:=h2 _ (List.mem_of_getElem? hget)
        have hss:sz'=sz:=by omega
        subst hss
        obtain ⟨rest,hr⟩:=JcL (fun e he=>(h2 e he).1) hget
        have hxs:=(h1.drop (n.toNat * sz')).take sz'
        rw [hr,show ((Jad (es.getD n.toNat (.v (.bool false)))++rest).take sz')=Jad (es.getD n.toNat (.v (.bool false))) by rw [←he.1]; exact List.take_left] at hxs
        rcases h4 with hnil | ⟨b,off,rfl,hb,hc⟩
        · exfalso
          have:=h1.length
          rw [JaR (fun e he=>(h2 e he).1),hnil,List.length_nil] at this
          have:es.length=0:=by
           rcases Nat.mul_eq_zero.1 this with q | q
           · exact q
           · omega
          omega
        · refine ⟨_,hk3,Jaa (run b off _ cap hv hin.1 (by omega)) (JaE hd h (.fb hxs he.2 (.inr ⟨b,_,rfl,hb,fun j v hj=>?_⟩)))⟩
          rw [List.getElem?_take] at hj
          split at hj
          · rw [List.getElem?_drop] at hj
            have:=hc _ _ hj
            rwa [←Nat.add_assoc] at this
          · cases hj
     · cases hk
   · cases hk
 · rename_i k n hE hi
   rw [hi] at hri
   have e2:=Jbk hri
   unfold JbP at hk
   split at hk
   · rename_i m E s off Tb cs hu hx
     rw [hx] at hrx
     obtain ⟨h1,b,h2,h3⟩:=hrx
     split at hk
     · rename_i sz hsz
       obtain ⟨hin,hk1⟩:=Jab hk
       simp only [inR,Bool.and_eq_true,decide_eq_true_eq] at hin
       have hrun:(execOp a.eval o).run P w=.ok (.value (.pointer (some ⟨b,off + n.toNat * sz,none⟩))) w:=by
        simp [execOp,ho,e2,h3,Instr.indexAt,Instr.sureAddr,asIntOf,run_underlying hu,hin.1,hin.2,JaK hsz,JbO]
       exact ⟨_,hk1,Jaa hrun (JaY hd h fun b' hb'=>by rw [h2] at hb'; cases hb'; rfl)⟩
     · cases hk
   · cases hk
 · cases hk
theorem Jjn {o:Oper} {T:TypeId} {x i:Operand} {K:Out→Option R} {env:Env} (hd:a.defers=G.D) (h:Rel P G F Bs st a.tmps w) (ho:o.op=.index T x i)
 (hk:opK P env (.index T x i) o.type (opd st) K=some res):∃ out,K out=some res∧Eff P G st a w o out:=by
 have hrx:=Jag h x
 have hri:=Jag h i
 simp only [opK] at hk
 split at hk
 · rename_i s k n hu hx hi
   rw [hx] at hrx; rw [hi] at hri
   have e1:=Jbk hrx
   have e2:=Jbk hri
   obtain ⟨hin,hk⟩:=Jab hk
   simp only [inR,Bool.and_eq_true,decide_eq_true_eq] at hin
   have hlt:n.toNat<s.size:=by omega
   have hrun:(execOp a.eval o).run P w=.ok (.value (.int .u8 (Je1 s n))) w:=by
    have hb:s[n.toNat]? = some s[n.toNat]:=by simp [hlt]
    have hby:((s[n.toNat]).toNat:Int)=Je1 s n:=by
     unfold Je1
     rw [List.getD_eq_getElem?_getD,List.getElem?_eq_getElem (by simpa using hlt)]
     rfl
    simp [execOp,ho,e1,e2,Instr.index,asIntOf,run_underlying hu,hin.1,hb,hby]
   exact ⟨_,hk,Jaa hrun (JaE hd h (.v _))⟩
 · rename_i m E cs k n hu hx hi
   rw [hx] at hrx; rw [hi] at hri
   have e2:=Jbk hri
   unfold Jet at hk
   split at hk
   · rename_i sz hsz
     obtain ⟨hkn,hk⟩:=Jab hk
     obtain ⟨hg,hk1⟩:=Jab hk
     simp only [inR,Bool.and_eq_true,decide_eq_true_eq] at hg
     obtain ⟨hin,hle⟩:=hg
     have hle:n.toNat * sz + sz≤cs.length:=by simpa using hle
     obtain ⟨hk2,hl,_,_⟩:=Jbm hk1
     obtain ⟨hlen0,hk3⟩:=Jab hk2
     have hlen:=eqB hlen0
     have hrx':RP F w (.agg cs) (a.eval x):=hrx
     generalize hv:a.eval x=c at hrx'
     cases hrx' with
     | agg h1 h2 =>
      rename_i vs
      cases hag:Jai P E with
      | true =>
       rw [hag] at hk3
       have e:vs.toArray.extract (n.toNat * sz) (n.toNat * sz + sz)=((vs.drop (n.toNat * sz)).take sz).toArray:=by
        apply Array.ext'
        simp [List.extract,Nat.add_sub_cancel_left]
       have hrun:(execOp a.eval o).run P w=.ok (.value (.agg ((vs.drop (n.toNat * sz)).take sz).toArray)) w:=by
        simp [execOp,ho,hv,e2,Instr.index,asIntOf,run_underlying hu,hin.1,hin.2,JaK hsz,JgF hkn hag hsz,e]
       exact ⟨_,hk3,Jaa hrun (JaE hd h (.agg ((h1.drop _).take _) (JaP fun y hy=>JaH h2 y (List.mem_of_mem_drop (List.mem_of_mem_take hy)))))⟩
      | false =>
       rw [hag] at hk3 hlen hl
       have hpos:0<((cs.drop (n.toNat * sz)).take sz).length:=by
        rcases Nat.eq_zero_or_pos sz with q | q
        · exfalso
          subst q
          have:(Jad (mkE false ((cs.drop (n.toNat * 0)).take 0))).length=1:=rfl
          omega
        · simp; omega
       have hmem:∀ l:List PV,0<l.length→∃ y r,l=y::r:=fun l hl=>by
        cases l with
        | nil=>simp at hl
        | cons y r=>exact ⟨y,r,rfl⟩
       obtain ⟨y,r,hyr⟩:=hmem _ hpos
       have hy:cs[n.toNat * sz]? = some y:=by
        have:=congrArg (·[0]?) hyr
        simp only [List.getElem?_take,List.getElem?_drop,Nat.add_zero,List.getElem?_cons_zero] at this
        split at this
        · exact this
        · cases this
       rw [hyr] at hk3 hlen hl
       have hleaf:y.leaf=true:=JaH h2 y (List.mem_of_getElem? hy)
       have hcell:Jad (mkE false (y::r))=[y]:=by
        cases y <;> first | rfl | simp [PV.leaf] at hleaf
       rw [hcell] at hk3
       obtain ⟨c,q1,q2⟩:=h1.get hy
       have hrun:(execOp a.eval o).run P w=.ok (.value c) w:=by
        simp [execOp,ho,hv,e2,Instr.index,asIntOf,run_underlying hu,hin.1,hin.2,JaK hsz,Jdr (P:=P) (w:=w) hkn hag (xs:=vs.toArray) (by simpa using q1)]
       exact ⟨_,hk3,Jaa hrun (JaE hd h q2)⟩
   · cases hk
 · cases hk
theorem Jfc {sz:Nat}:∀ {es:List PV} (n:Nat),(∀ e∈es,(Jad e).length=sz)→Jbw (es.take n)=(Jbw es).take (n * sz)
 | [],n,_=>by simp [Jbw]
 | e::es,0,h=>by simp [Jbw]
 | e::es,n + 1,h=>by
  have he:=h e (by simp)
  rw [List.take_succ_cons,JaW,JaW,Jfc n fun e he=>h e (by simp [he]),show (n + 1) * sz=(Jad e).length + n * sz by rw [he,Nat.add_mul]; omega,List.take_length_add_append]
theorem Jee {sz:Nat}:∀ {es:List PV} (n:Nat),(∀ e∈es,(Jad e).length=sz)→Jbw (es.drop n)=(Jbw es).drop (n * sz)
 | [],n,_=>by simp [Jbw]
 | e::es,0,h=>by simp
 | e::es,n + 1,h=>by
  have he:=h e (by simp)
  have e1:(n + 1) * sz=(Jad e).length + n * sz:=by rw [he,Nat.add_mul]; omega
  have e2:(Jad e).drop ((Jad e).length + n * sz)=[]:=List.drop_eq_nil_of_le (by omega)
  have e3:(Jad e).length + n * sz - (Jad e).length=n * sz:=by omega
  rw [List.drop_succ_cons,JaW,Jee n fun e he=>h e (by simp [he]),e1,List.drop_append,e2,e3,List.nil_append]
theorem JgI {es:List PV} {ad:Option Addr} {len cap n l hh:Nat} (h:RP F w (.sh es) (.slice ad len cap)) (hsz:Jht n es=true) (h1:l≤hh) (h2:hh≤es.length) :
 RP F w (.sh ((es.take hh).drop l)) (.slice (if cap=l then ad else ad.map (·.add (l * n))) (hh - l) (cap - l)):=by
 cases h with
 | sh g1 g2 g3 g4 g5 g6 g7 =>
  rename_i xs sz
  by_cases he:(es.take hh).drop l=[]
  · rw [he]
    have hl:=congrArg List.length he
    rw [List.length_drop,List.length_take,List.length_nil] at hl
    exact .sh (xs:=[]) (sz:=1) .nil (by simp) (by decide) (.inl rfl) (by rw [List.length_nil]; omega) (by omega) (by omega)
  · have hlen:((es.take hh).drop l).length=hh - l:=by rw [List.length_drop,List.length_take]; omega
    have hpos:0<hh - l:=by rw [←hlen]; exact List.length_pos_iff.2 he
    have hn:sz=n:=by
     cases es with
     | nil=>simp at h2; omega
     | cons e es =>
      have:=(g2 e (by simp)).1
      simp only [Jht] at hsz
      rw [←this]; exact eqB hsz
    subst hn
    have hall:∀ e∈es,(Jad e).length=sz:=fun e he=>(g2 e he).1
    have hall2:∀ e∈es.take hh,(Jad e).length=sz:=fun e he=>hall e (List.mem_of_mem_take he)
    have hr:=(g1.take (hh * sz)).drop (l * sz)
    rw [←Jfc hh hall,←Jee l hall2] at hr
    rw [if_neg (by omega)]
    refine .sh hr (fun e he=>g2 e (List.mem_of_mem_take (List.mem_of_mem_drop he))) g3 ?_ hlen.symm (by omega) (by omega)
    rcases g4 with rfl | ⟨b,off,rfl,hb,hc⟩
    · exact .inl (by simp)
    · refine .inr ⟨b,off + l * sz,by simp [JbO],hb,fun j v hj=>?_⟩
      rw [List.getElem?_drop,List.getElem?_take] at hj
      split at hj
      · have:=hc _ _ hj
        rwa [←Nat.add_assoc] at this
      · cases hj
theorem JcV {isSlice:Bool} {len cap:Nat} {lo hi:Option Operand} {l hh:Int} (hr:∀ x,RVR P F st.fr a.tmps w (opd st x) (a.eval x)) (h1:JaB (lo.map (opd st)) 0=some l)
 (h2:JaB (hi.map (opd st)) (len:Int)=some hh) (hc:Jgk l hh len=true) (hlc:len≤cap) :
 (Instr.sliceBounds isSlice len cap (lo.map a.eval) (hi.map a.eval) none).run P w=.ok (l.toNat,hh.toNat,cap) w:=by
 simp only [Jgk,Bool.and_eq_true,decide_eq_true_eq] at hc
 obtain ⟨⟨c1,c2⟩,c3⟩:=hc
 have get:∀ (x:Option Operand) (d v:Int),JaB (x.map (opd st)) d=some v→(x=none∧v=d)∨∃ y k,x=some y∧a.eval y=.int k v:=by
  intro x d v hx
  cases x with
  | none=>simp [JaB] at hx; exact .inl ⟨rfl,hx.symm⟩
  | some y =>
   simp only [Option.map_some] at hx
   unfold JaB at hx
   split at hx
   · rename_i hq; cases hq
   · rename_i k n hq
     simp only [Option.some.injEq] at hq hx
     subst hx
     have:=hr y
     rw [hq] at this
     exact .inr ⟨y,k,rfl,Jbk this⟩
   · cases hx
 rcases get hi _ _ h2 with ⟨rfl,rfl⟩ | ⟨y,k,rfl,ey⟩
 · rcases get lo _ _ h1 with ⟨rfl,rfl⟩ | ⟨z,k',rfl,ez⟩
   · simp [Instr.sliceBounds]
   · have:l.toNat≤len:=by omega
     simp [Instr.sliceBounds,ez,Instr.sliceBound,asIntOf,c1,c2]
 · rcases get lo _ _ h1 with ⟨rfl,rfl⟩ | ⟨z,k',rfl,ez⟩
   · have:hh≤(cap:Int):=by omega
     have h0:0≤hh:=by omega
     simp [Instr.sliceBounds,ey,Instr.sliceBound,asIntOf,this,h0]
   · have e1:hh≤(cap:Int):=by omega
     have h0:0≤hh:=by omega
     have e2:l≤max hh 0:=by omega
     simp [Instr.sliceBounds,ey,ez,Instr.sliceBound,asIntOf,e1,h0,c1,e2]
theorem Jhk {E:TypeId} (h:JeI P E=true):∃ n,Jal P E=some n:=by
 unfold JeI at h
 split at h
 · exact ⟨_,by assumption⟩
 · cases h
theorem Jjr {o:Oper} {T:TypeId} {x:Operand} {lo hi mx:Option Operand} {K:Out→Option R} {env:Env} (hd:a.defers=G.D) (h:Rel P G F Bs st a.tmps w) (ho:o.op=.slice T x lo hi mx)
 (hk:opK P env (.slice T x lo hi mx) o.type (opd st) K=some res):∃ out,K out=some res∧Eff P G st a w o out:=by
 have hrx:=Jag h x
 simp only [opK] at hk
 obtain ⟨hm,hk0⟩:=Jab hk
 clear hk
 have hmx:mx=none:=by
  cases mx with
  | none=>rfl
  | some _=>simp [Jj9] at hm
 subst hmx
 unfold JdZ at hk0
 have runS:∀ E ad len cap l hh sz,P.underlying T=some (.slice E)→Jal P E=some sz→a.eval x=.slice ad len cap→JaB (lo.map (opd st)) 0=some l→JaB (hi.map (opd st)) (len:Int)=some hh →
  Jgk l hh len=true→len≤cap →
  (execOp a.eval o).run P w=.ok (.value (.slice (if cap=l.toNat then ad else ad.map (·.add (l.toNat * sz))) (hh.toNat - l.toNat) (cap - l.toNat))) w:=by
  intro E ad len cap l hh sz hu hs hv h1 h2 hc hlc
  have hb:=JcV (P:=P) (isSlice:=true) (cap:=cap) (Jag h) h1 h2 hc hlc
  simp [execOp,ho,hv,Instr.sliceAt,run_underlying hu,Instr.slice,hb,JaK hs]
 split at hk0
 · rename_i s hu hx
   rw [hx] at hrx
   have e1:=Jbk hrx
   split at hk0
   · rename_i l hh h1 h2
     obtain ⟨hc,hk⟩:=Jab hk0
     have hb:=JcV (P:=P) (isSlice:=false) (cap:=s.size) (Jag h) h1 h2 hc (Nat.le_refl _)
     have hrun:(execOp a.eval o).run P w=.ok (.value (.string (s.extract l.toNat hh.toNat))) w:=by
      simp [execOp,ho,e1,Instr.sliceAt,run_underlying hu,Instr.slice,hb]
     exact ⟨_,hk,Jaa hrun (JaE hd h (.v _))⟩
   · cases hk0
 · rename_i E es hu hx
   rw [hx] at hrx
   split at hk0
   · rename_i sz l hh hs h1 h2
     obtain ⟨hc,hk⟩:=Jab hk0
     simp only [Bool.and_eq_true] at hc
     have hrx':RP F w (.sh es) (a.eval x):=hrx
     have hcc:=hc.2
     simp only [Jgk,Bool.and_eq_true,decide_eq_true_eq] at hcc
     cases hv:a.eval x with
     | slice ad len cap =>
      rw [hv] at hrx'
      have hlen:len=es.length∧len≤cap:=by cases hrx' with | sh _ _ _ _ e1 e2 _=>exact ⟨e1,e2⟩
      have hrun:=runS E ad len cap l hh sz hu hs hv h1 (by rw [hlen.1]; exact h2) (by rw [hlen.1]; exact hc.2) hlen.2
      exact ⟨_,hk,Jaa hrun (JaE hd h (JgI hrx' hc.1 (by omega) (by omega)))⟩
     | _=>rw [hv] at hrx'; cases hrx'
   · cases hk0
 · rename_i E s cx T' es hu hx
   rw [hx] at hrx
   split at hk0
   · rename_i sz l hh hs h1 h2
     obtain ⟨hc,hk⟩:=Jab hk0
     simp only [Bool.and_eq_true] at hc
     have hT:=eqB hc.1
     subst hT
     have hcc:=hc.2
     simp only [Jgk,Bool.and_eq_true,decide_eq_true_eq] at hcc
     obtain ⟨F',Bs',r1,r2,r3,r4⟩:=Jbp h hrx
     have hhd:Jht sz es=true:=by
      have hpl:=(h.place hrx).1
      cases es with
      | nil=>rfl
      | cons e es =>
       cases hpl with
       | own q1 _ _ _ _ _ q7 =>
        have:=(q7 e (by simp)).1
        simp [Jal,q1] at hs
        simp only [Jht]
        rw [this,hs]; exact Jl _
     cases hv:a.eval x with
     | slice ad len cap =>
      rw [hv] at r2
      have hlen:len=es.length∧len≤cap:=by cases r2 with | sh _ _ _ _ e1 e2 _=>exact ⟨e1,e2⟩
      have hrun:=runS T' ad len cap l hh sz hu hs hv h1 (by rw [hlen.1]; exact h2) (by rw [hlen.1]; exact hc.2) hlen.2
      exact ⟨_,hk,Jaa hrun (Jar hd r1 (.p (JgI r2 hhd (by omega) (by omega))))⟩
     | _=>rw [hv] at r2; cases r2
   · cases hk0
 · rename_i E hu hx
   rw [hx] at hrx
   obtain ⟨hsz,hk0⟩:=Jab hk0
   split at hk0
   · rename_i l hh h1 h2
     obtain ⟨hc,hk⟩:=Jab hk0
     have hcc:=hc
     simp only [Jgk,Bool.and_eq_true,decide_eq_true_eq] at hcc
     have hv:a.eval x=.slice none 0 0:=hrx
     have hb:=JcV (P:=P) (isSlice:=true) (len:=0) (cap:=0) (Jag h) h1 (by simpa using h2) hc (Nat.le_refl _)
     have el:l=0:=by omega
     have eh:hh=0:=by omega
     subst el; subst eh
     obtain ⟨n,hn⟩:=Jhk hsz
     have hrun:(execOp a.eval o).run P w=.ok (.value (.slice none 0 0)) w:=by
      simp [execOp,ho,hv,Instr.sliceAt,run_underlying hu,Instr.slice,hb,JaK hn]
     exact ⟨_,hk,Jaa hrun (Jar hd (by rw [Jak]; exact h) .nl)⟩
   · cases hk0
 · cases hk0
theorem Jef:∀ (ns:List Int) (s:ByteArray),ns.foldl (fun r n=>r.push (UInt8.ofNat n.toNat)) s=⟨s.data++(ns.map fun n=>UInt8.ofNat n.toNat).toArray⟩
 | [],s=>by simp
 | n::ns,s=>by
  rw [List.foldl_cons,Jef ns]
  simp [ByteArray.push]
theorem JgJ:∀ {es:List PV} {xs:List Value},RPs F w (Jbw es) xs→JeY es=true→xs=(es.map fun e=>match e with | .v (.int _ n)=>n | _=>0).map (Value.int .u8)
 | [],xs,h,_=>by
  have h':RPs F w [] xs:=h
  cases h'; rfl
 | e::es,xs,h,ha=>by
  simp only [JeY,Bool.and_eq_true] at ha
  obtain ⟨h1,h2⟩:=ha
  unfold Jlo at h1
  split at h1
  · rename_i n
    rw [JaW] at h
    have h':RPs F w (.v (.int .u8 n)::Jbw es) xs:=h
    cases h' with
    | cons p q=>rw [Jbk p,JgJ q h2]; rfl
  · cases h1
theorem JjA:∀ {es:List PV},JeY es=true→(⟨((es.map fun e=>match e with | .v (.int _ n)=>n | _=>0).map fun (n:Int)=>UInt8.ofNat n.toNat).toArray⟩:ByteArray)=Jhn es:=by
 intro es ha
 unfold Jhn
 congr 2
 rw [List.map_map]
 apply List.map_congr_left
 intro e he
 induction es with
 | nil=>simp at he
 | cons x es ih =>
  simp only [JeY,Bool.and_eq_true] at ha
  rcases List.mem_cons.1 he with rfl | he
  · have h1:=ha.1
    unfold Jlo at h1
    split at h1
    · rfl
    · cases h1
  · exact ih ha.2 he
theorem Je2 {src dst:TypeId} {es:List PV} {c:Value} {e:TypeId} (hs:P.underlying src=some (.slice e)) (he:P.underlying e=some (.int .u8)) (hd:P.underlying dst=some .string)
 (h:RP F w (.sh es) c) (ha:JeY es=true):(convert src dst c).run P w=.ok (.string (Jhn es)) w:=by
 cases h with
 | sh h1 h2 h3 h4 h5 h6 h7 =>
  rename_i xs ad n cap sz
  rw [run_convert_bytes_string w src dst e ad n cap hs he hd]
  cases ad with
  | none =>
   have hes:es=[]:=by
    rcases h4 with rfl | ⟨b,off,q,_⟩
    · have:=h1.length
      rw [JaR (fun e he=>(h2 e he).1),List.length_nil] at this
      rcases Nat.mul_eq_zero.1 this with q | q
      · exact List.length_eq_zero_iff.1 q
      · omega
    · cases q
   subst hes
   simp [Conv.bytesToString,Jhn]; rfl
  | some ad =>
   have hx:=JgJ h1 ha
   have hlen:xs.length=es.length:=by rw [hx]; simp
   have hcells:∀ j v,xs[j]? = some v→w.cell? (ad.add j)=some v:=by
    intro j v hj
    rcases h4 with rfl | ⟨b,off,q,_,hc⟩
    · simp at hj
    · cases q; rw [JbO]; exact hc j v hj
   have hl:=run_loadCells_list (P:=P) w ad xs hcells
   rw [hlen,←h5,hx] at hl
   rw [run_bytesToString w ad n cap _ hl,Jef,←JjA ha]
   simp
theorem Ja3 (w:World) (o:Obj) (i:Nat) (h:i<w.heap.size):(w.alloc o).heap[i]? = w.heap[i]? := by
 show (w.heap.push o)[i]? = w.heap[i]?
 rw [Array.getElem?_push,if_neg (Nat.ne_of_lt h)]
theorem Rel.grow {tm:Array Value} (h:Rel P G F Bs st tm w) {w':World} {F':Nat→Prop} (hw:∀ b,b<w.heap.size→w'.heap[b]? = w.heap[b]?) (hz:w.heap.size≤w'.heap.size)
 (hos:w'.os=w.os∧w'.tape=w.tape∧w'.output=w.output) (hF:∀ b,F b→F' b) (hF':∀ b,F' b→F b∨(w.heap.size≤b∧b<w'.heap.size)):Rel P G F' Bs st tm w':=by
 refine ⟨h.sz,fun i=>(h.sl i).mono hF fun b hb=>?_,h.nd,h.dj,fun i b hb hf=>?_,h.nw,fun i b hb=>Nat.lt_of_lt_of_le (h.lt i b hb) hz,fun b hb=>?_,fun b hb=>hF b (h.f0 b hb),fun b hb=>?_,?_,?_,h.pn⟩
 · exact hw b (hb.elim (h.fl b) (h.lt i b))
 · rcases hF' b hf with q | q
   · exact h.nf i b hb q
   · have:=h.lt i b hb; omega
 · rcases hF' b hb with q | q
   · exact Nat.lt_of_lt_of_le (h.fl b q) hz
   · exact q.2
 · rcases hF' b hb with q | q
   · exact h.fn b q
   · exact .inr (.inl (Nat.le_trans h.kb.size q.1))
 · exact ⟨hos.1.trans h.kb.os,hos.2.1.trans h.kb.tape,hos.2.2.trans h.kb.output,Nat.le_trans h.kb.size hz,fun b hb hA=>(hw b (Nat.lt_of_lt_of_le hb h.kb.size)).trans (h.kb.block b hb hA)⟩
 · intro t q hm
   have hok:=h.rf t q hm
   have box:∀ u T cs b,st.fr u=.bx T cs→tm.getD u undef=.pointer (some ⟨b,0,none⟩)→w'.heap[b]? = w.heap[b]? := by
    intro u T cs b hu ht
    have hsl:=h.sl u
    rw [hu,ht] at hsl
    exact hw b (h.lt u b hsl.bx_mem)
   cases q with
   | b u off=>exact hok
   | c u g=>exact hok
   | o u j =>
    cases j with
    | none=>exact hok
    | some j =>
     intro T cs b cur T' f hu ht hb
     rw [box u T cs b hu ht] at hb
     exact hok T cs b cur T' f hu ht hb
   | e u j T i off =>
    cases j with
    | none=>exact hok
    | some j =>
     intro Tb cs b cur T' f hu ht hb
     rw [box u Tb cs b hu ht] at hb
     exact hok Tb cs b cur T' f hu ht hb
theorem Jbe (F:Nat→Prop) (w:World):∀ l:List UInt8,RPs F w (Jbw (l.map fun b=>.v (.int .u8 b.toNat))) (l.map fun b=>Value.int .u8 b.toNat)
 | []=>.nil
 | b::l=>.cons (.v _) (Jbe F w l)
theorem Jkf {o:Oper} {src dst:TypeId} {x:Operand} {K:Out→Option R} {env:Env} (hd:a.defers=G.D) (h:Rel P G F Bs st a.tmps w) (ho:o.op=.convert src dst x)
 (hk:opK P env (.convert src dst x) o.type (opd st) K=some res):∃ out,K out=some res∧Eff P G st a w o out:=by
 have hrx:=Jag h x
 simp only [opK,JfL] at hk
 cases hkn:JaF P src with
 | false=>rw [hkn] at hk; simp at hk
 | true =>
  rw [hkn] at hk
  simp only [Bool.not_true,cond_false] at hk
  obtain ⟨ds,hds⟩:=JhW hkn
  have run:∀ v w',(convert src dst (a.eval x)).run P w=.ok v w'→(execOp a.eval o).run P w=.ok (.value v) w':=by
   intro v w' hv
   simp [execOp,ho,hv]
  have byt:∀ es F' Bs' (us:List (Nat × SV)),Rel P G F' Bs' (st.upS us []) a.tmps w→RP F' w (.sh es) (a.eval x)→P.underlying dst=some .string→JcG P src es (fun r=>K r)=some res→us=[] →
   ∃ out,K out=some res∧Eff P G st a w o out:=by
   intro es F' Bs' us hrel hre hdst hb hus
   subst hus
   rw [Jak] at hrel
   unfold JcG at hb
   split at hb
   · rename_i e he
     split at hb
     · rename_i hu8
       obtain ⟨hall,hb⟩:=Jab hb
       exact ⟨_,hb,Jaa (run _ _ (Je2 (Ja5 he) hu8 hdst hre hall)) (JaE hd h (.v _))⟩
     · cases hb
   · cases hb
  split at hk
  · rename_i k n hu hx hi
    rw [hi] at hrx
    have e1:=Jbk hrx
    refine ⟨_,hk,Jaa (run _ _ ?_) (JaE hd h (.v _))⟩
    rw [e1]
    cases ds <;> simp [convert,run_underlying hds,run_underlying hx,Conv.intToInt]
  · rename_i s hu hx
    rw [hx] at hrx
    have e1:=Jbk hrx
    refine ⟨_,hk,Jaa (run _ _ ?_) (JaE hd h (.v _))⟩
    rw [e1]
    cases ds <;> simp [convert,run_underlying hds,run_underlying hu]
  · rename_i k n hu hi
    rw [hi] at hrx
    have e1:=Jbk hrx
    refine ⟨_,hk,Jaa (run _ _ ?_) (JaE hd h (.v _))⟩
    rw [e1]
    cases ds <;> simp [convert,run_underlying hds,run_underlying hu,Conv.intToString]
  · rename_i es hu hx
    rw [hx] at hrx
    exact byt es F Bs [] (by rw [Jak]; exact h) hrx hu hk rfl
  · rename_i s cx T es hu hx
    rw [hx] at hrx
    have hpl:=h.place hrx
    have hfz:RP (fun b=>F b∨b∈blk (a.eval x)) w (.sh es) (a.eval x):=hpl.1.frozen (fun _ q=>.inl q) (fun _ q=>.inr q)
    unfold JcG at hk
    split at hk
    · rename_i e he
      split at hk
      · rename_i hu8
        obtain ⟨hall,hb⟩:=Jab hk
        exact ⟨_,hb,Jaa (run _ _ (Je2 (Ja5 he) hu8 hu hfz hall)) (JaE hd h (.v _))⟩
      · cases hk
    · cases hk
  · rename_i hu hx
    rw [hx] at hrx
    have hv:a.eval x=.slice none 0 0:=hrx
    exact byt [] F Bs [] (by rw [Jak]; exact h) (by rw [hv]; exact Jcs F w) hu hk rfl
  · rename_i s hu hx
    rw [hx] at hrx
    have e1:=Jbk hrx
    rename_i E hdu _
    obtain ⟨hc,hk⟩:=Jab hk
    simp only [Bool.and_eq_true] at hc
    obtain ⟨⟨c1,c2⟩,c3⟩:=hc
    have hsrc:P.underlying src=some .string:=by
     unfold JdJ at c1
     split at c1
     · assumption
     · cases c1
    unfold JjZ at c2
    split at c2
    · rename_i e he
      split at c2
      · rename_i hu8
        have hrun:=run_bytes_of_string (P:=P) w src dst e s hsrc (Ja5 he) hu8
        simp only [Ja7,Bool.and_eq_true,decide_eq_true_eq] at c3
        have hsz:s.size≤maxLen:=by simp only [maxLen]; omega
        have hge:=grownCap_ge w s.size 0 e
        have hle:=grownCap_le_maxLen w s.size 0 e hsz
        obtain ⟨O,hO⟩:∃ O,O=Obj.cells (bytesRow s (grownCap w s.size 0 e)) e ((bytesRow s (grownCap w s.size 0 e)).size,(bytesRow s (grownCap w s.size 0 e)).size + 1):=⟨_,rfl⟩
        rw [←hO] at hrun
        have hnew:(w.drew.alloc O).heap[w.heap.size]? = some O:=heap_alloc_new w.drew O
        have hold:∀ b,b<w.heap.size→(w.drew.alloc O).heap[b]? = w.heap[b]? := fun b hb=>Ja3 w.drew O b hb
        obtain ⟨w1,hW⟩:∃ w1,w1=w.drew.alloc O:=⟨_,rfl⟩
        rw [←hW] at hrun hnew hold
        have hsz1:w1.heap.size=w.heap.size + 1:=by rw [hW]; simp
        have hgrow:=h.grow (w':=w1) (F':=fun b=>F b∨b=w.heap.size) (fun b hb=>hold b hb) (by omega) (by rw [hW]; exact ⟨rfl,rfl,rfl⟩) (fun _ q=>.inl q)
         (fun b q=>q.imp id fun q=>by omega)
        have hlen:(JaA s).length=s.size:=by simp [JaA]
        have hre:RP (fun b=>F b∨b=w.heap.size) w1 (.sh (JaA s)) (.slice (some ⟨w.heap.size,0,none⟩) s.size (grownCap w s.size 0 e)):=by
         refine .sh (sz:=1) (Jbe _ _ s.data.toList) (fun x hx=>?_) (by decide) (.inr ⟨w.heap.size,0,rfl,.inr rfl,fun j v hj=>?_⟩) hlen.symm hge hle
         · simp only [JaA,List.mem_map] at hx
           obtain ⟨b,_,rfl⟩:=hx
           exact ⟨rfl,rfl⟩
         · rw [Nat.zero_add]
           have hc:w1.cell? ⟨w.heap.size,j,none⟩=(bytesRow s (grownCap w s.size 0 e))[j]? := by
            rw [hO] at hnew
            rw [cell_of_row w1 w.heap.size j _ _ _ hnew]
           rw [hc]
           have hjl:=JcQ hj
           simp only [bytesRow]
           rw [Array.getElem?_append_left (by simpa using hjl)]
           simpa using hj
        exact ⟨_,hk,fun hf=>⟨_,w1,.inl (run _ _ (by rw [e1]; exact hrun)),JaE hd hgrow hre hf⟩⟩
      · cases c2
    · cases c2
  · cases hk
theorem Jix {E:TypeId} (h:u8T P E=true):∃ i,P.info? E=some i∧i.zero=some (.int .u8 0)∧i.size=1∧i.bytes=1:=by
 unfold u8T at h
 split at h
 · rename_i i hi
   split at h
   · rename_i n hz
     simp only [Bool.and_eq_true,decide_eq_true_eq] at h
     obtain ⟨⟨h1,h2⟩,h3⟩:=h
     subst h3
     exact ⟨i,hi,hz,eqB h1,eqB h2⟩
   · cases h
 · cases h
theorem Jhb {o:Oper} {src dst:TypeId} {x:Operand} {K:Out→Option R} (hd:a.defers=G.D) (h:Rel P G F Bs st a.tmps w) (ho:o.op=.convert src dst x)
 (hk:Jbf P src dst (opd st x) K=some res):∃ out,K out=some res∧Eff P G st a w o out:=by
 have hrx:=Jag h x
 unfold Jbf at hk
 split at hk
 · rename_i e s hsrc hdst hx
   rw [hx] at hrx
   have e1:=Jbk hrx
   split at hk
   · rename_i hu8
     obtain ⟨hu,hk⟩:=Jab hk
     obtain ⟨c3,hk⟩:=Jab hk
     obtain ⟨i,hi,hz,hsz,hby⟩:=Jix hu
     have hrun:=run_bytes_of_string (P:=P) w src dst e s hsrc hdst hu8
     simp only [Ja7,Bool.and_eq_true,decide_eq_true_eq] at c3
     have hsm:s.size≤maxLen:=by simp only [maxLen]; omega
     have hge:=grownCap_ge w s.size 0 e
     have hle:=grownCap_le_maxLen w s.size 0 e hsm
     have hrsz:(bytesRow s (grownCap w s.size 0 e)).size=grownCap w s.size 0 e:=by simp [bytesRow]; omega
     obtain ⟨O,hO⟩:∃ O,O=Obj.cells (bytesRow s (grownCap w s.size 0 e)) e ((bytesRow s (grownCap w s.size 0 e)).size,(bytesRow s (grownCap w s.size 0 e)).size + 1):=⟨_,rfl⟩
     rw [←hO] at hrun
     have hnew:(w.drew.alloc O).heap[w.heap.size]? = some O:=heap_alloc_new w.drew O
     have hold:∀ b,b<w.heap.size→(w.drew.alloc O).heap[b]? = w.heap[b]? := fun b hb=>Ja3 w.drew O b hb
     obtain ⟨w1,hW⟩:∃ w1,w1=w.drew.alloc O:=⟨_,rfl⟩
     rw [←hW] at hrun hnew hold
     have hsz1:w1.heap.size=w.heap.size + 1:=by rw [hW]; simp
     have hgrow:=h.grow (w':=w1) (F':=F) (fun b hb=>hold b hb) (by omega) (by rw [hW]; exact ⟨rfl,rfl,rfl⟩) (fun _ q=>q) (fun b q=>.inl q)
     have hlen:(JaA s).length=s.size:=by simp [JaA]
     have hown:ownsG w1 e i.size (.slice (some ⟨w.heap.size,0,none⟩) s.size (grownCap w s.size 0 e)) (JaA s).length (s.data.toList.map fun b=>Value.int .u8 b.toNat):=by
      refine ⟨by rw [hsz,hlen]; simp,.inr ⟨w.heap.size,grownCap w s.size 0 e,bytesRow s (grownCap w s.size 0 e),_,by rw [hlen],.inr ⟨hsz,Nat.le_refl _⟩,by rw [hnew,hO],by rw [hlen]; exact hge,hle,by rw [hrsz,hsz,Nat.mul_one],?_⟩⟩
      rw [hlen,hsz,Nat.mul_one]
      simp only [bytesRow]
      rw [Array.toList_append]
      rw [List.take_append_of_le_length (by simp)]
      rw [List.take_of_length_le (by simp)]
      simp
     have hre:RS P F w1 (.own e (JaA s)) (.slice (some ⟨w.heap.size,0,none⟩) s.size (grownCap w s.size 0 e)) [w.heap.size]:=by
      refine RS.own hi hz (by rw [hsz]; rfl) (by omega) hown (Jbe F w1 s.data.toList) (fun x hx=>?_)
      simp only [JaA,List.mem_map] at hx
      obtain ⟨b,_,rfl⟩:=hx
      rw [hsz]; exact ⟨rfl,rfl⟩
     have run:(execOp a.eval o).run P w=.ok (.value (.slice (some ⟨w.heap.size,0,none⟩) s.size (grownCap w s.size 0 e))) w1:=by
      have hex:execOp a.eval o=(do let v ← convert src dst (a.eval x); pure (.value v)):=by unfold execOp; rw [ho]
      rw [hex,Sem.run_bind,e1,hrun]; rfl
     refine ⟨_,hk,fun hf=>⟨_,w1,.inl run,Jav hd (by rw [Jak]; exact hgrow) hre (by simp) ?_ ?_ ?_ ?_ (by simp) hf⟩⟩
     · intro j b hb hb'
       simp only [List.mem_singleton] at hb; subst hb
       exact Nat.lt_irrefl _ (h.lt j _ hb')
     · intro b hb hF
       simp only [List.mem_singleton] at hb; subst hb
       exact Nat.lt_irrefl _ (h.fl _ hF)
     · intro b hb
       simp only [List.mem_singleton] at hb; subst hb
       exact .inl h.kb.size
     · intro b hb
       simp only [List.mem_singleton] at hb; subst hb
       omega
   · cases hk
 · rename_i e0 e s T es hsrc hdst hx
   rw [hx] at hrx
   split at hk
   · rename_i hu8
     obtain ⟨hc,hkk⟩:=Jab hk
     clear hk
     simp only [Bool.and_eq_true] at hc
     obtain ⟨⟨⟨c1,c2⟩,c3⟩,c4⟩:=hc
     have c1:=eqB c1
     have c2:=eqB c2
     subst c1 c2
     rw [hsrc] at hdst
     cases hdst
     have c4:0<es.length:=by simpa using c4
     obtain ⟨i,hi,hz,hsz,hby⟩:=Jix c3
     have hrx:Ja8 st.fr a.tmps w s none e0 es (a.eval x):=hrx
     have hpl:=h.place hrx
     have hrs:=hpl.1
     generalize hv:a.eval x=v at hrx hpl hrs
     cases hrs with
     | own q1 q2 q3 q4 q5 q6 q7 =>
      rename_i xs inf z'
      rw [hi] at q1; cases q1
      rcases q5.2 with ⟨rfl,hl⟩ | ⟨g,cap,cur,fz,rfl,hfz,hg,hnc,hcm,hcs,htake⟩
      · omega
      · obtain ⟨fz',hfz',hw1⟩:∃ fz':Nat × Nat,Jja 1 cur fz'∧(w.freeze ⟨g,cur.size,none⟩ 1).heap[g]? = some (.cells cur e0 fz'):=by
         have hgl:=(Array.getElem?_eq_some_iff.1 hg).1
         obtain ⟨lo,hi'⟩:=fz
         refine ⟨if lo == hi' then (cur.size,cur.size + 1) else (min lo cur.size,max hi' (cur.size + 1)),.inr ⟨rfl,?_⟩,?_⟩
         · split
           · exact Nat.le_refl _
           · rename_i hne
             rcases hfz with q | ⟨_,q⟩
             · cases q; simp at hne
             · simp only at q ⊢; omega
         · unfold World.freeze
           rw [if_neg (by decide)]
           simp only [Array.getElem?_modify,hg,if_true,Option.map_some]
        have hoth:∀ b,b≠g→(w.freeze ⟨g,cur.size,none⟩ 1).heap[b]? = w.heap[b]? := by
         intro b hb
         unfold World.freeze
         rw [if_neg (by decide)]
         simp only [Array.getElem?_modify,if_neg (Ne.symm hb)]
        obtain ⟨w1,hW⟩:∃ w1,w1=w.freeze ⟨g,cur.size,none⟩ 1:=⟨_,rfl⟩
        have hsz1:w1.heap.size=w.heap.size:=by rw [hW]; unfold World.freeze; rw [if_neg (by decide)]; simp
        have hos:w1.os=w.os∧w1.tape=w.tape∧w1.output=w.output:=by rw [hW]; unfold World.freeze; rw [if_neg (by decide)]; exact ⟨rfl,rfl,rfl⟩
        have hsh:w.shape? g=some (e0,cur.size):=by unfold World.shape?; rw [hg]
        have hconv:(convert src src (.slice (some ⟨g,0,none⟩) es.length cap)).run P w=.ok (.slice (some ⟨g,0,none⟩) es.length cap) w1:=by
         rw [hW]
         simp [convert,run_underlying hsrc,run_underlying hu8,markStringish,hsh]
        rw [←hW] at hw1 hoth
        have run:(execOp a.eval o).run P w=.ok (.value (.slice (some ⟨g,0,none⟩) es.length cap)) w1:=by
         have hex:execOp a.eval o=(do let v ← convert src src (a.eval x); pure (.value v)):=by unfold execOp; rw [ho]
         rw [hex,Sem.run_bind,hv,hconv]; rfl
        have hgs:g∈Bs s:=hpl.2 g (by simp [blk,Value.ownBlock])
        have hgF:¬ F g:=h.nf s g hgs
        obtain ⟨Bs',r1,r2,r3⟩:=h.turnPl hrx (F':=F) (w':=w1) (x:=.dead) (B:=[]) (.dead _) (by simp) (by simp) (fun _ q=>q) (fun _ q=>.inl q) (by simp)
         (fun b _ hb=>hoth b fun e=>hb (by simp [blk,Value.ownBlock,e])) (by omega) hos (by simp)
        have hre:RS P F w1 (.own e0 es) (.slice (some ⟨g,0,none⟩) es.length cap) [g]:=by
         refine RS.own hi q2 q3 q4 ⟨q5.1,.inr ⟨g,cap,cur,fz',rfl,by rw [hsz]; exact hfz',hw1,hnc,hcm,hcs,htake⟩⟩ (q6.mono (fun _ q=>q) fun b hb=>hoth b fun e=>hgF (by rw [←e]; exact hb)) q7
        refine ⟨_,hkk,fun hf=>⟨_,w1,.inl run,Jav hd r1 hre (by simp) ?_ ?_ ?_ ?_ (by simp) hf⟩⟩
        · intro j b hb
          simp only [List.mem_singleton] at hb; subst hb
          exact r3 b (by simp [blk,Value.ownBlock]) (by simp) j
        · intro b hb
          simp only [List.mem_singleton] at hb; subst hb
          exact hgF
        · intro b hb
          simp only [List.mem_singleton] at hb; subst hb
          exact h.nw s b hgs
        · intro b hb
          simp only [List.mem_singleton] at hb; subst hb
          rw [hsz1]; exact h.lt s b hgs
   · cases hk
 · cases hk
theorem Jf5 {o:Oper} {f:FuncId} {first caps:Array Operand} {K:Out→Option R} {env:Env} (hd:a.defers=G.D) (h:Rel P G F Bs st a.tmps w) (ho:o.op=.makeFunc (.func f) first caps)
 (hk:opK P env (.makeFunc (.func f) first caps) o.type (opd st) K=some res):∃ out,K out=some res∧Eff P G st a w o out:=by
 simp only [opK] at hk
 split at hk
 · rename_i ys us hfi hv
   obtain ⟨hdi,hk⟩:=Jab hk
   have hfirst:first=#[]:=by
    cases first with
    | mk l=>simp at hfi; rw [hfi]
   obtain ⟨F',Bs',r1,r2,r3,r4⟩:=JbN (vs:=caps.toList.map a.eval) h (fun j q hj=>by
    rw [List.getElem?_map] at hj
    cases hc:caps.toList[j]? with
    | none=>rw [hc] at hj; cases hj
    | some y =>
     rw [hc] at hj
     simp only [Option.map_some,Option.some.injEq] at hj
     subst hj
     exact ⟨a.eval y,by rw [List.getElem?_map,hc]; rfl,Jag h y⟩) (by simp) hv hdi
   have hrun:(execOp a.eval o).run P w=.ok (.value (.func (.func f) #[] (caps.toList.map a.eval).toArray)) w:=by
    have e:caps.map a.eval=(caps.toList.map a.eval).toArray:=by apply Array.ext'; simp
    simp only [execOp,ho,hfirst,Instr.makeFunc,Sem.run_bind,Sem.run_pure,Result.andThen_ok,e]
    have e0:Array.map a.eval #[]=#[]:=by simp
    rw [e0]
   exact ⟨_,hk,Jaa hrun (Jar hd r1 (.p (.clo r2)))⟩
 · cases hk
theorem Jig {o:Oper} {f:FuncId} {first caps:Array Operand} {K:Out→Option R} (hd:a.defers=G.D) (h:Rel P G F Bs st a.tmps w) (ho:o.op=.makeFunc (.func f) first caps)
 (hk:Jfh f first.toList (caps.toList.map (opd st)) K=some res):∃ out,K out=some res∧Eff P G st a w o out:=by
 unfold Jfh at hk
 split at hk
 · rename_i s off T cs hf hc
   obtain ⟨ho0,hk⟩:=Jab hk
   have ho0:=eqB ho0
   subst ho0
   have hfirst:first=#[]:=by
    cases first with
    | mk l=>simp at hf; rw [hf]
   obtain ⟨l⟩:=caps
   cases l with
   | nil=>simp at hc
   | cons x l =>
    simp only [List.map_cons,List.cons.injEq,List.map_eq_nil_iff] at hc
    obtain ⟨hx,rfl⟩:=hc
    have hr:=Jag h x
    rw [hx] at hr
    obtain ⟨h1,b,h2,h3⟩:=hr
    have hrun:(execOp a.eval o).run P w=.ok (.value (.func (.func f) #[] #[.pointer (some ⟨b,0,none⟩)])) w:=by
     simp only [execOp,ho,hfirst,Instr.makeFunc,Sem.run_bind,Sem.run_pure,Result.andThen_ok]
     simp [h3]
    exact ⟨_,hk,Jaa hrun (JaY hd h fun b' hb'=>by rw [h2] at hb'; cases hb'; rfl)⟩
 · cases hk
def Jj (P:Program):List Field→List PV→Prop
 | [],[]=>True
 | f::l,x::r=>((∃ k n,P.underlying f.type=some (.int k)∧x=.v (.int k n))∨(∃ s,P.underlying f.type=some .string∧x=.v (.string s))∨(∃ b,P.underlying f.type=some .bool∧x=.v (.bool b)))∧Jj P l r
 | _,_=>False
theorem Jca:∀ {l:List Field} {o:Nat} {cs:List PV} {K:List PV→Option R},Jed P o l=true→JeA (l.flatMap fun f=>cks P 19 f.type) cs K=some res→K cs=some res∧Jj P l cs
 | [],o,cs,K,_,hk=>by
  simp only [List.flatMap_nil,JeA,JjD] at hk
  split at hk
  · exact ⟨hk,trivial⟩
  · cases hk
 | f::l,o,cs,K,hf,hk=>by
  simp only [Jed,Bool.and_eq_true] at hf
  obtain ⟨⟨⟨_,_⟩,hu⟩,hl⟩:=hf
  rw [List.flatMap_cons] at hk
  split at hu
  · rename_i k hku
    have hc:cks P 19 f.type=[.i k]:=by simp only [cks,hku]
    rw [hc,List.singleton_append] at hk
    simp only [JeA] at hk
    obtain ⟨x,r,rfl,h1⟩:=Jbv hk
    obtain ⟨n,rfl,h2⟩:=Jfe h1
    obtain ⟨h3,h4⟩:=Jca hl h2
    exact ⟨h3,.inl ⟨k,n,hku,rfl⟩,h4⟩
  · rename_i hku
    have hc:cks P 19 f.type=[.s]:=by simp only [cks,hku]
    rw [hc,List.singleton_append] at hk
    simp only [JeA] at hk
    obtain ⟨x,r,rfl,h1⟩:=Jbv hk
    simp only [JgX] at h1
    unfold Jkx at h1
    split at h1
    · obtain ⟨h3,h4⟩:=Jca hl h1
      exact ⟨h3,.inr (.inl ⟨_,hku,rfl⟩),h4⟩
    · cases h1
  · rename_i hku
    have hc:cks P 19 f.type=[.b]:=by simp only [cks,hku]
    rw [hc,List.singleton_append] at hk
    simp only [JeA] at hk
    obtain ⟨x,r,rfl,h1⟩:=Jbv hk
    simp only [JgX] at h1
    unfold Jkv at h1
    split at h1
    · obtain ⟨h3,h4⟩:=Jca hl h1
      exact ⟨h3,.inr (.inr ⟨_,hku,rfl⟩),h4⟩
    · cases h1
  · cases hu
theorem Jdb:∀ (l:List Field) (o:Nat) (xa bs:List PV) (xs ys:List Value),Jed P o l=true→Jj P l xa→Jj P l bs→RPs F w xa (xs.drop o)→RPs F w bs (ys.drop o) →
 (Op.eqFields 9999 xs.toArray ys.toArray l).run P w=.ok (JbR xa bs) w
 | [],o,xa,bs,xs,ys,_,fa,fb,_,_=>by
  cases xa with
  | nil=>rfl
  | cons _ _=>exact fa.elim
 | f::l,o,xa,bs,xs,ys,hf,fa,fb,ha,hb=>by
  cases xa with
  | nil=>exact fa.elim
  | cons x xa =>
   cases bs with
   | nil=>exact fb.elim
   | cons y bs =>
    simp only [Jed,Bool.and_eq_true,Bool.not_eq_true',beq_eq_false_iff_ne] at hf
    obtain ⟨⟨⟨hoff,hnm⟩,hu⟩,hl⟩:=hf
    have hoff:=eqB hoff
    generalize hxs:xs.drop o=xs' at ha
    generalize hys:ys.drop o=ys' at hb
    cases ha with
    | cons a1 a2 =>
     rename_i c1 r1
     cases hb with
     | cons b1 b2 =>
      rename_i c2 r2
      have gx:xs[o]? = some c1:=by
       have:=congrArg (·[0]?) hxs
       simpa using this
      have gy:ys[o]? = some c2:=by
       have:=congrArg (·[0]?) hys
       simpa using this
      have dx:xs.drop (o + 1)=r1:=by rw [←List.drop_drop,hxs]; rfl
      have dy:ys.drop (o + 1)=r2:=by rw [←List.drop_drop,hys]; rfl
      have ih:=Jdb l (o + 1) xa bs xs ys hl fa.2 fb.2 (by rw [dx]; exact a2) (by rw [dy]; exact b2)
      have kn:JaF P f.type=true∧Jai P f.type=false:=by
       rcases fa.1 with ⟨_,_,q,_⟩ | ⟨_,q,_⟩ | ⟨_,q,_⟩ <;> simp [JaF,Jai,q]
      have p1:=Jdr (P:=P) (w:=w) (T:=f.type) (xs:=xs.toArray) (off:=f.offset) (v:=c1) kn.1 kn.2 (by rw [hoff]; simpa using gx)
      have p2:=Jdr (P:=P) (w:=w) (T:=f.type) (xs:=ys.toArray) (off:=f.offset) (v:=c2) kn.1 kn.2 (by rw [hoff]; simpa using gy)
      have he:(Op.equalIn 9999 f.type c1 c2).run P w=.ok (JbI x y) w:=by
       rcases fa.1 with ⟨k,n,q,rfl⟩ | ⟨s,q,rfl⟩ | ⟨s,q,rfl⟩
       · rcases fb.1 with ⟨k',m,q',rfl⟩ | ⟨_,q',_⟩ | ⟨_,q',_⟩
         · rw [q] at q'; cases q'
           rw [Jbk a1,Jbk b1]; exact run_equalIn_int w 9998 _ _ _ _ _ q
         · rw [q] at q'; cases q'
         · rw [q] at q'; cases q'
       · rcases fb.1 with ⟨_,_,q',_⟩ | ⟨t,q',rfl⟩ | ⟨_,q',_⟩
         · rw [q] at q'; cases q'
         · rw [Jbk a1,Jbk b1,run_equalIn_string w 9998 _ _ _ q]
           simp only [JbI,eqS,ByteArray.toList_eq]
         · rw [q] at q'; cases q'
       · rcases fb.1 with ⟨_,_,q',_⟩ | ⟨_,q',_⟩ | ⟨t,q',rfl⟩
         · rw [q] at q'; cases q'
         · rw [q] at q'; cases q'
         · rw [Jbk a1,Jbk b1]; exact run_equalIn_bool' w 9998 _ _ _ q
      simp only [Op.eqFields]
      rw [if_pos hnm]
      simp only [Sem.run_bind,p1,p2,he,Result.andThen_ok]
      cases hq:JbI x y with
      | false=>simp [JbR,hq]
      | true=>simpa [JbR,hq] using ih
theorem Jk1 {o:Oper} {op:BinOp} {T yT:TypeId} {x y:Operand} {K:Out→Option R} {env:Env} (hd:a.defers=G.D) (h:Rel P G F Bs st a.tmps w) (ho:o.op=.binOp op T x y yT)
 (hk:opK P env (.binOp op T x y yT) o.type (opd st) K=some res):∃ out,K out=some res∧Eff P G st a w o out:=by
 have hrx:=Jag h x
 have hry:=Jag h y
 simp only [opK] at hk
 split at hk
 · rename_i u v hx hy
   rw [hx] at hrx; rw [hy] at hry
   have fin:∀ c z,(execOp a.eval o).run P w=.ok (.value c) w→K (JaO (.v z))=some res→c=z→∃ out,K out=some res∧Eff P G st a w o out:=by
    intro c z hr hz e
    subst e
    exact ⟨_,hz,Jaa hr (JaE hd h (.v _))⟩
   unfold Jla at hk
   split at hk
   · rename_i k m k' n
     have e1:=Jbk hrx
     have e2:=Jbk hry
     have go:∀ v,(∀ T,(Go.binOp op T (.int k m) (.int k' n)).run P w=.ok v w)→(execOp a.eval o).run P w=.ok (.value v) w:=by
      intro v hv
      simp [execOp,ho,e1,e2,JkR,hv]
     cases hs:JdI op with
     | true =>
      rw [hs,cond_true] at hk
      obtain ⟨v,h1,h2⟩:=Jjw (P:=P) (w:=w) (k':=k') hk
      exact fin v v (go v h2) h1 rfl
     | false =>
      rw [hs,cond_false] at hk
      obtain ⟨h1,hk⟩:=Jab hk
      rw [←JbC h1] at go
      obtain ⟨v,h1,h2⟩:=JhG (P:=P) (w:=w) hs hk
      exact fin v v (go v h2) h1 rfl
   · rename_i m n
     have e1:=Jbk hrx
     have e2:=Jbk hry
     obtain ⟨v,h1,h2⟩:=JhH (P:=P) (w:=w) hk
     exact fin v v (by simp [execOp,ho,e1,e2,JkS,h2]) h1 rfl
   · rename_i xa bs
     obtain ⟨hq,hk⟩:=Jab hk
     unfold eqT at hq
     split at hq
     · rename_i fs hu
       simp only [Bool.and_eq_true,Bool.not_eq_true'] at hq
       obtain ⟨⟨q1,q2⟩,q3⟩:=hq
       have hcks:cks P 20 T=fs.toList.flatMap fun f=>cks P 19 f.type:=by simp only [cks,hu]
       rw [hcks] at hk
       obtain ⟨hk,f1⟩:=Jca q1 hk
       obtain ⟨hk,f2⟩:=Jca q1 hk
       have hrx':RP F w (.agg xa) (a.eval x):=hrx
       have hry':RP F w (.agg bs) (a.eval y):=hry
       generalize hcx:a.eval x=c1 at hrx'
       generalize hcy:a.eval y=c2 at hry'
       cases hrx' with
       | agg ha ha2 =>
        rename_i xs
        cases hry' with
        | agg hb hb2 =>
         rename_i ys
         have hfo:P.fieldsOf T=fs:=by simp only [Program.fieldsOf,hu]
         have hrun:(Op.equalIn 10000 T (.agg xs.toArray) (.agg ys.toArray)).run P w=.ok (JbR xa bs) w:=by
          rw [run_equalIn_struct w 9999 T _ _ (by rw [hfo]; exact hu) q2,hfo]
          exact Jdb fs.toList 0 xa bs xs ys q1 f1 f2 (by simpa using ha) (by simpa using hb)
         have hg:=run_eqGuard_agg (P:=P) w op T x y xs.toArray ys.toArray q3
         unfold eqO at hk
         split at hk
         · exact fin _ _ (by simp [execOp,ho,hcx,hcy,hg,run_eql_struct,hrun]) hk rfl
         · exact fin _ _ (by simp [execOp,ho,hcx,hcy,hg,run_neq_struct,hrun]) hk rfl
         · cases hk
     · cases hq
   · rename_i m n
     have e1:=Jbk hrx
     have e2:=Jbk hry
     obtain ⟨hb,hk⟩:=Jab hk
     have hu:=JiM hb
     have heq:(Op.equal T (.bool m) (.bool n)).run P w=.ok (m == n) w:=Jg3 hu m n
     split at hk
     · exact fin _ _ (by simp [execOp,ho,e1,e2,JjI,Go.binOp,heq]) hk rfl
     · exact fin _ _ (by simp [execOp,ho,e1,e2,JjI,Go.binOp,heq]) hk rfl
     · cases hk
   · cases hk
 · cases hk
end
end Go.Proofs.YtgglhmfncoeffaaGreatDoor.Th
set_option linter.unusedVariables false
set_option linter.unusedSimpArgs false
namespace Go.Proofs.YtgglhmfncoeffaaGreatDoor.Th
open Go
variable {R:Type} {res:R}
section
variable {P:Program} {G:Gd} {F:Nat→Prop} {Bs:Nat→List Nat} {st:St} {a:Act} {w:World}
theorem Ja1 {l:List Value} (h:JaU l=true):∀ x∈l,x.oneCell'=true:=by
 induction l with
 | nil=>simp
 | cons y l ih =>
  simp only [JaU,Bool.and_eq_true] at h
  intro x hx
  rcases List.mem_cons.1 hx with rfl | hx
  · exact h.1
  · exact ih h.2 x hx
theorem Jb4 {T:TypeId} {zs:List Value} (h:Jcr P T=some zs):∃ i z,P.info? T=some i∧i.zero=some z∧z.cells.size=i.size∧z.cells.toList=zs:=by
 unfold Jcr at h
 split at h
 · rename_i i hi
   split at h
   · rename_i z hz
     cases hb:Nat.beq z.cells.size i.size with
     | false=>rw [hb] at h; cases h
     | true=>rw [hb] at h; simp only [cond_true,Option.some.injEq] at h; exact ⟨i,z,hi,hz,eqB hb,h⟩
   · cases h
 · cases h
theorem Jkr (F:Nat→Prop) (w:World) (x:Value):RS P F w (zsv x) x []:=by
 unfold zsv
 split
 · exact .nl
 · exact .p (.v x)
theorem JgO (F:Nat→Prop) (w:World):∀ l:List Value,RSs P F w (l.map zsv) l []
 | []=>.nil
 | x::l=>.cons (B:=[]) (Jkr F w x) (JgO F w l)
theorem Jb9 (w:World) (o:Obj):(w.alloc o).heap[w.heap.size]? = some o:=by
 show (w.heap.push o)[w.heap.size]? = some o
 simp
theorem Jcx {d:Option Nat} {us:List (Nat × SV)} {T:TypeId} {cs:List SV} {cells:Array Value} {B:List Nat} (hd:a.defers=G.D) (h:Rel P G F Bs (st.upS us []) a.tmps w)
 (hc:RSs P F w cs cells.toList B) (h1:∀ x∈cells.toList,x.oneCell'=true) (hn:B.Nodup) (hj:∀ i b,b∈B→b∉Bs i) (hf:∀ b∈B,¬ F b) (hw:∀ b∈B,G.W.heap.size≤b∨G.A b)
 (hl:∀ b∈B,b<w.heap.size):∀ hf:(⟨.bx T cs,none,us,[]⟩:Out).fits G.N d=true,
   SRel P G (st.put d ⟨.bx T cs,none,us,[]⟩) (a.put d (.pointer (some ⟨w.heap.size,0,none⟩))) (w.alloc (.cells cells T)):=by
 have hg:=h.grow (w':=w.alloc (.cells cells T)) (F':=F) (fun b hb=>Ja3 w _ b hb) (by simp) ⟨rfl,rfl,rfl⟩ (fun _ q=>q) (fun _ q=>.inl q)
 have hbx:RS P F (w.alloc (.cells cells T)) (.bx T cs) (.pointer (some ⟨w.heap.size,0,none⟩)) (w.heap.size::B) :=
  .bx (Jb9 w _) (hc.mono (fun _ q=>q) fun b hb=>Ja3 w _ b (hb.elim (h.fl b) (hl b))) h1
 refine Jav hd hg hbx (List.nodup_cons.2 ⟨fun q=>Nat.lt_irrefl _ (hl _ q),hn⟩) ?_ ?_ ?_ ?_ (by simp)
 · intro i b hb hb'
   rcases List.mem_cons.1 hb with rfl | hb
   · exact Nat.lt_irrefl _ (h.lt i _ hb')
   · exact hj i b hb hb'
 · intro b hb hF
   rcases List.mem_cons.1 hb with rfl | hb
   · exact Nat.lt_irrefl _ (h.fl _ hF)
   · exact hf b hb hF
 · intro b hb
   rcases List.mem_cons.1 hb with rfl | hb
   · exact .inl h.kb.size
   · exact hw b hb
 · intro b hb
   rcases List.mem_cons.1 hb with rfl | hb
   · simp
   · have:=hl b hb; simp; omega
theorem Jjk {o:Oper} {T:TypeId} {K:Out→Option R} {env:Env} (hd:a.defers=G.D) (h:Rel P G F Bs st a.tmps w) (ho:o.op=.alloc T)
 (hk:opK P env (.alloc T) o.type (opd st) K=some res):∃ out,K out=some res∧Eff P G st a w o out:=by
 simp only [opK] at hk
 split at hk
 · rename_i zs hz
   obtain ⟨h1,hk⟩:=Jab hk
   obtain ⟨i,z,hi,hzz,hsz,hzs⟩:=Jb4 hz
   have hrun:(execOp a.eval o).run P w=.ok (.value (.pointer (some ⟨w.heap.size,0,none⟩))) (w.alloc (.cells z.cells T)):=by
    simp [execOp,ho,Instr.alloc,zeroValue,typeInfo,hi,hzz,newVar,newRow]
   exact ⟨_,hk,fun hf=>⟨_,_,.inl hrun,Jcx hd (by rw [Jak]; exact h) (by rw [hzs]; exact JgO F w zs) (by rw [hzs]; exact Ja1 h1) (by simp) (by simp) (by simp) (by simp) (by simp) hf⟩⟩
 · cases hk
theorem Jk2 {o:Oper} {T:TypeId} {x:Operand} {K:Out→Option R} {env:Env} (hd:a.defers=G.D) (h:Rel P G F Bs st a.tmps w) (ho:o.op=.box T x)
 (hk:opK P env (.box T x) o.type (opd st) K=some res):∃ out,K out=some res∧Eff P G st a w o out:=by
 have hrx:=Jag h x
 have hrun:(execOp a.eval o).run P w=.ok (.value (.pointer (some ⟨w.heap.size,0,none⟩))) (w.alloc (.cells (a.eval x).cells T)):=by
  simp [execOp,ho,Instr.box,newVar,newRow]
 simp only [opK] at hk
 split at hk
 · rename_i n hn
   split at hk
   · rename_i y hx
     rw [hx] at hrx
     obtain ⟨hc,hk⟩:=Jab hk
     simp only [Bool.and_eq_true] at hc
     have hcr:=Jdx (F:=F) (w:=w) hrx hc.2
     exact ⟨_,hk,fun hf=>⟨_,_,.inl hrun,Jcx hd (by rw [Jak]; exact h) (RSs.pure hcr) (Jcg hcr hc.2) (by simp) (by simp) (by simp) (by simp) (by simp) hf⟩⟩
   · rename_i hx
     rw [hx] at hrx
     have hv:a.eval x=.slice none 0 0:=hrx
     obtain ⟨hc,hk⟩:=Jab hk
     have hcl:(a.eval x).cells.toList=[.slice none 0 0]:=by rw [hv]; rfl
     exact ⟨_,hk,fun hf=>⟨_,_,.inl hrun,Jcx hd (by rw [Jak]; exact h) (by rw [hcl]; exact .cons (B:=[]) .nl .nil) (by rw [hcl]; simp [Value.oneCell']) (by simp) (by simp) (by simp) (by simp) (by simp) hf⟩⟩
   · rename_i s cx T2 es hx
     rw [hx] at hrx
     obtain ⟨hc,hk1⟩:=Jab hk
     clear hk
     have hpl:=h.place hrx
     have hcl:(a.eval x).cells.toList=[a.eval x]∧(a.eval x).oneCell'=true:=by
      rcases Jci hpl.1 with ⟨e,_,_⟩ | ⟨g,cap,e,_,_,_⟩ <;> rw [e] <;> exact ⟨rfl,rfl⟩
     cases hdi:Jax x s cx with
     | true =>
      rw [hdi] at hk1
      obtain ⟨rfl,rfl⟩:=Jb hdi
      obtain ⟨g1,g2⟩:=h.own_inv hrx.1
      refine ⟨_,hk1,fun hf=>⟨_,_,.inl hrun,Jcx hd (h.empty s) (B:=Bs s) (by rw [hcl.1]; have:=RSs.cons (P:=P) g1 .nil; rw [List.append_nil] at this; exact this)
       (by rw [hcl.1]; simp [hcl.2]) (h.nd s) (fun i b hb=>?_) (h.nf s) (h.nw s) (h.lt s) hf⟩⟩
      by_cases hi:i=s
      · subst hi; rw [Jaj]; simp
      · rw [Jah _ _ hi]; exact h.dj s i b (Ne.symm hi) hb
     | false =>
      rw [hdi] at hk1
      obtain ⟨F',Bs',r1,r2,r3,r4⟩:=Jbp h hrx
      exact ⟨_,hk1,fun hf=>⟨_,_,.inl hrun,Jcx hd r1 (by rw [hcl.1]; exact .cons (B:=[]) (.p r2) .nil) (by rw [hcl.1]; simp [hcl.2]) (by simp) (by simp) (by simp) (by simp) (by simp) hf⟩⟩
   · rename_i s cx d ks vs hx
     rw [hx] at hrx
     obtain ⟨hc,hk1⟩:=Jab hk
     clear hk
     simp only [Bool.and_eq_true] at hc
     have hpl:=h.placeX rfl hrx
     have hcl:(a.eval x).cells.toList=[a.eval x]∧(a.eval x).oneCell'=true:=by
      generalize a.eval x=c at hpl
      cases hpl.1; exact ⟨rfl,rfl⟩
     obtain ⟨rfl,rfl⟩:=Jb hc.2
     have g1:=h.sl s
     rw [hrx.1,hrx.2] at g1
     refine ⟨_,hk1,fun hf=>⟨_,_,.inl hrun,Jcx hd (h.empty s) (B:=Bs s) (by rw [hcl.1]; have:=RSs.cons (P:=P) g1 .nil; rw [List.append_nil] at this; exact this)
      (by rw [hcl.1]; simp [hcl.2]) (h.nd s) (fun i b hb=>?_) (h.nf s) (h.nw s) (h.lt s) hf⟩⟩
     by_cases hi:i=s
     · subst hi; rw [Jaj]; simp
     · rw [Jah _ _ hi]; exact h.dj s i b (Ne.symm hi) hb
   · rename_i s cs hx
     rw [hx] at hrx
     obtain ⟨hc,hk1⟩:=Jab hk
     clear hk
     have g1:=h.sl s
     rw [hrx.1,hrx.2] at g1
     obtain ⟨vs,hv,hvs,hone⟩:∃ vs:List Value,a.eval x=.agg vs.toArray∧RSs P F w cs vs (Bs s)∧∀ x∈vs,x.oneCell'=true:=by
      generalize a.eval x=c at g1
      generalize Bs s=B at g1
      cases g1 with | st p q=>exact ⟨_,rfl,p,q⟩
     have hcl:(a.eval x).cells.toList=vs:=by rw [hv]; rfl
     refine ⟨_,hk1,fun hf=>⟨_,_,.inl hrun,Jcx hd (h.empty s) (B:=Bs s) (by rw [hcl]; exact hvs) (by rw [hcl]; exact hone) (h.nd s) (fun i b hb=>?_) (h.nf s) (h.nw s) (h.lt s) hf⟩⟩
     by_cases hi:i=s
     · subst hi; rw [Jaj]; simp
     · rw [Jah _ _ hi]; exact h.dj s i b (Ne.symm hi) hb
   · cases hk
 · cases hk
theorem Jfd:∀ (l:List Value) (k off:Nat) (cur:Array Value),off + k + l.length≤cur.size →
 ((l.zipIdx k).foldl (fun cs (q:Value × Nat)=>cs.setIfInBounds (off + q.2) q.1) cur).toList=cur.toList.take (off + k)++l++cur.toList.drop (off + k + l.length)
 | [],k,off,cur,h=>by simp
 | v::l,k,off,cur,h=>by
  simp only [List.zipIdx_cons,List.foldl_cons]
  have ih:=Jfd l (k + 1) off (cur.setIfInBounds (off + k) v) (by simp at h ⊢; omega)
  rw [ih]
  have e:=list_seg_step cur.toList (off + k) v l (by simp at h ⊢; omega)
  simpa [Array.toList_setIfInBounds,Nat.add_assoc] using e
theorem Jgv {off:Nat} {v:Value} {cur:Array Value} (h:off + v.cells.size≤cur.size) :
 (v.cells.zipIdx.foldl (fun cs (q:Value × Nat)=>cs.setIfInBounds (off + q.2) q.1) cur).toList=cur.toList.take off++v.cells.toList++cur.toList.drop (off + v.cells.size):=by
 have:=Jfd v.cells.toList 0 off cur (by simpa using h)
 rw [←Array.foldl_toList,Array.toList_zipIdx]
 simpa using this
theorem RPs.splice {cs ys:List PV} {xs vs:List Value} (h:RPs F w cs xs) (hy:RPs F w ys vs) (off:Nat):RPs F w (Jay cs off ys) (xs.take off++vs++xs.drop (off + vs.length)):=by
 unfold Jay
 rw [hy.length]
 exact ((h.take off).append hy).append (h.drop _)
theorem Jdd {a b:List PV} (h1:Jat a=true) (h2:Jat b=true):Jat (a++b)=true :=
 JaP fun x hx=>(List.mem_append.1 hx).elim (JaH h1 x) (JaH h2 x)
theorem Jch {cs ys:List PV} (off:Nat) (h1:Jat cs=true) (h2:Jat ys=true):Jat (Jay cs off ys)=true :=
 Jdd (Jdd (JaP fun x hx=>JaH h1 x (List.mem_of_mem_take hx)) h2) (JaP fun x hx=>JaH h1 x (List.mem_of_mem_drop hx))
theorem Jhl {T:TypeId} {n:Nat} (h:Jal P T=some n):∃ i,P.info? T=some i∧i.size=n:=by
 unfold Jal at h
 cases hi:P.info? T with
 | none=>simp [hi] at h
 | some i=>simp [hi] at h; exact ⟨i,rfl,h⟩
theorem JbW:∀ {l:List Field},JbQ P l=true→∃ places,l.mapM (fun f=>(P.info? f.type).map fun i=>(f.offset,i.size))=some places ∧
 ∀ (f:Nat) (fl:Field) (n:Nat),l[f]? = some fl→Jal P fl.type=some n→places[f]? = some (fl.offset,n)
 | [],_=>⟨[],rfl,by simp⟩
 | x::l,h=>by
  simp only [JbQ,Bool.and_eq_true] at h
  obtain ⟨places,h1,h2⟩:=JbW h.2
  cases hi:P.info? x.type with
  | none=>rw [hi] at h; simp at h
  | some i =>
   refine ⟨(x.offset,i.size)::places,by simp [List.mapM_cons,hi,h1],?_⟩
   intro f fl n hf hn
   cases f with
   | zero=>simp at hf; subst hf; simp [Jal,hi] at hn; simp [hn]
   | succ f=>simp at hf; simpa using h2 f fl n hf hn
theorem JcK {S:TypeId} {fs:Array Field} {places:List (Nat × Nat)} (hu:P.underlying S=some (.struct fs)) (hp:∀ (f:Nat) (fl:Field) (n:Nat),fs.toList[f]? = some fl→Jal P fl.type=some n→places[f]? = some (fl.offset,n)) :
 ∀ (l:List (Nat × PV)) (vs:List Value) (cs cs':List PV) (cur:Array Value),RPs F w (l.map (·.2)) vs→RPs F w cs cur.toList→Jat cs=true→Jdg P S l cs=some cs' →
  ∃ cur',Instr.fill (places.toArray[·]?) cur ((l.map (·.1)).zip vs)=some cur'∧RPs F w cs' cur'.toList∧Jat cs'=true
 | [],vs,cs,cs',cur,hv,hc,hl,hf=>by
  simp [Jdg] at hf; subst hf
  exact ⟨cur,rfl,hc,hl⟩
 | (f,y)::l,vs,cs,cs',cur,hv,hc,hl,hf=>by
  cases hv with
  | cons hy hv =>
   rename_i v vs
   simp only [Jdg] at hf
   split at hf
   · rename_i off T hfo
     split at hf
     · rename_i n hn
       obtain ⟨hcond,hf⟩:=Jab hf
       simp only [Bool.and_eq_true] at hcond
       obtain ⟨⟨c1,c2⟩,c3⟩:=hcond
       have c1:=eqB c1
       have c2:off + n≤cs.length:=by simpa using c2
       obtain ⟨fs',fl,hu',hfl,rfl,rfl⟩:=JfV hfo
       rw [hu] at hu'; cases hu'
       have hplace:=hp f fl n (by simpa using hfl) hn
       have hcell:=Jdx hy c3
       have hvs:v.cells.size=n:=by rw [←c1,hcell.length]; simp
       have hcl:=hc.length
       have hle:fl.offset + v.cells.size≤cur.size:=by simp at hcl; omega
       have hone:=Jgv hle
       have hsp:=hc.splice hcell fl.offset
       have e:v.cells.toList.length=v.cells.size:=by simp
       rw [e,←hone] at hsp
       obtain ⟨cur',q1,q2,q3⟩:=JcK hu hp l vs _ cs' _ hv hsp (Jch _ hl c3) hf
       refine ⟨cur',?_,q2,q3⟩
       simp only [List.map_cons,List.zip_cons_cons,Instr.fill]
       have hpl:places.toArray[f]? = some (fl.offset,n):=by simpa using hplace
       rw [hpl]
       simp only []
       rw [if_neg (by simp [hvs]; omega)]
       exact q1
     · cases hf
   · cases hf
theorem JdB {l:List (Nat × Operand)} (h:Rel P G F Bs st a.tmps w):∀ (j:Nat) (q:Operand × RV),(l.map fun q=>(q.2,opd st q.2))[j]? = some q→∃ c,(l.map fun q=>a.eval q.2)[j]? = some c∧RVR P F st.fr a.tmps w q.2 c:=by
 intro j q hj
 rw [List.getElem?_map] at hj
 cases hc:l[j]? with
 | none=>rw [hc] at hj; cases hj
 | some y =>
  rw [hc] at hj
  simp only [Option.map_some,Option.some.injEq] at hj
  subst hj
  exact ⟨a.eval y.2,by rw [List.getElem?_map,hc]; rfl,Jag h y.2⟩
theorem Jgf {l:List (Nat × Operand)} (f:Operand→Value):(l.map (·.1)).zip (l.map fun q=>f q.2)=l.map fun q=>(q.1,f q.2):=by
 induction l with
 | nil=>rfl
 | cons x l ih=>simp [ih]
theorem JeU {α:Type}:∀ {l:List Nat} {ys:List α},ys.length=l.length→(l.zip ys).map (·.2)=ys
 | [],[],_=>rfl
 | x::l,y::ys,h=>by simp at h; simp [JeU h]
theorem JeT {α:Type}:∀ {l:List Nat} {ys:List α},ys.length=l.length→(l.zip ys).map (·.1)=l
 | [],[],_=>rfl
 | x::l,y::ys,h=>by simp at h; simp [JeT h]
theorem Jjl {o:Oper} {T:TypeId} {parts:Array (Nat × Operand)} {K:Out→Option R} {env:Env} (hd:a.defers=G.D) (h:Rel P G F Bs st a.tmps w) (ho:o.op=.build T parts)
 (hk:opK P env (.build T parts) o.type (opd st) K=some res):∃ out,K out=some res∧Eff P G st a w o out:=by
 simp only [opK] at hk
 split at hk
 · rename_i fs zs ys us hu hz hv
   obtain ⟨hcond,hk⟩:=Jab hk
   simp only [Bool.and_eq_true] at hcond
   obtain ⟨⟨c1,c2⟩,c3⟩:=hcond
   split at hk
   · rename_i cs hfill
     obtain ⟨F',Bs',r1,r2,r3,r4⟩:=JbN (vs:=parts.toList.map fun q=>a.eval q.2) h (JdB h) (by simp) hv c1
     obtain ⟨i,z,hi,hzz,hsz,hzs⟩:=Jb4 hz
     obtain ⟨places,hp1,hp2⟩:=JbW c3
     have hlen:ys.length=(parts.toList.map (·.1)).length:=by rw [r2.length]; simp
     have hcs0:RPs F' w (zs.map cpv) z.cells.toList:=by rw [hzs]; exact JcI F' w zs
     have hl0:Jat (zs.map cpv)=true:=JaP fun x hx=>by
      obtain ⟨v,hv,rfl⟩:=List.mem_map.1 hx
      exact JbT (JeD F' w v) (Ja1 c2 v hv)
     obtain ⟨cur',q1,q2,q3⟩:=JcK (P:=P) hu hp2 _ _ _ _ z.cells (by rw [JeU hlen]; exact r2) hcs0 hl0 hfill
     rw [JeT hlen,Jgf] at q1
     have hb:P.built T (parts.map fun (i,x)=>(i,a.eval x)).toList=some cur':=by
      unfold Program.built
      rw [hi,hu]
      simp only [hzz,hp1]
      rw [←q1]
      congr 1
      simp
     have hrun:(execOp a.eval o).run P w=.ok (.value (.agg cur')) w:=by
      simp only [execOp,ho,Sem.run_bind,run_build w T _ cur' hb,Result.andThen_ok]
      rfl
     have hagg:=RP.agg q2 q3
     rw [show cur'.toList.toArray=cur' by simp] at hagg
     exact ⟨_,hk,Jaa hrun (Jar hd r1 (.p hagg))⟩
   · cases hk
 · cases hk
theorem JgK (F:Nat→Prop) (w:World):∀ l:List Value,RPs F w (l.map .v) l
 | []=>.nil
 | x::l=>.cons (.v x) (JgK F w l)
theorem Jkn {x:PV} {c:Value} (h:RP F w x c):RS P F w (psv x) c []:=by
 unfold psv
 split
 · rw [Jbk h]; exact .nl
 · exact .p h
theorem JeL:∀ {l:List PV} {vs:List Value},RPs F w l vs→RSs P F w (l.map psv) vs []
 | [],_,h=>by cases h; exact .nil
 | x::l,_,h=>by cases h with | cons a b=>exact .cons (B:=[]) (Jkn a) (JeL b)
theorem Jid {o:Oper} {T:TypeId} {parts:Array (Nat × Operand)} {K:Out→Option R} (hd:a.defers=G.D) (h:Rel P G F Bs st a.tmps w) (ho:o.op=.build T parts)
 (hk:Jdv P T (parts.toList.map (·.1)) (Ja2 (parts.toList.map fun q=>(q.2,opd st q.2))) K=some res):∃ out,K out=some res∧Eff P G st a w o out:=by
 unfold Jdv at hk
 split at hk
 · rename_i fs zs ys us hu hz hv
   obtain ⟨hcond,hk⟩:=Jab hk
   simp only [Bool.and_eq_true] at hcond
   obtain ⟨⟨c1,c2⟩,c3⟩:=hcond
   split at hk
   · rename_i cs hfill
     obtain ⟨F',Bs',r1,r2,r3,r4⟩:=JbN (vs:=parts.toList.map fun q=>a.eval q.2) h (JdB h) (by simp) hv c1
     obtain ⟨i,z,hi,hzz,hsz,hzs⟩:=Jb4 hz
     obtain ⟨places,hp1,hp2⟩:=JbW c3
     have hlen:ys.length=(parts.toList.map (·.1)).length:=by rw [r2.length]; simp
     have hcs0:RPs F' w (zs.map .v) z.cells.toList:=by rw [hzs]; exact JgK F' w zs
     have hl0:Jat (zs.map .v)=true:=JaP fun x hx=>by
      obtain ⟨v,hv,rfl⟩:=List.mem_map.1 hx
      exact Ja1 c2 v hv
     obtain ⟨cur',q1,q2,q3⟩:=JcK (P:=P) hu hp2 _ _ _ _ z.cells (by rw [JeU hlen]; exact r2) hcs0 hl0 hfill
     rw [JeT hlen,Jgf] at q1
     have hb:P.built T (parts.map fun (i,x)=>(i,a.eval x)).toList=some cur':=by
      unfold Program.built
      rw [hi,hu]
      simp only [hzz,hp1]
      rw [←q1]
      congr 1
      simp
     have hrun:(execOp a.eval o).run P w=.ok (.value (.agg cur')) w:=by
      simp only [execOp,ho,Sem.run_bind,run_build w T _ cur' hb,Result.andThen_ok]
      rfl
     have hst:RS P F' w (.st (cs.map psv)) (.agg cur'.toList.toArray) []:=.st (JeL q2) (Jcg q2 q3)
     rw [show cur'.toList.toArray=cur' by simp] at hst
     exact ⟨_,hk,Jaa hrun (Jar hd r1 hst)⟩
   · cases hk
 · cases hk
theorem Jic {o:Oper} {T:TypeId} {parts:Array (Nat × Operand)} {q:Nat × Operand} {K:Out→Option R} (hd:a.defers=G.D) (h:Rel P G F Bs st a.tmps w) (ho:o.op=.build T parts) (hp:parts.toList=[q])
 (hk:Jc P T q.1 (opd st q.2) K=some res):∃ out,K out=some res∧Eff P G st a w o out:=by
 have hr:=Jag h q.2
 unfold Jc at hk
 split at hk
 · rename_i fs zs off ft hu hz hf
   split at hk
   · rename_i n s d ks vs hn hx
     rw [hx] at hr
     obtain ⟨hc,hkk⟩:=Jab hk
     clear hk
     simp only [Bool.and_eq_true] at hc
     obtain ⟨⟨⟨c0,c1⟩,c2⟩,c3⟩:=hc
     have hn1:=eqB c0
     subst hn1
     have c1:off + 1≤zs.length:=by simpa using c1
     obtain ⟨i,z,hi,hzz,hsz,hzs⟩:=Jb4 hz
     obtain ⟨places,hp1,hp2⟩:=JbW c3
     have g1:=h.sl s
     rw [hr.1,hr.2] at g1
     have hone:(a.eval q.2).oneCell'=true∧(a.eval q.2).cells=#[a.eval q.2]:=by
      generalize a.eval q.2=c at g1
      generalize Bs s=B at g1
      cases g1; exact ⟨rfl,rfl⟩
     have hcs0:RPs F w (zs.map .v) z.cells.toList:=by rw [hzs]; exact JgK F w zs
     have hl0:Jat (zs.map .v)=true:=JaP fun x hx=>by
      obtain ⟨v,hv,rfl⟩:=List.mem_map.1 hx
      exact Ja1 c2 v hv
     have hfill:Jdg P T [(q.1,PV.v (a.eval q.2))] (zs.map .v)=some (Jay (zs.map .v) off [.v (a.eval q.2)]):=by
      simp only [Jdg,hf,hn]
      have e1:(Jad (PV.v (a.eval q.2))).length=1:=rfl
      have e2:Jat (Jad (PV.v (a.eval q.2)))=true:=by simp [Jad,Jat,PV.leaf,hone.1]
      have e3:Nat.ble (off + 1) (zs.map PV.v).length=true:=by simpa using c1
      rw [e1,e2,e3]
      rfl
     obtain ⟨cur',q1,q2,q3⟩:=JcK (P:=P) (F:=F) (w:=w) hu hp2 [(q.1,PV.v (a.eval q.2))] [a.eval q.2] _ _ z.cells (.cons (.v _) .nil) hcs0 hl0 hfill
     have hcur:cur'.toList=zs.set off (a.eval q.2):=by
      have e:Jay (zs.map PV.v) off [.v (a.eval q.2)]=(zs.set off (a.eval q.2)).map PV.v:=by
       unfold Jay
       rw [List.map_set,List.set_eq_take_append_cons_drop,if_pos (by simp; omega)]
       simp
      rw [e] at q2
      have inj:∀ {l:List Value} {m:List Value},RPs F w (l.map PV.v) m→m=l:=by
       intro l
       induction l with
       | nil=>intro m hm; cases hm; rfl
       | cons x l ih=>intro m hm; cases hm with | cons p r=>rw [Jbk p,ih r]
      exact inj q2
     have hb:P.built T (parts.map fun (i,x)=>(i,a.eval x)).toList=some cur':=by
      unfold Program.built
      rw [hi,hu]
      simp only [hzz,hp1]
      rw [←q1]
      congr 1
      obtain ⟨pl⟩:=parts
      have hpl:pl=[q]:=hp
      subst hpl
      simp
     have hrun:(execOp a.eval o).run P w=.ok (.value (.agg cur')) w:=by
      simp only [execOp,ho,Sem.run_bind,run_build w T _ cur' hb,Result.andThen_ok]
      rfl
     have hz0:RSs P F w (zs.map fun v=>psv (.v v)) zs []:=by
      have:=JeL (P:=P) (JgK F w zs)
      rw [List.map_map] at this
      exact this
     have hlt:off<zs.length:=by omega
     have hget:(zs.map fun v=>psv (.v v))[off]? = some (psv (.v zs[off])):=by simp [hlt]
     obtain ⟨c,Bj,pre,post,f1,f2,f3,f4⟩:=hz0.get hget
     have f3':=f3.symm
     simp only [List.append_eq_nil_iff] at f3'
     obtain ⟨⟨rfl,rfl⟩,rfl⟩:=f3'
     have hset:=f4 F w (.mp d ks vs) (a.eval q.2) (Bs s) (fun _ q=>q) (fun _ _=>rfl) g1
     simp only [List.nil_append,List.append_nil] at hset
     have hst:RS P F w (.st ((zs.map fun v=>psv (.v v)).set off (.mp d ks vs))) (.agg cur'.toList.toArray) (Bs s):=by
      refine .st (by rw [hcur]; exact hset) ?_
      exact Jcg q2 q3
     rw [show cur'.toList.toArray=cur' by simp] at hst
     refine ⟨_,hkk,Jaa hrun (Jav hd (h.empty s) hst (h.nd s) (fun i b hb=>?_) (h.nf s) (h.nw s) (h.lt s) (by simp))⟩
     by_cases hi:i=s
     · subst hi; rw [Jaj]; simp
     · rw [Jah _ _ hi]; exact h.dj s i b (Ne.symm hi) hb
   · cases hk
 · cases hk
end
end Go.Proofs.YtgglhmfncoeffaaGreatDoor.Th
set_option linter.unusedVariables false
set_option linter.unusedSimpArgs false
namespace Go.Proofs.YtgglhmfncoeffaaGreatDoor.Th
open Go
variable {R:Type} {res:R}
section
variable {P:Program} {G:Gd} {F:Nat→Prop} {Bs:Nat→List Nat} {st:St} {a:Act} {w:World}
theorem JgM {T:TypeId} {ze:PV} (h:JfD P T=some ze):∃ i z,P.info? T=some i∧i.zero=some z∧z.cells.size=i.size∧0<i.size ∧
 Jad ze=z.cells.toList.map cpv∧Jat (Jad ze)=true∧(∀ x∈z.cells.toList,x.oneCell'=true):=by
 unfold JfD at h
 split at h
 · rename_i zs hz
   obtain ⟨i,z,hi,hzz,hsz,rfl⟩:=Jb4 hz
   cases hc:(JaU z.cells.toList&&Nat.blt 0 z.cells.toList.length&&(Jai P T||Nat.beq z.cells.toList.length 1)) with
   | false=>rw [hc] at h; cases h
   | true =>
    rw [hc] at h
    simp only [cond_true,Option.some.injEq] at h
    subst h
    simp only [Bool.and_eq_true,Bool.or_eq_true] at hc
    obtain ⟨⟨c1,c2⟩,c3⟩:=hc
    have hl:Jat (z.cells.toList.map cpv)=true:=JaP fun x hx=>by
     obtain ⟨v,hv,rfl⟩:=List.mem_map.1 hx
     exact JbT (JeD (fun _=>False) default v) (Ja1 c1 v hv)
    have he:Jad (mkE (Jai P T) (z.cells.toList.map cpv))=z.cells.toList.map cpv:=by
     cases hag:Jai P T with
     | true=>rfl
     | false =>
      rw [hag] at c3
      have h1:z.cells.toList.length=1:=by simpa using c3
      obtain ⟨v,hv⟩:=List.length_eq_one_iff.1 h1
      rw [hv] at hl ⊢
      have hlf:(cpv v).leaf=true:=JaH hl _ (by simp)
      show Jad (cpv v)=[cpv v]
      exact Jba hlf
    exact ⟨i,z,hi,hzz,hsz,(by have:0<z.cells.toList.length:=(by simpa using c2); simp at this; omega),he,by rw [he]; exact hl,Ja1 c1⟩
 · cases h
theorem JdF {α:Type} (l:List α):∀ (n j:Nat) (x:α),j<n * l.length→l[j % l.length]? = some x→(List.replicate n l).flatten[j]? = some x
 | 0,j,x,h,_=>by simp at h
 | n + 1,j,x,h,hx=>by
  rw [List.replicate_succ,List.flatten_cons]
  by_cases hj:j<l.length
  · rw [List.getElem?_append_left hj]
    rwa [Nat.mod_eq_of_lt hj] at hx
  · rw [List.getElem?_append_right (by omega)]
    refine JdF l n _ x ?_ ?_
    · rw [Nat.add_mul] at h; omega
    · rwa [←Nat.mod_eq_sub_mod (by omega)]
theorem Jcu (z:Array Value) (n:Nat) (hz:0<z.size):(madeCells z (n * z.size)).toList=(List.replicate n z.toList).flatten:=by
 apply List.ext_getElem?
 intro j
 by_cases hj:j<n * z.size
 · have hm:j % z.size<z.size:=Nat.mod_lt _ hz
   have h1:(madeCells z (n * z.size)).toList[j]? = some z[j % z.size]:=by
    simp [madeCells,hj]
    rw [getElem!_pos z (j % z.size) hm]
   rw [h1,JdF z.toList n j z[j % z.size] (by simpa using hj) (by simp [hm])]
 · rw [List.getElem?_eq_none (by simp [size_madeCells]; omega),List.getElem?_eq_none (by simp; omega)]
theorem Jgx (n:Nat) (e:PV):Jbw (List.replicate n e)=(List.replicate n (Jad e)).flatten:=by
 induction n with
 | zero=>rfl
 | succ n ih=>rw [List.replicate_succ,JaW,ih,List.replicate_succ,List.flatten_cons]
theorem Jf9 (F:Nat→Prop) (w:World) (l:List Value):∀ n,RPs F w (List.replicate n (l.map cpv)).flatten (List.replicate n l).flatten
 | 0=>.nil
 | n + 1=>by rw [List.replicate_succ,List.replicate_succ,List.flatten_cons,List.flatten_cons]; exact (JcI F w l).append (Jf9 F w l n)
theorem JhY {d:Option Nat} {us:List (Nat × SV)} {E:TypeId} {es:List PV} {cells:Array Value} {n cap:Nat} {i:TypeInfo} {z:Value} (hd:a.defers=G.D)
 (h:Rel P G F Bs (st.upS us []) a.tmps w) (hi:P.info? E=some i) (hz:i.zero=some z) (hzs:z.cells.size=i.size) (hp:0<i.size)
 (hr:RPs F w (Jbw es) (cells.toList.take (n * i.size))) (he:∀ e∈es,(Jad e).length=i.size∧Jat (Jad e)=true) (hn:n=es.length) (hcs:cells.size=cap * i.size) (hnc:n≤cap) (hcm:cap≤maxLen) :
 ∀ hf:(⟨.own E es,none,us,[]⟩:Out).fits G.N d=true,
  SRel P G (st.put d ⟨.own E es,none,us,[]⟩) (a.put d (.slice (some ⟨w.heap.size,0,none⟩) n cap)) (w.alloc (.cells cells E)):=by
 have hg:=h.grow (w':=w.alloc (.cells cells E)) (F':=F) (fun b hb=>Ja3 w _ b hb) (by simp) ⟨rfl,rfl,rfl⟩ (fun _ q=>q) (fun _ q=>.inl q)
 have hown:(w.alloc (.cells cells E)).ownsRow 0 E i.size (.slice (some ⟨w.heap.size,0,none⟩) n cap) es.length (cells.toList.take (n * i.size)):=by
  refine ⟨?_,.inr ⟨w.heap.size,cap,cells,by rw [hn],Nat.zero_le _,Jb9 w _,by omega,hcm,hcs,by rw [hn]⟩⟩
  rw [List.length_take,←hn]
  have:n * i.size≤cap * i.size:=Nat.mul_le_mul_right _ hnc
  simp; omega
 have hrs:RS P F (w.alloc (.cells cells E)) (.own E es) (.slice (some ⟨w.heap.size,0,none⟩) n cap) [w.heap.size] :=
  RS.own hi hz hzs hp (.of hown) (hr.mono (fun _ q=>q) fun b hb=>Ja3 w _ b (h.fl b hb)) he
 refine Jav hd hg hrs (by simp) ?_ ?_ ?_ ?_ (by simp)
 · intro j b hb hb'
   simp only [List.mem_singleton] at hb; subst hb
   exact Nat.lt_irrefl _ (h.lt j _ hb')
 · intro b hb hF
   simp only [List.mem_singleton] at hb; subst hb
   exact Nat.lt_irrefl _ (h.fl _ hF)
 · intro b hb
   simp only [List.mem_singleton] at hb; subst hb
   exact .inl h.kb.size
 · intro b hb
   simp only [List.mem_singleton] at hb; subst hb
   simp
theorem Jgg {T:TypeId} {b:Nat} (h:Jda P T=some b) {i:TypeInfo} (hi:P.info? T=some i):i.bytes=b:=by
 simp [Jda,hi] at h; exact h
theorem Jfs {o:Oper} {T:TypeId} {l c:Operand} {K:Out→Option R} {env:Env} (hd:a.defers=G.D) (h:Rel P G F Bs st a.tmps w) (ho:o.op=.makeSlice T l c)
 (hk:opK P env (.makeSlice T l c) o.type (opd st) K=some res):∃ out,K out=some res∧Eff P G st a w o out:=by
 have hrl:=Jag h l
 have hrc:=Jag h c
 simp only [opK] at hk
 split at hk
 · rename_i E k1 n k2 m hE hl hc
   rw [hl] at hrl; rw [hc] at hrc
   have e1:=Jbk hrl
   have e2:=Jbk hrc
   split at hk
   · rename_i ze bytes hz hb
     obtain ⟨hcond,hk⟩:=Jab hk
     simp only [Bool.and_eq_true,decide_eq_true_eq,Ja7] at hcond
     obtain ⟨⟨c1,c2⟩,c3,c4⟩:=hcond
     obtain ⟨i,z,hi,hzz,hzs,hpos,hce,hle,h1⟩:=JgM hz
     have hby:=Jgg hb hi
     have hbytes:(i.bytes:Int) * m≤281474976710656:=by
      have h3:bytes * m.toNat≤281474976710656:=by rw [Nat.mul_comm]; omega
      have e:((bytes * m.toNat:Nat):Int)≤281474976710656:=by omega
      rw [Int.natCast_mul,Int.toNat_of_nonneg (by omega)] at e
      rw [hby]; exact e
     have hmk:=run_make (P:=P) w T E i z (Ja5 hE) hi hzz k1 k2 n m c1 c2 hbytes (by omega)
     have hrun:(execOp a.eval o).run P w=.ok (.value (.slice (some ⟨w.heap.size,0,none⟩) n.toNat m.toNat)) (w.alloc (.cells (madeCells z.cells (m.toNat * i.size)) E)):=by
      have hex:execOp a.eval o=(do pure (.value (←Instr.makeSlice T (a.eval l) (a.eval c)))):=by unfold execOp; rw [ho]
      rw [hex,e1,e2,Sem.run_bind,hmk]; rfl
     have hnm:n.toNat≤m.toNat:=by omega
     have hflat:RPs F w (Jbw (List.replicate n.toNat ze)) ((madeCells z.cells (m.toNat * i.size)).toList.take (n.toNat * i.size)):=by
      rw [←hzs,Jcu z.cells m.toNat (by omega),Jgx,hce]
      have hr:=Jf9 F w z.cells.toList n.toNat
      have:((List.replicate m.toNat z.cells.toList).flatten).take (n.toNat * z.cells.size)=(List.replicate n.toNat z.cells.toList).flatten:=by
       rw [show m.toNat=n.toNat + (m.toNat - n.toNat) by omega,←List.replicate_append_replicate,List.flatten_append]
       have hl:((List.replicate n.toNat z.cells.toList).flatten).length=n.toNat * z.cells.size:=by simp
       rw [←hl]; exact List.take_left
      rw [this]; exact hr
     refine ⟨_,hk,fun hf=>⟨_,_,.inl hrun,JhY hd (by rw [Jak]; exact h) hi hzz hzs hpos hflat ?_ (by simp) (by simp [size_madeCells]) hnm (by simp only [maxLen]; omega) hf⟩⟩
     intro e he
     rw [(List.mem_replicate.1 he).2]
     exact ⟨by rw [hce]; simp [hzs],hle⟩
   · cases hk
 · cases hk
theorem Jb1:∀ (l:List (Nat × PV)) (es:List PV),(JdY l es).length=es.length
 | [],es=>rfl
 | (i,y)::l,es=>by rw [JdY,Jb1 l]; simp
theorem JeG {sz:Nat} {y:PV}:∀ {es:List PV} {i:Nat},(∀ e∈es,(Jad e).length=sz)→(Jad y).length=sz→i<es.length→Jbw (es.set i y)=Jay (Jbw es) (i * sz) (Jad y)
 | [],i,_,_,hi=>by simp at hi
 | x::es,0,h,hy,hi=>by
  have hx:=h x (by simp)
  simp only [List.set_cons_zero,JaW,Jay,Nat.zero_mul,List.take_zero,List.nil_append,Nat.zero_add]
  rw [hy,←hx,List.drop_left]
 | x::es,i + 1,h,hy,hi=>by
  have hx:=h x (by simp)
  have ih:=JeG (es:=es) (i:=i) (fun e he=>h e (by simp [he])) hy (by simp at hi; omega)
  simp only [List.set_cons_succ,JaW,ih,Jay]
  have e1:(i + 1) * sz=(Jad x).length + i * sz:=by rw [hx,Nat.add_mul]; omega
  have e2:(Jad x++Jbw es).take ((Jad x).length + i * sz)=Jad x++(Jbw es).take (i * sz):=List.take_length_add_append _
  have e3:(Jad x++Jbw es).drop ((Jad x).length + i * sz + (Jad y).length)=(Jbw es).drop (i * sz + (Jad y).length):=by
   rw [Nat.add_assoc,List.drop_append,List.drop_eq_nil_of_le (by omega),List.nil_append]
   congr 1; omega
  rw [e1,e2,e3]
  simp
theorem Jen {sz len:Nat}:∀ (l:List (Nat × PV)) (vs:List Value) (es:List PV) (cur:Array Value),RPs F w (l.map (·.2)) vs→RPs F w (Jbw es) cur.toList →
 (∀ e∈es,(Jad e).length=sz∧Jat (Jad e)=true)→es.length=len→JdS sz len l=true →
 ∃ cur',Instr.fill (fun i=>some (i * sz,sz)) cur ((l.map (·.1)).zip vs)=some cur'∧RPs F w (Jbw (JdY l es)) cur'.toList∧(∀ e∈JdY l es,(Jad e).length=sz∧Jat (Jad e)=true)
 | [],vs,es,cur,hv,hc,he,hl,hok=>⟨cur,rfl,hc,he⟩
 | (i,y)::l,vs,es,cur,hv,hc,he,hl,hok=>by
  cases hv with
  | cons hy hv =>
   rename_i v vs
   simp only [JdS,Bool.and_eq_true] at hok
   obtain ⟨⟨⟨c1,c2⟩,c3⟩,c4⟩:=hok
   have c1:i<len:=by simpa using c1
   have c2:=eqB c2
   have hcell:=Jdx hy c3
   have hvs:v.cells.size=sz:=by rw [←c2,hcell.length]; simp
   have hcl:cur.size=len * sz:=by
    have:=hc.length
    rw [JaR fun e h=>(he e h).1] at this
    simp at this; rw [←this,hl]
   have hle:i * sz + v.cells.size≤cur.size:=by
    rw [hcl,hvs]
    have:(i + 1) * sz≤len * sz:=Nat.mul_le_mul_right _ c1
    rw [Nat.add_mul] at this; omega
   have hone:=Jgv hle
   have hsp:=hc.splice hcell (i * sz)
   have e:v.cells.toList.length=v.cells.size:=by simp
   rw [e,←hone,←JeG (fun e h=>(he e h).1) c2 (by omega)] at hsp
   obtain ⟨cur',q1,q2,q3⟩:=Jen l vs (es.set i y) _ hv hsp (fun e h=>by
    rcases List.mem_or_eq_of_mem_set h with h | h
    · exact he e h
    · rw [h]; exact ⟨c2,c3⟩) (by simpa using hl) c4
   refine ⟨cur',?_,q2,q3⟩
   simp only [List.map_cons,List.zip_cons_cons,Instr.fill]
   rw [if_neg (by simp [hvs]; omega)]
   exact q1
theorem Jd7 {T E:TypeId} {len n:Nat} {i:TypeInfo} {z:Value} {parts:Array (Nat × Value)} {cur:Array Value} (hu:P.underlying T=some (.slice E)) (hn:Jal P E=some n)
 (hi:P.info? E=some i) (hz:i.zero=some z) (hl:len * n≤1000) (hf:Instr.fill (fun i=>some (i * n,n)) (madeCells z.cells (len * n)) parts.toList=some cur) :
 (Instr.buildSlice T len parts).run P w=.ok (.slice (some ⟨w.heap.size,0,none⟩) len len) (w.alloc (.cells cur E)):=by
 have hbig:¬ (len * n>2 ^ 24):=by omega
 have hz0:(zeroValue E).run P w=.ok z w:=by simp [zeroValue,typeInfo,hi,hz]
 unfold Instr.buildSlice
 simp only [Sem.run_bind,run_underlying hu,Result.andThen_ok,JaK hn]
 by_cases h0:len * n=0
 · have hq:(Array.range (len * n)).map (fun i=>(#[]:Array Value)[i % (#[]:Array Value).size]!)=madeCells z.cells (len * n):=by rw [h0]; simp [madeCells]
   simp only [if_neg hbig,if_pos h0,Sem.run_bind,Sem.run_pure,Result.andThen_ok,hq,hf]
   rfl
 · have hq:(Array.range (len * n)).map (fun i=>z.cells[i % z.cells.size]!)=madeCells z.cells (len * n):=rfl
   simp only [if_neg hbig,if_neg h0,Sem.run_bind,hz0,Sem.run_pure,Result.andThen_ok,hq,hf]
   rfl
theorem JeK {o:Oper} {T:TypeId} {len:Nat} {parts:Array (Nat × Operand)} {K:Out→Option R} {env:Env} (hd:a.defers=G.D) (h:Rel P G F Bs st a.tmps w) (ho:o.op=.buildSlice T len parts)
 (hk:opK P env (.buildSlice T len parts) o.type (opd st) K=some res):∃ out,K out=some res∧Eff P G st a w o out:=by
 simp only [opK] at hk
 split at hk
 · rename_i E ys us hE hv
   split at hk
   · rename_i ze n hz hn
     obtain ⟨hcond,hk⟩:=Jab hk
     simp only [Bool.and_eq_true] at hcond
     obtain ⟨⟨c1,c2⟩,c3⟩:=hcond
     have c2:len * n≤1000:=by simpa using c2
     obtain ⟨i,z,hi,hzz,hzs,hpos,hce,hle,h1⟩:=JgM hz
     have hin:i.size=n:=by simp [Jal,hi] at hn; exact hn
     obtain ⟨F',Bs',r1,r2,r3,r4⟩:=JbN (vs:=parts.toList.map fun q=>a.eval q.2) h (JdB h) (by simp) hv c1
     have hlen:ys.length=(parts.toList.map (·.1)).length:=by rw [r2.length]; simp
     have hze:∀ e∈List.replicate len ze,(Jad e).length=n∧Jat (Jad e)=true:=by
      intro e he
      rw [(List.mem_replicate.1 he).2]
      exact ⟨by rw [hce]; simp [hzs,hin],hle⟩
     have h0:RPs F' w (Jbw (List.replicate len ze)) (madeCells z.cells (len * n)).toList:=by
      rw [←hin,←hzs,Jcu z.cells len (by omega),Jgx,hce]
      exact Jf9 F' w z.cells.toList len
     obtain ⟨cur',q1,q2,q3⟩:=Jen _ _ _ _ (by rw [JeU hlen]; exact r2) h0 hze (by simp) c3
     rw [JeT hlen,Jgf] at q1
     have hcs:cur'.size=len * n:=by
      have:=q2.length
      rw [JaR fun e he=>(q3 e he).1,Jb1] at this
      simp at this; omega
     have hrun:(execOp a.eval o).run P w=.ok (.value (.slice (some ⟨w.heap.size,0,none⟩) len len)) (w.alloc (.cells cur' E)):=by
      have e:(parts.map fun (i,x)=>(i,a.eval x)).toList=parts.toList.map fun q=>(q.1,a.eval q.2):=by simp
      have hq:Instr.fill (fun i=>some (i * n,n)) (madeCells z.cells (len * n)) (parts.map fun (i,x)=>(i,a.eval x)).toList=some cur':=by rw [e]; exact q1
      simp only [execOp,ho,Sem.run_bind,Jd7 (Ja5 hE) hn hi hzz c2 hq,Result.andThen_ok]
      rfl
     refine ⟨_,hk,fun hf=>⟨_,_,.inl hrun,JhY hd r1 hi hzz hzs hpos (n:=len) (by rw [List.take_of_length_le (by simp [hcs,hin])]; exact q2) (by rw [hin]; exact q3) (by rw [Jb1]; simp) (by rw [hcs,hin]) (Nat.le_refl _) ?_ hf⟩⟩
     have:len * 1≤len * n:=Nat.mul_le_mul_left _ (by omega)
     simp only [maxLen]; omega
   · cases hk
 · cases hk
end
end Go.Proofs.YtgglhmfncoeffaaGreatDoor.Th
set_option linter.unusedVariables false
set_option linter.unusedSimpArgs false
namespace Go.Proofs.YtgglhmfncoeffaaGreatDoor.Th
open Go
variable {R:Type} {res:R}
section
variable {P:Program} {G:Gd} {F:Nat→Prop} {Bs:Nat→List Nat} {st:St} {a:Act} {w:World}
theorem Jbu {T T':TypeId} {g o n:Nat} {v:Value} {cur:Array Value} {fz:Nat × Nat} (hs:Jal P T=some n) (hv:v.cells.size=n) (hg:w.heap[g]? = some (.cells cur T' fz))
 (hle:o + n≤cur.size) (h1:∀ x∈v.cells.toList,x.oneCell'=true) (hfz:∃ size,Jja size cur fz:=by exact ⟨0,.inl rfl⟩) :
 (Instr.storeAt T (.pointer (some ⟨g,o,none⟩)) v).run P w=.ok () (w.setRow g (cur.toList.take o++v.cells.toList++cur.toList.drop (o + v.cells.toList.length)).toArray):=by
 obtain ⟨size,hfz⟩:=hfz
 have hst:=JaQ P g o T' size fz v.cells.toList 0 cur w hg hfz (by simp; omega) h1
 simp only [Instr.storeAt,Instr.sureAddr,storeVar,Sem.run_bind,Sem.run_pure,Result.andThen_ok,JaK hs,hv,ne_eq,not_true_eq_false,if_false]
 simpa using hst
theorem Rel.storeBox (h:Rel P G F Bs st a.tmps w) {s off:Nat} {T:TypeId} {cs new:List SV} {vs:List Value} {Bn:List Nat} (hs:st.fr s=.bx T cs) (hnew:RSs P F w new vs Bn)
 (h1:∀ x∈vs,x.oneCell'=true) (hle:off + new.length≤cs.length) (hBn:∀ b∈Bn,(∀ i,b∉Bs i)∧¬ F b∧(G.W.heap.size≤b∨G.A b)∧b<w.heap.size) (hnd:Bn.Nodup) :
 ∃ b cur Bs',a.tmps.getD s undef=.pointer (some ⟨b,0,none⟩)∧w.heap[b]? = some (.cells cur T (0,0))∧cur.size=cs.length ∧
  Rel P G F Bs' (st.upS [(s,.bx T (cs.take off++new++cs.drop (off + new.length)))] [s]) a.tmps (w.setRow b (cur.toList.take off++vs++cur.toList.drop (off + vs.length)).toArray):=by
 obtain ⟨b,cur,B,e1,e2,e3,e4,e5⟩:=h.box_inv hs
 obtain ⟨B1,B2,B3,rfl,g1,g2,g3⟩:=Jdu e3 off new.length
 have hsn:=h.nd s
 rw [e5] at hsn
 obtain ⟨n1,n2,n3⟩:=Jh7 hsn
 have hbs:b∈Bs s:=by rw [e5]; simp
 have hbF:¬ F b:=h.nf s b hbs
 have hm1:∀ x∈B1,x∈Bs s:=fun x hx=>by rw [e5]; simp [hx]
 have hm3:∀ x∈B3,x∈Bs s:=fun x hx=>by rw [e5]; simp [hx]
 have hb13:b∉B1++B3:=(List.nodup_cons.1 n1).1
 have hbn:b∉Bn:=fun q=>(hBn b q).1 s hbs
 obtain ⟨C,hC⟩:∃ C,C=(cur.toList.take off++vs++cur.toList.drop (off + vs.length)).toArray:=⟨_,rfl⟩
 have hoth:∀ x,x≠b→(w.setRow b C).heap[x]? = w.heap[x]? := fun x hx=>setRow_other w b x C hx
 have hvl:vs.length=new.length:=hnew.length.symm
 have mono:∀ {l:List SV} {v:List Value} {B:List Nat},RSs P F w l v B→b∉B→RSs P F (w.setRow b C) l v B:=fun hr hb =>
  hr.mono (fun _ q=>q) fun x hx=>hoth x fun e=>by subst e; exact hx.elim hbF hb
 have hcells:RSs P F (w.setRow b C) (cs.take off++new++cs.drop (off + new.length)) C.toList (B1++(Bn++B3)):=by
  have:=(mono g1 fun q=>hb13 (by simp [q])).join ((mono hnew hbn).join (mono g3 fun q=>hb13 (by simp [q])))
  have hCl:C.toList=cur.toList.take off++(vs++cur.toList.drop (off + new.length)):=by rw [hC,hvl]; simp
  rw [hCl,List.append_assoc]
  exact this
 have hone:∀ x∈C.toList,x.oneCell'=true:=by
  intro x hx
  rw [hC] at hx
  simp only [List.mem_append] at hx
  rcases hx with (hx | hx) | hx
  · exact e4 x (List.mem_of_mem_take hx)
  · exact h1 x hx
  · exact e4 x (List.mem_of_mem_drop hx)
 refine ⟨b,cur,upB Bs s (b::(B1++(Bn++B3))),e1,e2,by have:=e3.length; simp at this; omega,?_⟩
 rw [←hC]
 have hsz:(w.setRow b C).heap.size=w.heap.size:=by simp
 refine h.turn (drop:=[s]) (F':=F) (w':=w.setRow b C) (by rw [e1]; exact .bx (setRow_heap w b cur C T _ e2) hcells hone) ?_ ?_ (fun _ q=>q) (fun _ q=>.inl q) ?_
  (fun x _ hx=>hoth x fun e=>hx (by rw [e]; exact hbs)) (by omega) ⟨rfl,rfl,rfl⟩ (fun _ _ _ _ _=>.inl (by simp)) (fun _ _ _=>.inl (by simp))
 · intro x hx
   rcases List.mem_cons.1 hx with rfl | hx
   · exact .inl hbs
   · rcases List.mem_append.1 hx with hx | hx
     · exact .inl (hm1 x hx)
     · rcases List.mem_append.1 hx with hx | hx
       · obtain ⟨q1,q2,q3,q4⟩:=hBn x hx
         exact .inr ⟨fun ⟨i,hi⟩=>q1 i hi,q3,by omega⟩
       · exact .inl (hm3 x hx)
 · have n1':=List.nodup_cons.1 n1
   have n13:=List.nodup_append.1 n1'.2
   refine List.nodup_cons.2 ⟨fun q=>?_,List.nodup_append.2 ⟨n13.1,List.nodup_append.2 ⟨hnd,n13.2.1,?_⟩,?_⟩⟩
   · rcases List.mem_append.1 q with q | q
     · exact n1'.1 (by simp [q])
     · rcases List.mem_append.1 q with q | q
       · exact hbn q
       · exact n1'.1 (by simp [q])
   · intro x hx y hy e
     subst e
     exact (hBn x hx).1 s (hm3 x hy)
   · intro x hx y hy e
     subst e
     rcases List.mem_append.1 hy with q | q
     · exact (hBn x q).1 s (hm1 x hx)
     · exact n13.2.2 x hx x q rfl
 · intro x hx
   rcases List.mem_cons.1 hx with rfl | hx
   · exact hbF
   · rcases List.mem_append.1 hx with hx | hx
     · exact h.nf s x (hm1 x hx)
     · rcases List.mem_append.1 hx with hx | hx
       · exact (hBn x hx).2.1
       · exact h.nf s x (hm3 x hx)
theorem JeO {α:Type} {l m r ys:List α} {k off:Nat} (hk:k≤l.length) (h:l.drop k=m++r) (hle:off + ys.length≤m.length) :
 l.take k++(m.take off++ys++m.drop (off + ys.length))++l.drop (k + m.length)=l.take (k + off)++ys++l.drop (k + off + ys.length):=by
 have hl:l=l.take k++(m++r):=by rw [←h,List.take_append_drop]
 have hkl:(l.take k).length=k:=by rw [List.length_take]; omega
 generalize l.take k=p at hl hkl
 subst hl
 subst hkl
 have e1:(p++(m++r)).drop (p.length + m.length)=r:=by rw [←List.drop_drop,List.drop_left,List.drop_left]
 have e2:(p++(m++r)).take (p.length + off)=p++m.take off:=by
  rw [List.take_length_add_append]
  congr 1
  rw [List.take_append_of_le_length (by omega)]
 have e3:(p++(m++r)).drop (p.length + off + ys.length)=m.drop (off + ys.length)++r:=by
  rw [Nat.add_assoc,←List.drop_drop,List.drop_left,List.drop_append_of_le_length hle]
 rw [e1,e2,e3]
 simp
theorem Jgd {α:Type} {l vs:List α} {o n:Nat} (h:o + vs.length≤n) (hn:n≤l.length) :
 (l.take o++vs++l.drop (o + vs.length)).take n=(l.take n).take o++vs++(l.take n).drop (o + vs.length):=by
 have h1:(l.take o).length=o:=by rw [List.length_take]; omega
 rw [List.take_take,Nat.min_eq_left (by omega),List.drop_take]
 rw [show n=(l.take o++vs).length + (n - (o + vs.length)) by rw [List.length_append,h1]; omega,List.take_length_add_append]
 congr 2
 rw [List.length_append,h1]; omega
theorem Rel.storeEl (h:Rel P G F Bs st a.tmps w) {s:Nat} {cx:Option (Nat × TypeId × List SV)} {T:TypeId} {es:List PV} {g n cap i off sz:Nat} {e e':PV} {new:List PV} {vs:List Value}
 (hp:Ja8 st.fr a.tmps w s cx T es (.slice (some ⟨g,0,none⟩) n cap)) (hi:es[i]? = some e) (hsz:Jal P T=some sz) (hnew:RPs F w new vs) (hl:Jat new=true)
 (hle:off + new.length≤(Jad e).length) (he':Jad e'=Jay (Jad e) off new) :
 ∃ cur fz Bs',w.heap[g]? = some (.cells cur T fz)∧Jja sz cur fz∧i * sz + off + new.length≤cur.size ∧
  Rel P G F Bs' (st.upS [Jaq s cx (.own T (es.set i e'))] []) a.tmps (w.setRow g (cur.toList.take (i * sz + off)++vs++cur.toList.drop (i * sz + off + vs.length)).toArray) ∧
  (∀ i b,b∈Bs' i→b∈Bs i):=by
 have hpl:=h.place hp
 have hrs:=hpl.1
 cases hrs with
 | own q1 q2 q3 q4 q5 q6 q7 =>
  rename_i xs inf z
  have hs:inf.size=sz:=by simp [Jal,q1] at hsz; exact hsz
  rw [hs] at q3 q4 q5 q7
  have hall:∀ e∈es,(Jad e).length=sz:=fun e he=>(q7 e he).1
  rcases q5.2 with ⟨q,_⟩ | ⟨g',cap',cur,fz,q,hfz,hg,hnc,hcm,hcs,htake⟩
  · simp at q
  · simp only [Value.slice.injEq,Option.some.injEq,Addr.mk.injEq,and_true,true_and] at q
    obtain ⟨rfl,rfl,rfl⟩:=q
    have hilt:=JcQ hi
    have he:=q7 e (List.mem_of_getElem? hi)
    obtain ⟨rest,hr⟩:=JcL hall hi
    have hfl:=JaR hall
    have hvl:vs.length=new.length:=hnew.length.symm
    have hisz:i * sz + sz≤es.length * sz:=by
     have:(i + 1) * sz≤es.length * sz:=Nat.mul_le_mul_right _ hilt
     rwa [Nat.add_mul,Nat.one_mul] at this
    have hcap:es.length * sz≤cap * sz:=Nat.mul_le_mul_right _ hnc
    have hlen':(Jad e').length=sz:=by
     rw [he']; simp [Jay]; omega
    have hflat:Jbw (es.set i e')=Jay (Jbw es) (i * sz + off) new:=by
     rw [JeG hall hlen' hilt,he']
     have:=JeO (l:=Jbw es) (k:=i * sz) (off:=off) (ys:=new) (by rw [hfl]; omega) hr hle
     unfold Jay
     rw [←this]
     congr 2
     simp; omega
    obtain ⟨C,hC⟩:∃ C,C=(cur.toList.take (i * sz + off)++vs++cur.toList.drop (i * sz + off + vs.length)).toArray:=⟨_,rfl⟩
    have hCsize:C.size=cap * sz:=by
     rw [hC]; simp; omega
    have hoth:∀ x,x≠g→(w.setRow g C).heap[x]? = w.heap[x]? := fun x hx=>setRow_other w g x C hx
    have hgs:g∈Bs s:=hpl.2 g (by simp [blk,Value.ownBlock])
    have hgF:¬ F g:=h.nf s g hgs
    have hrel:=q6.splice hnew (i * sz + off)
    rw [←hflat] at hrel
    have hrow:ownsG (w.setRow g C) T sz (.slice (some ⟨g,0,none⟩) es.length cap) (es.set i e').length (xs.take (i * sz + off)++vs++xs.drop (i * sz + off + vs.length)):=by
     refine ⟨?_,.inr ⟨g,cap,C,fz,by simp,by simp only [Jja,hCsize,←hcs]; exact hfz,setRow_heap w g cur C T _ hg,by simpa using hnc,hcm,hCsize,?_⟩⟩
     · have:=hrel.length
       rw [←this,JaR (sz:=sz) fun x hx=>?_]
       rcases List.mem_or_eq_of_mem_set hx with hx | hx
       · exact hall x hx
       · rw [hx]; exact hlen'
     · rw [hC,List.length_set,←htake]
       have:=Jgd (l:=cur.toList) (vs:=vs) (o:=i * sz + off) (n:=es.length * sz) (by omega) (by simp [hcs]; omega)
       simpa using this
    have hnew':RS P F (w.setRow g C) (.own T (es.set i e')) (.slice (some ⟨g,0,none⟩) es.length cap) [g]:=by
     refine RS.own q1 q2 (by rw [hs]; exact q3) (by rw [hs]; exact q4) (by rw [hs]; exact hrow) (hrel.mono (fun _ q=>q) fun b hb=>hoth b fun e=>hgF (by rw [←e]; exact hb)) ?_
     intro x hx
     rw [hs]
     rcases List.mem_or_eq_of_mem_set hx with hx | hx
     · exact q7 x hx
     · rw [hx]; exact ⟨hlen',by rw [he']; exact Jch _ he.2 hl⟩
    have hsz1:(w.setRow g C).heap.size=w.heap.size:=by simp
    obtain ⟨Bs',r1,r2,r3⟩:=h.turnPl hp (F':=F) hnew' (by simp [blk,Value.ownBlock]) (by simp) (fun _ q=>q) (fun _ q=>.inl q) (by simpa using hgF)
     (fun b _ hb=>hoth b fun e=>hb (by simp [blk,Value.ownBlock,e])) (by omega) ⟨rfl,rfl,rfl⟩ (by simp)
    exact ⟨cur,fz,Bs',hg,hfz,by rw [hcs]; omega,by rw [←hC]; exact r1,r2⟩
theorem Jiw {cs:List SV} {off:Nat} {x:SV} (h:off<cs.length):cs.set off x=cs.take off++[x]++cs.drop (off + [x].length):=by
 rw [List.set_eq_take_append_cons_drop,if_pos h]
 simp
theorem JbL {d:Option Nat} {us:List (Nat × SV)} {drop:List Nat} {c:Value} {w':World} (hd:a.defers=G.D) (h:Rel P G F Bs (st.upS us drop) a.tmps w') :
 (⟨.dead,none,us,drop⟩:Out).fits G.N d=true→SRel P G (st.put d ⟨.dead,none,us,drop⟩) (a.put d c) w' :=
 Jar hd h (.dead _)
theorem JaX {o:Oper} {T:TypeId} {x y:Operand} {w':World} (ho:o.op=.store T x y) (hr:(Instr.storeAt T (a.eval x) (a.eval y)).run P w=.ok () w'):(execOp a.eval o).run P w=.ok .skip w':=by
 have hex:execOp a.eval o=(do Instr.storeAt T (a.eval x) (a.eval y); pure .skip):=by unfold execOp; rw [ho]
 rw [hex,Sem.run_bind,hr]; rfl
theorem Jge (fr:Fr) {s t:Nat} (x y:SV) (h:s≠t):JaL fr [(s,x),(t,y)]=JaL fr [(t,y),(s,x)]:=by
 funext i
 simp only [JaL]
 by_cases h1:i=s
 · subst h1
   rw [Jau _ _ h,JaT,JaT]
 · by_cases h2:i=t
   · subst h2
     rw [JaT,Jau _ _ h1,JaT]
   · rw [Jau _ _ h2,Jau _ _ h1,Jau _ _ h1,Jau _ _ h2]
theorem JeS (st:St) {p q:Nat × SV} (dr:List Nat) (h:p.1≠q.1):st.upS [p,q] dr=st.upS [q,p] dr:=by
 obtain ⟨s,x⟩:=p
 obtain ⟨t,y⟩:=q
 simp only [St.upS,Jge st.fr x y h]
theorem JkJ {i n:Nat} (h:Nat.blt i n=true):i<n:=by simpa using h
theorem JgT {i n:Nat} (h:Nat.ble i n=true):i≤n:=by simpa using h
theorem Jii {o:Oper} {T:TypeId} {x y:Operand} {K:Out→Option R} (hd:a.defers=G.D) (h:Rel P G F Bs st a.tmps w) (ho:o.op=.store T x y) (hs1:Jal P T=some 1)
 (hk:JeQ P (opd st x) y (opd st y) K=some res):∃ out,K out=some res∧Eff P G st a w o out:=by
 have hrx:=Jag h x
 have hry:=Jag h y
 unfold JeQ at hk
 split at hk
 · rename_i s off Tb cs hx
   rw [hx] at hrx
   obtain ⟨h1,b,h2,h3⟩:=hrx
   obtain ⟨hlt,hk1⟩:=Jab hk
   have hlt:=JkJ hlt
   clear hk
   have one:∀ (F1:Nat→Prop) (Bs1:Nat→List Nat) (us:List (Nat × SV)) (z:SV) (Bz:List Nat),Rel P G F1 Bs1 (st.upS us []) a.tmps w→(st.upS us []).fr s=.bx Tb cs→RS P F1 w z (a.eval y) Bz →
    (a.eval y).oneCell'=true→(∀ b∈Bz,(∀ i,b∉Bs1 i)∧¬ F1 b∧(G.W.heap.size≤b∨G.A b)∧b<w.heap.size)→Bz.Nodup→(∀ p∈us,p.1≠s)→us.length≤1 →
    K ⟨.dead,none,(s,.bx Tb (cs.set off z))::us,[s]⟩=some res→∃ out,K out=some res∧Eff P G st a w o out:=by
    intro F1 Bs1 us z Bz hrel hfr hz hone hBz hnd hus hul hk
    have hcl:(a.eval y).cells=#[a.eval y]:=JdU hone
    obtain ⟨b',cur,Bs',g1,g2,g3,g4⟩:=hrel.storeBox (off:=off) (new:=[z]) (vs:=[a.eval y]) hfr (by have:=RSs.cons (P:=P) hz .nil; rw [List.append_nil] at this; exact this)
     (by simp [hone]) (by simp; omega) hBz hnd
    rw [h2] at g1; cases g1
    rw [←Jiw hlt,Jb2] at g4
    have hsw:us++[(s,.bx Tb (cs.set off z))]=us++[(s,.bx Tb (cs.set off z))]:=rfl
    have g5:Rel P G F1 Bs' (st.upS ((s,.bx Tb (cs.set off z))::us) [s]) a.tmps (w.setRow b (cur.toList.take off++[a.eval y]++cur.toList.drop (off + [a.eval y].length)).toArray):=by
     cases us with
     | nil=>exact g4
     | cons p l =>
      have hl:l=[]:=by cases l with | nil=>rfl | cons _ _=>simp at hul
      subst hl
      rw [JeS st [s] (by exact (hus p (by simp)).symm)]
      exact g4
    have hst:=Jbu (P:=P) (w:=w) (T':=Tb) (o:=off) (v:=a.eval y) hs1 (by rw [hcl]; rfl) g2 (by omega) (by rw [hcl]; simp [hone])
    rw [hcl] at hst
    rw [←h3] at hst
    exact ⟨_,hk,fun hf=>⟨undef,_,.inr ⟨JaX ho hst,rfl⟩,JbL hd g5 hf⟩⟩
   split at hk1
   · rename_i z hy
     rw [hy] at hry
     obtain ⟨hl,hk2⟩:=Jab hk1
     exact one F Bs [] (.p z) [] (by rw [Jak]; exact h) h1 (.p hry) (Jdp hry hl) (by simp) (by simp) (by simp) (by simp) hk2
   · rename_i hy
     rw [hy] at hry
     have hv:a.eval y=.slice none 0 0:=hry
     exact one F Bs [] .nl [] (by rw [Jak]; exact h) h1 (by rw [hv]; exact .nl) (by rw [hv]; rfl) (by simp) (by simp) (by simp) (by simp) hk1
   · rename_i s2 cx2 T2 es2 hy
     rw [hy] at hry
     have hpl:=h.place hry
     have hone:(a.eval y).oneCell'=true:=by
      rcases Jci hpl.1 with ⟨e,_,_⟩ | ⟨g,cap,e,_,_,_⟩ <;> rw [e] <;> rfl
     cases hne:Nat.beq s2 s with
     | true=>rw [hne] at hk1; cases hk1
     | false =>
      rw [hne,cond_false] at hk1
      have hne:=neB hne
      cases hdi:Jax y s2 cx2 with
      | true =>
       rw [hdi] at hk1
       obtain ⟨rfl,rfl⟩:=Jb hdi
       obtain ⟨g1,g2⟩:=h.own_inv hry.1
       have hev:a.eval (.tmp s2)=a.tmps.getD s2 undef:=rfl
       refine one F (upB Bs s2 []) [(s2,.dead)] (.own T2 es2) (Bs s2) (h.empty s2) ?_ g1 hone (fun b hb=>⟨fun i=>?_,h.nf s2 b hb,h.nw s2 b hb,h.lt s2 b hb⟩) (h.nd s2) (by simpa using hne) (by simp) hk1
       · show Jd8 st.fr s2 .dead s=_
         rw [Jau _ _ (Ne.symm hne)]; exact h1
       · by_cases hi:i=s2
         · subst hi; rw [Jaj]; simp
         · rw [Jah _ _ hi]; exact h.dj s2 i b (Ne.symm hi) hb
      | false =>
       rw [hdi] at hk1
       obtain ⟨F',Bs',r1,r2,r3,r4⟩:=Jbp h hry
       refine one F' Bs' [Jaq s2 cx2 (.p (.sh es2))] (.p (.sh es2)) [] r1 ?_ (.p r2) hone (by simp) (by simp) (by simpa [JaD] using hne) (by simp) hk1
       show JaL st.fr [Jaq s2 cx2 (.p (.sh es2))] s=_
       rw [Jap _ _ _ (by simpa [JaD] using Ne.symm hne)]; exact h1
   · rename_i s2 cx2 d2 ks vs hy
     rw [hy] at hry
     have hpl:=h.placeX rfl hry
     have hone:(a.eval y).oneCell'=true:=by
      generalize a.eval y=c at hpl
      cases hpl.1; rfl
     cases hne:Nat.beq s2 s with
     | true=>rw [hne] at hk1; cases hk1
     | false =>
      rw [hne,cond_false] at hk1
      have hne:=neB hne
      cases hdi:Jax y s2 cx2 with
      | true =>
       rw [hdi] at hk1
       obtain ⟨rfl,rfl⟩:=Jb hdi
       have g1:=h.sl s2
       rw [hry.1] at g1
       have hev:a.eval (.tmp s2)=a.tmps.getD s2 undef:=rfl
       refine one F (upB Bs s2 []) [(s2,.dead)] (.mp d2 ks vs) (Bs s2) (h.empty s2) ?_ g1 hone (fun b hb=>⟨fun i=>?_,h.nf s2 b hb,h.nw s2 b hb,h.lt s2 b hb⟩) (h.nd s2) (by simpa using hne) (by simp) hk1
       · show Jd8 st.fr s2 .dead s=_
         rw [Jau _ _ (Ne.symm hne)]; exact h1
       · by_cases hi:i=s2
         · subst hi; rw [Jaj]; simp
         · rw [Jah _ _ hi]; exact h.dj s2 i b (Ne.symm hi) hb
      | false =>
       rw [hdi] at hk1
       obtain ⟨F',Bs',r1,r2,r3,r4⟩:=JdH h hry
       refine one F' Bs' [Jaq s2 cx2 (.p (.fm d2 ks vs))] (.p (.fm d2 ks vs)) [] r1 ?_ (.p r2) hone (by simp) (by simp) (by simpa [JaD] using hne) (by simp) hk1
       show JaL st.fr [Jaq s2 cx2 (.p (.fm d2 ks vs))] s=_
       rw [Jap _ _ _ (by simpa [JaD] using Ne.symm hne)]; exact h1
   · cases hk1
 · rename_i s cx T' es i off hx
   rw [hx] at hrx
   obtain ⟨g,n,cap,sz,h1,h2,h3,h4⟩:=hrx
   have hn:=Jgs h h1
   have hget:=JbS (d:=.v (.bool false)) (by omega:i<es.length)
   obtain ⟨xs,k1,k2,k3,k4⟩:=Jiq (h.place h1).1 h3 hget
   have one:∀ (F1:Nat→Prop) (Bs1:Nat→List Nat) (us:List (Nat × SV)) (z:PV),Rel P G F1 Bs1 (st.upS us []) a.tmps w→Ja8 (st.upS us []).fr a.tmps w s cx T' es (.slice (some ⟨g,0,none⟩) n cap) →
    RP F1 w z (a.eval y)→(a.eval y).oneCell'=true→(∀ p∈us,p.1≠s)→us.length≤1 →
    JfE P T' (es.getD i (.v (.bool false))) (fun ys=>bif Nat.blt off ys.length then K ⟨.dead,none,Jaq s cx (.own T' (es.set i (mkE (Jai P T') (ys.set off z))))::us,[]⟩ else none)=some res →
    ∃ out,K out=some res∧Eff P G st a w o out:=by
    intro F1 Bs1 us z hrel hp hz hone hus hul hk
    obtain ⟨hk,hl,hm,hna⟩:=Jbm hk
    obtain ⟨hlt,hk⟩:=Jab hk
    have hlt:=JkJ hlt
    have hcl:(a.eval y).cells=#[a.eval y]:=JdU hone
    have hzl:z.leaf=true:=JbT hz hone
    have hset:(Jad (es.getD i (.v (.bool false)))).set off z=Jay (Jad (es.getD i (.v (.bool false)))) off [z]:=by
     unfold Jay
     rw [List.set_eq_take_append_cons_drop,if_pos hlt]
     simp
    have hce:Jad (mkE (Jai P T') ((Jad (es.getD i (.v (.bool false)))).set off z))=Jay (Jad (es.getD i (.v (.bool false)))) off [z]:=by
     cases hag:Jai P T' with
     | true=>rw [←hset]; rfl
     | false =>
      have hlf:=Jba (hna hag)
      rw [hlf] at hlt ⊢
      have h0:off=0:=by simp at hlt; exact hlt
      subst h0
      simp [mkE,Jay,Jba hzl]
    obtain ⟨cur,fz,Bs',g1,gf,g2,g3,g4⟩:=hrel.storeEl (off:=off) (new:=[z]) (vs:=[a.eval y]) hp hget h3 (.cons hz .nil) (by simp [Jat,hzl]) (by show off + 1≤_; omega) hce
    rw [Jb2] at g3
    have g5:Rel P G F1 Bs' (st.upS (Jaq s cx (.own T' (es.set i (mkE (Jai P T') ((Jad (es.getD i (.v (.bool false)))).set off z))))::us) []) a.tmps
     (w.setRow g (cur.toList.take (i * sz + off)++[a.eval y]++cur.toList.drop (i * sz + off + [a.eval y].length)).toArray):=by
     cases us with
     | nil=>exact g3
     | cons p l =>
      have hl:l=[]:=by cases l with | nil=>rfl | cons _ _=>simp at hul
      subst hl
      rw [JeS st [] (by rw [JaD]; exact (hus p (by simp)).symm)]
      exact g3
    have hst:=Jbu (P:=P) (w:=w) (T':=T') (o:=i * sz + off) (v:=a.eval y) hs1 (by rw [hcl]; rfl) g1 (by simpa using g2) (by rw [hcl]; simp [hone]) ⟨_,gf⟩
    rw [hcl] at hst
    rw [←h4] at hst
    exact ⟨_,hk,fun hf=>⟨undef,_,.inr ⟨JaX ho hst,rfl⟩,JbL hd g5 hf⟩⟩
   split at hk
   · rename_i z hy
     rw [hy] at hry
     obtain ⟨hl,hk⟩:=Jab hk
     exact one F Bs [] z (by rw [Jak]; exact h) h1 hry (Jdp hry hl) (by simp) (by simp) hk
   · rename_i hy
     rw [hy] at hry
     have hv:a.eval y=.slice none 0 0:=hry
     exact one F Bs [] (.sh []) (by rw [Jak]; exact h) h1 (by rw [hv]; exact Jcs F w) (by rw [hv]; rfl) (by simp) (by simp) hk
   · rename_i s2 cx2 T2 es2 hy
     rw [hy] at hry
     have hpl:=h.place hry
     have hone:(a.eval y).oneCell'=true:=by
      rcases Jci hpl.1 with ⟨e,_,_⟩ | ⟨g,cap,e,_,_,_⟩ <;> rw [e] <;> rfl
     cases hne:Nat.beq s2 s with
     | true=>rw [hne] at hk; cases hk
     | false =>
      rw [hne,cond_false] at hk
      have hne:=neB hne
      obtain ⟨F',Bs',r1,r2,r3,r4⟩:=Jbp h hry
      refine one F' Bs' [Jaq s2 cx2 (.p (.sh es2))] (.sh es2) r1 ?_ r2 hone (by simpa [JaD] using hne) (by simp) hk
      have hfr:(st.upS [Jaq s2 cx2 (.p (.sh es2))] []).fr s=st.fr s:=Jap _ _ _ (by simpa [JaD] using Ne.symm hne)
      cases cx with
      | none=>exact ⟨by rw [hfr]; exact h1.1,h1.2⟩
      | some q=>obtain ⟨j,Tb,cs⟩:=q; exact ⟨by rw [hfr]; exact h1.1,h1.2⟩
   · cases hk
 · cases hk
end
end Go.Proofs.YtgglhmfncoeffaaGreatDoor.Th
set_option linter.unusedVariables false
set_option linter.unusedSimpArgs false
namespace Go.Proofs.YtgglhmfncoeffaaGreatDoor.Th
open Go
variable {R:Type} {res:R}
section
variable {P:Program} {G:Gd} {F:Nat→Prop} {Bs:Nat→List Nat} {st:St} {a:Act} {w:World}
theorem Jij {o:Oper} {T:TypeId} {x y:Operand} {n:Nat} {K:Out→Option R} (hd:a.defers=G.D) (h:Rel P G F Bs st a.tmps w) (ho:o.op=.store T x y) (hsn:Jal P T=some n)
 (hk:JeR P n (opd st x) (opd st y) K=some res):∃ out,K out=some res∧Eff P G st a w o out:=by
 have hrx:=Jag h x
 have hry:=Jag h y
 unfold JeR at hk
 split at hk
 · rename_i zs hy
   rw [hy] at hry
   obtain ⟨hc,hk⟩:=Jab hk
   simp only [Bool.and_eq_true] at hc
   have hzn:=eqB hc.1
   have hzl:=hc.2
   have hry':RP F w (.agg zs) (a.eval y):=hry
   obtain ⟨vs,hv,hvs⟩:∃ vs:List Value,a.eval y=.agg vs.toArray∧RPs F w zs vs:=by
    generalize a.eval y=c at hry'
    cases hry' with | agg p q=>exact ⟨_,rfl,p⟩
   have hvl:vs.length=n:=by rw [←hvs.length,hzn]
   have hone:∀ v∈vs,v.oneCell'=true:=Jcg hvs hzl
   have hcl:(a.eval y).cells.toList=vs:=by rw [hv]; rfl
   have hcz:(a.eval y).cells.size=n:=by rw [←hvl,←hcl]; simp
   split at hk
   · rename_i s off Tb cs hx
     rw [hx] at hrx
     obtain ⟨h1,b,h2,h3⟩:=hrx
     obtain ⟨hle,hk1⟩:=Jab hk
     have hle:=JgT hle
     obtain ⟨b',cur,Bs',g1,g2,g3,g4⟩:=h.storeBox (off:=off) (new:=zs.map .p) (vs:=vs) (Bn:=[]) h1 (RSs.pure hvs) hone (by simp; omega) (by simp) (by simp)
     rw [h2] at g1; cases g1
     have hsp:cs.take off++zs.map SV.p++cs.drop (off + (zs.map SV.p).length)=splice cs off zs:=by simp [splice]
     rw [hsp] at g4
     have hst:=Jbu (P:=P) (w:=w) (T':=Tb) (o:=off) (v:=a.eval y) hsn hcz g2 (by omega) (by rw [hcl]; exact hone)
     rw [hcl,←h3] at hst
     exact ⟨_,hk1,fun hf=>⟨undef,_,.inr ⟨JaX ho hst,rfl⟩,JbL hd g4 hf⟩⟩
   · rename_i s cx T' es i off hx
     rw [hx] at hrx
     obtain ⟨g,n',cap,sz,h1,h2,h3,h4⟩:=hrx
     have hn:=Jgs h h1
     have hget:=JbS (d:=.v (.bool false)) (by omega:i<es.length)
     obtain ⟨hk1,hl,hm,hna⟩:=Jbm hk
     obtain ⟨hle,hk2⟩:=Jab hk1
     have hle:=JgT hle
     have hce:Jad (mkE (Jai P T') (Jay (Jad (es.getD i (.v (.bool false)))) off zs))=Jay (Jad (es.getD i (.v (.bool false)))) off zs:=by
      cases hag:Jai P T' with
      | true=>rfl
      | false =>
       have hlf:=Jba (hna hag)
       rw [hlf] at hle ⊢
       have hls:(Jay [es.getD i (.v (.bool false))] off zs).length=1:=by
        simp [Jay]; simp at hle; omega
       obtain ⟨q,hq⟩:=List.length_eq_one_iff.1 hls
       have hql:q.leaf=true:=JaH (Jch (cs:=[es.getD i (.v (.bool false))]) off (by simp only [Jat,Bool.and_true]; exact hna hag) hzl) q (by rw [hq]; simp)
       rw [hq]
       exact Jba hql
     obtain ⟨cur,fz,Bs',g1,gf,g2,g3,g4⟩:=h.storeEl (off:=off) (new:=zs) (vs:=vs) h1 hget h3 hvs hzl (by rw [hzn]; exact hle) hce
     have hst:=Jbu (P:=P) (w:=w) (T':=T') (o:=i * sz + off) (v:=a.eval y) hsn hcz g1 (by omega) (by rw [hcl]; exact hone) ⟨_,gf⟩
     rw [hcl,←h4] at hst
     exact ⟨_,hk2,fun hf=>⟨undef,_,.inr ⟨JaX ho hst,rfl⟩,JbL hd g3 hf⟩⟩
   · cases hk
 · rename_i s2 ds hy
   rw [hy] at hry
   obtain ⟨hdn,hk⟩:=Jab hk
   have hdn:=eqB hdn
   split at hk
   · rename_i s off Tb cs hx
     rw [hx] at hrx
     obtain ⟨h1,b,h2,h3⟩:=hrx
     obtain ⟨hc,hk1⟩:=Jab hk
     simp only [Bool.and_eq_true,Bool.not_eq_true'] at hc
     have hne:=neB hc.1
     have hle:=JgT hc.2
     have hsl:=h.sl s2
     rw [hry.1,hry.2] at hsl
     obtain ⟨vs,hv,hvs,hone⟩:∃ vs:List Value,a.eval y=.agg vs.toArray∧RSs P F w ds vs (Bs s2)∧∀ x∈vs,x.oneCell'=true:=by
      generalize a.eval y=c at hsl
      generalize Bs s2=B at hsl
      cases hsl with | st p q=>exact ⟨_,rfl,p,q⟩
     have hvl:vs.length=n:=by rw [←hvs.length,hdn]
     have hcl:(a.eval y).cells.toList=vs:=by rw [hv]; rfl
     have hcz:(a.eval y).cells.size=n:=by rw [←hvl,←hcl]; simp
     have hfr:(st.upS [(s2,.dead)] []).fr s=.bx Tb cs:=by
      show Jd8 st.fr s2 .dead s=_
      rw [Jau _ _ (Ne.symm hne)]; exact h1
     obtain ⟨b',cur,Bs',g1,g2,g3,g4⟩:=(h.empty s2).storeBox (off:=off) (new:=ds) (vs:=vs) (Bn:=Bs s2) hfr hvs hone (by rw [hdn]; exact hle)
      (fun b hb=>⟨fun i=>by
        by_cases hi:i=s2
        · subst hi; rw [Jaj]; simp
        · rw [Jah _ _ hi]; exact h.dj s2 i b (Ne.symm hi) hb,h.nf s2 b hb,h.nw s2 b hb,h.lt s2 b hb⟩) (h.nd s2)
     rw [h2] at g1; cases g1
     rw [Jb2,hdn] at g4
     have g5:Rel P G F Bs' (st.upS [(s,.bx Tb (cs.take off++ds++cs.drop (off + n))),(s2,.dead)] [s]) a.tmps (w.setRow b (cur.toList.take off++vs++cur.toList.drop (off + vs.length)).toArray):=by
      rw [JeS st [s] (by exact (Ne.symm hne))]
      exact g4
     have hst:=Jbu (P:=P) (w:=w) (T':=Tb) (o:=off) (v:=a.eval y) hsn hcz g2 (by omega) (by rw [hcl]; exact hone)
     rw [hcl,←h3] at hst
     exact ⟨_,hk1,fun hf=>⟨undef,_,.inr ⟨JaX ho hst,rfl⟩,JbL hd g5 hf⟩⟩
   · cases hk
 · cases hk
theorem Jjs {o:Oper} {T:TypeId} {x y:Operand} {K:Out→Option R} {env:Env} (hd:a.defers=G.D) (h:Rel P G F Bs st a.tmps w) (ho:o.op=.store T x y)
 (hk:opK P env (.store T x y) o.type (opd st) K=some res):∃ out,K out=some res∧Eff P G st a w o out:=by
 simp only [opK] at hk
 cases hag:Jai P T with
 | true =>
  rw [hag] at hk
  simp only [cond_true] at hk
  split at hk
  · rename_i n hn; exact Jij hd h ho hn hk
  · cases hk
 | false =>
  rw [hag] at hk
  simp only [cond_false] at hk
  split at hk
  · rename_i n hn
    obtain ⟨h1,hk⟩:=Jab hk
    rw [eqB h1] at hn
    exact Jii hd h ho hn hk
  · cases hk
theorem Jbb {o:Oper} {b:Builtin} {args:Array Operand} {tys:Array TypeId} {v:Value} {w':World} (ho:o.op=.call { callee:=.builtin b,args:=args,argTypes:=tys })
 (hr:(builtin b tys o.type (args.map fun | .const _=>true | _=>false) (args.map a.eval)).run P w=.ok (.value v) w'):(execOp a.eval o).run P w=.ok (.value v) w':=by
 have hex:execOp a.eval o=(do let d ← resolve a.eval { callee:=.builtin b,args:=args,argTypes:=tys } o.type; invoke d.target d.args):=by unfold execOp; rw [ho]
 rw [hex]
 simp only [resolve,pure_bind,invoke]
 exact hr
theorem JdM {args:Array Operand} {l:List RV} (h:args.toList.map (opd st)=l):∀ {x y:RV},l=[x,y]→∃ u v,args=#[u,v]∧opd st u=x∧opd st v=y:=by
 intro x y e
 subst e
 obtain ⟨l⟩:=args
 match l,h with
 | [u,v],h=>simp at h; exact ⟨u,v,rfl,h.1,h.2⟩
theorem Jh0 {args:Array Operand} {x:RV} (h:args.toList.map (opd st)=[x]):∃ u,args=#[u]∧opd st u=x:=by
 obtain ⟨l⟩:=args
 match l,h with
 | [u],h=>simp at h; exact ⟨u,rfl,h⟩
theorem Jf2 {P:Program} {T:TypeId} {q:Option IntKind × TypeId} (h:Jg7 P T=some q):∃ kt E,P.underlying T=some (.map kt E)∧q.2=E ∧
 ((q.1=none∧P.underlying kt=some .string)∨∃ k,q.1=some k∧P.underlying kt=some (.int k)):=by
 unfold Jg7 at h
 split at h
 · rename_i K E hT
   split at h
   · rename_i hK; cases h; exact ⟨K,E,hT,rfl,.inl ⟨rfl,hK⟩⟩
   · rename_i k hK; cases h; exact ⟨K,E,hT,rfl,.inr ⟨k,rfl,hK⟩⟩
   · cases h
 · cases h
theorem JbM {P:Program} {w:World} {b:Nat} {es:Array MapEntry} {c:Nat} (h:w.heap[b]? = some (.map es c)):(getObj b).run P w=.ok (.map es c) w:=by
 simp [getObj,Sem.run,h]
theorem Jk3 {o:Oper} {args:Array Operand} {tys:Array TypeId} {x:RV} {K:Out→Option R} (hd:a.defers=G.D) (h:Rel P G F Bs st a.tmps w)
 (ho:o.op=.call { callee:=.builtin .len,args:=args,argTypes:=tys }) (hx:args.toList.map (opd st)=[x]) (hk:JkV x K=some res) (ht:JkW P tys.toList x=true) :
 ∃ out,K out=some res∧Eff P G st a w o out:=by
 obtain ⟨u,rfl,hu⟩:=Jh0 hx
 have hru:=Jag h u
 rw [hu] at hru
 have run:∀ v,(Builtin.len_ tys o.type #[a.eval u]).run P w=.ok v w→(execOp a.eval o).run P w=.ok (.value v) w:=by
  intro v hv
  refine Jbb ho ?_
  have e:#[u].map a.eval=#[a.eval u]:=by simp
  rw [e]
  simp [builtin,hv]
 unfold JkW at ht
 have tysl:∀ t r,tys.toList=t::r→tys[0]? = some t:=by
  intro t r ht
  obtain ⟨l⟩:=tys
  simp at ht; subst ht; rfl
 split at ht
 · rename_i t r htl
   have h0:=tysl t r htl
   unfold JkV at hk
   split at hk
   · rename_i s
     have e1:=Jbk hru
     simp only [] at ht
     have hus:P.underlying t=some .string:=by
      unfold JdJ at ht
      split at ht
      · assumption
      · cases ht
     exact ⟨_,hk,Jaa (run _ (by simp [Builtin.len_,h0,e1,run_underlying hus,goInt])) (JaE hd h (.v _))⟩
   · rename_i es
     simp only [] at ht
     unfold isSlice at ht
     cases hE:Jbc P t with
     | none=>rw [hE] at ht; cases ht
     | some E =>
      have hus:=Ja5 hE
      have hru':RP F w (.sh es) (a.eval u):=hru
      generalize hv:a.eval u=c at hru'
      cases hru' with
      | sh p1 p2 p3 p4 p5 p6 p7 =>
       rename_i xs ad n cap sz
       exact ⟨_,hk,Jaa (run _ (by simp [Builtin.len_,h0,hv,run_underlying hus,goInt,p5])) (JaE hd h (.v _))⟩
   · rename_i s cx T es
     simp only [] at ht
     unfold isSlice at ht
     cases hE:Jbc P t with
     | none=>rw [hE] at ht; cases ht
     | some E =>
      have hus:=Ja5 hE
      have hpl:=h.place hru
      rcases Jci hpl.1 with ⟨e,rfl,_⟩ | ⟨g,cap,e,_,_,_⟩
      · exact ⟨_,hk,Jaa (run _ (by simp [Builtin.len_,h0,e,run_underlying hus,goInt])) (JaE hd h (.v _))⟩
      · exact ⟨_,hk,Jaa (run _ (by simp [Builtin.len_,h0,e,run_underlying hus,goInt])) (JaE hd h (.v _))⟩
   · simp only [] at ht
     unfold isSlice at ht
     cases hE:Jbc P t with
     | none=>rw [hE] at ht; cases ht
     | some E =>
      have hus:=Ja5 hE
      have hv:a.eval u=.slice none 0 0:=hru
      exact ⟨_,hk,Jaa (run _ (by simp [Builtin.len_,h0,hv,run_underlying hus,goInt])) (JaE hd h (.v _))⟩
   · rename_i s cx d ks vs
     simp only [] at ht
     cases hm:Jg7 P t with
     | none=>rw [hm] at ht; cases ht
     | some q =>
      obtain ⟨kt,E,hus,_⟩:=Jf2 hm
      have hpl:=(h.placeX rfl hru).1
      generalize hv:a.eval u=c at hpl
      cases hpl with
      | mp h1 h2 h3 h4 h5 =>
       have hsz:ks.length=_:=h1.length
       rw [←h4.1,List.length_map] at hsz
       exact ⟨_,hk,Jaa (run _ (by simp [Builtin.len_,h0,hv,run_underlying hus,goInt,JbM h3,hsz])) (JaE hd h (.v _))⟩
   · cases hk
 · cases ht
theorem Jfu {o:Oper} {b:Builtin} {args:Array Operand} {tys:Array TypeId} {k:IntKind} {m n:Int} {K:Out→Option R} (hd:a.defers=G.D) (h:Rel P G F Bs st a.tmps w)
 (ho:o.op=.call { callee:=.builtin b,args:=args,argTypes:=tys }) (hx:args.toList.map (opd st)=[.pv (.v (.int k m)),.pv (.v (.int k n))]) (v:Int)
 (hv:((b=.min∧v=Jhv m n)∨(b=.max∧v=Jlf m n))) (hk:K (JaO (.v (.int k v)))=some res):∃ out,K out=some res∧Eff P G st a w o out:=by
 obtain ⟨x,y,rfl,h1,h2⟩:=JdM hx rfl
 have hrx:=Jag h x
 have hry:=Jag h y
 rw [h1] at hrx; rw [h2] at hry
 have e1:=Jbk hrx
 have e2:=Jbk hry
 have e:#[x,y].map a.eval=#[a.eval x,a.eval y]:=by simp
 refine ⟨_,hk,Jaa (Jbb ho ?_) (JaE hd h (.v _))⟩
 rw [e,e1,e2]
 rcases hv with ⟨rfl,rfl⟩ | ⟨rfl,rfl⟩
 · simp [builtin,Builtin.min_,Builtin.min2,Jhv]
 · simp [builtin,Builtin.max_,Builtin.max2,Jlf]
theorem Jg6 {args:Array Operand} {l:List RV} (h:args.toList.map (opd st)=l):∀ {x y z:RV},l=[x,y,z]→∃ u v t,args=#[u,v,t]∧opd st u=x∧opd st v=y∧opd st t=z:=by
 intro x y z hl
 subst hl
 cases args with
 | mk l =>
  match l,h with
  | [u,v,t],h=>simp at h; exact ⟨u,v,t,rfl,h.1,h.2.1,h.2.2⟩
theorem Jki {o:Oper} {args:Array Operand} {tys:Array TypeId} {k:IntKind} {m n q:Int} {K:Out→Option R} (hd:a.defers=G.D) (h:Rel P G F Bs st a.tmps w)
 (ho:o.op=.call { callee:=.builtin .min,args:=args,argTypes:=tys }) (hx:args.toList.map (opd st)=[.pv (.v (.int k m)),.pv (.v (.int k n)),.pv (.v (.int k q))])
 (hk:K (JaO (.v (.int k (Jhv (Jhv m n) q))))=some res):∃ out,K out=some res∧Eff P G st a w o out:=by
 obtain ⟨x,y,z,rfl,h1,h2,h3⟩:=Jg6 hx rfl
 have hrx:=Jag h x
 have hry:=Jag h y
 have hrz:=Jag h z
 rw [h1] at hrx; rw [h2] at hry; rw [h3] at hrz
 have e1:=Jbk hrx
 have e2:=Jbk hry
 have e3:=Jbk hrz
 have e:#[x,y,z].map a.eval=#[a.eval x,a.eval y,a.eval z]:=by simp
 refine ⟨_,hk,Jaa (Jbb ho ?_) (JaE hd h (.v _))⟩
 rw [e,e1,e2,e3]
 have e4:(Builtin.min_ tys o.type #[.int k m,.int k n,.int k q]).run P w=.ok (.int k (Jhv (Jhv m n) q)) w:=rfl
 simp only [builtin,Sem.run_bind,e4,Result.andThen_ok,Sem.run_pure]
end
end Go.Proofs.YtgglhmfncoeffaaGreatDoor.Th
set_option linter.unusedVariables false
set_option linter.unusedSimpArgs false
namespace Go.Proofs.YtgglhmfncoeffaaGreatDoor.Th
open Go
variable {R:Type} {res:R}
section
variable {P:Program} {G:Gd} {F:Nat→Prop} {Bs:Nat→List Nat} {st:St} {a:Act} {w:World}
def JkC (F:Nat→Prop) (w:World) (n:Nat) (es:List PV) (c:Value):Prop :=
 ∃ xs ad cap,c=.slice ad es.length cap∧RPs F w (Jbw es) xs∧(∀ e∈es,(Jad e).length=n∧Jat (Jad e)=true) ∧
  (xs=[]∨∃ A,ad=some A∧∀ j u,xs[j]? = some u→w.cell? (A.add j)=some u)
theorem Jh5 {n:Nat} {es:List PV} {c:Value} (h:RP F w (.sh es) c) (hs:Jht n es=true):JkC F w n es c:=by
 cases h with
 | sh h1 h2 h3 h4 h5 h6 h7 =>
  rename_i xs ad len cap sz
  subst h5
  refine ⟨xs,ad,cap,rfl,h1,fun e he=>?_,?_⟩
  · have:=h2 e he
    refine ⟨?_,this.2⟩
    cases es with
    | nil=>simp at he
    | cons x l =>
     have hx:=(h2 x (by simp)).1
     simp only [Jht] at hs
     rw [this.1,←hx]; exact eqB hs
  · rcases h4 with q | ⟨b,off,rfl,_,hc⟩
    · exact .inl q
    · exact .inr ⟨_,rfl,fun j u hj=>by rw [JbO]; exact hc j u hj⟩
theorem JgA {T:TypeId} {n:Nat} {es:List PV} {c:Value} {B:List Nat} (h:RS P F w (.own T es) c B) (hn:Jal P T=some n):JkC F w n es c:=by
 cases h with
 | own q1 q2 q3 q4 q5 q6 q7 =>
  rename_i xs inf z
  have hs:inf.size=n:=by simp [Jal,q1] at hn; exact hn
  rw [hs] at q5 q7
  rcases q5.2 with ⟨rfl,hl⟩ | ⟨g,cap,cur,fz,rfl,_,hg,hnc,hcm,hcs,htake⟩
  · have hes:es=[]:=List.length_eq_zero_iff.1 hl
    subst hes
    exact ⟨xs,none,0,rfl,q6,q7,.inl (by have:=q5.1; simpa using this)⟩
  · exact ⟨xs,_,cap,rfl,q6,q7,.inr ⟨_,rfl,q5.cells (g:=g) rfl⟩⟩
theorem Jdj (t ty e:TypeId) (i:TypeInfo) (ht:P.underlying t=some (.slice e)) (hi:P.info? e=some i)
 (g sLen sCap:Nat) (cur:Array Value) (fz:Nat × Nat) (hg:w.heap[g]? = some (.cells cur e fz)) (hfz:Jja i.size cur fz)
 (a:Addr) (m c:Nat) (news:List Value) (hl:news.length=m * i.size) (hnews:∀ j u,news[j]? = some u→w.cell? (a.add j)=some u) (h1:∀ u∈news,u.oneCell'=true)
 (hroom:sLen + m≤sCap) (hfit:sLen * i.size + news.length≤cur.size) :
 (Builtin.append_ #[t,t] ty #[.slice (some ⟨g,0,none⟩) sLen sCap,.slice (some a) m c]).run P w =
   .ok (.slice (some ⟨g,0,none⟩) (sLen + m) sCap) (w.setRow g (cur.toList.take (sLen * i.size)++news++cur.toList.drop (sLen * i.size + news.length)).toArray):=by
 have hf:=run_firstCells_some (P:=P) w i.size m a m c news hl hnews
 have hst:=JaQ P g (sLen * i.size) e i.size fz news 0 cur w hg hfz (by simpa using hfit) h1
 simp only [Nat.add_zero] at hst
 simp [Builtin.append_,run_underlying ht,sizeOf,typeInfo,hi,Builtin.lenOf,hroom,hf,Addr.add_lit,hst]
theorem Jb8 (t ty e:TypeId) (i:TypeInfo) (size:Nat) (ht:P.underlying t=some (.slice e)) (hi:P.info? e=some i)
 (v:Value) (n:Nat) (xs:List Value) (hown:ownsG w e size v n xs):(Builtin.append_ #[t,t] ty #[v,.slice none 0 0]).run P w=.ok v w:=by
 rcases hown.2 with ⟨rfl,rfl⟩ | ⟨g,cap,cur,fz,rfl,_,_,hnc,_⟩
 · simp [Builtin.append_,run_underlying ht,sizeOf,typeInfo,hi,Builtin.lenOf,Builtin.firstCells]
 · simp [Builtin.append_,run_underlying ht,sizeOf,typeInfo,hi,Builtin.lenOf,Builtin.firstCells,hnc,storeCells]
theorem JgQ {t ty E:TypeId} {i:TypeInfo} {z:Value} (ht:P.underlying t=some (.slice E)) (hi:P.info? E=some i) (hz:i.zero=some z) (hzs:z.cells.size=i.size) (hsz:0<i.size)
 {v:Value} {n m:Nat} {xs xs2:List Value} (hown:ownsG w E i.size v n xs) {ad:Option Addr} {cap2:Nat} (hl:xs2.length=m * i.size)
 (hnews:xs2=[]∨∃ A,ad=some A∧∀ j u,xs2[j]? = some u→w.cell? (A.add j)=some u) (h1:∀ u∈xs2,u.oneCell'=true) (h63:n + m≤maxLen) (hbytes:(n + m) * i.bytes≤140737488355328) :
 ∃ v' w',(Builtin.append_ #[t,t] ty #[v,.slice ad m cap2]).run P w=.ok v' w'∧ownsG w' E i.size v' (n + m) (xs++xs2)∧w.grownBy w' v.ownBlock ∧
  (∀ b∈blk v',b∈blk v∨w.heap.size≤b)∧(∀ b∈blk v',b<w'.heap.size):=by
 by_cases hm:m=0
 · subst hm
   have hx:xs2=[]:=List.length_eq_zero_iff.1 (by simpa using hl)
   subst hx
   have hrun:(Builtin.append_ #[t,t] ty #[v,.slice ad 0 cap2]).run P w=.ok v w:=by
    rcases hown.2 with ⟨rfl,rfl⟩ | ⟨g,cap,cur,fz,rfl,_,_,hnc,_⟩
    · cases ad <;> simp [Builtin.append_,run_underlying ht,sizeOf,typeInfo,hi,Builtin.lenOf,Builtin.firstCells,loadCells,loadCellsFrom]
    · cases ad <;> simp [Builtin.append_,run_underlying ht,sizeOf,typeInfo,hi,Builtin.lenOf,Builtin.firstCells,hnc,storeCells,loadCells,loadCellsFrom]
   refine ⟨v,w,hrun,by simpa using hown,⟨rfl,rfl,rfl,Nat.le_refl _,fun _ _ _=>rfl⟩,fun b hb=>.inl hb,fun b hb=>hown.lt b (by simpa [blk] using hb)⟩
 · have hne:xs2≠[]:=fun e=>by rw [e] at hl; have:=Nat.mul_pos (Nat.pos_of_ne_zero hm) hsz; simp at hl; omega
   obtain ⟨A,rfl,hA⟩:=hnews.resolve_left hne
   have hsmall:n + m≤9223372036854775807:=by simp only [maxLen] at h63; omega
   have hlen:(xs++xs2).length=(n + m) * i.size:=by rw [List.length_append,hown.1,hl,Nat.add_mul]
   have grown:∀ (old:Nat),old<n + m→∀ (row:Option Nat),
    ownsG (w.drew.alloc (.cells (xs.toArray++xs2.toArray++Builtin.zeroCells z.cells (grownCap w (n + m) old E - (n + m))) E)) E i.size
     (.slice (some ⟨w.heap.size,0,none⟩) (n + m) (grownCap w (n + m) old E)) (n + m) (xs++xs2) ∧
    w.grownBy (w.drew.alloc (.cells (xs.toArray++xs2.toArray++Builtin.zeroCells z.cells (grownCap w (n + m) old E - (n + m))) E)) row:=by
    intro old ho row
    have hge:=grownCap_ge w (n + m) old E
    have hcm:grownCap w (n + m) old E≤maxLen:=grownCap_le_maxLen w (n + m) old E h63
    refine ⟨⟨hlen,.inr ⟨w.heap.size,_,_,(0,0),rfl,.inl rfl,Jb9 w.drew _,hge,hcm,?_,?_⟩⟩,⟨rfl,rfl,rfl,by simp,fun k hk _=>Ja3 w.drew _ k hk⟩⟩
    · simp only [Array.size_append,List.size_toArray,size_zeroCells,hzs,hown.1,hl,←Nat.add_mul]
      congr 1
      omega
    · simp only [Array.toList_append,List.append_assoc]
      rw [←List.append_assoc,←hlen]
      exact List.take_left
   rcases hown.2 with ⟨rfl,rfl⟩ | ⟨g,cap,cur,fz,rfl,hfz,hg,hnc,hcm,hcs,htake⟩
   · have hx:xs=[]:=List.eq_nil_of_length_eq_zero (by simpa using hown.1)
     subst hx
     have hr:=run_append_nil (P:=P) w t ty E i z ht hi hz A m cap2 xs2 hl hA (by omega) (by omega) (by have hb:=hbytes; simp only [Nat.zero_add] at hb; omega)
     have hgr:=grown 0 (by omega) (Value.ownBlock (.slice none 0 0))
     simp only [Nat.zero_add,List.nil_append,Array.empty_append] at hgr ⊢
     exact ⟨_,_,hr,hgr.1,hgr.2,fun b hb=>by simp [blk,Value.ownBlock] at hb; subst hb; exact .inr (Nat.le_refl _),fun b hb=>by simp [blk,Value.ownBlock] at hb; subst hb; simp⟩
   · by_cases hroom:n + m≤cap
     · have hfit:n * i.size + xs2.length≤cur.size:=by rw [hl,hcs,←Nat.add_mul]; exact Nat.mul_le_mul_right _ hroom
       have hr:=Jdj (P:=P) (w:=w) t ty E i ht hi g n cap cur fz hg hfz A m cap2 xs2 hl hA h1 hroom hfit
       have hgl:g<w.heap.size:=(Array.getElem?_eq_some_iff.1 hg).1
       refine ⟨_,_,hr,⟨hlen,.inr ⟨g,cap,_,fz,rfl,hfz.imp id (fun q=>⟨q.1,by
        have:=q.2
        simp only [List.size_toArray,List.length_append,List.length_take,List.length_drop,Array.length_toList]
        omega⟩),setRow_heap w g cur _ E _ hg,hroom,hcm,?_,?_⟩⟩,⟨rfl,rfl,rfl,by simp,fun k _ hk=>setRow_other w g k _ (fun e=>hk (by simp [Value.ownBlock,e]))⟩,
        fun b hb=>.inl (by simpa [blk,Value.ownBlock] using hb),fun b hb=>by simp [blk,Value.ownBlock] at hb; subst hb; simpa using hgl⟩
       · simp only [List.size_toArray,List.length_append,List.length_take,List.length_drop,Array.length_toList]
         omega
       · rw [htake,←hlen]
         exact List.take_left
     · have holds:∀ j u,xs[j]? = some u→w.cell? ((⟨g,0,none⟩:Addr).add j)=some u:=hown.cells (g:=g) rfl
       have hr:=run_append_grow (P:=P) w t ty E i z ht hi hz ⟨g,0,none⟩ n cap xs hown.1 holds A m cap2 xs2 hl hA (by omega) (by omega) (growslice_fits (by omega) hbytes)
       have hgr:=grown cap (by omega) (Value.ownBlock (.slice (some ⟨g,0,none⟩) n cap))
       exact ⟨_,_,hr,hgr.1,hgr.2,fun b hb=>by simp [blk,Value.ownBlock] at hb; subst hb; exact .inr (Nat.le_refl _),fun b hb=>by simp [blk,Value.ownBlock] at hb; subst hb; simp⟩
theorem Jia {o:Oper} {args:Array Operand} {t t2 E:TypeId} {n bytes:Nat} {x y:RV} {K:Out→Option R} (hd:a.defers=G.D) (h:Rel P G F Bs st a.tmps w)
 (ho:o.op=.call { callee:=.builtin .append,args:=args,argTypes:=#[t,t] }) (hx:args.toList.map (opd st)=[x,y]) (hE:Jbc P t=some E) (hn:Jal P E=some n) (hb:Jda P E=some bytes)
 (hn0:0<n) (hzr:Jbq P E=true) (hk:Jcw n bytes E x y K=some res):∃ out,K out=some res∧Eff P G st a w o out:=by
 obtain ⟨u,v,rfl,hu,hv⟩:=JdM hx rfl
 have hru:=Jag h u
 have hrv:=Jag h v
 rw [hu] at hru; rw [hv] at hrv
 have hus:=Ja5 hE
 obtain ⟨i,hi,hin⟩:=Jhl hn
 have hby:=Jgg hb hi
 obtain ⟨z,hz,hzs⟩:∃ z,i.zero=some z∧z.cells.size=i.size:=by
  unfold Jbq at hzr
  split at hzr
  · rename_i zs hzt
    obtain ⟨i',z,e1,e2,e3,_⟩:=Jb4 hzt
    rw [hi] at e1; cases e1
    exact ⟨z,e2,e3⟩
  · cases hzr
 have run:∀ c w',(Builtin.append_ #[t,t] o.type #[a.eval u,a.eval v]).run P w=.ok c w'→(execOp a.eval o).run P w=.ok (.value c) w':=by
  intro c w' hr
  refine Jbb ho ?_
  have e:#[u,v].map a.eval=#[a.eval u,a.eval v]:=by simp
  rw [e]
  simp [builtin,hr]
 have core:∀ (es es2:List PV) (xs:List Value) (us:List (Nat × SV)) (Bs1:Nat→List Nat),ownsG w E i.size (a.eval u) es.length xs→RPs F w (Jbw es) xs→(∀ e∈es,(Jad e).length=n∧Jat (Jad e)=true) →
  JkC F w n es2 (a.eval v)→Ja7 (es.length + es2.length) bytes=true →
  (∀ w',w.grownBy w' (a.eval u).ownBlock→∃ Bs',Rel P G F Bs' (st.upS us []) a.tmps w'∧(∀ b∈blk (a.eval u),∀ j,b∉Bs' j)∧(∀ j b,b∈Bs' j→b<w.heap.size)) →
  (∀ b∈blk (a.eval u),¬ F b∧(G.W.heap.size≤b∨G.A b)) →
  K ⟨.own E (es++es2),none,us,[]⟩=some res→∃ out,K out=some res∧Eff P G st a w o out:=by
  intro es es2 xs us Bs1 hown hxs hes hnews hlen hrel hblk hk
  obtain ⟨xs2,ad,cap2,hc2,hxs2,hes2,hat⟩:=hnews
  simp only [Ja7,Bool.and_eq_true,decide_eq_true_eq] at hlen
  have hl2:xs2.length=es2.length * i.size:=by rw [←hxs2.length,JaR fun e he=>(hes2 e he).1,hin]
  have hlf:Jat (Jbw es2)=true:=JaP fun y hy=>by
   obtain ⟨e,he,hye⟩:=List.mem_flatMap.1 hy
   exact JaH (hes2 e he).2 y hye
  obtain ⟨v',w',r1,r2,r3,r4,r5⟩:=JgQ (P:=P) (ty:=o.type) hus hi hz hzs (by omega) hown hl2 hat (Jcg hxs2 hlf) (by simp only [maxLen]; omega) (by rw [hby]; exact hlen.1)
  rw [←hc2] at r1
  obtain ⟨Bs',g1,g2,g3⟩:=hrel w' r3
  have hFk:∀ b,F b→w'.heap[b]? = w.heap[b]? := fun b hb=>r3.block b (h.fl b hb) fun e=>(hblk b (by simp [blk,←e])).1 hb
  have hrow:RS P F w' (.own E (es++es2)) v' (blk v'):=by
   refine RS.own hi hz hzs (by omega) (by simpa using r2) ?_ (fun e he=>?_)
   · rw [JdE]; exact (hxs.append hxs2).mono (fun _ q=>q) hFk
   · rw [hin]
     rcases List.mem_append.1 he with q | q
     · exact hes e q
     · exact hes2 e q
  refine ⟨_,hk,fun hf=>⟨v',w',.inl (run v' w' r1),Jav hd g1 hrow ?_ ?_ ?_ ?_ r5 (by simp) hf⟩⟩
  · simp only [blk]
    cases v'.ownBlock <;> simp
  · intro j b hb hb'
    rcases r4 b hb with q | q
    · exact g2 b q j hb'
    · have:=g3 j b hb'; omega
  · intro b hb hF
    rcases r4 b hb with q | q
    · exact (hblk b q).1 hF
    · have:=h.fl b hF; omega
  · intro b hb
    rcases r4 b hb with q | q
    · exact (hblk b q).2
    · exact .inl (Nat.le_trans h.kb.size q)
 have nilCase:a.eval u=.slice none 0 0→∀ es2,JkC F w n es2 (a.eval v)→Ja7 es2.length bytes=true→K (out (.own E es2))=some res→∃ out,K out=some res∧Eff P G st a w o out:=by
  intro hv0 es2 hnews hlen hk
  refine core [] es2 [] [] Bs (by rw [hv0]; exact ownsG.nil w E i.size) .nil (by simp) hnews (by simpa using hlen) (fun w' hg=>?_) (by rw [hv0]; simp [blk,Value.ownBlock]) hk
  refine ⟨Bs,?_,by rw [hv0]; simp [blk,Value.ownBlock],h.lt⟩
  rw [Jak]
  exact h.grow (F':=F) (fun b hb=>hg.block b hb (by rw [hv0]; simp [Value.ownBlock])) hg.size ⟨hg.os,hg.tape,hg.output⟩ (fun _ q=>q) (fun _ q=>.inl q)
 have ownCase:∀ s cx es,Ja8 st.fr a.tmps w s cx E es (a.eval u)→∀ es2,JkC F w n es2 (a.eval v)→Ja7 (es.length + es2.length) bytes=true→K ⟨.own E (es++es2),none,[Jaq s cx .dead],[]⟩=some res →
  ∃ out,K out=some res∧Eff P G st a w o out:=by
  intro s cx es hp es2 hnews hlen hk
  have hpl:=h.place hp
  have hrs:=hpl.1
  have hblk:∀ b∈blk (a.eval u),¬ F b∧(G.W.heap.size≤b∨G.A b):=fun b hb=>⟨h.nf s b (hpl.2 b hb),h.nw s b (hpl.2 b hb)⟩
  cases hrs with
  | own q1 q2 q3 q4 q5 q6 q7 =>
   rename_i xs inf z'
   rw [hi] at q1; cases q1
   refine core es es2 xs [Jaq s cx .dead] Bs q5 q6 (by rw [hin] at q7; exact q7) hnews hlen (fun w' hg=>?_) hblk hk
   obtain ⟨Bs',r1,r2,r3⟩:=h.turnPl hp (F':=F) (w':=w') (x:=.dead) (B:=[]) (.dead _) (by simp) (by simp) (fun _ q=>q) (fun _ q=>.inl q) (by simp)
    (fun b hb hnb=>hg.block b hb fun e=>hnb (by simp [blk,←e])) hg.size ⟨hg.os,hg.tape,hg.output⟩ (by simp)
   exact ⟨Bs',r1,fun b hb j=>r3 b hb (by simp) j,fun j b hb=>h.lt j b (r2 j b hb)⟩
 unfold Jcw at hk
 split at hk
 · rename_i s1 cx T es
   obtain ⟨hT,hk1⟩:=Jab hk
   have hT:=eqB hT
   subst hT
   clear hk
   split at hk1
   · have hv0:a.eval v=.slice none 0 0:=hrv
     have hpl:=h.place hru
     obtain ⟨Bs',r1,r2,r3⟩:=h.turnPl hru (F':=F) (w':=w) (x:=.dead) (B:=[]) (.dead _) (by simp) (by simp) (fun _ q=>q) (fun _ q=>.inl q) (by simp) (fun _ _ _=>rfl) (Nat.le_refl _) ⟨rfl,rfl,rfl⟩ (by simp)
     have hrun:(Builtin.append_ #[t,t] o.type #[a.eval u,a.eval v]).run P w=.ok (a.eval u) w:=by
      rw [hv0]
      have hrs:=hpl.1
      cases hrs with
      | own q1 q2 q3 q4 q5 q6 q7=>exact Jb8 (P:=P) (w:=w) t o.type T _ _ hus q1 (a.eval u) es.length _ q5
     refine ⟨_,hk1,Jaa (run _ _ hrun) (Jav hd r1 hpl.1 ?_ (fun j b hb=>r3 b hb (by simp) j) (fun b hb=>h.nf s1 b (hpl.2 b hb)) (fun b hb=>h.nw s1 b (hpl.2 b hb)) (fun b hb=>h.lt s1 b (hpl.2 b hb)) (by simp))⟩
     simp only [blk]
     cases (a.eval u).ownBlock <;> simp
   · rename_i es2
     obtain ⟨hc,hk2⟩:=Jab hk1
     simp only [Bool.and_eq_true] at hc
     exact ownCase s1 cx es hru es2 (Jh5 hrv hc.1) hc.2 hk2
   · rename_i s2 cx2 T2 es2
     obtain ⟨hc,hk2⟩:=Jab hk1
     simp only [Bool.and_eq_true] at hc
     have hT2:=eqB hc.1.1
     subst hT2
     exact ownCase s1 cx es hru es2 (JgA (h.place hrv).1 hn) hc.2 hk2
   · cases hk1
 · have hv0:a.eval u=.slice none 0 0:=hru
   split at hk
   · have hv1:a.eval v=.slice none 0 0:=hrv
     have hrun:(Builtin.append_ #[t,t] o.type #[a.eval u,a.eval v]).run P w=.ok (.slice none 0 0) w:=by
      rw [hv0,hv1]
      exact Jb8 (P:=P) (w:=w) t o.type E i i.size hus hi _ 0 [] (ownsG.nil w E i.size)
     exact ⟨_,hk,Jaa (run _ _ hrun) (Jar hd (by rw [Jak]; exact h) .nl)⟩
   · rename_i es2
     obtain ⟨hc,hk2⟩:=Jab hk
     simp only [Bool.and_eq_true] at hc
     exact nilCase hv0 es2 (Jh5 hrv hc.1) hc.2 hk2
   · rename_i s2 cx2 T2 es2
     obtain ⟨hc,hk2⟩:=Jab hk
     simp only [Bool.and_eq_true] at hc
     have hT2:=eqB hc.1
     subst hT2
     exact nilCase hv0 es2 (JgA (h.place hrv).1 hn) hc.2 hk2
   · cases hk
 · cases hk
end
end Go.Proofs.YtgglhmfncoeffaaGreatDoor.Th
set_option linter.unusedVariables false
set_option linter.unusedSimpArgs false
namespace Go.Proofs.YtgglhmfncoeffaaGreatDoor.Th
open Go
variable {R:Type} {res:R}
section
variable {P:Program} {w:World}
theorem JbZ (t u ty e:TypeId) (i:TypeInfo) (ht:P.underlying t=some (.slice e)) (hu:P.underlying u=some .string) (hi:P.info? e=some i) (hs1:i.size=1)
 (g sLen sCap:Nat) (cur:Array Value) (fz:Nat × Nat) (hg:w.heap[g]? = some (.cells cur e fz)) (hfz:Jja 1 cur fz) (s:ByteArray)
 (hroom:sLen + s.size≤sCap) (hfit:sLen + s.size≤cur.size) :
 (Builtin.append_ #[t,u] ty #[.slice (some ⟨g,0,none⟩) sLen sCap,.string s]).run P w =
   .ok (.slice (some ⟨g,0,none⟩) (sLen + s.size) sCap) (w.setRow g (cur.toList.take sLen++Lib.strCells s++cur.toList.drop (sLen + s.size)).toArray):=by
 have hf:=Lib.run_firstCells_string (P:=P) w 1 s
 have hst:=JaQ P g sLen e 1 fz (Lib.strCells s) 0 cur w hg hfz (by simpa [Lib.strCells_length] using hfit) (Lib.strCells_oneCell s)
 simp only [Nat.add_zero,Lib.strCells_length] at hst
 simp [Builtin.append_,run_underlying ht,run_underlying hu,sizeOf,typeInfo,hi,hs1,Builtin.lenOf,hroom,hf,Addr.add_lit,hst]
theorem JfH {t u ty e:TypeId} {i:TypeInfo} (ht:P.underlying t=some (.slice e)) (hu:P.underlying u=some .string) (hi:P.info? e=some i) (hz:i.zero=some (.int .u8 0))
 (hsize:i.size=1) (hby:i.bytes=1) {v:Value} {n:Nat} {xs:List Value} (hown:ownsG w e 1 v n xs) (s:ByteArray) (hbytes:n + s.size≤140737488355328) :
 ∃ v' w',(Builtin.append_ #[t,u] ty #[v,.string s]).run P w=.ok v' w'∧ownsG w' e 1 v' (n + s.size) (xs++Lib.strCells s)∧w.grownBy w' v.ownBlock ∧
  (∀ k,v'.ownBlock=some k→v.ownBlock=some k∨w.heap.size≤k):=by
 have h63:n + s.size≤maxLen:=by simp only [maxLen]; omega
 rcases hown.2 with ⟨rfl,rfl⟩ | ⟨g,cap,cur,fz,rfl,hfz,hg,hnc,hcm,hcs,htake⟩
 · obtain ⟨v',w',h1,h2,h3,h4⟩:=Lib.run_append_own_string (P:=P) w w.heap.size t u ty e i ht hu hi hz hsize hby (.slice none 0 0) 0 xs ⟨hown.1,.inl ⟨rfl,rfl⟩⟩ s h63 hbytes (Nat.le_refl _)
   exact ⟨v',w',h1,.of h2,h3,fun k hk=>.inr (h2.lt k hk).1⟩
 · have hxl:xs.length=n:=by simpa using hown.1
   have hlen:(xs++Lib.strCells s).length=(n + s.size) * 1:=by rw [List.length_append,hxl,Lib.strCells_length,Nat.mul_one]
   by_cases hroom:n + s.size≤cap
   · have hcs':cur.size=cap:=by simpa using hcs
     have hr:=JbZ (P:=P) (w:=w) t u ty e i ht hu hi hsize g n cap cur fz hg hfz s hroom (by omega)
     have hsz:(cur.toList.take n++Lib.strCells s++cur.toList.drop (n + s.size)).toArray.size=cur.size:=by
      simp only [List.size_toArray,List.length_append,List.length_take,List.length_drop,Array.length_toList,Lib.strCells_length]
      omega
     refine ⟨_,_,hr,⟨hlen,.inr ⟨g,cap,_,fz,rfl,hfz.imp id (fun q=>⟨q.1,by rw [hsz]; exact q.2⟩),setRow_heap w g cur _ e _ hg,hroom,hcm,by rw [hsz]; exact hcs,?_⟩⟩,⟨rfl,rfl,rfl,by simp,fun k _ hk=>setRow_other w g k _ (fun e=>hk (by simp [Value.ownBlock,e]))⟩,fun k hk=>.inl hk⟩
     have ht':cur.toList.take n=xs:=by simpa using htake
     rw [ht',←hlen]
     exact List.take_left
   · have holds:∀ j u,xs[j]? = some u→w.cell? ((⟨g,0,none⟩:Addr).add j)=some u:=hown.cells (g:=g) rfl
     have hr:=Lib.run_append_grow_string (P:=P) w t u ty e i (.int .u8 0) ht hu hi hz ⟨g,0,none⟩ n cap xs (by rw [hsize]; simpa using hxl) holds s (by omega) (by omega) (by rw [hby]; exact growslice_fits (by omega) (by omega))
     have hge:=grownCap_ge w (n + s.size) cap e
     have hcm2:grownCap w (n + s.size) cap e≤maxLen:=grownCap_le_maxLen w (n + s.size) cap e h63
     refine ⟨_,_,hr,⟨hlen,.inr ⟨w.heap.size,_,_,(0,0),rfl,.inl rfl,Jb9 w.drew _,hge,hcm2,?_,?_⟩⟩,⟨rfl,rfl,rfl,by simp,fun k hk _=>Ja3 w.drew _ k hk⟩,fun k hk=>by simp [Value.ownBlock] at hk; exact .inr (by omega)⟩
     · have hz1:(Value.int IntKind.u8 0).cells.size=1:=rfl
       simp only [Array.size_append,List.size_toArray,size_zeroCells,hz1,hxl,Lib.strCells_length]
       omega
     · simp only [Array.toList_append,List.append_assoc]
       rw [←List.append_assoc,←hlen]
       exact List.take_left
end
section
variable {P:Program} {G:Gd} {F:Nat→Prop} {Bs:Nat→List Nat} {st:St} {a:Act} {w:World}
theorem JhV {T:TypeId} (h:JdJ P T=true):P.underlying T=some .string:=by
 unfold JdJ at h
 split at h
 · assumption
 · cases h
theorem Jh {o:Oper} {args:Array Operand} {t t2 E:TypeId} {x y:RV} {K:Out→Option R} (hd:a.defers=G.D) (h:Rel P G F Bs st a.tmps w)
 (ho:o.op=.call { callee:=.builtin .append,args:=args,argTypes:=#[t,t2] }) (hx:args.toList.map (opd st)=[x,y]) (hE:Jbc P t=some E) (hs:JdJ P t2=true) (hu8:u8T P E=true)
 (hk:JcE E x y K=some res):∃ out,K out=some res∧Eff P G st a w o out:=by
 obtain ⟨u,v,rfl,hu,hv⟩:=JdM hx rfl
 have hru:=Jag h u
 have hrv:=Jag h v
 rw [hu] at hru; rw [hv] at hrv
 have hus:=Ja5 hE
 obtain ⟨i,hi,hz,hsz,hby⟩:=Jix hu8
 have hut:=JhV hs
 have run:∀ c w',(Builtin.append_ #[t,t2] o.type #[a.eval u,a.eval v]).run P w=.ok c w'→(execOp a.eval o).run P w=.ok (.value c) w':=by
  intro c w' hr
  refine Jbb ho ?_
  have e:#[u,v].map a.eval=#[a.eval u,a.eval v]:=by simp
  rw [e]
  simp [builtin,hr]
 unfold JcE at hk
 split at hk
 · rename_i b
   have hev:=Jbk hrv
   have hzs:(Value.int IntKind.u8 0).cells.size=i.size:=by rw [hsz]; rfl
   have hbl:∀ l:List UInt8,Jbw (l.map fun b=>PV.v (.int .u8 b.toNat))=l.map fun b=>PV.v (.int .u8 b.toNat):=by
    intro l
    induction l with
    | nil=>rfl
    | cons c l ih=>show _::Jbw _=_; rw [ih]; rfl
   have hbe:∀ e∈JaA b,(Jad e).length=i.size∧Jat (Jad e)=true:=by
    intro e he
    simp only [JaA,List.mem_map] at he
    obtain ⟨c,_,rfl⟩:=he
    rw [hsz]; exact ⟨rfl,rfl⟩
   have hbs:(JaA b).length=b.size:=by simp [JaA]
   have core:∀ (es:List PV) (xs:List Value) (us:List (Nat × SV)),ownsG w E i.size (a.eval u) es.length xs→RPs F w (Jbw es) xs→(∀ e∈es,(Jad e).length=i.size∧Jat (Jad e)=true) →
    Ja7 (es.length + b.size) 1=true →
    (∀ w',w.grownBy w' (a.eval u).ownBlock→∃ Bs',Rel P G F Bs' (st.upS us []) a.tmps w'∧(∀ b∈blk (a.eval u),∀ j,b∉Bs' j)∧(∀ j b,b∈Bs' j→b<w.heap.size)) →
    (∀ b∈blk (a.eval u),¬ F b∧(G.W.heap.size≤b∨G.A b)) →
    K ⟨.own E (es++JaA b),none,us,[]⟩=some res→∃ out,K out=some res∧Eff P G st a w o out:=by
    intro es xs us hown hxs hes hlen hrel hblk hk
    simp only [Ja7,Bool.and_eq_true,decide_eq_true_eq,Nat.mul_one] at hlen
    rw [hsz] at hown
    obtain ⟨v',w',r1,r2,r3,s4⟩:=JfH (P:=P) (ty:=o.type) hus hut hi hz hsz hby hown b hlen.1
    rw [←hev] at r1
    obtain ⟨Bs',g1,g2,g3⟩:=hrel w' r3
    have hFk:∀ b,F b→w'.heap[b]? = w.heap[b]? := fun b hb=>r3.block b (h.fl b hb) fun e=>(hblk b (by simp [blk,←e])).1 hb
    have hrow:RS P F w' (.own E (es++JaA b)) v' (blk v'):=by
     refine RS.own hi hz hzs (by omega) (by rw [hsz,List.length_append,hbs]; exact r2) ?_ (fun e he=>?_)
     · rw [JdE]
       refine (hxs.mono (fun _ q=>q) hFk).append ?_
       show RPs F w' (Jbw ((b.data.toList).map _)) _
       exact Jbe F w' b.data.toList
     · rcases List.mem_append.1 he with q | q
       · exact hes e q
       · exact hbe e q
    have r4:∀ c∈blk v',c∈blk (a.eval u)∨w.heap.size≤c:=fun c hc=>by
     simp only [blk,Option.mem_toList] at hc ⊢
     exact s4 c hc
    refine ⟨_,hk,fun hf=>⟨v',w',.inl (run v' w' r1),Jav hd g1 hrow ?_ ?_ ?_ ?_ (fun c hc=>r2.lt c (by simpa [blk] using hc)) (by simp) hf⟩⟩
    · simp only [blk]
      cases v'.ownBlock <;> simp
    · intro j b hb hb'
      rcases r4 b hb with q | q
      · exact g2 b q j hb'
      · have:=g3 j b hb'; omega
    · intro b hb hF
      rcases r4 b hb with q | q
      · exact (hblk b q).1 hF
      · have:=h.fl b hF; omega
    · intro b hb
      rcases r4 b hb with q | q
      · exact (hblk b q).2
      · exact .inl (Nat.le_trans h.kb.size q)
   split at hk
   · rename_i s1 cx T es
     obtain ⟨hT,hk1⟩:=Jab hk
     have hT:=eqB hT
     subst hT
     obtain ⟨hlen,hk2⟩:=Jab hk1
     have hpl:=h.place hru
     have hblk:∀ b∈blk (a.eval u),¬ F b∧(G.W.heap.size≤b∨G.A b):=fun b hb=>⟨h.nf s1 b (hpl.2 b hb),h.nw s1 b (hpl.2 b hb)⟩
     have hrs:=hpl.1
     cases hrs with
     | own q1 q2 q3 q4 q5 q6 q7 =>
      rename_i xs inf z'
      rw [hi] at q1; cases q1
      refine core es xs [Jaq s1 cx .dead] q5 q6 q7 hlen (fun w' hg=>?_) hblk hk2
      obtain ⟨Bs',r1,r2,r3⟩:=h.turnPl hru (F':=F) (w':=w') (x:=.dead) (B:=[]) (.dead _) (by simp) (by simp) (fun _ q=>q) (fun _ q=>.inl q) (by simp)
       (fun b hb hnb=>hg.block b hb fun e=>hnb (by simp [blk,←e])) hg.size ⟨hg.os,hg.tape,hg.output⟩ (by simp)
      exact ⟨Bs',r1,fun b hb j=>r3 b hb (by simp) j,fun j b hb=>h.lt j b (r2 j b hb)⟩
   · obtain ⟨hlen,hk2⟩:=Jab hk
     have hv0:a.eval u=.slice none 0 0:=hru
     refine core [] [] [] (by rw [hv0]; exact ownsG.nil w E i.size) .nil (by simp) (by simpa using hlen) (fun w' hg=>?_) (by rw [hv0]; simp [blk,Value.ownBlock]) (by simpa [out] using hk2)
     refine ⟨Bs,?_,by rw [hv0]; simp [blk,Value.ownBlock],h.lt⟩
     rw [Jak]
     exact h.grow (F':=F) (fun b hb=>hg.block b hb (by rw [hv0]; simp [Value.ownBlock])) hg.size ⟨hg.os,hg.tape,hg.output⟩ (fun _ q=>q) (fun _ q=>.inl q)
   · cases hk
 · cases hk
end
end Go.Proofs.YtgglhmfncoeffaaGreatDoor.Th
set_option linter.unusedVariables false
set_option linter.unusedSimpArgs false
namespace Go.Proofs.YtgglhmfncoeffaaGreatDoor.Th
open Go
variable {R:Type} {res:R}
def bxv:List SV→List Value→List Value
 | .bx _ _::r,c::cs=>c::bxv r cs
 | .ob _ _ _::r,c::cs=>c::bxv r cs
 | _::r,_::cs=>bxv r cs
 | _,_=>[]
def JjL:List Value→Value
 | [v]=>v
 | l=>.tuple l.toArray
def JkA (P:Program) (F:Nat→Prop) (W:World) (args:List SV) (cargs:List Value) (B:List Nat) (rs:List SV) (v:Value) (w':World):Prop :=
 ∃ F' Br xs ys vs,rs=xs++ys∧xs.length=vs.length∧v=JjL vs∧RSs P F' w' (xs++ys) (vs++bxv args cargs) Br∧Br.Nodup ∧
  (∀ b∈Br,¬ F' b∧b<w'.heap.size∧(W.heap.size≤b∨b∈B))∧(∀ b,F b→F' b)∧(∀ b,F' b→F b∨W.heap.size≤b∨b∈B)∧(∀ b,F' b→b<w'.heap.size)∧Keep W (·∈B) w'
structure FSound (P:Program) (I:GInv) (g:Nat) (fs:FS):Prop where
 det:∀ args,DetK (fun R K=>@FS.run fs R args K)
 fn:∃ fn,P.funcs[g]? = some fn∧fn.body.isNone=false∧(fn.name == "runtime.NumGoroutine")=false
 call:∀ {R:Type} {args:List SV} {K:List SV→Option R} {res:R},fs.run args K=some res →
  ∀ (F:Nat→Prop) (W:World) (cargs:Array Value) (B:List Nat),RSs P F W args cargs.toList B→B.Nodup→(∀ b∈B,¬ F b∧b<W.heap.size)→(∀ b,F b→b<W.heap.size)→I.ok F W →
  Calls P g cargs W fun | .returned v,w'=>∃ rs,K rs=some res∧JkA P F W args cargs.toList B rs v w' | _,_=>False
section
variable {P:Program} {G:Gd} {F:Nat→Prop} {Bs:Nat→List Nat} {st:St} {tm:Array Value} {w:World}
theorem Jf3 (d e:List Nat) (s:Nat):JaZ (d++e) s=(JaZ d s||JaZ e s):=by
 induction d with
 | nil=>simp [JaZ]
 | cons x d ih=>simp only [List.cons_append,JaZ]; cases Nat.beq x s <;> simp [ih]
theorem Jce (d e:List Nat):∀ l:List (Nat × Ref),Jaf none e (Jaf none d l)=Jaf none (d++e) l
 | []=>rfl
 | (t,r)::l=>by
  have ih:=Jce d e l
  have hm:∀ s,JaZ (d++e) s=(JaZ d s||JaZ e s):=Jf3 d e
  have e':Jam none (d++e) t r=(Jam none d t r&&Jam none e t r):=by
   simp only [Jam,hm,Bool.true_and]
   cases r.cell <;> cases JaZ d r.root <;> cases JaZ e r.root <;> rfl
  simp only [Jaf]
  cases h1:Jam none d t r <;> cases h2:Jam none e t r <;> simp [e',h1,h2,Jaf,ih]
theorem Jiz (st:St) (u v:List (Nat × SV)) (d e:List Nat):(st.upS u d).upS v e=st.upS (u++v) (d++e):=by
 simp [St.upS,Jb3,Jce]
theorem Jg5 {s:Nat} {cx:Option (Nat × TypeId × List SV)} {T:TypeId} {es:List PV} {cv:Value} (h:Rel P G F Bs st tm w)
 (hp:Ja8 st.fr tm w s cx T es cv) :
 ∃ F' Bs',Rel P G F' Bs' (st.upS [Jaq s cx (.p (.sh es))] []) tm w∧RP F' w (.sh es) cv∧(∀ b,F b→F' b)∧(∀ i b,b∈Bs' i→b∈Bs i)∧(∀ b,F' b→F b∨b∈Bs s):=by
 obtain ⟨h1,h2⟩:=h.place hp
 have hfr:RP (fun b=>F b∨b∈blk cv) w (.sh es) cv:=h1.frozen (fun _ q=>.inl q) (fun _ q=>.inr q)
 obtain ⟨Bs',r1,r2,r3⟩:=h.turnPl hp (F':=fun b=>F b∨b∈blk cv) (w':=w) (x:=.p (.sh es)) (B:=[]) (.p hfr) (by simp) (by simp) (fun _ q=>.inl q)
  (fun b q=>q.imp id fun r=>⟨r,by simp⟩) (by simp) (fun _ _ _=>rfl) (Nat.le_refl _) ⟨rfl,rfl,rfl⟩ (by simp)
 exact ⟨_,Bs',r1,hfr,fun _ q=>.inl q,r2,fun b q=>q.imp id (h2 b)⟩
theorem Jg4 {s:Nat} {cx:Option (Nat × TypeId × List SV)} {d:Option IntKind} {ks vs:List PV} {cv:Value} (h:Rel P G F Bs st tm w)
 (hp:JcC st.fr tm w s cx (.mp d ks vs) cv) :
 ∃ F' Bs',Rel P G F' Bs' (st.upS [Jaq s cx (.p (.fm d ks vs))] []) tm w∧RP F' w (.fm d ks vs) cv∧(∀ b,F b→F' b)∧(∀ i b,b∈Bs' i→b∈Bs i)∧(∀ b,F' b→F b∨b∈Bs s):=by
 obtain ⟨h1,h2⟩:=h.placeX rfl hp
 have hfr:RP (fun b=>F b∨b∈blkX (.mp d ks vs) cv) w (.fm d ks vs) cv:=h1.frozenM (fun _ q=>.inl q) (fun _ q=>.inr q)
 obtain ⟨Bs',r1,r2,r3⟩:=h.turnPlX rfl hp (F':=fun b=>F b∨b∈blkX (.mp d ks vs) cv) (w':=w) (x:=.p (.fm d ks vs)) (B:=[]) (.p hfr) (by simp) (by simp) (fun _ q=>.inl q)
  (fun b q=>q.imp id fun r=>⟨r,by simp⟩) (by simp) (fun _ _ _=>rfl) (Nat.le_refl _) ⟨rfl,rfl,rfl⟩ (by simp)
 exact ⟨_,Bs',r1,hfr,fun _ q=>.inl q,r2,fun b q=>q.imp id (h2 b)⟩
theorem JhD (h:Rel P G F Bs st tm w) {m:Bool} {r:RV} {c:Value} {x:SV} {u:List (Nat × SV)} {bs:List Nat} (hr:RVR P F st.fr tm w r c) (ha:Jbl m r=some (x,u,bs)) :
 ∃ F' Bs' B,Rel P G F' Bs' (st.upS u []) tm w∧RS P F' w x c B∧B.Nodup∧(∀ b,F b→F' b)∧(∀ b,F' b→F b∨∃ i,i∈u.map (·.1)∧b∈Bs i)∧(∀ i b,b∈Bs' i→b∈Bs i)∧(∀ b∈B,¬ F' b) ∧
  (∀ b∈B,∃ i,i∈u.map (·.1)++bs∧b∈Bs i)∧(∀ b∈B,∀ i,b∈Bs' i→i∈bs)∧bs.map (fun s=>tm.getD s undef)=bxv [x] [c]:=by
 cases r with
 | bad=>simp [Jbl] at ha
 | nl =>
  have hc:c=.slice none 0 0:=hr
  subst hc
  simp only [Jbl] at ha
  cases m with
  | true =>
   simp only [cond_true,Option.some.injEq,Prod.mk.injEq] at ha
   obtain ⟨rfl,rfl,rfl⟩:=ha
   exact ⟨F,Bs,[],by rw [Jak]; exact h,.nl,by simp,fun _ q=>q,fun _ q=>.inl q,fun _ _ q=>q,by simp,by simp,by simp,rfl⟩
  | false =>
   simp only [cond_false,Option.some.injEq,Prod.mk.injEq] at ha
   obtain ⟨rfl,rfl,rfl⟩:=ha
   exact ⟨F,Bs,[],by rw [Jak]; exact h,.p (Jcs F w),by simp,fun _ q=>q,fun _ q=>.inl q,fun _ _ q=>q,by simp,by simp,by simp,rfl⟩
 | pv y =>
  simp only [Jbl,Option.some.injEq,Prod.mk.injEq] at ha
  obtain ⟨rfl,rfl,rfl⟩:=ha
  exact ⟨F,Bs,[],by rw [Jak]; exact h,.p hr,by simp,fun _ q=>q,fun _ q=>.inl q,fun _ _ q=>q,by simp,by simp,by simp,rfl⟩
 | own s cx T es =>
  simp only [Jbl] at ha
  cases m with
  | true =>
   simp only [cond_true,Option.some.injEq,Prod.mk.injEq] at ha
   obtain ⟨rfl,rfl,rfl⟩:=ha
   obtain ⟨p1,p2⟩:=h.place hr
   obtain ⟨Bs',r1,r2,r3⟩:=h.turnPl hr (F':=F) (w':=w) (x:=.dead) (B:=[]) (.dead _) (by simp) (by simp) (fun _ q=>q) (fun _ q=>.inl q) (by simp) (fun _ _ _=>rfl) (Nat.le_refl _) ⟨rfl,rfl,rfl⟩ (by simp)
   refine ⟨F,Bs',blk c,r1,p1,?_,fun _ q=>q,fun _ q=>.inl q,r2,fun b hb=>h.nf s b (p2 b hb),fun b hb=>⟨s,by simp [JaD],p2 b hb⟩,fun b hb i hi=>absurd hi (r3 b hb (by simp) i),rfl⟩
   simp only [blk]; cases c.ownBlock <;> simp
  | false =>
   simp only [cond_false,Option.some.injEq,Prod.mk.injEq] at ha
   obtain ⟨rfl,rfl,rfl⟩:=ha
   obtain ⟨F',Bs',r1,r2,r3,r4,r5⟩:=Jg5 h hr
   exact ⟨F',Bs',[],r1,.p r2,by simp,r3,fun b q=>(r5 b q).imp id fun q=>⟨s,by simp [JaD],q⟩,r4,by simp,by simp,by simp,rfl⟩
 | box s off T cs =>
  obtain ⟨h1,b,h2,h3⟩:=hr
  simp only [Jbl] at ha
  cases m with
  | true =>
   simp only [cond_true] at ha
   obtain ⟨ho,ha⟩:=Jab ha
   simp only [Option.some.injEq,Prod.mk.injEq] at ha
   obtain ⟨rfl,rfl,rfl⟩:=ha
   have ho:=eqB ho
   subst ho
   have hsl:=h.sl s
   rw [h1,h2] at hsl
   refine ⟨F,Bs,Bs s,by rw [Jak]; exact h,by rw [h3]; exact hsl,h.nd s,fun _ q=>q,fun _ q=>.inl q,fun _ _ q=>q,h.nf s,fun b hb=>⟨s,by simp,hb⟩,fun b hb i hi=>?_,by show [tm.getD s undef]=[c]; rw [h2,h3]⟩
   rcases Nat.decEq i s with q | q
   · exact absurd hi (h.dj s i b (Ne.symm q) hb)
   · simp [q]
  | false =>
   simp only [cond_false] at ha
   cases hf:Jdh cs with
   | none=>rw [hf] at ha; cases ha
   | some ys =>
    rw [hf] at ha
    simp only [Option.some.injEq,Prod.mk.injEq] at ha
    obtain ⟨rfl,rfl,rfl⟩:=ha
    obtain ⟨F',Bs',b',q1,q2,q3,q4,q5,q6⟩:=JdC (off:=off) h h1 hf
    rw [h2] at q1
    cases q1
    exact ⟨F',Bs',[],q2,.p (by rw [h3]; exact q3),by simp,q4,fun b q=>(q6 b q).imp id fun q=>⟨s,by simp,q⟩,q5,by simp,by simp,by simp,rfl⟩
 | ob s T e bs =>
  obtain ⟨h1,h2⟩:=hr
  simp only [Jbl] at ha
  obtain ⟨_,ha⟩:=Jab ha
  simp only [Option.some.injEq,Prod.mk.injEq] at ha
  obtain ⟨rfl,rfl,rfl⟩:=ha
  have hsl:=h.sl s
  rw [h1,h2] at hsl
  refine ⟨F,Bs,Bs s,by rw [Jak]; exact h,hsl,h.nd s,fun _ q=>q,fun _ q=>.inl q,fun _ _ q=>q,h.nf s,fun b hb=>⟨s,by simp,hb⟩,fun b hb i hi=>?_,by show [tm.getD s undef]=[c]; rw [h2]⟩
  rcases Nat.decEq i s with q | q
  · exact absurd hi (h.dj s i b (Ne.symm q) hb)
  · simp [q]
 | st s cs =>
  obtain ⟨h1,h2⟩:=hr
  simp only [Jbl] at ha
  cases m with
  | true=>cases ha
  | false =>
   simp only [cond_false] at ha
   cases hf:Jdh cs with
   | none=>rw [hf] at ha; cases ha
   | some ys =>
    rw [hf] at ha
    simp only [Option.some.injEq,Prod.mk.injEq] at ha
    obtain ⟨rfl,rfl,rfl⟩:=ha
    obtain ⟨F',Bs',q2,q3,q4,q5,q6⟩:=h.freezeSt h1 hf
    exact ⟨F',Bs',[],q2,.p (by rw [←h2]; exact q3),by simp,q4,fun b q=>(q6 b q).imp id fun q=>⟨s,by simp,q⟩,q5,by simp,by simp,by simp,rfl⟩
 | mp s cx d ks vs =>
  simp only [Jbl] at ha
  cases m with
  | true =>
   simp only [cond_true,Option.some.injEq,Prod.mk.injEq] at ha
   obtain ⟨rfl,rfl,rfl⟩:=ha
   obtain ⟨p1,p2⟩:=h.placeX rfl hr
   obtain ⟨Bs',r1,r2,r3⟩:=h.turnPlX rfl hr (F':=F) (w':=w) (x:=.dead) (B:=[]) (.dead _) (by simp) (by simp) (fun _ q=>q) (fun _ q=>.inl q) (by simp) (fun _ _ _=>rfl) (Nat.le_refl _) ⟨rfl,rfl,rfl⟩ (by simp)
   refine ⟨F,Bs',blkX (.mp d ks vs) c,r1,p1,?_,fun _ q=>q,fun _ q=>.inl q,r2,fun b hb=>h.nf s b (p2 b hb),fun b hb=>⟨s,by simp [JaD],p2 b hb⟩,fun b hb i hi=>absurd hi (r3 b hb (by simp) i),rfl⟩
   cases p1; simp [blkX]
  | false =>
   simp only [cond_false,Option.some.injEq,Prod.mk.injEq] at ha
   obtain ⟨rfl,rfl,rfl⟩:=ha
   obtain ⟨F',Bs',r1,r2,r3,r4,r5⟩:=Jg4 h hr
   exact ⟨F',Bs',[],r1,.p r2,by simp,r3,fun b q=>(r5 b q).imp id fun q=>⟨s,by simp [JaD],q⟩,r4,by simp,by simp,by simp,rfl⟩
 | el s cx T es i off=>simp [Jbl] at ha
 | tup s l=>simp [Jbl] at ha
 | cl s g T cs=>simp [Jbl] at ha
theorem JiK {F1:Nat→Prop} {fr fr1:Fr} {m:Bool} {r:RV} {x:SV} {u:List (Nat × SV)} {bs:List Nat} {c:Value} (ha:Jbl m r=some (x,u,bs))
 (hfr:∀ i∈u.map (·.1)++bs,fr1 i=fr i) (hF:∀ b,F b→F1 b) (h:RVR P F fr tm w r c):RVR P F1 fr1 tm w r c:=by
 cases r with
 | pv z=>exact RP.mono (w':=w) h hF fun _ _=>rfl
 | nl=>exact h
 | own s cx T es =>
  have hs:fr1 s=fr s:=by
   apply hfr s
   simp only [Jbl] at ha
   cases m <;> simp only [cond_true,cond_false,Option.some.injEq,Prod.mk.injEq] at ha <;> obtain ⟨_,rfl,rfl⟩:=ha <;> simp [JaD]
  cases cx with
  | none=>exact ⟨by rw [hs]; exact h.1,h.2⟩
  | some q =>
   obtain ⟨j,Tb,cs⟩:=q
   exact ⟨by rw [hs]; exact h.1,h.2⟩
 | mp s cx d ks vs =>
  have hs:fr1 s=fr s:=by
   apply hfr s
   simp only [Jbl] at ha
   cases m <;> simp only [cond_true,cond_false,Option.some.injEq,Prod.mk.injEq] at ha <;> obtain ⟨_,rfl,rfl⟩:=ha <;> simp [JaD]
  cases cx with
  | none=>exact ⟨by rw [hs]; exact h.1,h.2⟩
  | some q =>
   obtain ⟨j,Tb,cs⟩:=q
   exact ⟨by rw [hs]; exact h.1,h.2⟩
 | box s off T cs =>
  have hs:fr1 s=fr s:=by
   apply hfr s
   simp only [Jbl] at ha
   cases m with
   | true =>
    simp only [cond_true] at ha
    obtain ⟨ho,ha⟩:=Jab ha
    simp only [Option.some.injEq,Prod.mk.injEq] at ha
    obtain ⟨_,rfl,rfl⟩:=ha
    simp
   | false =>
    simp only [cond_false] at ha
    cases hf:Jdh cs with
    | none=>rw [hf] at ha; cases ha
    | some ys =>
     rw [hf] at ha
     simp only [Option.some.injEq,Prod.mk.injEq] at ha
     obtain ⟨_,rfl,rfl⟩:=ha
     simp
  exact ⟨by rw [hs]; exact h.1,h.2⟩
 | ob s T e bs =>
  have hs:fr1 s=fr s:=by
   apply hfr s
   simp only [Jbl] at ha
   obtain ⟨_,ha⟩:=Jab ha
   simp only [Option.some.injEq,Prod.mk.injEq] at ha
   obtain ⟨_,rfl,rfl⟩:=ha
   simp
  exact ⟨by rw [hs]; exact h.1,h.2⟩
 | st s cs =>
  have hs:fr1 s=fr s:=by
   apply hfr s
   simp only [Jbl] at ha
   cases m with
   | true=>cases ha
   | false =>
    simp only [cond_false] at ha
    cases hf:Jdh cs with
    | none=>rw [hf] at ha; cases ha
    | some ys =>
     rw [hf] at ha
     simp only [Option.some.injEq,Prod.mk.injEq] at ha
     obtain ⟨_,rfl,rfl⟩:=ha
     simp
  exact ⟨by rw [hs]; exact h.1,h.2⟩
 | _=>simp [Jbl] at ha
theorem JiP (x:SV) (c:Value) (l:List SV) (cs:List Value):bxv (x::l) (c::cs)=bxv [x] [c]++bxv l cs:=by
 cases x <;> rfl
theorem JbB:∀ {l:List Nat},Jao l=true↔l.Nodup
 | []=>by simp [Jao]
 | x::l=>by
  simp only [Jao,Bool.and_eq_true,Bool.not_eq_true',List.nodup_cons,JbB (l:=l)]
  constructor
  · rintro ⟨h1,h2⟩
    exact ⟨fun hm=>by rw [JdP hm] at h1; exact absurd h1 (by simp),h2⟩
  · rintro ⟨h1,h2⟩
    refine ⟨?_,h2⟩
    cases hm:JaZ l x with
    | false=>rfl
    | true=>exact absurd (Jh8 hm) h1
theorem Jd9:∀ {rs:List RV} {ms:List Bool} {cs:List Value} {st:St} {F:Nat→Prop} {Bs:Nat→List Nat} {avs:List SV} {us:List (Nat × SV)} {bs:List Nat},
 Rel P G F Bs st tm w→(∀ (j:Nat) (r:RV),rs[j]? = some r→∃ c,cs[j]? = some c∧RVR P F st.fr tm w r c)→cs.length=rs.length→Jb6 ms rs=some (avs,us,bs)→(us.map (·.1)++bs).Nodup →
 ∃ F' Bs' B,Rel P G F' Bs' (st.upS us []) tm w∧RSs P F' w avs cs B∧B.Nodup∧(∀ b,F b→F' b)∧(∀ b,F' b→F b∨∃ i,i∈us.map (·.1)∧b∈Bs i)∧(∀ i b,b∈Bs' i→b∈Bs i)∧(∀ b∈B,¬ F' b) ∧
  (∀ b∈B,∃ i,i∈us.map (·.1)++bs∧b∈Bs i)∧(∀ b∈B,∀ i,b∈Bs' i→i∈bs)∧bs.map (fun s=>tm.getD s undef)=bxv avs cs
 | [],ms,cs,st,F,Bs,avs,us,bs,h,hv,hl,hk,hd=>by
  simp only [Jb6,Option.some.injEq,Prod.mk.injEq] at hk
  obtain ⟨rfl,rfl,rfl⟩:=hk
  have:cs=[]:=List.length_eq_zero_iff.1 (by simpa using hl)
  subst this
  exact ⟨F,Bs,[],by rw [Jak]; exact h,.nil,by simp,fun _ q=>q,fun _ q=>.inl q,fun _ _ q=>q,by simp,by simp,by simp,rfl⟩
 | r::rs,ms,cs,st,F,Bs,avs,us,bs,h,hv,hl,hk,hd=>by
  cases cs with
  | nil=>simp at hl
  | cons c cs =>
   have hr:RVR P F st.fr tm w r c:=by
    obtain ⟨c',e,q⟩:=hv 0 r rfl
    simp at e; subst e; exact q
   simp only [Jb6] at hk
   cases hy:Jbl (ms.headD false) r with
   | none=>simp only [hy,reduceCtorEq] at hk
   | some q =>
    obtain ⟨y,u,b⟩:=q
    cases hys:Jb6 ms.tail rs with
    | none=>simp only [hy,hys,reduceCtorEq] at hk
    | some q2 =>
     obtain ⟨ys',us',bs'⟩:=q2
     simp only [hy,hys,Option.some.injEq,Prod.mk.injEq] at hk
     obtain ⟨rfl,rfl,rfl⟩:=hk
     have hd':(u.map (·.1)++b++(us'.map (·.1)++bs')).Nodup:=by
      refine (List.Perm.nodup_iff ?_).1 hd
      rw [List.map_append,List.append_assoc,List.append_assoc]
      refine List.Perm.append_left _ ?_
      rw [←List.append_assoc,←List.append_assoc]
      exact List.Perm.append_right _ List.perm_append_comm
     rw [List.nodup_append] at hd'
     obtain ⟨d1,d2,d3⟩:=hd'
     obtain ⟨F1,Bs1,B1,r1,r2,r2',r3,r3',r4,r5,r6,r7,r8⟩:=JhD h hr hy
     have hsub:∀ {rs:List RV} {ms:List Bool} {avs:List SV} {us:List (Nat × SV)} {bs:List Nat},Jb6 ms rs=some (avs,us,bs)→∀ (j:Nat) (q:RV),rs[j]? = some q →
      ∃ m x u b,Jbl m q=some (x,u,b)∧∀ i∈u.map (·.1)++b,i∈us.map (·.1)++bs:=by
      intro rs
      induction rs with
      | nil=>intro ms avs us bs _ j q hj; simp at hj
      | cons r rs ih =>
       intro ms avs us bs hk j q hj
       simp only [Jb6] at hk
       cases hy:Jbl (ms.headD false) r with
       | none=>simp only [hy,reduceCtorEq] at hk
       | some q1 =>
        obtain ⟨y,u,b⟩:=q1
        cases hys:Jb6 ms.tail rs with
        | none=>simp only [hy,hys,reduceCtorEq] at hk
        | some q2 =>
         obtain ⟨ys',us',bs'⟩:=q2
         simp only [hy,hys,Option.some.injEq,Prod.mk.injEq] at hk
         obtain ⟨rfl,rfl,rfl⟩:=hk
         cases j with
         | zero =>
          simp at hj; subst hj
          refine ⟨_,y,u,b,hy,fun i hi=>?_⟩
          simp only [List.map_append,List.mem_append] at hi ⊢
          exact hi.elim (fun q=>.inl (.inl q)) fun q=>.inr (.inl q)
         | succ j =>
          simp at hj
          obtain ⟨m,y,u,b,e1,e2⟩:=ih hys j q hj
          refine ⟨m,y,u,b,e1,fun i hi=>?_⟩
          have:=e2 i hi
          simp only [List.map_append,List.mem_append] at this ⊢
          exact this.elim (fun q=>.inl (.inr q)) fun q=>.inr (.inr q)
     have hv':∀ (j:Nat) (q:RV),rs[j]? = some q→∃ c,cs[j]? = some c∧RVR P F1 (st.upS u []).fr tm w q c:=by
      intro j q hj
      obtain ⟨m,yq,uq,bq,e1,e2⟩:=hsub hys j q hj
      obtain ⟨c',e,hq⟩:=hv (j + 1) q (by simpa using hj)
      exact ⟨c',by simpa using e,JiK e1 (fun i hi=>Jap _ _ _ fun hm=>d3 i (List.mem_append_left _ hm) i (e2 i hi) rfl) r3 hq⟩
     obtain ⟨F2,Bs2,B2,s1,s2,s2',s3,s3',s4,s5,s6,s7,s8⟩:=Jd9 r1 hv' (by simpa using hl) hys d2
     have hB1:∀ b∈B1,¬ F2 b:=fun x hx hf=>by
      rcases s3' x hf with q | ⟨i,q1,q2⟩
      · exact r5 x hx q
      · exact d3 i (List.mem_append_right _ (r7 x hx i q2)) i (List.mem_append_left _ q1) rfl
     refine ⟨F2,Bs2,B1++B2,by rw [←Jb2]; exact s1,.cons (r2.mono (w':=w) s3 fun _ _=>rfl) s2,?_,fun b q=>s3 b (r3 b q),fun b q=>?_,fun i b q=>r4 i b (s4 i b q),?_,?_,?_,?_⟩
     rotate_left
     · rcases s3' b q with q | ⟨i,q1,q2⟩
       · exact (r3' b q).imp id fun ⟨i,q1,q2⟩=>⟨i,by simp only [List.map_append,List.mem_append]; exact .inl q1,q2⟩
       · exact .inr ⟨i,by simp only [List.map_append,List.mem_append]; exact .inr q1,r4 i b q2⟩
     rotate_right 1
     · refine List.nodup_append.2 ⟨r2',s2',fun x hx y hy e=>?_⟩
       subst e
       obtain ⟨i1,q1,q2⟩:=r6 x hx
       obtain ⟨i2,q3,q4⟩:=s6 x hy
       exact h.dj i1 i2 x (fun e=>d3 i1 q1 i2 q3 e) q2 (r4 i2 x q4)
     · intro x hx
       rcases List.mem_append.1 hx with q | q
       · exact hB1 x q
       · exact s5 x q
     · intro x hx
       rcases List.mem_append.1 hx with q | q
       · obtain ⟨i,q1,q2⟩:=r6 x q
         refine ⟨i,?_,q2⟩
         simp only [List.map_append,List.mem_append] at q1 ⊢
         exact q1.elim (fun q=>.inl (.inl q)) fun q=>.inr (.inl q)
       · obtain ⟨i,q1,q2⟩:=s6 x q
         refine ⟨i,?_,r4 i x q2⟩
         simp only [List.map_append,List.mem_append] at q1 ⊢
         exact q1.elim (fun q=>.inl (.inr q)) fun q=>.inr (.inr q)
     · intro x hx i hi
       rcases List.mem_append.1 hx with q | q
       · exact List.mem_append_left _ (r7 x q i (s4 i x hi))
       · exact List.mem_append_right _ (s7 x q i hi)
     · rw [List.map_append,r8,s8,JiP y c ys' cs]
end
end Go.Proofs.YtgglhmfncoeffaaGreatDoor.Th
set_option linter.unusedVariables false
set_option linter.unusedSimpArgs false
namespace Go.Proofs.YtgglhmfncoeffaaGreatDoor.Th
open Go
variable {R:Type} {res:R}
def Jks {R:Type} (P:Program) (G:Gd) (st:St) (a:Act) (w:World) (o:Oper) (K:Out→Option R) (res:R):Prop :=
 (∀ r,K r=some res→r.fits G.N o.dst=true)→∀ (next:Act→World→Prop) (Q:Exit→Act→World→Prop),
   (∀ r a' w',K r=some res→SRel P G (st.put o.dst r) a' w'→next a' w')→o.wp P a w next Q
section
variable {P:Program} {G:Gd} {F:Nat→Prop} {Bs:Nat→List Nat} {st:St} {a:Act} {tm:Array Value} {w:World}
theorem Eff.effW {o:Oper} {K:Out→Option R} (h:∃ out,K out=some res∧Eff P G st a w o out):Jks P G st a w o K res:=by
 obtain ⟨out,h1,h2⟩:=h
 exact fun hf _ _ hn=>h2.wp (hf out h1) fun a' w'=>hn out a' w' h1
theorem Jeq:∀ {l:List (Nat × SV)} {fr fr':Fr} {i:Nat},i∈l.map (·.1)→JaL fr l i=JaL fr' l i
 | [],_,_,_,h=>by simp at h
 | (s,x)::l,fr,fr',i,h=>by
  simp only [JaL]
  by_cases hi:i∈l.map (·.1)
  · exact Jeq hi
  · rw [Jap _ _ _ hi,Jap _ _ _ hi]
    simp only [List.map_cons,List.mem_cons] at h
    rcases h with h | h
    · subst h; rw [JaT,JaT]
    · exact absurd h hi
theorem Jds:∀ {l:List Nat} {ys:List SV},ys.length=l.length→(Jhy l ys).map (·.1)=l
 | [],[],_=>rfl
 | s::l,y::ys,h=>by simp [Jhy,Jds (l:=l) (ys:=ys) (by simpa using h)]
 | [],_::_,h=>by simp at h
 | _::_,[],h=>by simp at h
theorem Jgl:∀ (bs:List Nat) (fr:Fr) (s:Nat),s∈bs→JaL fr (bs.map fun s=>(s,.dead)) s=.dead
 | [],_,_,hs=>by simp at hs
 | x::bs,fr,s,hs=>by
  simp only [List.map_cons,JaL]
  by_cases hx:s∈bs
  · exact Jgl bs _ s hx
  · rw [Jap _ _ _ (by simpa using hx)]
    rcases List.mem_cons.1 hs with rfl | q
    · exact JaT _ _ _
    · exact absurd q hx
theorem Rel.empties:∀ (bs:List Nat) {st:St} {Bs:Nat→List Nat},Rel P G F Bs st tm w →
 ∃ Bs',Rel P G F Bs' (st.upS (bs.map fun s=>(s,.dead)) []) tm w∧(∀ i b,b∈Bs' i→b∈Bs i∧i∉bs)
 | [],st,Bs,h=>⟨Bs,by rw [List.map_nil,Jak]; exact h,fun i b hb=>⟨hb,by simp⟩⟩
 | s::bs,st,Bs,h=>by
  have h1:=Rel.empty (a:={ tmps:=tm,defers:=[] }) h s
  obtain ⟨Bs',r1,r2⟩:=Rel.empties bs h1
  refine ⟨Bs',by rw [Jb2] at r1; exact r1,fun i b hb=>?_⟩
  obtain ⟨q1,q2⟩:=r2 i b hb
  by_cases hi:i=s
  · subst hi; rw [Jaj] at q1; cases q1
  · rw [Jah _ _ hi] at q1; exact ⟨q1,by simp [hi,q2]⟩
theorem Rel.growB {B:List Nat} (h:Rel P G F Bs st tm w) {w':World} {F':Nat→Prop} (hw:∀ b,b<w.heap.size→b∉B→w'.heap[b]? = w.heap[b]?) (hz:w.heap.size≤w'.heap.size)
 (hos:w'.os=w.os∧w'.tape=w.tape∧w'.output=w.output) (hF:∀ b,F b→F' b) (hF':∀ b,F' b→F b∨w.heap.size≤b∨b∈B) (hlt:∀ b,F' b→b<w'.heap.size)
 (hBF:∀ b∈B,¬ F b) (hBB:∀ i b,b∈Bs i→b∉B) (hBw:∀ b∈B,G.W.heap.size≤b∨G.A b):Rel P G F' Bs st tm w':=by
 refine ⟨h.sz,fun i=>(h.sl i).mono hF fun b hb=>?_,h.nd,h.dj,fun i b hb hf=>?_,h.nw,fun i b hb=>Nat.lt_of_lt_of_le (h.lt i b hb) hz,hlt,fun b hb=>hF b (h.f0 b hb),fun b hb=>?_,?_,?_,h.pn⟩
 · rcases hb with q | q
   · exact hw b (h.fl b q) fun r=>hBF b r q
   · exact hw b (h.lt i b q) (hBB i b q)
 · rcases hF' b hf with q | q | q
   · exact h.nf i b hb q
   · have:=h.lt i b hb; omega
   · exact hBB i b hb q
 · rcases hF' b hb with q | q | q
   · exact h.fn b q
   · exact .inr (.inl (Nat.le_trans h.kb.size q))
   · exact .inr (hBw b q)
 · refine ⟨hos.1.trans h.kb.os,hos.2.1.trans h.kb.tape,hos.2.2.trans h.kb.output,Nat.le_trans h.kb.size hz,fun b hb hA=>(hw b (Nat.lt_of_lt_of_le hb h.kb.size) fun q=>?_).trans (h.kb.block b hb hA)⟩
   rcases hBw b q with r | r
   · omega
   · exact hA r
 · intro t q hm
   have hok:=h.rf t q hm
   have box:∀ u T cs b,st.fr u=.bx T cs→tm.getD u undef=.pointer (some ⟨b,0,none⟩)→w'.heap[b]? = w.heap[b]? := by
    intro u T cs b hu ht
    have hsl:=h.sl u
    rw [hu,ht] at hsl
    exact hw b (h.lt u b hsl.bx_mem) (hBB u b hsl.bx_mem)
   cases q with
   | b u off=>exact hok
   | c u g=>exact hok
   | o u j =>
    cases j with
    | none=>exact hok
    | some j =>
     intro T cs b cur T' f hu ht hb
     rw [box u T cs b hu ht] at hb
     exact hok T cs b cur T' f hu ht hb
   | e u j T i off =>
    cases j with
    | none=>exact hok
    | some j =>
     intro Tb cs b cur T' f hu ht hb
     rw [box u Tb cs b hu ht] at hb
     exact hok Tb cs b cur T' f hu ht hb
theorem Rel.lays:∀ (bs:List Nat) (ys:List SV) {st:St} {Bs:Nat→List Nat} {B:List Nat},Rel P G F Bs st tm w→RSs P F w ys (bs.map fun s=>tm.getD s undef) B→B.Nodup→bs.Nodup →
 (∀ b∈B,(∀ i,b∉Bs i)∧¬ F b∧(G.W.heap.size≤b∨G.A b)∧b<w.heap.size)→(∀ s∈bs,st.fr s=.dead) →
 ∃ Bs',Rel P G F Bs' (st.upS (Jhy bs ys) bs) tm w∧∀ i b,b∈Bs' i→b∈Bs i∨b∈B
 | [],ys,st,Bs,B,h,hy,_,_,_,_=>by
  cases hy
  exact ⟨Bs,by simp only [Jhy]; rw [Jak]; exact h,fun _ _ q=>.inl q⟩
 | s::bs,ys,st,Bs,B,h,hy,hn,hbs,hB,hd=>by
  cases hy with
  | cons h1 h2 =>
   rename_i y ys B1 B2
   rw [List.nodup_append] at hn
   have hds:=hd s (by simp)
   have ht:=h.turn (s:=s) (drop:=[s]) (F':=F) (w':=w) (x:=y) (B:=B1) h1 (fun b hb=>by
    obtain ⟨q1,q2,q3,q4⟩:=hB b (List.mem_append_left _ hb)
    exact .inr ⟨fun ⟨i,q⟩=>q1 i q,q3,q4⟩) hn.1 (fun _ q=>q) (fun _ q=>.inl q) (fun b hb=>(hB b (List.mem_append_left _ hb)).2.1)
    (fun _ _ _=>rfl) (Nat.le_refl _) ⟨rfl,rfl,rfl⟩ (fun T cs b hs _=>by rw [hds] at hs; cases hs) (fun _ _ _=>.inl (by simp))
   rw [List.nodup_cons] at hbs
   obtain ⟨Bs',r1,r2⟩:=Rel.lays bs ys ht h2 hn.2.1 hbs.2 (fun b hb=>by
    obtain ⟨q1,q2,q3,q4⟩:=hB b (List.mem_append_right _ hb)
    refine ⟨fun i=>?_,q2,q3,q4⟩
    by_cases hi:i=s
    · subst hi; rw [Jaj]; exact fun q=>hn.2.2 b q b hb rfl
    · rw [Jah _ _ hi]; exact q1 i) (fun s' hs'=>by
    show Jd8 st.fr s y s'=.dead
    have hne:s'≠s:=fun e=>by subst e; exact hbs.1 hs'
    rw [Jau _ _ hne]
    exact hd s' (by simp [hs']))
   refine ⟨Bs',by rw [Jiz] at r1; exact r1,fun i b hb=>?_⟩
   rcases r2 i b hb with q | q
   · by_cases hi:i=s
     · subst hi; rw [Jaj] at q; exact .inr (List.mem_append_left _ q)
     · rw [Jah _ _ hi] at q; exact .inl q
   · exact .inr (List.mem_append_right _ q)
theorem Jkq {xs:List SV} {vs:List Value} {B:List Nat} (h:RSs P F w xs vs B):RS P F w (JjC xs) (JjL vs) B:=by
 cases h with
 | nil=>exact .tup .nil
 | cons h1 h2 =>
  cases h2 with
  | nil=>rw [List.append_nil]; exact h1
  | cons h3 h4=>exact .tup (.cons h1 (.cons h3 h4))
theorem Jgh {o:Oper} {g:Nat} {fs:FS} {rs:List RV} {cs:List Value} {K:Out→Option R} (hd:a.defers=G.D) (h:Rel P G F Bs st a.tmps w) (hfs:FSound P G.I g fs)
 (hrun:(execOp a.eval o).run P w=.ok (.enter g cs.toArray) w) (hv:∀ (j:Nat) (r:RV),rs[j]? = some r→∃ c,cs[j]? = some c∧RVR P F st.fr a.tmps w r c) (hl:cs.length=rs.length)
 (hk:JgV fs rs K=some res):Jks P G st a w o K res:=by
 unfold JgV at hk
 cases ha:Jb6 fs.om rs with
 | none=>rw [ha] at hk; cases hk
 | some q =>
  obtain ⟨avs,us,bs⟩:=q
  rw [ha] at hk
  simp only [] at hk
  obtain ⟨hdi,hk⟩:=Jab hk
  have hdi:=JbB.1 hdi
  obtain ⟨F1,Bs1,B,r1,r2,r3,r4,r4',r5,r6,r7,r8,r9⟩:=Jd9 h hv hl ha hdi
  have told:=hfs.call hk
  have hBlt:∀ b∈B,b<w.heap.size:=fun b hb=>by obtain ⟨i,_,q⟩:=r7 b hb; exact h.lt i b q
  have hBw:∀ b∈B,G.W.heap.size≤b∨G.A b:=fun b hb=>by obtain ⟨i,_,q⟩:=r7 b hb; exact h.nw i b q
  intro hf next Q hn
  unfold Oper.wp
  rw [hrun,Oper.upon_enter]
  refine Calls.mono (told F1 w cs.toArray B (by simpa using r2) r3 (fun b hb=>⟨r6 b hb,hBlt b hb⟩) r1.fl (G.hI _ _ r1.f0 r1.kb)) fun e w' he=>?_
  cases e with
  | panicked chain=>exact he.elim
  | outgrown=>exact he.elim
  | returned v =>
   obtain ⟨rs',hkr,F2,Br,xs,ys,vs,rfl,e1,rfl,e2,e3,e4,e5,e6,e7,e8⟩:=he
   have hlen:ys.length=bs.length:=by
    have q1:=e2.length
    have q2:=congrArg List.length r9
    simp only [List.length_map,List.length_append] at q1 q2
    omega
   have htake:(xs++ys).take ((xs++ys).length - bs.length)=xs:=by
    rw [List.length_append,hlen,Nat.add_sub_cancel,List.take_left]
   have hdrop:(xs++ys).drop ((xs++ys).length - bs.length)=ys:=by
    rw [List.length_append,hlen,Nat.add_sub_cancel,List.drop_left]
   rw [htake,hdrop] at hkr
   obtain ⟨v1,v2,B1,B2,q1,rfl,g1,g2⟩:=e2.split
   have hv1:vs=v1∧bxv avs cs=v2:=List.append_inj q1 (by rw [←e1,g1.length])
   obtain ⟨rfl,rfl⟩:=hv1
   rw [←r9] at g2
   rw [List.nodup_append] at e3
   obtain ⟨Bs2,s1,s2⟩:=Rel.empties bs r1
   have s3:Rel P G F2 Bs2 ((st.upS us []).upS (bs.map fun s=>(s,.dead)) []) a.tmps w' :=
    s1.growB (B:=B) (fun b hb hnb=>e8.block b hb hnb) e8.size ⟨e8.os,e8.tape,e8.output⟩ e5 e6 e7 r6 (fun i b hb hbB=>(s2 i b hb).2 (r8 b hbB i (s2 i b hb).1)) hBw
   have hbsn:bs.Nodup:=(List.nodup_append.1 hdi).2.1
   have new:∀ b∈B1++B2,(∀ i,b∉Bs2 i)∧¬ F2 b∧(G.W.heap.size≤b∨G.A b)∧b<w'.heap.size:=fun b hb=>by
    obtain ⟨q1,q2,q3⟩:=e4 b hb
    refine ⟨fun i hi=>?_,q1,?_,q2⟩
    · rcases q3 with q | q
      · have:=s1.lt i b hi; omega
      · exact (s2 i b hi).2 (r8 b q i (s2 i b hi).1)
    · rcases q3 with q | q
      · exact .inl (Nat.le_trans h.kb.size q)
      · exact hBw b q
   obtain ⟨Bs3,t1,t2⟩:=Rel.lays bs ys s3 g2 e3.2.1 hbsn (fun b hb=>new b (List.mem_append_right _ hb)) (fun s hs=>by
    exact Jgl bs _ s hs)
   have hst:((st.upS us []).upS (bs.map fun s=>(s,.dead)) []).upS (Jhy bs ys) bs=st.upS (us++Jhy bs ys) bs:=by
    rw [Jb2,Jb2]
    simp only [St.upS,Jb3]
    congr 1
    funext i
    by_cases hi:i∈bs
    · exact Jeq (by rw [Jds hlen]; exact hi)
    · rw [Jap _ (Jhy bs ys) i (by rw [Jds hlen]; exact hi),Jap _ (Jhy bs ys) i (by rw [Jds hlen]; exact hi),Jap _ _ i (by simpa using hi)]
   rw [hst] at t1
   refine hn _ _ _ hkr (Jav hd t1 (Jkq g1) e3.1 (fun i b hb hi=>?_) (fun b hb=>(new b (List.mem_append_left _ hb)).2.1) (fun b hb=>(new b (List.mem_append_left _ hb)).2.2.1)
    (fun b hb=>(new b (List.mem_append_left _ hb)).2.2.2) (by simp) (hf _ hkr))
   rcases t2 i b hi with q | q
   · exact (new b (List.mem_append_left _ hb)).1 i q
   · exact e3.2.2 b hb b q rfl
theorem JcN:∀ {rs:List RV} {cs:List Value} {avs:List SV},Rel P G F Bs st tm w→(∀ (j:Nat) (r:RV),rs[j]? = some r→∃ c,cs[j]? = some c∧RVR P F st.fr tm w r c)→cs.length=rs.length →
 JaG rs=some avs→∃ F':Nat→Prop,RSs P F' w avs cs []∧(∀ b,F b→F' b)∧(∀ b,F' b→b<w.heap.size)
 | [],cs,avs,h,hv,hl,hk=>by
  simp only [JaG,Option.some.injEq] at hk
  subst hk
  have:cs=[]:=List.length_eq_zero_iff.1 (by simpa using hl)
  subst this
  exact ⟨F,.nil,fun _ q=>q,h.fl⟩
 | r::rs,cs,avs,h,hv,hl,hk=>by
  cases cs with
  | nil=>simp at hl
  | cons c cs =>
   have hr:RVR P F st.fr tm w r c:=by
    obtain ⟨c',e,q⟩:=hv 0 r rfl
    simp at e; subst e; exact q
   have hv':∀ (j:Nat) (q:RV),rs[j]? = some q→∃ c,cs[j]? = some c∧RVR P F st.fr tm w q c:=fun j q hj=>by
    obtain ⟨c',e,hq⟩:=hv (j + 1) q (by simpa using hj)
    exact ⟨c',by simpa using e,hq⟩
   have hl':cs.length=rs.length:=by simpa using hl
   have join:∀ {x:SV} {as:List SV} {F1 F2:Nat→Prop},RS P F1 w x c []→RSs P F2 w as cs []→(∀ b,F b→F1 b)→(∀ b,F1 b→b<w.heap.size)→(∀ b,F2 b→b<w.heap.size) →
    ∃ F':Nat→Prop,RSs P F' w (x::as) (c::cs) []∧(∀ b,F b→F' b)∧(∀ b,F' b→b<w.heap.size):=by
    intro x as F1 F2 h1 h2 h3 h4 h5
    refine ⟨fun b=>F1 b∨F2 b,?_,fun b q=>.inl (h3 b q),fun b q=>q.elim (h4 b) (h5 b)⟩
    have:=RSs.cons (h1.mono (w':=w) (F':=fun b=>F1 b∨F2 b) (fun _ q=>.inl q) fun _ _=>rfl) (h2.mono (w':=w) (F':=fun b=>F1 b∨F2 b) (fun _ q=>.inr q) fun _ _=>rfl)
    simpa using this
   cases r with
   | pv x =>
    simp only [JaG,Option.map_eq_some_iff] at hk
    obtain ⟨as,ha,rfl⟩:=hk
    obtain ⟨F2,g1,g2,g3⟩:=JcN h hv' hl' ha
    exact join (F1:=F) (.p hr) g1 (fun _ q=>q) h.fl g3
   | nl =>
    simp only [JaG,Option.map_eq_some_iff] at hk
    obtain ⟨as,ha,rfl⟩:=hk
    obtain ⟨F2,g1,g2,g3⟩:=JcN h hv' hl' ha
    exact join (F1:=F) (.p (by rw [show c=_ from hr]; exact Jcs F w)) g1 (fun _ q=>q) h.fl g3
   | cl s g T ds =>
    simp only [JaG] at hk
    cases hf:Jdh ds with
    | none=>rw [hf] at hk; cases hk
    | some ys =>
     cases ha:JaG rs with
     | none=>rw [hf,ha] at hk; cases hk
     | some as =>
      rw [hf,ha] at hk
      simp only [Option.some.injEq] at hk
      subst hk
      obtain ⟨F2,g1,g2,g3⟩:=JcN h hv' hl' ha
      obtain ⟨h1,b,h2,h3⟩:=hr
      obtain ⟨F',Bs',b',q1,q2,q3,q4,q5,q6⟩:=JdC (off:=0) h h1 hf
      rw [h2] at q1
      cases q1
      rw [List.drop_zero] at q3
      refine join (F1:=F') (.p ?_) g1 q4 q2.fl g3
      rw [h3]
      exact .clo (vs:=[.pointer (some ⟨b,0,none⟩)]) (.cons q3 .nil)
   | _=>simp [JaG] at hk
theorem Jfi:∀ {rs:List RV} {avs:List SV},JaG rs=some avs→∀ cs:List Value,bxv avs cs=[]
 | [],avs,h,cs=>by
  simp only [JaG,Option.some.injEq] at h
  subst h
  cases cs <;> rfl
 | r::rs,avs,h,cs=>by
  have one:∀ (x:PV) (as:List SV),JaG rs=some as→bxv (.p x::as) cs=[]:=fun x as ha=>by
   cases cs with
   | nil=>rfl
   | cons c cs=>exact Jfi ha cs
  cases r with
  | pv x =>
   simp only [JaG,Option.map_eq_some_iff] at h
   obtain ⟨as,ha,rfl⟩:=h
   exact one _ _ ha
  | nl =>
   simp only [JaG,Option.map_eq_some_iff] at h
   obtain ⟨as,ha,rfl⟩:=h
   exact one _ _ ha
  | cl s g T ds =>
   simp only [JaG] at h
   cases hf:Jdh ds with
   | none=>rw [hf] at h; cases h
   | some ys =>
    cases ha:JaG rs with
    | none=>rw [hf,ha] at h; cases h
    | some as =>
     rw [hf,ha] at h
     simp only [Option.some.injEq] at h
     subst h
     exact one _ _ ha
  | _=>simp [JaG] at h
theorem Jjf {o:Oper} {g:Nat} {fs:FS} {rs:List RV} {cs:List Value} {K:Out→Option R} (hd:a.defers=G.D) (h:Rel P G F Bs st a.tmps w) (hfs:FSound P G.I g fs)
 (hrun:(execOp a.eval o).run P w=.ok (.enter g cs.toArray) w) (hv:∀ (j:Nat) (r:RV),rs[j]? = some r→∃ c,cs[j]? = some c∧RVR P F st.fr a.tmps w r c) (hl:cs.length=rs.length)
 (hk:Jje fs rs K=some res):Jks P G st a w o K res:=by
 unfold Jje at hk
 cases ha:JaG rs with
 | none=>rw [ha] at hk; cases hk
 | some avs =>
  rw [ha] at hk
  simp only [] at hk
  obtain ⟨F1,g1,g2,g3⟩:=JcN h hv hl ha
  have told:=hfs.call hk
  intro hf next Q hn
  unfold Oper.wp
  rw [hrun,Oper.upon_enter]
  refine Calls.mono (told F1 w cs.toArray [] (by simpa using g1) (by simp) (by simp) g3 (G.hI _ _ (fun b hb=>g2 b (h.f0 b hb)) h.kb)) fun e w' he=>?_
  cases e with
  | panicked chain=>exact he.elim
  | outgrown=>exact he.elim
  | returned v =>
   obtain ⟨rs',hkr,F2,Br,xs,ys,vs,rfl,e1,rfl,e2,e3,e4,e5,e6,e7,e8⟩:=he
   have hgrow:Rel P G F Bs st a.tmps w':=h.growB (B:=[]) (fun b hb _=>e8.block b hb (by simp)) e8.size ⟨e8.os,e8.tape,e8.output⟩ (fun _ q=>q) (fun _ q=>.inl q)
    (fun b hb=>Nat.lt_of_lt_of_le (h.fl b hb) e8.size) (by simp) (by simp) (by simp)
   unfold Jk0 at hkr
   split at hkr
   · rename_i x hx
     have hlen:=e2.length
     rw [hx] at e2 hlen
     have hb:bxv avs cs=[]:=Jfi ha cs
     rw [hb,List.append_nil] at e2
     cases e2 with
     | cons h1 h2 =>
      cases h2
      cases h1 with
      | p h3 =>
       cases h3
       exact hn _ _ _ hkr (JaE hd hgrow (.v x) (hf _ hkr))
   · cases hkr
end
end Go.Proofs.YtgglhmfncoeffaaGreatDoor.Th
set_option linter.unusedVariables false
set_option linter.unusedSimpArgs false
namespace Go.Proofs.YtgglhmfncoeffaaGreatDoor.Th
open Go
variable {R:Type} {res:R}
section
variable {P:Program} {G:Gd} {F:Nat→Prop} {Bs:Nat→List Nat} {st:St} {a:Act} {tm:Array Value} {w:World}
theorem Jhd {o:Oper} {T:TypeId} {r:Option Operand} {K:Out→Option R} {env:Env} (hd:a.defers=G.D) (h:Rel P G F Bs st a.tmps w) (ho:o.op=.makeMap T r)
 (hk:opK P env (.makeMap T r) o.type (opd st) K=some res):∃ out,K out=some res∧Eff P G st a w o out:=by
 simp only [opK] at hk
 split at hk
 · rename_i d E hm
   have hrun:(execOp a.eval o).run P w=.ok (.value (.map (some w.heap.size))) (w.alloc (.map #[] 0)):=by
    simp [execOp,ho]; rfl
   have hg:=h.grow (w':=w.alloc (.map #[] 0)) (F':=F) (fun b hb=>Ja3 w _ b hb) (by simp) ⟨rfl,rfl,rfl⟩ (fun _ q=>q) (fun _ q=>.inl q)
   refine ⟨_,hk,fun hf=>⟨_,_,.inl hrun,?_⟩⟩
   have hmp:RS P F (w.alloc (.map #[] 0)) (.mp d [] []) (.map (some w.heap.size)) [w.heap.size]:=.mp .nil .nil (Jb9 w _) ⟨rfl,rfl⟩ (by simp)
   refine Jav hd (by rw [Jak]; exact hg) hmp (by simp) ?_ ?_ ?_ ?_ (by simp) hf
   · intro i b hb hb'
     rw [List.mem_singleton] at hb; subst hb
     exact Nat.lt_irrefl _ (h.lt i _ hb')
   · intro b hb hF
     rw [List.mem_singleton] at hb; subst hb
     exact Nat.lt_irrefl _ (h.fl _ hF)
   · intro b hb
     rw [List.mem_singleton] at hb; subst hb
     exact .inl h.kb.size
   · intro b hb
     rw [List.mem_singleton] at hb; subst hb
     simp
 · cases hk
def JiD (d:Option IntKind) (v:Value):Prop :=
 match d with
 | none=>∃ s,v=.string s
 | some k=>∃ n,v=.int k n
theorem Jc0 {d:Option IntKind} {k:PV} {c:Value} (h:Jb7 d k=true) (hr:RP F w k c):k=.v c∧JiD d c:=by
 unfold Jb7 at h
 split at h
 · rename_i s; cases hr; exact ⟨rfl,s,rfl⟩
 · rename_i k' k n
   have:=JbC h
   subst this
   cases hr; exact ⟨rfl,n,rfl⟩
 · cases h
def JcZ:Option IntKind→TypeDesc
 | none=>.string
 | some k=>.int k
theorem JhR (a b:ByteArray):eqS a b=(a == b):=by
 have e:(a == b)=(a.data == b.data):=by cases a; cases b; rfl
 rw [e,Bool.eq_iff_iff]
 unfold eqS
 rw [beq_iff_eq,beq_iff_eq,Array.toList_inj]
theorem Jhj {d:Option IntKind} {x y:Value} (hx:JiD d x) (hy:JiD d y):Instr.sameNow (JcZ d) x y=some (JbI (.v x) (.v y)):=by
 cases d with
 | none=>obtain ⟨s,rfl⟩:=hx; obtain ⟨t,rfl⟩:=hy; simp [Instr.sameNow,JcZ,JbI,JhR]
 | some k=>obtain ⟨s,rfl⟩:=hx; obtain ⟨t,rfl⟩:=hy; simp [Instr.sameNow,JcZ,JbI]
theorem JfT {d:Option IntKind} {x y:Value} (hx:JiD d x) (hy:JiD d y) (h:JbI (.v x) (.v y)=true):x=y:=by
 cases d with
 | none =>
  obtain ⟨s,rfl⟩:=hx; obtain ⟨t,rfl⟩:=hy
  have h:(s.data.toList == t.data.toList)=true:=h
  have h:=Array.toList_inj.1 (eq_of_beq h)
  cases s; cases t
  exact congrArg _ (congrArg _ h)
 | some k =>
  obtain ⟨s,rfl⟩:=hx; obtain ⟨t,rfl⟩:=hy
  have h:(s == t)=true:=h
  rw [eq_of_beq h]
theorem JcX {d:Option IntKind} {kc:Value} (hk:JiD d kc) (z v:PV):∀ (es:List MapEntry) (ks vs:List PV) (i:Nat),RPs F w ks (es.map (·.key))→RPs F w vs (es.map (·.val))→(∀ k∈ks,Jb7 d k=true) →
 (Jg9 (.v kc) ks=false∧Jh4 (.v kc) z ks vs=z∧Jc5 (.v kc) ks=ks++[.v kc]∧Jdi (.v kc) v ks vs=vs++[v]∧Instr.findNow (JcZ d) kc es i=some none) ∨
 (∃ j e,es[j]? = some e∧e.key=kc∧Jg9 (.v kc) ks=true∧RP F w (Jh4 (.v kc) z ks vs) e.val∧Jc5 (.v kc) ks=ks.set j (.v kc)∧Jdi (.v kc) v ks vs=vs.set j v∧Instr.findNow (JcZ d) kc es i=some (some (i + j,e.val)))
 | [],ks,vs,i,h1,h2,_=>by
  cases h1; cases h2
  exact .inl ⟨rfl,rfl,rfl,rfl,rfl⟩
 | e::es,ks,vs,i,h1,h2,h3=>by
  cases h1 with
  | cons p1 q1 =>
   cases h2 with
   | cons p2 q2 =>
    rename_i x ks u vs
    obtain ⟨hx,hkv⟩:=Jc0 (h3 x (by simp)) p1
    subst hx
    have hs:=Jhj hk hkv
    cases hq:JbI (.v kc) (.v e.key) with
    | true =>
     have he:=JfT hk hkv hq
     refine .inr ⟨0,e,rfl,he.symm,?_,?_,?_,?_,?_⟩
     · simp [Jg9,hq]
     · simpa [Jh4,hq] using p2
     · simp [Jc5,hq]
     · simp [Jdi,hq]
     · simp [Instr.findNow,hs,hq]
    | false =>
     rcases JcX hk z v es ks vs (i + 1) q1 q2 (fun k hk=>h3 k (by simp [hk])) with ⟨g1,g2,g3,g4,g5⟩ | ⟨j,e',g1,g2,g3,g4,g5,g6,g7⟩
     · exact .inl ⟨by simp [Jg9,hq,g1],by simp [Jh4,hq,g2],by simp [Jc5,hq,g3],by simp [Jdi,hq,g4],by simp [Instr.findNow,hs,hq,g5]⟩
     · refine .inr ⟨j + 1,e',by simpa using g1,g2,by simp [Jg9,hq,g3],by simpa [Jh4,hq] using g4,by simp [Jc5,hq,g5],by simp [Jdi,hq,g6],?_⟩
       simp only [Instr.findNow,hs,hq,g7]
       congr 3; omega
theorem JeM {K:TypeId} {d:Option IntKind} {v:Value} (hK:P.underlying K=some (JcZ d)) (hv:JiD d v) (b:Bool) (n:Nat):(Instr.checkKey b (n + 1) K v).run P w=.ok () w:=by
 cases d with
 | none=>obtain ⟨s,rfl⟩:=hv; simp [Instr.checkKey,run_underlying hK,JcZ]
 | some k=>obtain ⟨s,rfl⟩:=hv; simp [Instr.checkKey,run_underlying hK,JcZ]
theorem JbA {K:TypeId} {d:Option IntKind} {v:Value} (hK:P.underlying K=some (JcZ d)) (hv:JiD d v) (b:Bool):(Instr.checkKey b 10000 K v).run P w=.ok () w :=
 JeM hK hv b 9999
theorem Jb0 {K:TypeId} {d:Option IntKind} {v:Value} {es:List MapEntry} {r:Option (Nat × Value)} (hK:P.underlying K=some (JcZ d)) (h:Instr.findNow (JcZ d) v es 0=some r):(Instr.findKey K v es).run P w=.ok r w:=by
 simp [Instr.findKey,run_underlying hK,h]
theorem JiB {E:TypeId} {z:PV} (h:JiA P E=some z):∃ c,(zeroValue E).run P w=.ok c w∧RP F w z c:=by
 unfold JiA at h
 split at h
 · rename_i i hi
   split at h
   · rename_i cs hz
     obtain ⟨h1,h2⟩:=Jab h
     simp only [Bool.and_eq_true] at h1
     cases h2
     refine ⟨.agg cs,by simp [zeroValue,typeInfo,hi,hz],?_⟩
     have:=RP.agg (JcI F w cs.toList) h1.2
     simpa using this
   · rename_i x hx hz
     cases ha:Jai P E with
     | true=>rw [ha] at h; cases h
     | false =>
      rw [ha] at h
      simp only [cond_false,Option.some.injEq] at h
      subst h
      exact ⟨x,by simp [zeroValue,typeInfo,hi,hz],JeD F w x⟩
   · cases h
 · cases h
theorem Jgy {q:Option IntKind × TypeId} {kt:TypeId} (h:(q.1=none∧P.underlying kt=some .string)∨∃ k,q.1=some k∧P.underlying kt=some (.int k)):P.underlying kt=some (JcZ q.1):=by
 rcases h with ⟨h1,h2⟩ | ⟨k,h1,h2⟩ <;> rw [h1,h2] <;> rfl
theorem Jf0 {a b:Option IntKind} (h:JiC a b=true):a=b:=by
 cases a <;> cases b <;> simp [JiC] at h
 · rfl
 · rw [JbC h]
theorem Jih {o:Oper} {T:TypeId} {x i:Operand} {ok:Bool} {K:Out→Option R} (hd:a.defers=G.D) (h:Rel P G F Bs st a.tmps w) (ho:o.op=.lookup T x i ok)
 (hk:JdN P T (opd st x) (opd st i) ok K=some res):∃ out,K out=some res∧Eff P G st a w o out:=by
 have hrx:=Jag h x
 have hri:=Jag h i
 unfold JdN at hk
 split at hk
 · rename_i d E k hm hi
   rw [hi] at hri
   have hri:RP F w k (a.eval i):=hri
   obtain ⟨kt,E',hT,hE,hq⟩:=Jf2 hm
   have hE:E=E':=hE
   subst hE
   have hK:=Jgy hq
   obtain ⟨hkd,hk1⟩:=Jab hk
   clear hk
   obtain ⟨hkv,hkval⟩:=Jc0 hkd hri
   subst hkv
   split at hk1
   · rename_i z hz
     obtain ⟨zc,hzr,hzp⟩:=JiB (F:=F) (w:=w) hz
     have main:∀ (b:Nat) (es:Array MapEntry) (clock:Nat) (ks vs:List PV),a.eval x=.map (some b)→w.heap[b]? = some (.map es clock)→RPs F w ks (es.toList.map (·.key))→RPs F w vs (es.toList.map (·.val)) →
      (∀ k∈ks,Jb7 d k=true)→JcO P E (.v (a.eval i)) z ks vs ok K=some res→∃ out,K out=some res∧Eff P G st a w o out:=by
      intro b es clock ks vs hv hb hks hvs hkk hk2
      unfold JcO at hk2
      obtain ⟨hk3,_,hmk,_⟩:=Jbm hk2
      rw [←hmk] at hk3
      have hlk:∃ c,RP F w (Jh4 (.v (a.eval i)) z ks vs) c∧(Instr.lookup T (a.eval x) (a.eval i) ok).run P w=.ok (if ok then .tuple #[c,.bool (Jg9 (.v (a.eval i)) ks)] else c) w:=by
       rcases JcX hkval z z es.toList ks vs 0 hks hvs hkk with ⟨g1,g2,_,_,g5⟩ | ⟨j,e,_,_,g3,g4,_,_,g7⟩
       · refine ⟨zc,by rw [g2]; exact hzp,?_⟩
         have hf:=Jb0 (P:=P) (w:=w) hK g5
         cases ok <;> simp [Instr.lookup,run_underlying hT,hv,JbM hb,JbA (P:=P) (w:=w) hK hkval,hf,hzr,g1]
       · refine ⟨e.val,g4,?_⟩
         have hf:=Jb0 (P:=P) (w:=w) hK g7
         cases ok <;> simp [Instr.lookup,run_underlying hT,hv,JbM hb,JbA (P:=P) (w:=w) hK hkval,hf,g3]
      obtain ⟨c,hc,hrun⟩:=hlk
      refine ⟨_,hk3,Jaa (c:=if ok then .tuple #[c,.bool (Jg9 (.v (a.eval i)) ks)] else c) (by simp [execOp,ho,hrun]) ?_⟩
      cases ok with
      | false=>exact JaE hd h hc
      | true =>
       have ht:RS P F w (.tup [.p (Jh4 (.v (a.eval i)) z ks vs),.p (.v (.bool (Jg9 (.v (a.eval i)) ks)))]) (.tuple #[c,.bool (Jg9 (.v (a.eval i)) ks)]) [] :=
        .tup (.cons (B:=[]) (.p hc) (.cons (B:=[]) (.p (.v _)) .nil))
       exact Jar hd (by rw [Jak]; exact h) ht
     split at hk1
     · rename_i s cx d' ks vs hx
       obtain ⟨h1,hk2⟩:=Jab hk1
       have:=Jf0 h1
       subst this
       rw [hx] at hrx
       have hp:=(h.placeX rfl hrx).1
       generalize hv:a.eval x=c at hp
       cases hp with
       | mp p1 p2 p3 p4 p5=>exact main _ _ _ ks vs hv p3 (by rw [p4.1]; exact p1) (by rw [p4.2]; exact p2) p5 hk2
     · rename_i d' ks vs hx
       obtain ⟨h1,hk2⟩:=Jab hk1
       have:=Jf0 h1
       subst this
       rw [hx] at hrx
       have hp:RP F w (.fm d' ks vs) (a.eval x):=hrx
       generalize hv:a.eval x=c at hp
       cases hp with
       | fm p1 p2 p0 p3 p4 p5=>exact main _ _ _ ks vs hv p3 (by rw [p4.1]; exact p1) (by rw [p4.2]; exact p2) p5 hk2
     · cases hk1
   · cases hk1
 · cases hk
theorem JhX {d:Option IntKind} {x:Value} (hx:JiD d x):(Instr.keyThatStays x x).run P w=.ok x w:=by
 have hs:Instr.sameBits (9999 + 1) x x=true:=by
  cases d with
  | none=>obtain ⟨s,rfl⟩:=hx; simp [Instr.sameBits,←JhR,eqS]
  | some k=>obtain ⟨s,rfl⟩:=hx; simp [Instr.sameBits]
 have hs:Instr.sameBits 10000 x x=true:=hs
 simp [Instr.keyThatStays,hs]
theorem Jem {b:Nat} {es:Array MapEntry} {c:Nat} (o:Obj) (h:w.heap[b]? = some (.map es c)):(setObj b o).run P w=.ok () { w with heap:=w.heap.setIfInBounds b o }:=by
 simp [setObj,Sem.run,h]
theorem Rel.mapPut {d:Option IntKind} {ks vs:List PV} {s:Nat} {cx:Option (Nat × TypeId × List SV)} {k:Value} {v:PV} {c cv:Value} {T kt E:TypeId} (h:Rel P G F Bs st tm w)
 (hT:P.underlying T=some (.map kt E)) (hK:P.underlying kt=some (JcZ d)) (hkd:JiD d k) (hko:Jb7 d (.v k)=true) (hp:JcC st.fr tm w s cx (.mp d ks vs) cv) (hv:RP F w v c) :
 ∃ w' Bs',(Instr.mapUpdate T cv k c).run P w=.ok () w'∧Rel P G F Bs' (st.upS [Jaq s cx (.mp d (Jc5 (.v k) ks) (Jdi (.v k) v ks vs))] []) tm w':=by
 obtain ⟨h1,h2⟩:=h.placeX rfl hp
 cases h1 with
 | mp p1 p2 p3 p4 p5 =>
  rename_i kv vv b es clock
  have hbs:b∈Bs s:=h2 b (by simp [blkX])
  have hbF:¬ F b:=h.nf s b hbs
  have hks:RPs F w ks (es.toList.map (·.key)):=by rw [p4.1]; exact p1
  have hvs:RPs F w vs (es.toList.map (·.val)):=by rw [p4.2]; exact p2
  have new:∀ (es':Array MapEntry) (c':Nat),(es'.toList.map (·.key)=(es.toList.map (·.key))∧es'.toList.map (·.val)=(es.toList.map (·.val))→True) →
   RPs F w (Jc5 (.v k) ks) (es'.toList.map (·.key))→RPs F w (Jdi (.v k) v ks vs) (es'.toList.map (·.val))→(∀ x∈Jc5 (.v k) ks,Jb7 d x=true) →
   ∃ Bs',Rel P G F Bs' (st.upS [Jaq s cx (.mp d (Jc5 (.v k) ks) (Jdi (.v k) v ks vs))] []) tm { w with heap:=w.heap.setIfInBounds b (.map es' c') }:=by
   intro es' c' _ g1 g2 g3
   have hoth:∀ x,x≠b→(w.heap.setIfInBounds b (.map es' c'))[x]? = w.heap[x]? := fun x hx=>Array.getElem?_setIfInBounds_ne (Ne.symm hx)
   have hblt:b<w.heap.size:=h.lt s b hbs
   have hself:(w.heap.setIfInBounds b (.map es' c'))[b]? = some (.map es' c'):=by simp [hblt]
   obtain ⟨Bs',r1,_,_⟩:=h.turnPlX rfl hp (F':=F) (w':={ w with heap:=w.heap.setIfInBounds b (.map es' c') }) (x:=.mp d (Jc5 (.v k) ks) (Jdi (.v k) v ks vs)) (B:=[b])
    (.mp (g1.mono (fun _ q=>q) fun x hx=>hoth x fun e=>hbF (e ▸ hx)) (g2.mono (fun _ q=>q) fun x hx=>hoth x fun e=>hbF (e ▸ hx)) hself ⟨rfl,rfl⟩ g3)
    (by simp [blkX]) (by simp) (fun _ q=>q) (fun _ q=>.inl q) (by simpa using hbF) (fun x _ hx=>hoth x (by simpa [blkX] using hx)) (by simp) ⟨rfl,rfl,rfl⟩ (by simp)
   exact ⟨Bs',r1⟩
  rcases JcX hkd v v es.toList ks vs 0 hks hvs p5 with ⟨g1,g2,g3,g4,g5⟩ | ⟨j,e,g0,g1,g3,g4,g5,g6,g7⟩
  · have hf:=Jb0 (P:=P) (w:=w) hK g5
    obtain ⟨Bs',r⟩:=new (es.push { key:=k,val:=c,born:=clock }) (clock + 1) (fun _=>trivial) (by rw [g3]; simpa using hks.append (.cons (.v k) .nil)) (by rw [g4]; simpa using hvs.append (.cons hv .nil))
     (by rw [g3]; intro x hx; rcases List.mem_append.1 hx with q | q
         · exact p5 x q
         · rw [List.mem_singleton] at q; rw [q]; exact hko)
    exact ⟨_,Bs',by simp [Instr.mapUpdate,run_underlying hT,JbM p3,JbA (P:=P) (w:=w) hK hkd,hf,Jem _ p3],r⟩
  · have hf:=Jb0 (P:=P) (w:=w) hK g7
    have hej:es[j]? = some e:=by simpa using g0
    have hjl:j<es.size:=by
     rcases Nat.lt_or_ge j es.size with q | q
     · exact q
     · rw [Array.getElem?_eq_none q] at hej; cases hej
    have hm:(es.modify j fun x=>{ x with key:=k,val:=c }).toList=es.toList.set j { e with key:=k,val:=c }:=by
     apply List.ext_getElem?
     intro i
     rw [Array.getElem?_toList,Array.getElem?_modify,List.getElem?_set,Array.getElem?_toList]
     by_cases hi:j=i
     · subst hi
       have he':es[j]=e:=by rw [Array.getElem?_eq_getElem hjl] at hej; simpa using hej
       simp [hjl,he']
     · simp [hi]
    obtain ⟨Bs',r⟩:=new (es.modify j fun x=>{ x with key:=k,val:=c }) clock (fun _=>trivial)
     (by rw [g5,hm,List.map_set]; exact hks.set (.v k) j) (by rw [g6,hm,List.map_set]; exact hvs.set hv j)
     (by rw [g5]; intro x hx; rcases List.mem_or_eq_of_mem_set hx with q | q
         · exact p5 x q
         · rw [q]; exact hko)
    have hst:=JhX (P:=P) (w:=w) hkd
    exact ⟨_,Bs',by simp [Instr.mapUpdate,run_underlying hT,JbM p3,JbA (P:=P) (w:=w) hK hkd,hf,hej,g1,hst,Jem _ p3],r⟩
theorem Jft {o:Oper} {T:TypeId} {m k v:Operand} {K:Out→Option R} (hd:a.defers=G.D) (h:Rel P G F Bs st a.tmps w) (ho:o.op=.mapUpdate T m k v∨o.op=.insert T m k v)
 (hk:Jc3 P T (opd st m) (opd st k) v (opd st v) K=some res):∃ out,K out=some res∧Eff P G st a w o out:=by
 have hrm:=Jag h m
 have hrk:=Jag h k
 have hrv:=Jag h v
 unfold Jc3 at hk
 split at hk
 · rename_i d E s cx d' ks vs kp y us hm hx hkx hvx
   rw [hx] at hrm; rw [hkx] at hrk
   have hrk:RP F w kp (a.eval k):=hrk
   obtain ⟨hc,hk1⟩:=Jab hk
   simp only [Bool.and_eq_true] at hc
   have:=Jf0 hc.1.1
   subst this
   obtain ⟨kt,E',hT,hE,hq⟩:=Jf2 hm
   have hE:E=E':=hE
   subst hE
   have hK:=Jgy hq
   obtain ⟨hkv,hkval⟩:=Jc0 hc.1.2 hrk
   subst hkv
   have hdis:=hc.2
   simp only [Jao,Bool.and_eq_true,Bool.not_eq_true'] at hdis
   obtain ⟨F',Bs1,r1,r2,r3,r4⟩:=Jd2 h hrv hvx
   have hsn:s∉us.map (·.1):=fun hm=>by rw [JdP hm] at hdis; simp at hdis
   have hfr:(st.upS us []).fr s=st.fr s:=Jap _ _ _ hsn
   have hp:JcC (st.upS us []).fr a.tmps w s cx (.mp d' ks vs) (a.eval m):=by
    cases cx with
    | none=>exact ⟨by rw [hfr]; exact hrm.1,hrm.2⟩
    | some q =>
     obtain ⟨j,Tb,cs⟩:=q
     exact ⟨by rw [hfr]; exact hrm.1,hrm.2⟩
   obtain ⟨w',Bs',hrun,hrel⟩:=r1.mapPut hT hK hkval hc.1.2 hp r2
   rw [Jb2] at hrel
   have hex:(execOp a.eval o).run P w=.ok .skip w':=by
    have he:execOp a.eval o=(do Instr.mapUpdate T (a.eval m) (a.eval k) (a.eval v); pure .skip):=by
     unfold execOp
     rcases ho with ho | ho <;> rw [ho]
    rw [he,Sem.run_bind,hrun]; rfl
   exact ⟨_,hk1,fun hf=>⟨undef,_,.inr ⟨hex,rfl⟩,JbL hd hrel hf⟩⟩
 · cases hk
end
end Go.Proofs.YtgglhmfncoeffaaGreatDoor.Th
