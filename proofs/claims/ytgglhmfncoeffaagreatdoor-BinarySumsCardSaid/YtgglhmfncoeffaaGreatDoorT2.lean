/- Proved: what the evaluator of pure values says of a function's code, its calls keep (part 3; no further conditions). -/
import Derived.Test.YtgglhmfncoeffaaGreatDoorT1
import Derived.Defers
import Derived.Below
import Derived.Test.YtgglhmfncoeffaaGreatDoorT0
set_option linter.unusedVariables false
set_option linter.unusedSimpArgs false
namespace Go.Proofs.YtgglhmfncoeffaaGreatDoor.Th
open Go
variable {R:Type} {res:R}
def EnvOK (P:Program) (I:GInv) (env:Env):Prop:=∀ g fs,env g=some fs→FSound P I g fs
theorem EnvOK.det {P:Program} {I:GInv} {env:Env} (h:EnvOK P I env):JbF env:=fun g fs he=>(h g fs he).det
section
variable {P:Program} {G:Gd} {F:Nat→Prop} {Bs:Nat→List Nat} {st:St} {a:Act} {tm:Array Value} {w:World}
theorem Jfz {o:Oper} {f:Operand} {args:Array Operand} {tys:Array TypeId} {g:Nat} {caps:List Value} {fs:FS} (ho:o.op=.call { callee:=.value f,args:=args,argTypes:=tys })
 (hf:a.eval f=.func (.func g) #[] caps.toArray) {I:GInv} (hfs:FSound P I g fs):(execOp a.eval o).run P w=.ok (.enter g (args.toList.map a.eval++caps).toArray) w:=by
 obtain ⟨fn,h1,h2,h3⟩:=hfs.fn
 have e:#[]++args.map a.eval++caps.toArray=(args.toList.map a.eval++caps).toArray:=by apply Array.ext'; simp
 simp only [execOp,ho,resolve,hf,Deferred.ofValue,invoke,Sem.run_bind,Sem.run_pure,Result.andThen_ok]
 rw [e]
 have hn:¬ fn.name = "runtime.NumGoroutine" := by intro e; rw [e] at h3; simp at h3
 have hb:¬ fn.body=none:=by intro e; rw [e] at h2; simp at h2
 simp [callFunc,go_sem,h1,hn,hb]
theorem Jew {l:List Operand} (h:Rel P G F Bs st a.tmps w):∀ (j:Nat) (r:RV),(l.map (opd st))[j]? = some r→∃ c,(l.map a.eval)[j]? = some c∧RVR P F st.fr a.tmps w r c:=by
 intro j r hj
 rw [List.getElem?_map] at hj
 cases hl:l[j]? with
 | none=>rw [hl] at hj; cases hj
 | some x =>
  rw [hl] at hj
  simp only [Option.map_some,Option.some.injEq] at hj
  subst hj
  exact ⟨a.eval x,by rw [List.getElem?_map,hl]; rfl,Jag h x⟩
theorem JiQ {caps:List PV} {vs:List Value} (hc:RPs F w caps vs) {l:List Operand} (h:Rel P G F Bs st a.tmps w) :
 ∀ (j:Nat) (r:RV),(l.map (opd st)++caps.map RV.pv)[j]? = some r→∃ c,(l.map a.eval++vs)[j]? = some c∧RVR P F st.fr a.tmps w r c:=by
 intro j r hj
 by_cases hlt:j<l.length
 · rw [List.getElem?_append_left (by simpa using hlt)] at hj
   rw [List.getElem?_append_left (by simpa using hlt)]
   exact Jew h j r hj
 · rw [List.getElem?_append_right (by simp; omega)] at hj
   rw [List.getElem?_append_right (by simp; omega)]
   simp only [List.length_map] at hj ⊢
   rw [List.getElem?_map] at hj
   cases hl:caps[j - l.length]? with
   | none=>rw [hl] at hj; cases hj
   | some x =>
    rw [hl] at hj
    simp only [Option.map_some,Option.some.injEq] at hj
    subst hj
    obtain ⟨c,e1,e2⟩:=hc.get hl
    exact ⟨c,e1,e2⟩
theorem Jke {env:Env} (henv:EnvOK P G.I env) {o:Oper} {f:Operand} {args:Array Operand} {tys:Array TypeId} {K:Out→Option R} (hd:a.defers=G.D) (h:Rel P G F Bs st a.tmps w)
 (ho:o.op=.call { callee:=.value f,args:=args,argTypes:=tys }) (hk:opK P env (.call { callee:=.value f,args:=args,argTypes:=tys }) o.type (opd st) K=some res) :
 Jks P G st a w o K res:=by
 have hr:=Jag h f
 simp only [opK] at hk
 split at hk
 · rename_i g fi ca hf
   rw [hf] at hr
   have hv:=Jbk hr
   split at hk
   · rename_i hfi hca he
     have e1:fi=#[]:=by cases fi; simp at hfi; simp [hfi]
     have e2:ca=#[]:=by cases ca; simp at hca; simp [hca]
     subst e1 e2
     have hfs:=henv _ _ he
     have hrun:=Jfz (w:=w) (caps:=[]) ho hv hfs
     rw [List.append_nil] at hrun
     unfold JjN at hk
     cases hc:JiJ (args.toList.map (opd st)) with
     | true=>rw [hc] at hk; exact Jjf hd h hfs hrun (Jew h) (by simp) hk
     | false=>rw [hc] at hk; exact Jgh hd h hfs hrun (Jew h) (by simp) hk
   · cases hk
 · rename_i g caps hf
   rw [hf] at hr
   split at hk
   · rename_i fs he
     have hfs:=henv _ _ he
     have hr:RP F w (.clo g caps) (a.eval f):=hr
     generalize hc:a.eval f=c at hr
     cases hr with
     | clo hcs=>exact Jgh hd h hfs (Jfz ho hc hfs) (JiQ hcs h) (by simp [hcs.length]) hk
   · cases hk
 · cases hk
theorem Jha {env:Env} {o:Oper} {b:Builtin} {args:Array Operand} {tys:Array TypeId} {K:Out→Option R} (hd:a.defers=G.D) (h:Rel P G F Bs st a.tmps w)
 (ho:o.op=.call { callee:=.builtin b,args:=args,argTypes:=tys }) (hk:JaI P b tys.toList (args.toList.map (opd st)) K=some res) :
 ∃ out,K out=some res∧Eff P G st a w o out:=by
 unfold JaI at hk
 split at hk
 · rename_i x hx
   obtain ⟨h1,h2⟩:=Jab hk
   exact Jk3 hd h ho hx h2 h1
 · rename_i s x hx
   split at hk
   · rename_i t t2 ht
     cases h1:Nat.beq t t2 with
     | false =>
      rw [h1,cond_false] at hk
      split at hk
      · rename_i E hE
        obtain ⟨h2,hk2⟩:=Jab hk
        simp only [Bool.and_eq_true] at h2
        have hty:tys=#[t,t2]:=by cases tys; simp at ht; simp [ht]
        subst hty
        exact Jh hd h ho hx hE h2.1 h2.2 hk2
      · cases hk
     | true =>
     rw [h1,cond_true] at hk
     have hk1:=hk
     clear hk
     have h1:=eqB h1
     subst h1
     split at hk1
     · rename_i E hE
       split at hk1
       · rename_i n bytes hn hb
         obtain ⟨h2,hk2⟩:=Jab hk1
         simp only [Bool.and_eq_true,Nat.blt_eq] at h2
         have hty:tys=#[t,t]:=by cases tys; simp at ht; simp [ht]
         subst hty
         exact Jia (t2:=t) hd h ho hx hE hn hb h2.1 h2.2 hk2
       · cases hk1
     · cases hk1
   · cases hk
 · rename_i k m k' n hx
   obtain ⟨h1,hk1⟩:=Jab hk
   clear hk
   have:=JbC h1
   subst this
   exact Jfu hd h ho hx _ (.inl ⟨rfl,rfl⟩) hk1
 · rename_i k m k' n k'' q hx
   obtain ⟨h1,hk1⟩:=Jab hk
   clear hk
   simp only [Bool.and_eq_true] at h1
   have e1:=JbC h1.1
   have e2:=JbC h1.2
   subst e1 e2
   exact Jki hd h ho hx hk1
 · rename_i k m k' n hx
   obtain ⟨h1,hk1⟩:=Jab hk
   clear hk
   have:=JbC h1
   subst this
   exact Jfu hd h ho hx _ (.inr ⟨rfl,rfl⟩) hk1
 · cases hk
theorem Jc6 {env:Env} (henv:EnvOK P G.I env) {o:Oper} {op:Op} {K:Out→Option R} (hd:a.defers=G.D) (h:Rel P G F Bs st a.tmps w) (ho:o.op=op)
 (hk:opK P env op o.type (opd st) K=some res):Jks P G st a w o K res:=by
 cases op with
 | move x=>exact Eff.effW (Jf6 hd h ho (by simpa only [opK] using hk))
 | assign x=>exact Eff.effW (Jib hd h ho hk)
 | pick c x y=>exact Eff.effW (Jkj hd h ho hk)
 | alloc T=>exact Eff.effW (Jjk hd h ho hk)
 | box T x=>exact Eff.effW (Jk2 hd h ho hk)
 | build T parts=>exact Eff.effW (Jjl hd h ho hk)
 | buildSlice T len parts=>exact Eff.effW (JeK hd h ho hk)
 | load T x=>exact Eff.effW (Jkh hd h ho hk)
 | store T x y=>exact Eff.effW (Jjs hd h ho hk)
 | nilCheck x=>exact Eff.effW (Jf7 hd h ho hk)
 | binOp op T x y yT=>exact Eff.effW (Jk1 hd h ho hk)
 | unOp op T x=>exact Eff.effW (Jls hd h ho hk)
 | convert s d x=>exact Eff.effW (Jkf hd h ho hk)
 | makeFunc f first caps =>
  cases f with
  | func f=>exact Eff.effW (Jf5 hd h ho hk)
  | _=>simp only [opK,reduceCtorEq] at hk
 | makeSlice T l c=>exact Eff.effW (Jfs hd h ho hk)
 | slice T x lo hi mx=>exact Eff.effW (Jjr hd h ho hk)
 | fieldAddr S x f=>exact Eff.effW (Jfq hd h ho hk)
 | field S x f=>exact Eff.effW (Jjm hd h ho hk)
 | indexAddr T x i=>exact Eff.effW (Jfr hd h ho hk)
 | index T x i=>exact Eff.effW (Jjn hd h ho hk)
 | extract x i=>exact Eff.effW (Jhc hd h ho hk)
 | makeMap T r=>exact Eff.effW (Jhd hd h ho hk)
 | lookup T x i ok=>exact Eff.effW (Jih hd h ho (by simpa only [opK] using hk))
 | mapUpdate T m k v=>exact Eff.effW (Jft hd h (.inl ho) (by simpa only [opK] using hk))
 | insert T m k v=>exact Eff.effW (Jft hd h (.inr ho) (by simpa only [opK] using hk))
 | call c =>
  obtain ⟨callee,args,tys⟩:=c
  cases callee with
  | builtin b=>exact Eff.effW (Jha (env:=env) hd h ho (by simpa only [opK] using hk))
  | value f=>exact Jke henv hd h ho hk
  | invoke x n=>simp only [opK,reduceCtorEq] at hk
 | _=>simp only [opK,reduceCtorEq] at hk
theorem Jka {env:Env} (henv:EnvOK P G.I env) {fz:List Nat} {o:Oper} {K:Out→Option R} (hd:a.defers=G.D) (h:Rel P G F Bs st a.tmps w)
 (hk:opF P env fz o (opd st) K=some res):Jks P G st a w o K res:=by
 unfold opF at hk
 split at hk
 · rename_i x ho
   split at hk
   · rename_i d hdst
     cases hm:JaZ fz d with
     | true=>rw [hm] at hk; exact Eff.effW (Jif hd h ho hk)
     | false =>
      rw [hm] at hk
      have hk:JeH (JaZ fz (4000000 + d)) (opd st x) K=some res:=hk
      cases hf:JaZ fz (4000000 + d) with
      | true=>rw [hf] at hk; exact Eff.effW (Jie hd h ho hk)
      | false=>rw [hf] at hk; exact Eff.effW (Jf6 hd h ho hk)
   · exact Eff.effW (Jf6 hd h ho hk)
 · rename_i x ho
   cases ht:JfX fz o.dst with
   | true=>rw [ht] at hk; exact Eff.effW (Jkg hd h ho hk)
   | false=>rw [ht] at hk; exact Jc6 henv hd h ho hk
 · rename_i g first caps ho
   cases ht:Jj1 fz o.dst with
   | true=>rw [ht] at hk; exact Eff.effW (Jig hd h ho hk)
   | false=>rw [ht] at hk; exact Jc6 henv hd h ho hk
 · rename_i src dst x ho
   cases ht:Jcv fz o.dst with
   | true=>rw [ht] at hk; exact Eff.effW (Jhb hd h ho hk)
   | false=>rw [ht] at hk; exact Jc6 henv hd h ho hk
 · rename_i T parts ho
   cases ht:Jcv fz o.dst with
   | true=>rw [ht] at hk; exact Eff.effW (Jid hd h ho hk)
   | false =>
    rw [ht,cond_false] at hk
    cases hg:JfX fz o.dst with
    | true =>
     rw [hg,cond_true] at hk
     split at hk
     · rename_i q hq
       exact Eff.effW (Jic hd h ho hq hk)
     · cases hk
    | false=>rw [hg] at hk; exact Jc6 henv hd h ho hk
 · rename_i T x ho
   cases ht:(Jcv fz o.dst&&Jai P T&&JaF P T) with
   | true =>
    rw [ht,cond_true] at hk
    simp only [Bool.and_eq_true] at ht
    split at hk
    · rename_i n hn; exact Eff.effW (Jkk hd h ho ht.2 ht.1.2 hn hk)
    · cases hk
   | false =>
    rw [ht,cond_false] at hk
    cases hg:(Jj0 fz o.dst&&!(Jai P T)&&JaF P T) with
    | true =>
     rw [hg,cond_true] at hk
     simp only [Bool.and_eq_true,Bool.not_eq_true'] at hg
     exact Eff.effW (Jjp hd h ho hg.2 hg.1.2 hk)
    | false=>rw [hg] at hk; exact Jc6 henv hd h ho hk
 · exact Jc6 henv hd h rfl hk
end
end Go.Proofs.YtgglhmfncoeffaaGreatDoor.Th
set_option linter.unusedVariables false
set_option linter.unusedSimpArgs false
namespace Go.Proofs.YtgglhmfncoeffaaGreatDoor.Th
open Go
variable {R:Type} {res:R}
section
variable {P:Program} {G:Gd} {F:Nat→Prop} {Bs:Nat→List Nat} {st:St} {a:Act} {tm:Array Value} {w:World}
theorem Jiv {st:St} {d:Nat} {t:Bool} (h:st.fr d=.p (.v (.bool t))):Jhx st d t=st:=by
 cases st with
 | mk fr ral =>
  simp only [Jhx]
  congr 1
  funext j
  by_cases hj:j=d
  · subst hj; rw [JaT]; exact h.symm
  · rw [Jau _ _ hj]
theorem Jjx (hs:SRel P G st a w) {d:Option Nat} (hf:JcA.fits G.N d=true):SRel P G (st.put d JcA) (a.put d undef) w:=by
 obtain ⟨hd,F,Bs,h⟩:=hs
 exact JaE (x:=.v (.tuple #[])) hd h (.v _) hf
theorem JgB {env:Env} (henv:EnvOK P G.I env) {fz:List Nat} {ops:Array Oper} {o:Oper} {K:St→Out→Option R} (hs:SRel P G st a w)
 (hk:Ja0 P env fz G.N ops.toList o st K=some res) {next:Act→World→Prop} {Q:Exit→Act→World→Prop}
 (hn:∀ r a' w',K st r=some res→SRel P G (st.put o.dst r) a' w'→next a' w') :
 (Region.wanted o (yielded ops a.tmps)=true→o.wp P a w next Q)∧(Region.wanted o (yielded ops a.tmps)=false→next (a.put o.dst undef) w):=by
 have go:∀ st',st'=st→goO P env fz G.N o st' K=some res→o.wp P a w next Q:=by
  intro st' e hg
  subst e
  obtain ⟨hd,F,Bs,h⟩:=hs
  unfold goO at hg
  exact Jka henv hd h hg (fun r hr=>(Jab hr).1) next Q fun r a' w' hr hs=>hn r a' w' (Jab hr).2 hs
 have sk:∀ st',st'=st→skO G.N o st' K=some res→next (a.put o.dst undef) w:=by
  intro st' e hg
  subst e
  unfold skO at hg
  obtain ⟨h1,h2⟩:=Jab hg
  exact hn _ _ _ h2 (Jjx hs h1)
 unfold Ja0 at hk
 split at hk
 · rename_i hg
   have hw:Region.wanted o (yielded ops a.tmps)=true:=by simp [Region.wanted,hg]
   exact ⟨fun _=>go st rfl hk,fun h=>absurd (hw.symm.trans h) (by simp)⟩
 · rename_i j want hg
   split at hk
   · cases hk
   · rename_i d hd'
     split at hk
     · cases hk
     · have hdst:(ops[j]?).bind (·.dst)=some d:=by rw [←Array.getElem?_toList]; exact hd'
       obtain ⟨hd,F,Bs,h⟩:=hs
       have hsl:=h.sl d
       split at hk
       · rename_i t hfr
         rw [hfr] at hsl
         have hv:a.tmps.getD d undef=.bool t:=by
          generalize a.tmps.getD d undef=c at hsl
          generalize Bs d=B at hsl
          cases hsl with | p h=>exact Jbk h
         have hy:yielded ops a.tmps j=some t:=by
          unfold yielded
          rw [hdst]
          simp only [Option.bind_some]
          cases hq:a.tmps[d]? with
          | none=>rw [Array.getD_eq_getD_getElem?,hq] at hv; simp [undef] at hv
          | some c=>rw [Array.getD_eq_getD_getElem?,hq] at hv; simp at hv; rw [hv]
         have hw:Region.wanted o (yielded ops a.tmps)=(t == want):=by
          simp only [Region.wanted,hg,hy]
          cases t <;> cases want <;> rfl
         rw [hw]
         have hsb:=Jiv hfr
         cases t <;> cases want <;> simp only [cond_true,cond_false] at hk <;>
          first
          | exact ⟨fun _=>go _ hsb hk,fun h=>by simp at h⟩
          | exact ⟨fun h=>by simp at h,fun _=>sk _ hsb hk⟩
       · rename_i l hfr
         rw [hfr] at hsl
         have hv:a.tmps.getD d undef=.tuple l:=by
          generalize a.tmps.getD d undef=c at hsl
          generalize Bs d=B at hsl
          cases hsl with | p h=>exact Jbk h
         have hy:yielded ops a.tmps j=none:=by
          unfold yielded
          rw [hdst]
          simp only [Option.bind_some]
          cases hq:a.tmps[d]? with
          | none=>rfl
          | some c=>rw [Array.getD_eq_getD_getElem?,hq] at hv; simp at hv; rw [hv]
         have hw:Region.wanted o (yielded ops a.tmps)=false:=by
          simp [Region.wanted,hg,hy]
         exact ⟨fun h=>absurd (hw.symm.trans h) (by simp),fun _=>sk st rfl hk⟩
       · cases hk
theorem Jio {env:Env} (henv:EnvOK P G.I env) {fz:List Nat} {ops:Array Oper} {Q:Exit→Act→World→Prop} {K:St→Option R}
 (hQ:∀ st' a' w',K st'=some res→SRel P G st' a' w'→Q .normal a' w'):∀ (l:List Oper) (i:Nat) {st:St} {a:Act} {w:World},ops.toList.drop i=l→SRel P G st a w →
 Jhf P env fz G.N ops.toList l st K=some res→wpOps P ops Q (List.range' i l.length) a w
 | [],i,st,a,w,hl,hs,hk=>hQ st a w hk hs
 | o::l,i,st,a,w,hl,hs,hk=>by
  have ho:ops[i]? = some o:=by
   rw [←Array.getElem?_toList]
   have:=congrArg (·[0]?) hl
   simpa using this
  have hl':ops.toList.drop (i + 1)=l:=by
   have:=congrArg List.tail hl
   simpa using this
  simp only [Jhf] at hk
  rw [List.length_cons,List.range'_succ,wpOps_cons]
  unfold wpOp
  rw [ho]
  simp only []
  obtain ⟨h1,h2⟩:=JgB henv hs hk (next:=wpOps P ops Q (List.range' (i + 1) l.length)) (Q:=Q) fun r a' w' hr hs'=>Jio henv hQ l (i + 1) hl' hs' hr
  cases hw:Region.wanted o (yielded ops a.tmps) with
  | true=>simp only [if_true]; exact .inl (h1 hw)
  | false=>simp only [Bool.false_eq_true,if_false]; exact h2 hw
theorem SRel.noRal (h:SRel P G st a w):SRel P G ⟨st.fr,[]⟩ a w:=by
 obtain ⟨hd,F,Bs,h⟩:=h
 exact ⟨hd,F,Bs,⟨h.sz,h.sl,h.nd,h.dj,h.nf,h.nw,h.lt,h.fl,h.f0,h.fn,h.kb,by simp,h.pn⟩⟩
theorem SRel.drawn {n:Nat} (h:SRel P G st a w):SRel P G st a { w with drawn:=n }:=by
 obtain ⟨hd,F,Bs,h⟩:=h
 refine ⟨hd,F,Bs,⟨h.sz,fun i=>(h.sl i).mono (fun _ q=>q) fun _ _=>rfl,h.nd,h.dj,h.nf,h.nw,h.lt,h.fl,h.f0,h.fn,⟨h.kb.os,h.kb.tape,h.kb.output,h.kb.size,h.kb.block⟩,h.rf,h.pn⟩⟩
theorem Jis {env:Env} (henv:EnvOK P G.I env) {fz:List Nat} {id:Nat} {ops:Array Oper} {Q:Exit→Act→World→Prop} {K:Fr→Option R} {fr:Fr}
 (hQ:∀ fr' a' w',K fr'=some res→SRel P G ⟨fr',[]⟩ a' w'→Q .normal a' w') (hs:SRel P G ⟨fr,[]⟩ a w)
 (hk:JgG P env fz G.N ops.toList false fr K=some res):(Code.region id ops false).wp P Q a w:=by
 simp only [JgG,cond_false] at hk
 refine wp_region ?_
 rw [List.range_eq_range']
 exact Jio henv (fun st' a' w' h1 h2=>hQ _ _ _ h1 h2.noRal) ops.toList 0 rfl hs hk
theorem Jfw {env:Env} (henv:JbF env) {fz:List Nat} {N:Nat × List Nat} {ops:List Oper} {K:St→List Fp→Option R}:∀ (l:List Oper) (k:Nat) (st:St) (tr:List Fp),Jhe P env fz N ops l st tr K=some res →
 ∃ (evs:List Ev) (sF:St),K sF (tr++evs.map (·.f))=some res∧evs.map (·.o)=l∧evs.map (·.i)=List.range' k l.length∧((∀ e∈evs,e.f.calm=true)→Runs P env fz N ops evs st sF)
 | [],k,st,tr,h=>⟨[],st,by rw [List.map_nil,List.append_nil]; exact h,rfl,rfl,fun _=>.nil st⟩
 | o::l,k,st,tr,h=>by
  simp only [Jhe] at h
  obtain ⟨r,h1,h2⟩:=JeP henv h
  obtain ⟨evs,sF,q1,q2,q3,q4⟩:=Jfw henv l (k + 1) _ _ h1
  refine ⟨⟨k,o,r,JbJ ops o st r⟩::evs,sF,by simpa using q1,by simp [q2],by simp [q3,List.range'_succ],fun hc=>?_⟩
  exact .cons h2 (hc _ (List.mem_cons_self ..)) (FEq.refl _) (q4 fun e he=>hc e (List.mem_cons_of_mem _ he))
theorem Jfp {f:Fp} {b:List Nat}:∀ {l:List Fp} {k:Nat},JdT f b k l=true→∀ (i:Nat) (g:Fp),l[i]? = some g→(k + i)∈b∨NoClash g f
 | [],k,h,i,g,hg=>by simp at hg
 | x::l,k,h,0,g,hg=>by
  simp only [JdT,Bool.and_eq_true,Bool.or_eq_true,Bool.not_eq_true'] at h
  simp only [List.getElem?_cons_zero,Option.some.injEq] at hg
  subst hg
  rcases h.1 with q | q
  · exact .inl (Jbi.1 q)
  · exact .inr (Jj7 q)
 | x::l,k,h,i + 1,g,hg=>by
  simp only [JdT,Bool.and_eq_true] at h
  have:=Jfp h.2 i g (by simpa using hg)
  rwa [show k + 1 + i=k + (i + 1) from by omega] at this
theorem Jek:∀ {fs ahead:List Fp} {bs:List (List Nat)},Jcy ahead bs fs=true→(∀ f∈fs,f.calm=true) ∧
 ∀ (i j:Nat) (f g:Fp),(ahead++fs)[i]? = some f→fs[j]? = some g→i<ahead.length + j→i∈bs.getD j []∨NoClash f g
 | [],ahead,bs,h=>⟨by simp,fun i j f g _ hg _=>by simp at hg⟩
 | x::fs,ahead,[],h=>by simp [Jcy] at h
 | x::fs,ahead,b::bs,h=>by
  simp only [Jcy,Bool.and_eq_true] at h
  obtain ⟨c1,c2⟩:=Jek h.2
  refine ⟨fun f hf=>?_,fun i j f g hf hg hlt=>?_⟩
  · rcases List.mem_cons.1 hf with rfl | hf
    · exact h.1.1
    · exact c1 f hf
  · cases j with
    | zero =>
     simp only [List.getElem?_cons_zero,Option.some.injEq] at hg
     subst hg
     have hi:i<ahead.length:=by omega
     rw [List.getElem?_append_left hi] at hf
     have:=Jfp h.1.2 i f hf
     simpa using this
    | succ j =>
     have:=c2 i j f g (by rw [List.append_assoc]; exact hf) (by simpa using hg) (by rw [List.length_append]; simp only [List.length_cons,List.length_nil]; omega)
     simpa using this
theorem Jk9 (m i:Nat):tbN m i=m.testBit i:=by
 have e:Nat.land (Nat.shiftRight m i) 1=(m >>> i) &&& 1:=rfl
 unfold tbN Nat.testBit
 rw [e,Nat.and_comm]
 have h:1 &&& (m >>> i)=(m >>> i) % 2:=by rw [Nat.and_comm]; exact Nat.and_one_is_mod _
 rw [h]
 rcases Nat.mod_two_eq_zero_or_one (m >>> i) with q | q <;> rw [q] <;> rfl
theorem JhI (x i:Nat):(Jll x).testBit i=decide (x=i):=by
 show ((1:Nat) <<< x).testBit i=_
 rw [Nat.one_shiftLeft,Nat.testBit_two_pow]
theorem JdO (a b i:Nat):(Nat.lor a b).testBit i=(a.testBit i||b.testBit i):=Nat.testBit_or a b i
theorem Jf1 {a b:Nat} (h:Nat.beq (Nat.land a b) 0=true) (i:Nat):(a.testBit i&&b.testBit i)=false:=by
 have h':a &&& b=0:=Nat.eq_of_beq_eq_true h
 rw [←Nat.testBit_and,h',Nat.zero_testBit]
theorem JbX:∀ (l:List Nat) (i:Nat),(JcR l).testBit i=true↔i∈l
 | [],i=>by simp [JcR]
 | x::l,i=>by
  rw [JcR,JdO,Bool.or_eq_true,JhI,JbX l i,decide_eq_true_iff,List.mem_cons]
  exact ⟨fun h=>h.imp Eq.symm id,fun h=>h.imp Eq.symm id⟩
theorem JgE {acc:List Nat} {accL:List (List Nat)} (h:∀ k i,(acc.getD k 0).testBit i=true→i∈accL.getD k []):∀ (l:List Nat) (i:Nat),(Jip acc l).testBit i=true→i∈l++l.flatMap fun k=>accL.getD k []
 | [],i,hi=>by simp [Jip] at hi
 | x::l,i,hi=>by
  rw [Jip,JdO,JdO,JhI] at hi
  simp only [Bool.or_eq_true,decide_eq_true_iff] at hi
  simp only [List.cons_append,List.flatMap_cons,List.mem_cons,List.mem_append]
  rcases hi with (rfl | hi) | hi
  · exact .inl rfl
  · exact .inr (.inr (.inl (h x i hi)))
  · rcases List.mem_append.1 (JgE h l i hi) with q | q
    · exact .inr (.inl q)
    · exact .inr (.inr (.inr q))
theorem JhE:∀ (l:List Oper) (acc:List Nat) (accL:List (List Nat)),acc.length=accL.length→(∀ k i,(acc.getD k 0).testBit i=true→i∈accL.getD k [])→(JkE l acc).length=(JgR l accL).length ∧
 ∀ k i,((JkE l acc).getD k 0).testBit i=true→i∈(JgR l accL).getD k []
 | [],acc,accL,hl,h=>⟨hl,h⟩
 | o::l,acc,accL,hl,h=>by
  rw [JkE,JgR]
  refine JhE l _ _ (by simp [hl]) fun k i hi=>?_
  simp only [List.getD_eq_getElem?_getD] at hi ⊢
  by_cases q:k<acc.length
  · rw [List.getElem?_append_left (by omega)]
    rw [List.getElem?_append_left q] at hi
    have:=h k i (by rw [List.getD_eq_getElem?_getD]; exact hi)
    rwa [List.getD_eq_getElem?_getD] at this
  · by_cases q2:k=acc.length
    · rw [List.getElem?_append_right (by omega)] at hi ⊢
      rw [show k - acc.length=0 from by omega] at hi
      rw [show k - accL.length=0 from by omega]
      have:=JgE h (JbY o) i (by simpa using hi)
      simpa using this
    · rw [List.getElem?_eq_none (by simp; omega)] at hi
      simp at hi
theorem JdV {b:Nat} {bl:List Nat} (hb:∀ i,b.testBit i=true→i∈bl):∀ (l:List Nat) (k i m x:Nat),l[i]? = some m→m.testBit x=true→(k + i)∈bl∨(JcS b k l).testBit x=true
 | [],k,i,m,x,h,hx=>by simp at h
 | y::l,k,0,m,x,h,hx=>by
  simp only [List.getElem?_cons_zero,Option.some.injEq] at h
  subst h
  rw [JcS]
  cases q:tbN b k with
  | true=>rw [Jk9] at q; exact .inl (hb k q)
  | false=>rw [cond_false,JdO,hx]; exact .inr rfl
 | y::l,k,i + 1,m,x,h,hx=>by
  have ih:=JdV hb l (k + 1) i m x (by simpa using h) hx
  rw [show k + 1 + i=k + (i + 1) from by omega] at ih
  rcases ih with ih | ih
  · exact .inl ih
  · refine .inr ?_
    rw [JcS]
    cases tbN b k with
    | true=>exact ih
    | false=>rw [cond_false,JdO]; rw [show (JcS b (Nat.succ k) l).testBit x=true from ih,Bool.or_true]
theorem JeJ {a b:List Nat} (h:∀ x,x∈a→x∈b→False):JcM a b=false:=by
 cases q:JcM a b with
 | false=>rfl
 | true =>
  exfalso
  induction a with
  | nil=>cases q
  | cons y a ih =>
   rw [JcM,Bool.or_eq_true] at q
   rcases q with q | q
   · exact h y (List.mem_cons_self ..) (Jbi.1 q)
   · exact ih (fun x hx=>h x (List.mem_cons_of_mem _ hx)) q
theorem Jde:∀ {fs ahead:List Fp} {bm:List Nat} {bs:List (List Nat)},bm.length=bs.length→(∀ k i,(bm.getD k 0).testBit i=true→i∈bs.getD k []) →
 Jfo (ahead.map fun f=>JcR f.wr) (ahead.map fun f=>JcR f.rd) bm fs=true→Jcy ahead bs fs=true
 | [],ahead,bm,bs,hl,hb,h=>by cases bs <;> rfl
 | f::fs,ahead,[],bs,hl,hb,h=>by simp [Jfo] at h
 | f::fs,ahead,m::bm,[],hl,hb,h=>by simp at hl
 | f::fs,ahead,m::bm,b::bs,hl,hb,h=>by
  simp only [Jfo,Bool.and_eq_true] at h
  obtain ⟨⟨h1,h2⟩,h3⟩:=h
  simp only [Jcy,Bool.and_eq_true]
  refine ⟨⟨h1,?_⟩,Jde (by simpa using hl) (fun k i hi=>by simpa using hb (k + 1) i (by simpa using hi)) (by rw [List.map_append,List.map_append]; exact h3)⟩
  unfold JkZ at h2
  obtain ⟨g1,g2⟩:=(Bool.and_eq_true _ _).mp h2
  have hm:∀ i,m.testBit i=true→i∈b:=fun i hi=>by simpa using hb 0 i (by simpa using hi)
  have key:∀ (l:List Fp) (k:Nat),(∀ (i:Nat) (g:Fp),l[i]? = some g→ahead[k + i]? = some g)→JdT f b k l=true:=by
   intro l
   induction l with
   | nil=>intro k _; rfl
   | cons g l ih =>
    intro k hk
    rw [JdT,Bool.and_eq_true]
    refine ⟨?_,ih (k + 1) fun i x hx=>by rw [show k + 1 + i=k + (i + 1) from by omega]; exact hk (i + 1) x (by simpa using hx)⟩
    have hg:ahead[k]? = some g:=by simpa using hk 0 g (by simp)
    rw [Bool.or_eq_true]
    by_cases hkb:k∈b
    · exact .inl (Jbi.2 hkb)
    · refine .inr ?_
      have hw:=fun x hx=>(JdV hm (ahead.map fun f=>JcR f.wr) 0 k (JcR g.wr) x (by rw [List.getElem?_map,hg]; rfl) hx).resolve_left (by rw [Nat.zero_add]; exact hkb)
      have hr:=fun x hx=>(JdV hm (ahead.map fun f=>JcR f.rd) 0 k (JcR g.rd) x (by rw [List.getElem?_map,hg]; rfl) hx).resolve_left (by rw [Nat.zero_add]; exact hkb)
      unfold JiT
      rw [JeJ (a:=g.wr) (b:=f.wr) fun x hx hy=>?_,JeJ (a:=g.wr) (b:=f.rd) fun x hx hy=>?_,JeJ (a:=g.rd) (b:=f.wr) fun x hx hy=>?_]
      · rfl
      · have:=Jf1 g1 x
        rw [(JbX _ x).2 hy,JdO,hr x ((JbX _ x).2 hx),Bool.or_true] at this
        cases this
      · have:=Jf1 g2 x
        rw [(JbX _ x).2 hy,hw x ((JbX _ x).2 hx)] at this
        cases this
      · have:=Jf1 g1 x
        rw [(JbX _ x).2 hy,JdO,hw x ((JbX _ x).2 hx),Bool.true_or] at this
        cases this
  exact key ahead 0 fun i g hg=>by rw [Nat.zero_add]; exact hg
theorem Jfn {ops:List Oper} {tr:List Fp} (h:JdR ops tr=true):Ja4 0 ops=true∧Jcy [] (JgR ops []) tr=true:=by
 unfold JdR at h
 obtain ⟨h1,h2⟩:=(Bool.and_eq_true _ _).mp h
 obtain ⟨e1,e2⟩:=JhE ops [] [] rfl (fun k i hi=>by simp at hi)
 exact ⟨h1,Jde e1 e2 h2⟩
theorem Jey:∀ (l:List Oper) (acc:List (List Nat)) (i:Nat),i<acc.length→(JgR l acc).getD i []=acc.getD i []
 | [],acc,i,h=>rfl
 | o::l,acc,i,h=>by
  rw [JgR,Jey l _ i (by simp; omega)]
  simp only [List.getD_eq_getElem?_getD]
  rw [List.getElem?_append_left h]
theorem JeX {i:Nat}:∀ {l:List Nat},JiI i l=true→∀ x∈l,x<i
 | [],_,x,hx=>by cases hx
 | y::l,h,x,hx=>by
  simp only [JiI,Bool.and_eq_true] at h
  rcases List.mem_cons.1 hx with rfl | hx
  · simpa using h.1
  · exact JeX h.2 x hx
theorem JeF:∀ {l:List Oper} {k:Nat},Ja4 k l=true→∀ (i:Nat) (o:Oper),l[i]? = some o→∀ x∈JbY o,x<k + i
 | [],k,h,i,o',ho,x,hx=>by simp at ho
 | o::l,k,h,0,o',ho,x,hx=>by
  simp only [Ja4,Bool.and_eq_true] at h
  simp only [List.getElem?_cons_zero,Option.some.injEq] at ho
  subst ho
  exact JeX h.1 x hx
 | o::l,k,h,i + 1,o',ho,x,hx=>by
  simp only [Ja4,Bool.and_eq_true] at h
  have:=JeF h.2 i o' (by simpa using ho) x hx
  omega
theorem JhF:∀ {l:List Oper} {acc:List (List Nat)},Ja4 acc.length l=true→∀ (i:Nat) (o:Oper),l[i]? = some o →
 ∀ x∈(JgR l acc).getD (acc.length + i) [],x∈JbY o∨∃ p∈JbY o,x∈(JgR l acc).getD p []
 | [],acc,h,i,o',ho,x,hx=>by simp at ho
 | o::l,acc,h,0,o',ho,x,hx=>by
  simp only [List.getElem?_cons_zero,Option.some.injEq] at ho
  subst ho
  have hp:=JeF h 0 o rfl
  simp only [Ja4,Bool.and_eq_true] at h
  rw [JgR,Jey l _ _ (by simp)] at hx
  simp only [Nat.add_zero,List.getD_eq_getElem?_getD] at hx
  rw [List.getElem?_append_right (Nat.le_refl _)] at hx
  simp only [Nat.sub_self,List.getElem?_cons_zero,Option.getD_some,List.mem_append,List.mem_flatMap] at hx
  rcases hx with q | ⟨p,q1,q2⟩
  · exact .inl q
  · refine .inr ⟨p,q1,?_⟩
    have hlt:=hp p q1
    rw [JgR,Jey l _ _ (by simp; omega)]
    simp only [List.getD_eq_getElem?_getD] at q2 ⊢
    rw [List.getElem?_append_left (by omega)]
    exact q2
 | o::l,acc,h,i + 1,o',ho,x,hx=>by
  simp only [Ja4,Bool.and_eq_true] at h
  rw [JgR] at hx ⊢
  have hl:(acc++[JbY o++(JbY o).flatMap fun i=>acc.getD i []]).length=acc.length + 1:=by simp
  refine JhF (acc:=acc++[JbY o++(JbY o).flatMap fun i=>acc.getD i []]) (by rw [hl]; exact h.2) i o' (by simpa using ho) x ?_
  rw [hl,show acc.length + 1 + i=acc.length + (i + 1) from by omega]
  exact hx
theorem JkD {env:Env} (henv:EnvOK P G.I env) {fz:List Nat} {ops:Array Oper} {Q:Exit→Act→World→Prop} {K:Fr→Option R}
 (hQ:∀ fr' a' w',K fr'=some res→SRel P G ⟨fr',[]⟩ a' w'→Q .normal a' w') (BF:Nat→List Nat) (hedge:∀ (i:Nat) (o:Oper),ops[i]? = some o→∀ x∈JbY o,x<i)
 (hBF:∀ (i:Nat) (o:Oper),ops[i]? = some o→∀ x∈BF i,x∈JbY o∨∃ p∈JbY o,x∈BF p) :
 ∀ (fuel:Nat) (evs:List Ev) (listed:Array Bool) (st:St) (a:Act) (w:World) (sF:St),Uq st→Runs P env fz G.N ops.toList evs st sF→evs.length=fuel→(∀ e∈evs,ops[e.i]? = some e.o) →
  evs.Pairwise (fun x y=>x.i<y.i)→evs.Pairwise (fun x y=>x.i∈BF y.i∨NoClash x.f y.f)→listed.size=ops.size→(∀ j,listed.getD j true=false↔∃ e∈evs,e.i=j) →
  (∀ j,j<ops.size→(∀ e∈evs,e.i≠j)→∀ x∈BF j,∀ e∈evs,e.i≠x)→K sF.fr=some res→SRel P G st a w→wpAny P .any ops Q fuel listed a w:=by
 intro fuel
 induction fuel with
 | zero =>
  intro evs listed st a w sF hu hr hl hops hs hp hz hL hI hK hrel
  have:evs=[]:=List.eq_nil_of_length_eq_zero hl
  subst this
  cases hr
  refine ⟨?_,hQ _ _ _ hK hrel.noRal⟩
  cases hq:Region.ready .any ops listed with
  | nil=>rfl
  | cons i l =>
   have:i∈Region.ready .any ops listed:=by rw [hq]; simp
   obtain ⟨h0,_⟩:=mem_ready.1 this
   obtain ⟨e,he,_⟩:=(hL i).1 h0
   cases he
 | succ fuel ih =>
  intro evs listed st a w sF hu hr hl hops hs hp hz hL hI hK hrel
  have listedT:∀ j,j<ops.size→(∀ e∈evs,e.i≠j)→listed.getD j false=true:=fun j hj hne=>by
   have h1:¬ listed.getD j true=false:=fun q=>by obtain ⟨e,he,q2⟩:=(hL j).1 q; exact hne e he q2
   rw [Array.getD_eq_getD_getElem?] at h1 ⊢
   rw [Array.getElem?_eq_getElem (by omega)] at h1 ⊢
   simpa using h1
  refine ⟨fun hnil=>?_,fun j hj=>?_⟩
  · exfalso
    cases evs with
    | nil=>simp at hl
    | cons e evs =>
     have hoe:=hops e (List.mem_cons_self ..)
     have:e.i∈Region.ready .any ops listed:=by
      refine mem_ready.2 ⟨(hL e.i).2 ⟨e,List.mem_cons_self ..,rfl⟩,e.o,hoe,fun d hd hb=>?_⟩
      have hpd:d.on∈JbY e.o:=by
       unfold JbY
       refine List.mem_map.2 ⟨d,List.mem_filter.2 ⟨by simpa using hd,hb⟩,rfl⟩
      have hlt:=hedge e.i e.o hoe d.on hpd
      have hsz:e.i<ops.size:=(Array.getElem?_eq_some_iff.1 hoe).1
      refine listedT d.on (by omega) fun e' he' q=>?_
      rcases List.mem_cons.1 he' with rfl | he'
      · omega
      · have:=List.rel_of_pairwise_cons hs he'
        omega
     rw [hnil] at this
     cases this
  · obtain ⟨h0,o,ho,hedges⟩:=mem_ready.1 hj
    obtain ⟨y,hy,rfl⟩:=(hL j).1 h0
    have hyo:=hops y hy
    rw [hyo] at ho
    cases ho
    obtain ⟨pre,l,rfl⟩:=List.append_of_mem hy
    have hysz:y.i<ops.size:=(Array.getElem?_eq_some_iff.1 hyo).1
    have hpred:∀ x∈JbY y.o,∀ e∈pre++y::l,e.i≠x:=fun x hx e he q=>by
     unfold JbY at hx
     obtain ⟨d,hd,rfl⟩:=List.mem_map.1 hx
     obtain ⟨hd1,hd2⟩:=List.mem_filter.1 hd
     have h1:=hedges d (by simpa using hd1) hd2
     have h2:listed.getD d.on true=false:=(hL d.on).2 ⟨e,he,q⟩
     rw [Array.getD_eq_getD_getElem?] at h1 h2
     cases hq:listed[d.on]? with
     | none=>rw [hq] at h2; cases h2
     | some b=>rw [hq] at h1 h2; simp at h1 h2; rw [h1] at h2; cases h2
    have hBy:∀ x∈BF y.i,∀ e∈pre++y::l,e.i≠x:=fun x hx=>by
     rcases hBF y.i y.o hyo x hx with q | ⟨p,q1,q2⟩
     · exact hpred x q
     · exact hI p (Nat.lt_trans (hedge y.i y.o hyo p q1) hysz) (hpred p q1) x q2
    have hnc:∀ x∈pre,NoClash x.f y.f:=fun x hx=>by
     have:=(List.pairwise_append.1 hp).2.2 x hx y (List.mem_cons_self ..)
     exact this.resolve_left fun q=>hBy x.i q x (by simp [hx]) rfl
    obtain ⟨s2,r1,r2⟩:=hr.front hu hnc
    cases r1 with
    | @cons i o r f _ _ _ t1 t2 t3 t4 =>
     have hsub:(pre++l).Sublist (pre++⟨i,o,r,f⟩::l):=List.Sublist.append_left (List.sublist_cons_self _ _) _
     have hne:∀ e∈pre++l,e.i≠i:=fun e he=>by
      rcases List.mem_append.1 he with q | q
      · have:=(List.pairwise_append.1 hs).2.2 e q ⟨i,o,r,f⟩ (List.mem_cons_self ..)
        exact Nat.ne_of_lt this
      · have:=List.rel_of_pairwise_cons (List.pairwise_append.1 hs).2.1 q
        exact Nat.ne_of_gt this
     have next:∀ a' w',SRel P G (st.put o.dst r) a' w'→wpAny P .any ops Q fuel (listed.setIfInBounds i true) a' w':=fun a' w' hrel'=>by
      refine ih (pre++l) _ _ a' w' s2 (hu.put _ _) t4 (by simp only [List.length_append,List.length_cons] at hl ⊢; omega) (fun e he=>hops e (hsub.subset he)) (hs.sublist hsub) (hp.sublist hsub) (by simpa using hz) (fun j=>?_) (fun j hj hne' x hx e he=>?_) (by rw [←r2.fr]; exact hK) hrel'
      · by_cases hji:j=i
        · subst hji
          constructor
          · intro q
            rw [Array.getD_eq_getD_getElem?,Array.getElem?_setIfInBounds] at q
            simp at q
            split at q <;> simp at q
          · rintro ⟨e,he,q⟩; exact absurd q (hne e he)
        · rw [getD_set_ne true (Ne.symm hji),hL j]
          constructor
          · rintro ⟨e,he,q⟩
            refine ⟨e,?_,q⟩
            rcases List.mem_append.1 he with q1 | q1
            · exact List.mem_append_left _ q1
            · rcases List.mem_cons.1 q1 with rfl | q1
              · exact absurd q.symm hji
              · exact List.mem_append_right _ q1
          · rintro ⟨e,he,q⟩; exact ⟨e,hsub.subset he,q⟩
      · by_cases hji:j=i
        · subst hji; exact hBy x hx e (hsub.subset he)
        · refine hI j hj (fun e' he'=>?_) x hx e (hsub.subset he)
          rcases List.mem_append.1 he' with q1 | q1
          · exact hne' e' (List.mem_append_left _ q1)
          · rcases List.mem_cons.1 q1 with rfl | q1
            · exact Ne.symm hji
            · exact hne' e' (List.mem_append_right _ q1)
     unfold wpOp
     rw [hyo]
     simp only []
     have hk:Ja0 P env fz G.N ops.toList o st (fun _ r'=>@ite _ (r'=r) (Classical.propDecidable _) (some ()) none)=some ():=by
      rw [t1]; simp
     obtain ⟨h1,h2⟩:=JgB henv hrel hk (next:=wpAny P .any ops Q fuel (listed.setIfInBounds i true)) (Q:=Q) fun r' a' w' hr' hs'=>by
      have:r'=r:=by
       by_cases q:r'=r
       · exact q
       · simp only [q,if_false] at hr'; cases hr'
      subst this
      exact next a' w' hs'
     cases hw:Region.wanted o (yielded ops a.tmps) with
     | true=>simp only [if_true]; exact .inl (h1 hw)
     | false=>simp only [Bool.false_eq_true,if_false]; exact h2 hw
theorem Jhi {env:Env} (henv:EnvOK P G.I env) {fz:List Nat} {id:Nat} {ops:Array Oper} {Q:Exit→Act→World→Prop} {K:Fr→Option R} {fr:Fr}
 (hQ:∀ fr' a' w',K fr'=some res→SRel P G ⟨fr',[]⟩ a' w'→Q .normal a' w') (hs:SRel P G ⟨fr,[]⟩ a w)
 (hk:JgG P env fz G.N ops.toList true fr K=some res):(Code.region id ops true).wp P Q a w:=by
 simp only [JgG,cond_true] at hk
 obtain ⟨hm,hk⟩:=Jab hk
 obtain ⟨evs,sF,q1,q2,q3,q4⟩:=Jfw henv.det ops.toList 0 _ _ hk
 obtain ⟨hd,q1⟩:=Jab q1
 rw [List.nil_append] at hd
 obtain ⟨hback,hpairs⟩:=Jfn hd
 obtain ⟨c1,c2⟩:=Jek hpairs
 have hruns:=q4 fun e he=>c1 e.f (List.mem_map.2 ⟨e,he,rfl⟩)
 have hlen:evs.length=ops.size:=by have:=congrArg List.length q2; simpa using this
 have hi:∀ (k:Nat) (e:Ev),evs[k]? = some e→e.i=k:=fun k e he=>by
  have h1:(evs.map (·.i))[k]? = some e.i:=by rw [List.getElem?_map,he]; rfl
  rw [q3] at h1
  obtain ⟨h2,h3⟩:=List.getElem?_eq_some_iff.1 h1
  simp at h3
  omega
 have ho:∀ (k:Nat) (e:Ev),evs[k]? = some e→ops[k]? = some e.o:=fun k e he=>by
  have h1:(evs.map (·.o))[k]? = some e.o:=by rw [List.getElem?_map,he]; rfl
  rw [q2,Array.getElem?_toList] at h1
  exact h1
 have hf:∀ (k:Nat) (e:Ev),evs[k]? = some e→(evs.map (·.f))[k]? = some e.f:=fun k e he=>by rw [List.getElem?_map,he]; rfl
 refine wp_region_any hm (JkD henv (fz:=fz) hQ (fun j=>(JgR ops.toList []).getD j []) (fun i o hio x hx=>?_) (fun i o hio x hx=>?_) ops.size evs _ _ a _ sF (show Uq ⟨fr,[]⟩ from List.nodup_nil) hruns hlen (fun e he=>?_) ?_ ?_ (by simp) (fun j=>?_) (fun j hj hne=>?_) q1 hs.drawn)
 · have:=JeF hback i o (by rw [Array.getElem?_toList]; exact hio) x hx
   omega
 · have:=JhF (l:=ops.toList) (acc:=[]) hback i o (by rw [Array.getElem?_toList]; exact hio) x (by simpa using hx)
   exact this
 · obtain ⟨k,hk1⟩:=List.mem_iff_getElem?.1 he
   rw [hi k e hk1]; exact ho k e hk1
 · rw [List.pairwise_iff_getElem]
   intro i j hi' hj' hij
   rw [hi i _ (List.getElem?_eq_getElem hi'),hi j _ (List.getElem?_eq_getElem hj')]
   exact hij
 · rw [List.pairwise_iff_getElem]
   intro i j hi' hj' hij
   have e1:=List.getElem?_eq_getElem hi'
   have e2:=List.getElem?_eq_getElem hj'
   rw [hi i _ e1,hi j _ e2]
   exact c2 i j _ _ (by rw [List.nil_append]; exact hf i _ e1) (hf j _ e2) (by simpa using hij)
 · constructor
   · intro q
     have hlt:j<ops.size:=by
      apply Classical.byContradiction
      intro hge
      rw [Array.getD_eq_getD_getElem?,Array.getElem?_eq_none (by simp; omega)] at q
      cases q
     exact ⟨evs[j]'(by omega),List.getElem_mem _,hi j _ (List.getElem?_eq_getElem (by omega))⟩
   · rintro ⟨e,he,rfl⟩
     obtain ⟨k,hk1⟩:=List.mem_iff_getElem?.1 he
     have:=hi k e hk1
     have hlt:k<evs.length:=(List.getElem?_eq_some_iff.1 hk1).1
     rw [this,Array.getD_eq_getD_getElem?,Array.getElem?_replicate,if_pos (by omega)]
     rfl
 · exfalso
   exact hne (evs[j]'(by omega)) (List.getElem_mem _) (hi j _ (List.getElem?_eq_getElem (by omega)))
inductive TurnL (P:Program):List SV→List SV→Prop
 | nil:TurnL P [] []
 | same (x:SV) {l l':List SV}:TurnL P l l'→TurnL P (x::l) (x::l')
 | own {T:TypeId} {l l':List SV}:Jbq P T=true→JiE P T=true→TurnL P l l'→TurnL P (.nl::l) (.own T []::l')
inductive Turned (P:Program):SV→SV→Prop
 | dead (x:SV):Turned P x .dead
 | same (x:SV):Turned P x x
 | own {T:TypeId}:Jbq P T=true→JiE P T=true→Turned P .nl (.own T [])
 | nil:Turned P .nl (.p (.sh []))
 | frz (T:TypeId) (es:List PV):Turned P (.own T es) (.p (.sh es))
 | frm (d:Option IntKind) (ks vs:List PV):Turned P (.mp d ks vs) (.p (.fm d ks vs))
 | bx {T:TypeId} {l l':List SV}:TurnL P l l'→Turned P (.bx T l) (.bx T l')
 | st {l l':List SV}:TurnL P l l'→Turned P (.st l) (.st l')
theorem JgN {F:Nat→Prop} {w:World} {T:TypeId} (h:Jbq P T=true) (hpos:JiE P T=true):RS P F w (.own T []) (.slice none 0 0) []:=by
 unfold Jbq at h
 split at h
 · rename_i zs hz
   obtain ⟨i,z,e1,e2,e3,_⟩:=Jb4 hz
   have hp:0<i.size:=by simpa [JiE,Jal,e1] using hpos
   exact .own (c:=.slice none 0 0) (xs:=[]) e1 e2 e3 hp (ownsG.nil w T i.size) .nil (by simp)
 · cases h
theorem TurnL.rel {F:Nat→Prop} {w:World} {l l':List SV} (h:TurnL P l l'):∀ {vs:List Value} {B:List Nat},RSs P F w l vs B→RSs P F w l' vs B:=by
 induction h with
 | nil=>intro vs B h; exact h
 | same x _ ih=>intro vs B h; cases h with | cons a b=>exact .cons a (ih b)
 | own h1 h2 _ ih =>
  intro vs B h
  cases h with
  | cons a b=>cases a; exact .cons (B:=[]) (JgN h1 h2) (ih b)
theorem Rel.coes (h:Rel P G F Bs st tm w) {fr':Fr} (ht:∀ j,Turned P (st.fr j) (fr' j)):∃ F' Bs',Rel P G F' Bs' ⟨fr',[]⟩ tm w:=by
 let F':Nat→Prop:=fun b=>F b∨∃ j y,Jky (st.fr j)=true∧fr' j=.p y∧b∈Bs j
 have hF:∀ b,F b→F' b:=fun b q=>.inl q
 have each:∀ j,∃ B,RS P F' w (fr' j) (tm.getD j undef) B∧B.Nodup∧(∀ b∈B,b∈Bs j∧¬ F' b):=by
  intro j
  have hj:=ht j
  have hsl:=h.sl j
  generalize hx:st.fr j=x at hj hsl
  generalize hy:fr' j=y at hj
  cases hj with
  | dead=>exact ⟨[],.dead _,by simp,by simp⟩
  | same =>
   by_cases hfz:∃ y,Jky x=true∧x=.p y
   · obtain ⟨y,e1,e2⟩:=hfz; rw [e2] at e1; cases e1
   · refine ⟨Bs j,hsl.mono hF fun _ _=>rfl,h.nd j,fun b hb=>⟨hb,fun q=>?_⟩⟩
     rcases q with q | ⟨j',y',e1,e2,e3⟩
     · exact h.nf j b hb q
     · by_cases e:j=j'
       · subst e; exact hfz ⟨y',by rw [←hx]; exact e1,hy.symm.trans e2⟩
       · exact h.dj j j' b e hb e3
  | own h1 h2 =>
   have hc:tm.getD j undef=.slice none 0 0:=by
    generalize tm.getD j undef=c at hsl
    generalize Bs j=B at hsl
    cases hsl; rfl
   exact ⟨[],by rw [hc]; exact JgN h1 h2,by simp,by simp⟩
  | nil =>
   have hc:tm.getD j undef=.slice none 0 0:=by
    generalize tm.getD j undef=c at hsl
    generalize Bs j=B at hsl
    cases hsl; rfl
   exact ⟨[],by rw [hc]; exact .p (Jcs _ _),by simp,by simp⟩
  | @bx T l l' hl =>
   refine ⟨Bs j,?_,h.nd j,fun b hb=>⟨hb,fun q=>?_⟩⟩
   · have:=hsl.mono (w':=w) hF fun _ _=>rfl
     generalize tm.getD j undef=c at this
     generalize Bs j=B at this
     cases this with | bx q1 q2 q3=>exact .bx q1 (hl.rel q2) q3
   · rcases q with q | ⟨j',y',e1,e2,e3⟩
     · exact h.nf j b hb q
     · by_cases e:j=j'
       · subst e; rw [hx] at e1; cases e1
       · exact h.dj j j' b e hb e3
  | @st l l' hl =>
   refine ⟨Bs j,?_,h.nd j,fun b hb=>⟨hb,fun q=>?_⟩⟩
   · have:=hsl.mono (w':=w) hF fun _ _=>rfl
     generalize tm.getD j undef=c at this
     generalize Bs j=B at this
     cases this with | st q1 q2=>exact .st (hl.rel q1) q2
   · rcases q with q | ⟨j',y',e1,e2,e3⟩
     · exact h.nf j b hb q
     · by_cases e:j=j'
       · subst e; rw [hx] at e1; cases e1
       · exact h.dj j j' b e hb e3
  | frz T es =>
   obtain ⟨h1,h2⟩:=h.own_inv hx
   exact ⟨[],.p (h1.frozen hF fun b hb=>.inr ⟨j,_,by rw [hx]; rfl,hy,by rw [h2]; exact hb⟩),by simp,by simp⟩
  | frm d ks vs=>exact ⟨[],.p (hsl.frozenM hF fun b hb=>.inr ⟨j,_,by rw [hx]; rfl,hy,hb⟩),by simp,by simp⟩
 obtain ⟨Bs',hB⟩:=Classical.axiomOfChoice each
 refine ⟨F',Bs',⟨h.sz,fun i=>(hB i).1,fun i=>(hB i).2.1,fun i j b hij hb hb'=>h.dj i j b hij ((hB i).2.2 b hb).1 ((hB j).2.2 b hb').1,fun i b hb=>((hB i).2.2 b hb).2,
  fun i b hb=>h.nw i b ((hB i).2.2 b hb).1,fun i b hb=>h.lt i b ((hB i).2.2 b hb).1,fun b hb=>?_,fun b hb=>.inl (h.f0 b hb),fun b hb=>?_,h.kb,by simp,h.pn⟩⟩
 · rcases hb with q | ⟨j,y,e1,e2,e3⟩
   · exact h.fl b q
   · exact h.lt j b e3
 · rcases hb with q | ⟨j,y,e1,e2,e3⟩
   · exact h.fn b q
   · exact .inr (h.nw j b e3)
def JgY (P:Program):List (Option TypeId)→Bool
 | []=>true
 | some T::l=>Jbq P T&&JiE P T&&JgY P l
 | none::l=>JgY P l
def Jkt (P:Program):Co→Bool
 | .own T=>Jbq P T&&JiE P T
 | .cs l=>JgY P l
 | _=>true
theorem Jeo (P:Program):∀ l:List SV,TurnL P l l
 | []=>.nil
 | x::l=>.same x (Jeo P l)
theorem Jbn:∀ {l:List (Option TypeId)} (_:JgY P l=true) (xs:List SV),TurnL P xs (JkM l xs)
 | [],_,xs=>Jeo P xs
 | none::l,h,[]=>.nil
 | none::l,h,x::xs=>.same x (Jbn (l:=l) (by simpa only [JgY] using h) xs)
 | some T::l,h,[]=>.nil
 | some T::l,h,x::xs=>by
  simp only [JgY,Bool.and_eq_true] at h
  cases x with
  | nl=>exact .own h.1.1 h.1.2 (Jbn h.2 xs)
  | _=>exact .same _ (Jbn h.2 xs)
def Jhu (P:Program):Lv→Bool
 | []=>true
 | (_,c)::l=>Jkt P c&&Jhu P l
theorem JcW {c:Co} (h:Jkt P c=true) (x:SV):Turned P x (coe c x):=by
 cases c with
 | id=>exact .same x
 | own T =>
  simp only [Jkt,Bool.and_eq_true] at h
  cases x with
  | nl=>exact .own h.1 h.2
  | _=>exact .same _
 | sh =>
  cases x with
  | nl=>exact .nil
  | own T es=>exact .frz T es
  | mp d ks vs=>exact .frm d ks vs
  | _=>exact .same _
 | cs l =>
  cases x with
  | bx T cs=>exact .bx (Jbn h cs)
  | st cs=>exact .st (Jbn h cs)
  | _=>exact .same _
theorem Jfj:∀ {l:Lv},Jhu P l=true→∀ (fr:Fr) (j:Nat),Turned P (fr j) (lk l (Jdk l fr) j)
 | [],_,fr,j=>.dead _
 | (s,c)::l,h,fr,j=>by
  simp only [Jhu,Bool.and_eq_true] at h
  simp only [Jdk,lk]
  cases hj:Nat.beq j s with
  | true=>rw [eqB hj,cond_true]; exact JcW h.1 _
  | false=>rw [cond_false]; exact Jfj h.2 fr j
theorem SRel.lk (h:SRel P G st a w) {l:Lv} (hl:Jhu P l=true):SRel P G ⟨lk l (Jdk l st.fr),[]⟩ a w:=by
 obtain ⟨hd,F,Bs,h⟩:=h
 obtain ⟨F',Bs',h'⟩:=h.coes (Jfj hl st.fr)
 exact ⟨hd,F',Bs',h'⟩
def JcD (P:Program):List (Nat × Lv × Lv)→Bool
 | []=>true
 | (_,l,o)::r=>Jhu P l&&Jhu P o&&JcD P r
theorem Jdl {l:List (Nat × Lv × Lv)} (h:JcD P l=true) {c:Code} {live out:Lv} (ha:Jev l c=some (live,out)):Jhu P live=true∧Jhu P out=true:=by
 unfold Jev at ha
 split at ha
 · rename_i i hi
   clear hi
   induction l with
   | nil=>simp [Jd6] at ha
   | cons x l ih =>
    obtain ⟨k,x1,x2⟩:=x
    simp only [JcD,Bool.and_eq_true] at h
    simp only [Jd6] at ha
    cases hk:Nat.beq k i with
    | true =>
     rw [hk] at ha
     simp only [cond_true,Option.some.injEq,Prod.mk.injEq] at ha
     rw [←ha.1,←ha.2]; exact h.1
    | false=>rw [hk] at ha; exact ih h.2 ha
 · cases ha
def Jku:Ex→Exit
 | .normal=>.normal
 | .exit i=>.exit i
 | .ret=>.ret
def Jhz (P:Program) (G:Gd) (f:Fr→Kc R→Option R) (c:Code):Prop :=
 ∀ {fr:Fr} {K:Kc R} {res:R} {a:Act} {w:World},f fr K=some res→SRel P G ⟨fr,[]⟩ a w→∀ {Q:Exit→Act→World→Prop},
  (∀ e fr' a' w',K e fr'=some res→SRel P G ⟨fr',[]⟩ a' w'→Q (Jku e) a' w')→c.wp P Q a w
theorem Jh3 {f:Fr→Kc R→Option R} {c:Code} {live out:Lv} (hf:Jhz P G f c) (hl:Jhu P live=true) (ho:Jhu P out=true) :
 ∀ (n:Nat) {vs:List SV} {K:Kc R} {res:R} {a:Act} {w:World},Jdc f live out n vs K=some res→SRel P G ⟨lk live vs,[]⟩ a w→∀ {Q:Exit→Act→World→Prop},
  (∀ e fr' a' w',K e fr'=some res→SRel P G ⟨fr',[]⟩ a' w'→Q (Jku e) a' w')→Code.rounds P c Q n a w
 | 0,vs,K,res,a,w,hk,hs,Q,hQ=>by cases hk
 | n + 1,vs,K,res,a,w,hk,hs,Q,hQ=>by
  simp only [Jdc] at hk
  rw [rounds_succ]
  refine hf hk hs fun e fr' a' w' hk' hs'=>?_
  cases e with
  | normal=>exact Jh3 hf hl ho n hk' (hs'.lk hl) hQ
  | exit i=>exact hQ (.exit i) _ a' w' hk' (hs'.lk ho)
  | ret=>exact hQ .ret _ a' w' hk' (hs'.lk ho)
theorem JjG {f:Fr→Kc R→Option R} {c:Code} {live out:Lv} (hf:Jhz P G f c) (hl:Jhu P live=true) (ho:Jhu P out=true) {fr:Fr} {K:Kc R} {res:R} {a:Act} {w:World}
 (hk:JfU f live out (Jdk live fr) K=some res) (hs:SRel P G ⟨fr,[]⟩ a w) {Q:Exit→Act→World→Prop}
 (hQ:∀ e fr' a' w',K e fr'=some res→SRel P G ⟨fr',[]⟩ a' w'→Q (Jku e) a' w'):c.wp P Q a w:=by
 simp only [JfU] at hk
 exact hf hk (hs.lk hl) fun e fr' a' w' hk' hs'=>hQ e _ a' w' hk' (hs'.lk ho)
end
end Go.Proofs.YtgglhmfncoeffaaGreatDoor.Th
set_option linter.unusedVariables false
set_option linter.unusedSimpArgs false
namespace Go.Proofs.YtgglhmfncoeffaaGreatDoor.Th
open Go
variable {R:Type} {res:R}
section
variable {P:Program} {G:Gd} {F:Nat→Prop} {Bs:Nat→List Nat} {st:St} {a:Act} {tm:Array Value} {w:World}
theorem Jgu {env:Env} (henv:EnvOK P G.I env) {ann:Ann} (hl:JcD P ann.loops=true) (hc:JcD P ann.cuts=true) (n:Nat) :
 ∀ c:Code,Jhz (R:=R) P G (evC P env ann n G.N c) c:=by
 intro c
 induction c with
 | skip=>intro fr K res a w hk hs Q hQ; exact wp_skip (hQ .normal fr a w hk hs)
 | exit i=>intro fr K res a w hk hs Q hQ; exact wp_exit (hQ (.exit i) fr a w hk hs)
 | ret=>intro fr K res a w hk hs Q hQ; exact wp_ret (hQ .ret fr a w hk hs)
 | region id ops draw =>
  intro fr K res a w hk hs Q hQ
  simp only [evC] at hk
  cases draw with
  | true=>exact Jhi henv (fun fr' a' w' h1 h2=>hQ .normal fr' a' w' h1 h2) hs hk
  | false=>exact Jis henv (fun fr' a' w' h1 h2=>hQ .normal fr' a' w' h1 h2) hs hk
 | seq x y ihx ihy =>
  intro fr K res a w hk hs Q hQ
  simp only [evC] at hk
  refine wp_seq (ihx hk hs fun e fr' a' w' hk' hs'=>?_)
  cases e with
  | normal =>
   show y.wp P Q a' w'
   simp only [] at hk'
   split at hk'
   · rename_i live out ha
     obtain ⟨o1,o2⟩:=Jdl hc ha
     exact JjG ihy o1 o2 hk' hs' hQ
   · exact ihy hk' hs' hQ
  | exit i=>exact hQ (.exit i) fr' a' w' hk' hs'
  | ret=>exact hQ .ret fr' a' w' hk' hs'
 | cond cnd x y ihx ihy =>
  intro fr K res a w hk hs Q hQ
  simp only [evC] at hk
  split at hk
  · rename_i t ht
    obtain ⟨hd,F,Bs,h⟩:=hs
    have hr:=Jag h cnd
    rw [ht] at hr
    refine wp_cond (t:=t) (Jbk hr) ?_
    cases t with
    | true=>exact ihx hk ⟨hd,F,Bs,h⟩ hQ
    | false=>exact ihy hk ⟨hd,F,Bs,h⟩ hQ
  · cases hk
 | block id x ih =>
  intro fr K res a w hk hs Q hQ
  simp only [evC] at hk
  refine wp_block (ih hk hs fun e fr' a' w' hk' hs'=>?_)
  cases e with
  | normal=>exact hQ .normal fr' a' w' hk' hs'
  | ret=>exact hQ .ret fr' a' w' hk' hs'
  | exit i =>
   simp only [Jku,Exit.inBlock]
   simp only [] at hk'
   cases hi:Nat.beq i id with
   | true=>rw [hi] at hk'; rw [if_pos (eqB hi)]; exact hQ .normal fr' a' w' hk' hs'
   | false=>rw [hi] at hk'; rw [if_neg (neB hi)]; exact hQ (.exit i) fr' a' w' hk' hs'
 | loop x ih =>
  intro fr K res a w hk hs Q hQ
  simp only [evC] at hk
  split at hk
  · rename_i live out ha
    obtain ⟨o1,o2⟩:=Jdl hl ha
    exact wp_loop_rounds n (Jh3 ih o1 o2 n hk (hs.lk o1) hQ)
  · cases hk
 | _=>intro fr K res a w hk; simp only [evC,reduceCtorEq] at hk
theorem RSs.getD {l:List SV} {cs:List Value} {B:List Nat} (h:RSs P F w l cs B) :
 ∃ Bs:Nat→List Nat,(∀ j,RS P F w (l.getD j .dead) (cs.getD j undef) (Bs j))∧(∀ j b,b∈Bs j→b∈B)∧(B.Nodup→(∀ j,(Bs j).Nodup)∧∀ i j b,i≠j→b∈Bs i→b∉Bs j):=by
 induction l generalizing cs B with
 | nil =>
  cases h
  exact ⟨fun _=>[],fun j=>by simpa using RS.dead _,by simp,fun _=>⟨by simp,by simp⟩⟩
 | cons x l ih =>
  cases h with
  | cons h1 h2 =>
   rename_i c cs B1 B2
   obtain ⟨Bs,q1,q2,q3⟩:=ih h2
   refine ⟨fun j=>match j with | 0=>B1 | j + 1=>Bs j,fun j=>?_,fun j b hb=>?_,fun hn=>?_⟩
   · cases j with
     | zero=>simpa using h1
     | succ j=>simpa using q1 j
   · cases j with
     | zero=>exact List.mem_append_left _ hb
     | succ j=>exact List.mem_append_right _ (q2 j b hb)
   · rw [List.nodup_append] at hn
     obtain ⟨n1,n2,n3⟩:=hn
     obtain ⟨r1,r2⟩:=q3 n2
     refine ⟨fun j=>by cases j with | zero=>exact n1 | succ j=>exact r1 j,fun i j b hij hb hb'=>?_⟩
     cases i with
     | zero =>
      cases j with
      | zero=>exact hij rfl
      | succ j=>exact n3 b hb b (q2 j b hb') rfl
     | succ i =>
      cases j with
      | zero=>exact n3 b hb' b (q2 i b hb) rfl
      | succ j=>exact r2 i j b (fun e=>hij (by rw [e])) hb hb'
theorem Jk6 {fn:Func} {args:List SV} {cargs:Array Value} {B:List Nat} (ha:RSs P F w args cargs.toList B) (hn:B.Nodup) (hB:∀ b∈B,¬ F b∧b<w.heap.size) (hF:∀ b,F b→b<w.heap.size)
 (hl:args.length≤fn.ntmps) (ix:List Nat) {I:GInv} (hgi:∀ (F':Nat→Prop) (w':World),(∀ b,F b→F' b)→Keep w (·∈B) w'→I.ok F' w'):SRel P ⟨w,(·∈B),F,(fn.ntmps,ix),fun j=>cargs.toList.getD j undef,I,hgi,[]⟩ ⟨JhC args,[]⟩ { tmps:=cargs++Array.replicate (fn.ntmps - cargs.size) undef,defers:=[] } w:=by
 obtain ⟨Bs,q1,q2,q3⟩:=ha.getD
 obtain ⟨r1,r2⟩:=q3 hn
 have hlen:=ha.length
 have hv:∀ j,(cargs++Array.replicate (fn.ntmps - cargs.size) undef).getD j undef=cargs.toList.getD j undef:=by
  intro j
  rw [Array.getD_eq_getD_getElem?,List.getD_eq_getElem?_getD,Array.getElem?_toList,Array.getElem?_append]
  split
  · rfl
  · rename_i hj
    rw [Array.getElem?_replicate,Array.getElem?_eq_none (Nat.le_of_not_lt hj)]
    split <;> rfl
 refine ⟨rfl,F,Bs,⟨?_,fun i=>by rw [hv]; exact q1 i,r1,r2,fun i b hb=>(hB b (q2 i b hb)).1,fun i b hb=>.inr (q2 i b hb),fun i b hb=>(hB b (q2 i b hb)).2,hF,fun _ q=>q,fun _ q=>.inl q,
  ⟨rfl,rfl,rfl,Nat.le_refl _,fun _ _ _=>rfl⟩,by simp,fun i _=>hv i⟩⟩
 simp only [Array.size_append,Array.size_replicate]
 simp only [Array.length_toList] at hlen
 omega
end
end Go.Proofs.YtgglhmfncoeffaaGreatDoor.Th
set_option linter.unusedVariables false
set_option linter.unusedSimpArgs false
namespace Go.Proofs.YtgglhmfncoeffaaGreatDoor.Th
open Go
variable {R:Type} {res:R}
def Jf4:List Co→List ResultVar→Fr→Fr
 | cs,.tmp t::r,fr=>fun j=>bif Nat.beq j t then coe (cs.headD .sh) (fr j) else Jf4 cs.tail r fr j
 | cs,.cell t _::r,fr=>fun j=>bif Nat.beq j t then coe (cs.headD .sh) (fr j) else Jf4 cs.tail r fr j
 | _,[],fr=>fr
def Jd3 (P:Program):List Co→Bool
 | []=>true
 | c::l=>Jkt P c&&Jd3 P l
section
variable {P:Program} {G:Gd} {F:Nat→Prop} {Bs:Nat→List Nat} {st:St} {a:Act} {tm:Array Value} {w:World}
theorem Jc4:∀ (l:List ResultVar) (cs:List Co),Jd3 P cs=true→∀ (fr:Fr) (j:Nat),Turned P (fr j) (Jf4 cs l fr j)
 | [],cs,_,fr,j=>.same _
 | .tmp t::l,cs,h,fr,j=>by
  have h1:Jkt P (cs.headD .sh)=true:=by
   cases cs with
   | nil=>rfl
   | cons c cs=>simp only [Jd3,Bool.and_eq_true] at h; exact h.1
  have h2:Jd3 P cs.tail=true:=by
   cases cs with
   | nil=>rfl
   | cons c cs=>simp only [Jd3,Bool.and_eq_true] at h; exact h.2
  simp only [Jf4]
  cases Nat.beq j t with
  | true=>exact JcW h1 _
  | false=>exact Jc4 l cs.tail h2 fr j
 | .cell t _::l,cs,h,fr,j=>by
  have h1:Jkt P (cs.headD .sh)=true:=by
   cases cs with
   | nil=>rfl
   | cons c cs=>simp only [Jd3,Bool.and_eq_true] at h; exact h.1
  have h2:Jd3 P cs.tail=true:=by
   cases cs with
   | nil=>rfl
   | cons c cs=>simp only [Jd3,Bool.and_eq_true] at h; exact h.2
  simp only [Jf4]
  cases Nat.beq j t with
  | true=>exact JcW h1 _
  | false=>exact Jc4 l cs.tail h2 fr j
theorem JdQ:∀ (l:List ResultVar) (cs:List Co) (fr:Fr) (j:Nat),j∉JaC l→Jf4 cs l fr j=fr j
 | [],cs,fr,j,_=>rfl
 | .tmp t::l,cs,fr,j,h=>by
  simp only [JaC,List.mem_cons,not_or] at h
  simp only [Jf4,JkF h.1,cond_false]
  exact JdQ l cs.tail fr j h.2
 | .cell t T::l,cs,fr,j,h=>by
  simp only [JaC,List.mem_cons,not_or] at h
  simp only [Jf4,JkF h.1,cond_false]
  exact JdQ l cs.tail fr j h.2
theorem Jg:∀ (l:List ResultVar) (cs:List Co) {fr:Fr} {ys:List SV},JiF P fr cs l=some ys→(JaC l).Nodup→ys=(JaC l).map (Jf4 cs l fr)
 | [],cs,fr,ys,h,_=>by simp only [JiF,Option.some.injEq] at h; subst h; rfl
 | .cell t T::l,cs,fr,ys,h,hn=>by
  simp only [JaC,List.nodup_cons] at hn
  simp only [JiF] at h
  cases hy:Jit P (cs.headD .sh) fr (.cell t T) with
  | none=>simp only [hy,reduceCtorEq] at h
  | some y =>
   cases hr:JiF P fr cs.tail l with
   | none=>simp only [hy,hr,reduceCtorEq] at h
   | some ys' =>
    simp only [hy,hr,Option.some.injEq] at h
    subst h
    have e1:=Jg l cs.tail hr hn.2
    have hyt:y=coe (cs.headD .sh) (fr t):=by
     simp only [Jit] at hy
     split at hy <;> first | (rename_i e; rw [e]; simpa using hy.symm) | cases hy
    simp only [JaC,List.map_cons,List.cons.injEq]
    refine ⟨by simp only [Jf4,Jl,cond_true]; exact hyt,?_⟩
    rw [e1]
    refine List.map_congr_left fun j hj=>?_
    have hne:j≠t:=fun e=>by subst e; exact hn.1 hj
    simp only [Jf4,JkF hne,cond_false]
 | .tmp t::l,cs,fr,ys,h,hn=>by
  simp only [JaC,List.nodup_cons] at hn
  simp only [JiF] at h
  cases hy:Jit P (cs.headD .sh) fr (.tmp t) with
  | none=>simp only [hy,reduceCtorEq] at h
  | some y =>
   cases hr:JiF P fr cs.tail l with
   | none=>simp only [hy,hr,reduceCtorEq] at h
   | some ys' =>
    simp only [hy,hr,Option.some.injEq] at h
    subst h
    have e1:=Jg l cs.tail hr hn.2
    have hyt:y=coe (cs.headD .sh) (fr t):=by
     simp only [Jit] at hy
     split at hy <;> first | (rename_i e; rw [e]; simpa using hy.symm) | cases hy
    simp only [JaC,List.map_cons,List.cons.injEq]
    refine ⟨by simp only [Jf4,Jl,cond_true]; exact hyt,?_⟩
    rw [e1]
    refine List.map_congr_left fun j hj=>?_
    have hne:j≠t:=fun e=>by subst e; exact hn.1 hj
    simp only [Jf4,JkF hne,cond_false]
theorem Jex:∀ (l:List Nat) {fr:Fr} {ys:List SV},JfJ fr l=some ys→ys=l.map fr
 | [],fr,ys,h=>by simp only [JfJ,Option.some.injEq] at h; subst h; rfl
 | i::l,fr,ys,h=>by
  simp only [JfJ] at h
  split at h
  · rename_i T cs l' e1 e2
    simp only [Option.some.injEq] at h
    subst h
    rw [List.map_cons,Jex l e2,e1]
  · rename_i T e bs l' e1 e2
    simp only [Option.some.injEq] at h
    subst h
    rw [List.map_cons,Jex l e2,e1]
  · cases h
theorem JfB (h:Rel P G F Bs st tm w):∀ (l:List Nat),l.Nodup→∃ B,RSs P F w (l.map st.fr) (l.map fun i=>tm.getD i undef) B∧B.Nodup∧(∀ b∈B,∃ i,i∈l∧b∈Bs i)
 | [],_=>⟨[],.nil,by simp,by simp⟩
 | i::l,hn=>by
  rw [List.nodup_cons] at hn
  obtain ⟨B,h1,h2,h3⟩:=JfB h l hn.2
  refine ⟨Bs i++B,.cons (h.sl i) h1,List.nodup_append.2 ⟨h.nd i,h2,fun x hx y hy e=>?_⟩,fun b hb=>?_⟩
  · subst e
    obtain ⟨j,q1,q2⟩:=h3 x hy
    exact h.dj i j x (fun e=>hn.1 (e ▸ q1)) hx q2
  · rcases List.mem_append.1 hb with q | q
    · exact ⟨i,by simp,q⟩
    · obtain ⟨j,q1,q2⟩:=h3 b q
      exact ⟨j,by simp [q1],q2⟩
theorem Je:∀ (args:List SV) (k:Nat) (pre cs:List Value),pre.length=k→args.length=cs.length→(JaM k args).map (fun j=>(pre++cs).getD j undef)=bxv args cs
 | [],k,pre,cs,hp,hl=>by
  cases cs with
  | nil=>rfl
  | cons c cs=>simp at hl
 | x::args,k,pre,cs,hp,hl=>by
  cases cs with
  | nil=>simp at hl
  | cons c cs =>
   have ih:=Je args (k + 1) (pre++[c]) cs (by simp [hp]) (by simpa using hl)
   rw [List.append_assoc,List.singleton_append] at ih
   have hk:(pre++c::cs).getD k undef=c:=by rw [List.getD_eq_getElem?_getD,List.getElem?_append_right (by omega),hp]; simp
   cases x <;> first | exact ih | (simp only [JaM,bxv,List.map_cons,hk,ih])
def JfA (tmps:Array Value):ResultVar→Sem Value
 | .tmp t=>pure (tmps.getD t undef)
 | .cell a t=>do loadVar t (←asAddr (tmps.getD a undef))
def Jgb:ResultVar→Nat
 | .tmp t=>t
 | .cell t _=>t
theorem Jbt:∀ l:List ResultVar,JaC l=l.map Jgb
 | []=>rfl
 | .tmp t::l=>by rw [JaC,Jbt l]; rfl
 | .cell t T::l=>by rw [JaC,Jbt l]; rfl
theorem Jga {fn:Func} {l:List ResultVar} (h:fn.results.toList=l) (hl:l.length≤4) (tmps tm':Array Value) (hv:∀ x∈l,(JfA tmps x).run P w=.ok (tm'.getD (Jgb x) undef) w) :
 (results fn tmps).run P w=.ok (JjL (l.map fun x=>tm'.getD (Jgb x) undef)) w:=by
 have hr:fn.results=l.toArray:=by rw [←h]
 have hm:results fn tmps=(fn.results.mapM (JfA tmps) >>= fun vs=>pure (if h:vs.size=1 then vs[0] else .tuple vs)):=by
  unfold results
  congr 1
 rw [hm]
 match l,hl,hr,hv with
 | [],_,hr,hv=>simp [hr,JjL]
 | [x],_,hr,hv =>
  have h1:=hv x (by simp)
  simp [hr,JjL,h1]
 | [x,y],_,hr,hv =>
  have h1:=hv x (by simp)
  have h2:=hv y (by simp)
  simp [hr,JjL,h1,h2]
 | [x,y,z],_,hr,hv =>
  have h1:=hv x (by simp)
  have h2:=hv y (by simp)
  have h3:=hv z (by simp)
  simp [hr,JjL,h1,h2,h3]
 | [x,y,z,u],_,hr,hv =>
  have h1:=hv x (by simp)
  have h2:=hv y (by simp)
  have h3:=hv z (by simp)
  have h4:=hv u (by simp)
  simp [hr,JjL,h1,h2,h3,h4]
 | _::_::_::_::_::_,h,_,_=>simp at h
theorem JiR (hd:a.defers=G.D) (h:Rel P G F Bs st a.tmps w) {t:Nat} {T:TypeId} {o:Out} {c0:Co} (hk:JfK P c0 T t (st.fr t)=some o):∃ v,(JfA a.tmps (.cell t T)).run P w=.ok v w∧Lay P G st a w (some t) o v:=by
 unfold JfK at hk
 split at hk
 · rename_i Tb cs hs
   obtain ⟨hkn,hk⟩:=Jab hk
   have rd:∀ (b:Nat) (v:Value),a.tmps.getD t undef=.pointer (some ⟨b,0,none⟩)→(Instr.loadAt T (.pointer (some ⟨b,0,none⟩))).run P w=.ok v w→(JfA a.tmps (.cell t T)).run P w=.ok v w:=by
    intro b v hv hr
    simp only [JfA,hv,asAddr]
    simpa [Instr.loadAt,Instr.sureAddr] using hr
   cases hag:Jai P T with
   | true =>
    rw [hag,cond_true] at hk
    split at hk
    · rename_i n hsz
      split at hk
      · unfold Jho at hk
        simp only [] at hk
        obtain ⟨hle,hk⟩:=Jab hk
        have hle:0 + n≤cs.length:=by simpa using hle
        obtain ⟨b',cur,e1,e2,e3,e4⟩:=h.takeCells hd hs hle
        cases hk
        refine ⟨_,rd b' _ e1 (Jdq hkn hag hsz (xs:=(cur.toList.drop 0).take n) (by rw [List.length_take,List.length_drop]; omega) fun j v hj=>?_),e4 _⟩
        rw [List.getElem?_take] at hj
        split at hj
        · rw [List.getElem?_drop] at hj
          rw [cell_of_row w b' _ cur Tb _ e2]; simpa using hj
        · cases hj
      unfold Jej at hk
      simp only [] at hk
      obtain ⟨hle,hk⟩:=Jab hk
      have hle:0 + n≤cs.length:=by simpa using hle
      split at hk
      · rename_i ys hy
        obtain ⟨F',Bs',b',cur,e1,e2,e3,e4,e5,e6,e7⟩:=h.freezeCells hs hy
        cases hk
        refine ⟨_,rd b' _ e1 (Jdq hkn hag hsz (xs:=(cur.toList.drop 0).take n) (by rw [List.length_take,List.length_drop]; omega) fun j v hj=>?_),Jar hd e4 (.p (.agg e5 e6))⟩
        rw [List.getElem?_take] at hj
        split at hj
        · rw [List.getElem?_drop] at hj
          rw [cell_of_row w b' _ cur Tb _ e2]; simpa using hj
        · cases hj
      · cases hk
    · cases hk
   | false =>
    rw [hag,cond_false] at hk
    obtain ⟨b,cur,B,e1,e2,e3,e4,e5⟩:=h.box_inv hs
    unfold Jei at hk
    simp only [] at hk
    obtain ⟨hlt,hk⟩:=Jab hk
    have cellv:∀ c,cur.toList[0]? = some c→w.cell? ⟨b,0,none⟩=some c:=fun c hc=>by rw [cell_of_row w b 0 cur Tb _ e2]; simpa using hc
    split at hk
    · unfold Jj3 at hk
      split at hk
      · rename_i y hy
        obtain ⟨c,Bj,pre,post,f1,f2,_⟩:=e3.get (getD_some hy (by simp))
        have hk:=(JcH hk).1
        cases hk
        cases f2 with | p h4=>exact ⟨c,rd b c e1 (JbU hkn hag (cellv c f1)),JaE hd h h4⟩
      · cases hk
    split at hk
    · rename_i y hy
      obtain ⟨c,Bj,pre,post,f1,f2,_⟩:=e3.get (getD_some hy (by simp))
      cases hk
      cases f2 with | p h4=>exact ⟨c,rd b c e1 (JbU hkn hag (cellv c f1)),JaE hd h h4⟩
    · rename_i hy
      obtain ⟨c,Bj,pre,post,f1,f2,_⟩:=e3.get (getD_some hy (by simp))
      cases hk
      cases f2 with | nl=>exact ⟨_,rd b _ e1 (JbU hkn hag (cellv _ f1)),Jar hd (by rw [Jak]; exact h) .nl⟩
    · rename_i T2 es hy
      obtain ⟨c,Bj,pre,post,f1,f2,_⟩:=e3.get (getD_some hy (by simp))
      cases hk
      refine ⟨c,rd b c e1 (JbU hkn hag (cellv c f1)),JaY hd h ?_⟩
      intro T' cs' b' cur' T'' f hs' ht hb
      rw [e1] at ht; cases ht
      rw [e2] at hb; cases hb
      exact f1
    · rename_i d ks vs hy
      obtain ⟨c,Bj,pre,post,f1,f2,_⟩:=e3.get (getD_some hy (by simp))
      cases hk
      refine ⟨c,rd b c e1 (JbU hkn hag (cellv c f1)),JaY hd h ?_⟩
      intro T' cs' b' cur' T'' f hs' ht hb
      rw [e1] at ht; cases ht
      rw [e2] at hb; cases hb
      exact f1
    · cases hk
 · cases hk
theorem Jh6 {o:Out} (h:Jj8 o=true):o.ref=none:=by
 unfold Jj8 at h
 split at h
 · rfl
 · cases h
theorem JdX:∀ (l:List ResultVar) (rm:List Co) (fr fr':Fr) (a:Act),Jbz P G.N rm l fr=some fr'→SRel P G ⟨fr,[]⟩ a w→(JaC l).Nodup →
 ∃ a',SRel P G ⟨fr',[]⟩ a' w∧(∀ j,j∉JaC l→a'.tmps.getD j undef=a.tmps.getD j undef)∧∀ x∈l,(JfA a.tmps x).run P w=.ok (a'.tmps.getD (Jgb x) undef) w
 | [],rm,fr,fr',a,h,hs,_=>by
  simp only [Jbz,Option.some.injEq] at h
  subst h
  exact ⟨a,hs,fun _ _=>rfl,by simp⟩
 | .tmp t::l,rm,fr,fr',a,h,hs,hn=>by
  simp only [JaC,List.nodup_cons] at hn
  obtain ⟨a',h1,h2,h3⟩:=JdX l rm.tail fr fr' a h hs hn.2
  refine ⟨a',h1,fun j hj=>h2 j fun q=>hj (by simp [JaC,q]),fun x hx=>?_⟩
  rcases List.mem_cons.1 hx with rfl | hx
  · simp only [Jgb]; rw [h2 t hn.1]; rfl
  · exact h3 x hx
 | .cell t T::l,rm,fr,fr',a,h,hs,hn=>by
  simp only [JaC,List.nodup_cons] at hn
  simp only [Jbz] at h
  split at h
  · rename_i o ho
    obtain ⟨hc,h⟩:=Jab h
    simp only [Bool.and_eq_true] at hc
    obtain ⟨hd,F,Bs,hr⟩:=hs
    obtain ⟨v,g1,g2⟩:=JiR (st:=⟨fr,[]⟩) hd hr ho
    have hs1:=g2 hc.1
    have hst:St.put ⟨fr,[]⟩ (some t) o=⟨(St.put ⟨fr,[]⟩ (some t) o).fr,[]⟩:=by
     have:=Jh6 hc.2
     simp only [St.put,this,Jaf]
    rw [hst] at hs1
    obtain ⟨a',h1,h2,h3⟩:=JdX l rm.tail _ fr' _ h hs1 hn.2
    have hlt:t<a.tmps.size:=by
     rw [hr.sz]
     have:=hc.1
     simp only [Out.fits,Bool.and_eq_true] at this
     simpa using this.1.1
    have hne:∀ j,j≠t→(a.put (some t) v).tmps.getD j undef=a.tmps.getD j undef:=fun j hj=>Jaz hj
    refine ⟨a',h1,fun j hj=>?_,fun x hx=>?_⟩
    · simp only [JaC,List.mem_cons,not_or] at hj
      rw [h2 j hj.2,hne j hj.1]
    · rcases List.mem_cons.1 hx with rfl | hx
      · simp only [Jgb]
        rw [h2 t hn.1]
        have:(a.put (some t) v).tmps.getD t undef=v:=Jbg hlt
        rw [this]; exact g1
      · have hxt:Jgb x≠t:=fun q=>hn.1 (by rw [Jbt]; exact List.mem_map.2 ⟨x,hx,q⟩)
        rw [←h3 x hx]
        cases x with
        | tmp u=>simp only [JfA]; rw [hne u hxt]
        | cell u U=>simp only [JfA]; rw [hne u hxt]
  · cases h
theorem Jgw {ann:Ann} (hrm:Jd3 P ann.rm=true) {fn:Func} {args:List SV} {cargs:Array Value} {B:List Nat} {W:World} {fr:Fr} {K:List SV→Option R} (hlen:args.length=cargs.toList.length)
 (hBl:∀ b∈B,b<W.heap.size) {I:GInv} {hgi:∀ (F':Nat→Prop) (w:World),(∀ b,F b→F' b)→Keep W (·∈B) w→I.ok F' w}
 {D:List Deferred} (hs:SRel P ⟨W,(·∈B),F,(fn.ntmps,JaM 0 args),fun j=>cargs.toList.getD j undef,I,hgi,D⟩ ⟨fr,[]⟩ a w) (hk:Jhq P ann fn args fr K=some res) :
 a.defers=D∧∃ v,(results fn a.tmps).run P w=.ok v w∧∃ rs,K rs=some res∧JkA P F W args cargs.toList B rs v w:=by
 refine ⟨hs.1,?_⟩
 unfold Jhq at hk
 split at hk
 · cases hk
 rename_i fr2 hcells
 split at hk
 · rename_i rs bs hrs hbs
   obtain ⟨hc,hk⟩:=Jab hk
   simp only [Bool.and_eq_true] at hc
   have hn:=JbB.1 hc.1
   have hn1:=(List.nodup_append.1 hn).1
   have hn3:=(List.nodup_append.1 hn).2.2
   obtain ⟨a0,hs0,t1,t2⟩:=JdX _ _ _ _ a hcells hs hn1
   obtain ⟨hd,F',Bs',h⟩:=hs0
   generalize hfr:fr2=fr at *
   have e1:=Jg _ _ hrs hn1
   have e3:=Jex _ hbs
   obtain ⟨F2,Bs2,h2⟩:=h.coes (fr':=Jf4 ann.rm fn.results.toList fr) (Jc4 _ _ hrm fr)
   obtain ⟨Br,s1,s2,s3⟩:=JfB h2 _ hn
   have e4:(JaM 0 args).map (Jf4 ann.rm fn.results.toList fr)=bs:=by
    rw [e3]
    exact List.map_congr_left fun j hj=>JdQ _ _ _ _ fun q=>hn3 j q j hj rfl
   have e5:(JaM 0 args).map (fun i=>a0.tmps.getD i undef)=bxv args cargs.toList:=by
    rw [←Je args 0 [] cargs.toList rfl hlen]
    exact List.map_congr_left fun j hj=>h.pn j hj
   rw [List.map_append,List.map_append,←e1,e4,e5] at s1
   refine ⟨_,Jga rfl (by have:=JgT hc.2; rw [e1,List.length_map,Jbt,List.length_map] at this; exact this) a.tmps a0.tmps t2,_,hk,F2,Br,rs,bs,(JaC fn.results.toList).map (fun t=>a0.tmps.getD t undef),rfl,by rw [e1]; simp,by rw [Jbt,List.map_map]; rfl,s1,s2,
    fun b hb=>?_,fun b hb=>h2.f0 b hb,fun b hb=>h2.fn b hb,h2.fl,h2.kb⟩
   obtain ⟨i,q1,q2⟩:=s3 b hb
   exact ⟨h2.nf i b q2,h2.lt i b q2,h2.nw i b q2⟩
 · cases hk
def Jeu (P:Program) (ann:Ann):Bool:=JcD P ann.loops&&JcD P ann.cuts&&Jd3 P ann.rm
theorem EnvOK.nil {I:GInv}:EnvOK P I (fun _=>none):=fun g fs h=>by cases h
theorem EnvOK.cons {I:GInv} {env:Env} {g:Nat} {fs:FS} (h:EnvOK P I env) (hf:FSound P I g fs):EnvOK P I (fun i=>bif Nat.beq i g then some fs else env i):=by
 intro i fs' hi
 replace hi:(bif Nat.beq i g then some fs else env i)=some fs':=hi
 cases hb:Nat.beq i g with
 | true =>
  rw [hb] at hi
  simp only [cond_true,Option.some.injEq] at hi
  rw [eqB hb,←hi]; exact hf
 | false=>rw [hb] at hi; exact h i fs' hi
theorem gI {I:GInv} {F:Nat→Prop} {W:World} {B:List Nat} (hF:∀ b,F b→b<W.heap.size) (hB:∀ b∈B,¬ F b∧b<W.heap.size) (hI:I.ok F W) (F':Nat→Prop) (w:World) (h1:∀ b,F b→F' b) (h2:Keep W (·∈B) w):I.ok F' w :=
 I.st F F' W w hI h1 hF fun b hb=>h2.block b (hF b hb) fun q=>(hB b q).1 hb
theorem JjW {I:GInv} {env:Env} (henv:EnvOK P I env) {ann:Ann} (hann:Jeu P ann=true) {n:Nat} {fn:Func} {g:Nat} (hg:P.funcs[g]? = some fn) (hnm:(fn.name == "runtime.NumGoroutine")=false)
 {args:List SV} {K:List SV→Option R} (hk:Jhp P env ann n fn args K=some res)
 (F:Nat→Prop) (W:World) (cargs:Array Value) (B:List Nat) (ha:RSs P F W args cargs.toList B) (hn:B.Nodup) (hB:∀ b∈B,¬ F b∧b<W.heap.size) (hF:∀ b,F b→b<W.heap.size) (hI:I.ok F W) :
 Calls P g cargs W fun | .returned v,w'=>∃ rs,K rs=some res∧JkA P F W args cargs.toList B rs v w' | _,_=>False:=by
 simp only [Jeu,Bool.and_eq_true] at hann
 unfold Jhp at hk
 split at hk
 · rename_i c hc
   obtain ⟨hl,hk⟩:=Jab hk
   refine calls_of_wp hg hc (Jgu (G:=⟨W,(·∈B),F,(fn.ntmps,JaM 0 args),fun j=>cargs.toList.getD j undef,I,gI hF hB hI,[]⟩) henv hann.1.1 hann.1.2 n c hk (Jk6 ha hn hB hF (JgT hl) _ _) fun e fr' a' w' hk' hs'=>?_)
   cases e with
   | exit i=>cases hk'
   | normal =>
    obtain ⟨h1,v,h2,h3⟩:=Jgw hann.2 ha.length (fun b hb=>(hB b hb).2) hs' hk'
    exact ⟨h1,v,h2,h3⟩
   | ret =>
    obtain ⟨h1,v,h2,h3⟩:=Jgw hann.2 ha.length (fun b hb=>(hB b hb).2) hs' hk'
    exact ⟨h1,v,h2,h3⟩
 · cases hk
theorem FSound.of {I:GInv} {env:Env} (henv:EnvOK P I env) {ann:Ann} (hann:Jeu P ann=true) {n:Nat} {fn:Func} {g:Nat} (hg:P.funcs[g]? = some fn) (hb:fn.body.isNone=false) (hnm:(fn.name == "runtime.NumGoroutine")=false)
 {fs:FS} (hf:∀ {R:Type} {args:List SV} {K:List SV→Option R} {res:R},fs.run args K=some res→Jhp P env ann n fn args K=some res) (hdet:∀ args,DetK (fun R K=>@FS.run fs R args K)):FSound P I g fs :=
 ⟨hdet,⟨fn,hg,hb,hnm⟩,fun hk F W cargs B ha hn hB hF hI=>JjW henv hann hg hnm (hf hk) F W cargs B ha hn hB hF hI⟩
end
end Go.Proofs.YtgglhmfncoeffaaGreatDoor.Th
set_option linter.unusedVariables false
set_option linter.unusedSimpArgs false
namespace Go.Proofs.YtgglhmfncoeffaaGreatDoor.Th
open Go
variable {R:Type} {res:R}
def JhU (r:Nat):Code→Bool
 | .seq a b=>JhU r a||JhU r b
 | .region id _ _=>Nat.beq id r
 | _=>false
def Jgj (ops:Array Oper):Array Oper :=
 match ops.toList with
 | o::_=>(match o.op with
  | .makeFunc _ _ caps=>(match caps.toList with
   | x::_=>#[{ o with op:=.move x }]
   | []=>ops)
  | _=>ops)
 | []=>ops
def JjF (r:Nat):Code→Code
 | .seq a b=>bif JhU r a then .seq (JjF r a) b else .seq a (JjF r b)
 | .region id ops draw=>bif Nat.beq id r then .region id (Jgj ops) draw else .region id ops draw
 | c=>c
def JjM (P:Program) (d:Deferred):Prop :=
 ∃ fv cap f args,d.target=.fn fv cap∧∀ w,(invoke d.target d.args).run P w=.ok (.enter f args) w∧CallsD P f args .returning w (fun e u' w'=>(∃ v,e=.returned v)∧u'=.returning∧w'=w)
def Jdy (P:Program) (ops:List Oper) (g t:Nat):Bool :=
 match ops with
 | [o1,o2]=>(match o1.op,o1.dst,o1.guard,o2.op,o2.dst,o2.guard with
     | .makeFunc (.func f) first caps,some t',none,.defer c,none,none=>Nat.beq f g&&first.isEmpty&&Nat.beq t' t&&c.args.isEmpty&&(match c.callee with
      | .value (.tmp u)=>Nat.beq u t
      | _=>false)&&!caps.isEmpty
     | _,_,_,_,_,_=>false)
 | _=>false
def Jcb (P:Program) (g t r:Nat):Code→Bool
 | .seq a b=>bif JhU r a then Jcb P g t r a else Jcb P g t r b
 | .region id ops draw=>Nat.beq id r&&Jdy P ops.toList g t&&!draw
 | _=>false
section
variable {P:Program} {G:Gd} {F:Nat→Prop} {Bs:Nat→List Nat} {st:St} {a:Act} {tm:Array Value} {w:World}
theorem Rel.defs (h:Rel P G F Bs st tm w) (D:List Deferred):Rel P { G with D:=D } F Bs st tm w :=
 ⟨h.sz,h.sl,h.nd,h.dj,h.nf,h.nw,h.lt,h.fl,h.f0,h.fn,h.kb,h.rf,h.pn⟩
theorem Je5 {fz:List Nat} {id g t:Nat} {ops:Array Oper} {fr:Fr} (hform:Jdy P ops.toList g t=true) (hidle:∀ cv:Array Value,JjM P ⟨.fn (.func g) cv,#[]⟩) (hD:G.D=[])
 (hfz:(!(JaZ fz t)&&JaZ fz (4000000 + t))=true)
 {env:Env} {K:Fr→Option R} (hk:JgG P env fz G.N (Jgj ops).toList false fr K=some res) (hs:SRel P G ⟨fr,[]⟩ a w) {Q:Exit→Act→World→Prop}
 (hQ:∀ d,JjM P d→∀ fr' a' w',K fr'=some res→SRel P { G with D:=[d] } ⟨fr',[]⟩ a' w'→Q .normal a' w'):(Code.region id ops false).wp P Q a w:=by
 obtain ⟨l⟩:=ops
 simp only [Jdy] at hform
 split at hform
 · rename_i o1 o2
   split at hform
   · rename_i f first caps t' c ho1 hd1 hg1 ho2 hd2 hg2
     simp only [Bool.and_eq_true] at hform
     obtain ⟨⟨⟨⟨⟨hf,hfi⟩,ht⟩,hca⟩,hcal⟩,hcp⟩:=hform
     have hf:=eqB hf
     have ht:=eqB ht
     subst hf ht
     have hfirst:first=#[]:=by simpa using hfi
     subst hfirst
     obtain ⟨callee,cargs,ctys⟩:=c
     simp only [] at hca hcal
     have hcargs:cargs=#[]:=by simpa using hca
     subst hcargs
     split at hcal
     · rename_i u
       have hu:=eqB hcal
       subst hu
       obtain ⟨cl⟩:=caps
       cases cl with
       | nil=>simp at hcp
       | cons x cl =>
        have hcut:Jgj ⟨[o1,o2]⟩=#[{ o1 with op:=.move x }]:=by simp only [Jgj,ho1]
        rw [hcut] at hk
        simp only [Bool.and_eq_true,Bool.not_eq_true'] at hfz
        obtain ⟨hz1,hz2⟩:=hfz
        simp only [JgG,cond_false,Jhf,Ja0,hg1,goO,opF,hd1,hz1,JeH,hz2] at hk
        obtain ⟨hfit,hk⟩:=Jab hk
        obtain ⟨hd,F,Bs,h⟩:=hs
        rw [hD] at hd
        have hlt:u<G.N.1:=by
         simp only [Out.fits,Bool.and_eq_true,Nat.blt_eq] at hfit
         exact hfit.1.1
        have hsz:u<a.tmps.size:=by rw [h.sz]; exact hlt
        refine wp_region ?_
        have hr2:List.range (#[o1,o2]:Array Oper).size=[0,1]:=rfl
        rw [hr2]
        have v1:(execOp a.eval o1).run P w=.ok (.value (.func (.func f) #[] ((x::cl).map a.eval).toArray)) w:=by
         simp only [execOp,ho1,Instr.makeFunc,Sem.run_bind,Sem.run_pure,Result.andThen_ok]
         simp
        have wn:∀ (o:Oper) (y:List (Option Value)),o.guard=none→True:=fun _ _ _=>trivial
        simp only [wpOps]
        have h0:(#[o1,o2]:Array Oper)[0]? = some o1:=rfl
        have h1:(#[o1,o2]:Array Oper)[1]? = some o2:=rfl
        rw [h0,h1]
        simp only []
        have w1:∀ ys,Region.wanted o1 ys=true:=fun ys=>by simp [Region.wanted,hg1]
        have w2:∀ ys,Region.wanted o2 ys=true:=fun ys=>by simp [Region.wanted,hg2]
        rw [if_pos (w1 _)]
        refine .inl ?_
        unfold Oper.wp
        rw [v1,Oper.upon_value,hd1]
        show (if Region.wanted o2 _=true then _ else _)
        rw [if_pos (w2 _)]
        refine .inl ?_
        have e2:(a.put (some u) (.func (.func f) #[] ((x::cl).map a.eval).toArray)).eval (.tmp u)=.func (.func f) #[] ((x::cl).map a.eval).toArray:=by
         simp only [Act.put,Act.eval]
         exact Jbg hsz
        have v2:(execOp (a.put (some u) (.func (.func f) #[] ((x::cl).map a.eval).toArray)).eval o2).run P w=.ok (.defer ⟨.fn (.func f) ((x::cl).map a.eval).toArray,#[]⟩) w:=by
         simp only [execOp,ho2,resolve,e2,Deferred.ofValue,Sem.run_bind,Sem.run_pure,Result.andThen_ok]
         simp
        first | rw [v2,Oper.upon_defer,hd2] | (unfold Oper.wp; rw [v2,Oper.upon_defer,hd2])
        have hlay:=Jar (d:=some u) (x:=.dead) (us:=[]) (drop:=[]) (c:=.func (.func f) #[] ((x::cl).map a.eval).toArray) (G:={ G with D:=[] }) (st:=⟨fr,[]⟩) hd
         (by rw [Jak]; exact h.defs []) (.dead _) hfit
        obtain ⟨hd3,F3,Bs3,h3⟩:=hlay.noRal
        refine hQ ⟨.fn (.func f) ((x::cl).map a.eval).toArray,#[]⟩ (hidle _) _ _ _ hk ⟨?_,F3,Bs3,?_⟩
        · show _::_=_
          have hdd:(a.put (some u) (.func (.func f) #[] ((x::cl).map a.eval).toArray)).defers=[]:=hd
          rw [hdd]
        · exact h3.defs _
     · cases hcal
   · cases hform
 · cases hform
theorem JiU {env:Env} (henv:EnvOK P G.I env) {ann:Ann} (hl:JcD P ann.loops=true) (hc:JcD P ann.cuts=true) (n:Nat) {g t r:Nat} (hidle:∀ cv:Array Value,JjM P ⟨.fn (.func g) cv,#[]⟩) (hD:G.D=[])
 (hfz:(!(JaZ ann.frz t)&&JaZ ann.frz (4000000 + t))=true):∀ (c:Code),JhU r c=true→Jcb P g t r c=true →
 ∀ {fr:Fr} {K:Kc R} {res:R} {a:Act} {w:World},evC P env ann n G.N (JjF r c) fr K=some res→SRel P G ⟨fr,[]⟩ a w→∀ {Q:Exit→Act→World→Prop},
  (∀ e fr' a' w',e≠.normal→K e fr'=some res→SRel P G ⟨fr',[]⟩ a' w'→Q (Jku e) a' w') →
  (∀ d,JjM P d→∀ e fr' a' w',K e fr'=some res→SRel P { G with D:=[d] } ⟨fr',[]⟩ a' w'→Q (Jku e) a' w')→c.wp P Q a w:=by
 intro c
 induction c with
 | region id ops draw =>
  intro hr hf fr K res a w hk hs Q h1 h2
  simp only [Jcb,Bool.and_eq_true,Bool.not_eq_true'] at hf
  obtain ⟨⟨hid,hform⟩,hdr⟩:=hf
  subst hdr
  simp only [JjF,hid,cond_true,evC] at hk
  exact Je5 hform hidle hD hfz hk hs fun d hd fr' a' w' hk' hs'=>h2 d hd .normal fr' a' w' hk' hs'
 | seq x y ihx ihy =>
  intro hr hf fr K res a w hk hs Q h1 h2
  simp only [JjF] at hk
  simp only [Jcb] at hf
  simp only [JhU] at hr
  cases hx:JhU r x with
  | true =>
   rw [hx] at hk hf
   simp only [cond_true] at hk hf
   simp only [evC] at hk
   refine wp_seq (ihx hx hf hk hs (fun e fr' a' w' hne hk' hs'=>?_) fun d hd e fr' a' w' hk' hs'=>?_)
   · cases e with
     | normal=>exact absurd rfl hne
     | exit i=>exact h1 (.exit i) fr' a' w' (by simp) hk' hs'
     | ret=>exact h1 .ret fr' a' w' (by simp) hk' hs'
   · cases e with
     | exit i=>exact h2 d hd (.exit i) fr' a' w' hk' hs'
     | ret=>exact h2 d hd .ret fr' a' w' hk' hs'
     | normal =>
      show y.wp P Q a' w'
      simp only [] at hk'
      split at hk'
      · rename_i live out ha
        obtain ⟨o1,o2⟩:=Jdl hc ha
        exact JjG (G:={ G with D:=[d] }) (Jgu (G:={ G with D:=[d] }) henv hl hc n y) o1 o2 hk' hs' fun e fr' a' w'=>h2 d hd e fr' a' w'
      · exact Jgu (G:={ G with D:=[d] }) henv hl hc n y hk' hs' fun e fr' a' w'=>h2 d hd e fr' a' w'
  | false =>
   rw [hx] at hk hf hr
   simp only [cond_false,Bool.false_or] at hk hf hr
   simp only [evC] at hk
   refine wp_seq (Jgu henv hl hc n x hk hs fun e fr' a' w' hk' hs'=>?_)
   cases e with
   | exit i=>exact h1 (.exit i) fr' a' w' (by simp) hk' hs'
   | ret=>exact h1 .ret fr' a' w' (by simp) hk' hs'
   | normal =>
    show y.wp P Q a' w'
    simp only [] at hk'
    split at hk'
    · rename_i live out ha
      obtain ⟨o1,o2⟩:=Jdl hc ha
      simp only [JfU] at hk'
      exact ihy hr hf hk' (hs'.lk o1) (fun e fr' a' w' hne hk2 hs2=>h1 e _ a' w' hne hk2 (hs2.lk o2)) fun d hd e fr' a' w' hk2 hs2=>h2 d hd e _ a' w' hk2 (hs2.lk (G:={ G with D:=[d] }) o2)
    · exact ihy hr hf hk' hs' h1 h2
 | _=>intro hr; simp [JhU] at hr
theorem Ji7 {I:GInv} {env:Env} (henv:EnvOK P I env) {ann:Ann} (hann:Jeu P ann=true) {n:Nat} {fn:Func} {c:Code} {g:Nat} (hg:P.funcs[g]? = some fn) (hb:fn.body=some c) {gd t r:Nat}
 (hidle:∀ cv:Array Value,JjM P ⟨.fn (.func gd) cv,#[]⟩) (hfm:(JhU r c&&Jcb P gd t r c&&(!(JaZ ann.frz t)&&JaZ ann.frz (4000000 + t)))=true)
 {args:List SV} {K:List SV→Option R} (hk:Jhp P env ann n { fn with body:=some (JjF r c) } args K=some res)
 (F:Nat→Prop) (W:World) (cargs:Array Value) (B:List Nat) (ha:RSs P F W args cargs.toList B) (hn:B.Nodup) (hB:∀ b∈B,¬ F b∧b<W.heap.size) (hF:∀ b,F b→b<W.heap.size) (hI:I.ok F W) :
 Calls P g cargs W fun | .returned v,w'=>∃ rs,K rs=some res∧JkA P F W args cargs.toList B rs v w' | _,_=>False:=by
 simp only [Jeu,Bool.and_eq_true] at hann
 rw [Bool.and_eq_true,Bool.and_eq_true] at hfm
 unfold Jhp at hk
 simp only [] at hk
 obtain ⟨hl,hk⟩:=Jab hk
 refine calls_of_wp_defers hg hb (JiU (G:=⟨W,(·∈B),F,(fn.ntmps,JaM 0 args),fun j=>cargs.toList.getD j undef,I,gI hF hB hI,[]⟩) henv hann.1.1 hann.1.2 n hidle rfl hfm.2 c hfm.1.1 hfm.1.2 hk
  (Jk6 ha hn hB hF (JgT hl) _ _) (fun e fr' a' w' hne hk' hs'=>?_) fun d hd e fr' a' w' hk' hs'=>?_)
 · cases e with
   | normal=>exact absurd rfl hne
   | exit i=>cases hk'
   | ret =>
    obtain ⟨h1,v,h2,h3⟩:=Jgw (fn:=fn) hann.2 ha.length (fun b hb=>(hB b hb).2) hs' hk'
    show Leaves P fn a'.tmps _ a'.defers .returning w'
    rw [h1]
    exact ⟨v,h2,h3⟩
 · have fin:∀ (hk':Jhq P ann { fn with body:=some (JjF r c) } args fr' K=some res),Leaves P fn a'.tmps (fun | .returned v,w'=>∃ rs,K rs=some res∧JkA P F W args cargs.toList B rs v w' | _,_=>False) a'.defers .returning w':=by
    intro hk'
    obtain ⟨h1,v,h2,h3⟩:=Jgw (fn:=fn) hann.2 ha.length (fun b hb=>(hB b hb).2) hs' hk'
    rw [h1]
    obtain ⟨fv,cap,f,args',q1,q2⟩:=hd
    refine ⟨by simp,fv,cap,f,args',q1,(q2 w').1,(q2 w').2.mono fun e u' w2 he=>?_⟩
    obtain ⟨⟨v',rfl⟩,rfl,rfl⟩:=he
    exact ⟨v,h2,h3⟩
   cases e with
   | exit i=>cases hk'
   | normal=>exact fin hk'
   | ret=>exact fin hk'
end
abbrev Jln (r:Nat) (fn:Func):Func:={ fn with body:=some (JjF r (fn.body.getD .skip)) }
end Go.Proofs.YtgglhmfncoeffaaGreatDoor.Th
set_option linter.unusedVariables false
set_option linter.unusedSimpArgs false
namespace Go.Proofs.YtgglhmfncoeffaaGreatDoor.Th
open Go
variable {R:Type}
def Jc1 (l:List (Nat × Lv × Lv)) (i:Nat):Lv:=((Jd6 l i).getD ([],[])).1
def Jhw (l:List (Nat × Lv × Lv)) (i:Nat):Lv:=((Jd6 l i).getD ([],[])).2
def isA (l:List (Nat × Lv × Lv)) (i:Nat):Bool :=
 match Jd6 l i with
 | some _=>true
 | none=>false
abbrev Orc (R:Type):=Nat→List SV→Kc R→Option R
def evO (P:Program) (env:Env) (ann:Ann) (N:Nat × List Nat) (lo cu:Orc R):Code→Fr→Kc R→Option R
 | .skip,fr,K=>K .normal fr
 | .region _ ops draw,fr,K=>JgG P env ann.frz N ops.toList draw fr fun fr'=>K .normal fr'
 | .seq a b,fr,K=>evO P env ann N lo cu a fr fun e fr'=>match e with
  | .normal=>(match JaV b with
   | some i=>bif isA ann.cuts i then cu i (Jdk (Jc1 ann.cuts i) fr') K else evO P env ann N lo cu b fr' K
   | none=>evO P env ann N lo cu b fr' K)
  | .exit i=>K (.exit i) fr'
  | .ret=>K .ret fr'
 | .cond c a b,fr,K=>(match opd ⟨fr,[]⟩ c with
  | .pv (.v (.bool t))=>bif t then evO P env ann N lo cu a fr K else evO P env ann N lo cu b fr K
  | _=>none)
 | .block id a,fr,K=>evO P env ann N lo cu a fr fun e fr'=>match e with
  | .exit i=>bif Nat.beq i id then K .normal fr' else K (.exit i) fr'
  | .normal=>K .normal fr'
  | .ret=>K .ret fr'
 | .loop a,fr,K=>(match JaV a with
  | some i=>bif isA ann.loops i then lo i (Jdk (Jc1 ann.loops i) fr) K else none
  | none=>none)
 | .exit i,fr,K=>K (.exit i) fr
 | .ret,fr,K=>K .ret fr
 | _,_,_=>none
def JaS (ann:Ann):Code→List (Bool × Nat × Code)
 | .seq a b=>JaS ann a++(match JaV b with
  | some i=>bif isA ann.cuts i then [(true,i,b)] else JaS ann b
  | none=>JaS ann b)
 | .cond _ a b=>JaS ann a++JaS ann b
 | .block _ a=>JaS ann a
 | .loop a=>match JaV a with
  | some i=>[(false,i,a)]
  | none=>[]
 | _=>[]
def Jd (P:Program) (env:Env) (ann:Ann) (n:Nat) (N:Nat × List Nat) (lo cu:Orc R) (x:Bool × Nat × Code):Prop :=
 match x with
 | (true,i,b)=>∀ vs K,JfU (fun f k=>evC P env ann n N b f k) (Jc1 ann.cuts i) (Jhw ann.cuts i) vs K=cu i vs K
 | (false,i,a)=>∀ vs K,Jdc (fun f k=>evC P env ann n N a f k) (Jc1 ann.loops i) (Jhw ann.loops i) n vs K=lo i vs K
def JfF (p:Bool × Nat × Code→Prop):List (Bool × Nat × Code)→Prop
 | []=>True
 | x::l=>p x∧JfF p l
theorem Jdt {p:Bool × Nat × Code→Prop} {a b:List (Bool × Nat × Code)} (h:JfF p (a++b)):JfF p a∧JfF p b:=by
 induction a with
 | nil=>exact ⟨trivial,h⟩
 | cons x a ih=>exact ⟨⟨h.1,(ih h.2).1⟩,(ih h.2).2⟩
theorem JdD (l:List (Nat × Lv × Lv)) (i:Nat):(isA l i=true∧Jd6 l i=some (Jc1 l i,Jhw l i))∨(isA l i=false∧Jd6 l i=none):=by
 unfold isA Jc1 Jhw
 cases Jd6 l i with
 | none=>exact .inr ⟨rfl,rfl⟩
 | some x=>exact .inl ⟨rfl,rfl⟩
theorem JhS {P:Program} {env:Env} {ann:Ann} {n:Nat} {N:Nat × List Nat} {lo cu:Orc R}:∀ (c:Code),JfF (Jd P env ann n N lo cu) (JaS ann c) →
 ∀ fr K,evC P env ann n N c fr K=evO P env ann N lo cu c fr K:=by
 intro c
 induction c with
 | seq a b iha ihb =>
  intro h fr K
  simp only [JaS] at h
  obtain ⟨h1,h2⟩:=Jdt h
  simp only [evC,evO]
  rw [iha h1]
  congr 1
  funext e fr'
  cases e with
  | normal =>
   simp only [Jev]
   cases hi:JaV b with
   | none=>rw [hi] at h2; exact ihb h2 fr' K
   | some i =>
    rw [hi] at h2
    simp only [] at h2 ⊢
    rcases JdD ann.cuts i with ⟨q1,q2⟩ | ⟨q1,q2⟩
    · rw [q1] at h2 ⊢
      rw [q2]
      exact h2.1 _ _
    · rw [q1] at h2 ⊢
      rw [q2]
      exact ihb h2 fr' K
  | exit i=>rfl
  | ret=>rfl
 | cond cnd a b iha ihb =>
  intro h fr K
  simp only [JaS] at h
  obtain ⟨h1,h2⟩:=Jdt h
  simp only [evC,evO,iha h1,ihb h2]
  rfl
 | block id a ih =>
  intro h fr K
  simp only [evC,evO]
  rw [ih h]
  congr 1
 | loop a ih =>
  intro h fr K
  simp only [evC,evO,Jev]
  simp only [JaS] at h
  cases hi:JaV a with
  | none=>rfl
  | some i =>
   rw [hi] at h
   simp only []
   rcases JdD ann.loops i with ⟨q1,q2⟩ | ⟨q1,q2⟩
   · rw [q1,q2]; exact h.1 _ _
   · rw [q1,q2]; rfl
 | _=>intro h fr K; rfl
def JjV (P:Program) (env:Env) (ann:Ann) (lo cu:Orc R) (fn:Func) (args:List SV) (K:List SV→Option R):Option R :=
 match fn.body with
 | some c=>bif Nat.ble args.length fn.ntmps then evO P env ann (fn.ntmps,JaM 0 args) lo cu c (JhC args) fun e fr=>match e with
  | .exit _=>none
  | .normal=>Jhq P ann fn args fr K
  | .ret=>Jhq P ann fn args fr K
  else none
 | none=>none
theorem Ji8 {P:Program} {env:Env} {ann:Ann} {n:Nat} {lo cu:Orc R} {fn:Func} {c:Code} (hc:fn.body=some c) {args:List SV} (h:JfF (Jd P env ann n (fn.ntmps,JaM 0 args) lo cu) (JaS ann c)) (K:List SV→Option R) :
 Jhp P env ann n fn args K=JjV P env ann lo cu fn args K:=by
 unfold Jhp JjV
 rw [hc]
 simp only []
 rw [JhS c h]
 rfl
end Go.Proofs.YtgglhmfncoeffaaGreatDoor.Th
set_option linter.unusedVariables false
namespace Go.Proofs.YtgglhmfncoeffaaGreatDoor.Th
open Go
def JfI (rs:List SV):Option Bool :=
 match rs with
 | [.p (.v (.bool b))]=>some b
 | _=>none
section
variable {P:Program}
theorem JkK:∀ (l:List PV) (vs:List Value),bxv (l.map SV.p) vs=[]
 | [],[]=>rfl
 | [],_::_=>rfl
 | _::_,[]=>rfl
 | _::l,_::vs=>by simpa [bxv] using JkK l vs
theorem Jfg {I:GInv} {g:Nat} {fs:FS} (hf:FSound P I g fs) {cargs:Array Value} {args:List PV} (w:World) (F:Nat→Prop) (hF:∀ b,F b→b<w.heap.size) (hI:I.ok F w)
 (ha:RSs P F w (args.map SV.p) cargs.toList []) (hk:fs.run (args.map SV.p) JfI=some true) :
 Calls P g cargs w fun e w'=>e=.returned (.bool true)∧RowKit.Below w.heap.size w w':=by
 refine Calls.mono (hf.call hk F w cargs [] ha (by simp) (by simp) hF hI) fun e w' he=>?_
 cases e with
 | panicked c=>exact he.elim
 | outgrown=>exact he.elim
 | returned v =>
  obtain ⟨rs,h1,F',Br,xs,ys,vs,rfl,h2,rfl,h3,h4,h5,h6,h7,h8,h9⟩:=he
  rw [JkK,List.append_nil] at h3
  unfold JfI at h1
  split at h1
  · rename_i b hxs
    cases h1
    rw [hxs] at h3
    cases h3 with
    | cons q1 q2 =>
     cases q2 with
     | nil =>
      cases q1 with
      | p q1 =>
       cases q1 with
       | v =>
        refine ⟨rfl,?_⟩
        exact ⟨h9.os,h9.tape,h9.output,h9.size,fun b hb=>h9.block b hb (by simp)⟩
  · cases h1
theorem JdW (F:Nat→Prop) (w:World):∀ l:List Value,RSs P F w (l.map fun x=>.p (.v x)) l []
 | []=>.nil
 | x::l=>.cons (B:=[]) (Bs:=[]) (.p (.v x)) (JdW F w l)
theorem JkT {I:GInv} {g:Nat} {fs:FS} (hf:FSound P I g fs) {cargs:Array Value} (hk:fs.run (cargs.toList.map fun x=>.p (.v x)) JfI=some true) (w:World) (F:Nat→Prop) (hF:∀ b,F b→b<w.heap.size) (hI:I.ok F w) :
 Calls P g cargs w fun e w'=>e=.returned (.bool true)∧RowKit.Below w.heap.size w w' :=
 Jfg (args:=cargs.toList.map PV.v) hf w F hF hI (by rw [List.map_map]; exact JdW F w cargs.toList) (by rw [List.map_map]; exact hk)
end
end Go.Proofs.YtgglhmfncoeffaaGreatDoor.Th
set_option linter.unusedVariables false
set_option linter.unusedSimpArgs false
set_option maxRecDepth 10000
namespace Go.Proofs.YtgglhmfncoeffaaGreatDoor.Th
open Go
variable {R:Type}
abbrev Jaw {α:Type} (b:Bool) (x y:α):α:=match b with
 | true=>x
 | false=>y
abbrev JjP (c:CK) (e:PV) (K:PV→Option R):Option R :=
 match c with
 | .i k=>Jkw k e fun x=>K (.v (.int k x))
 | .b=>Jkv e fun x=>K (.v (.bool x))
 | .s=>Jkx e fun x=>K (.v (.string x))
 | .sl=>JkQ e fun x=>K (.sh x)
 | .o=>Jaw (e.leaf) (K e) (none)
abbrev JiS:List CK→List PV→(List PV→Option R)→Option R
 | [],cs,K=>JjD cs (K [])
 | c::r,cs,K=>Jep cs fun e cs=>JjP c e fun y=>JiS r cs fun ys=>K (y::ys)
abbrev Jlm (ag:Bool) (ks:List CK) (e:PV) (K:List PV→Option R):Option R :=
 match ag with
 | true=>Jiy e fun cs=>JiS ks cs K
 | false=>match ks with
  | [c]=>JjP c e fun y=>K [y]
  | _=>none
abbrev JeB (P:Program) (T:TypeId) (e:PV) (K:List PV→Option R):Option R :=
 Jlm (Jai P T) (cks P 20 T) e K
abbrev Jlk (P:Program) (op:BinOp) (T:TypeId) (x y:PV) (K:PV→Option R):Option R :=
 match x,y with
 | .v (.int k a),.v (.int k' b)=>Jaw (JdI op) (shI op k a b K) (Jaw (Jeg k k') (JkH op k a b K) (none))
 | .v (.string a),.v (.string b)=>JkI op a b K
 | .agg xa,.agg bs=>Jaw (eqT P T) (JiS (cks P 20 T) xa fun xs=>JiS (cks P 20 T) bs fun ys=>eqO op (JbR xs ys) K) (none)
 | .v (.bool a),.v (.bool b)=>Jaw (JiL P T) ((match op with
  | .eql=>K (.v (.bool (a == b)))
  | .neq=>K (.v (.bool (!(a == b))))
  | _=>none)) (none)
 | _,_=>none
abbrev JjE (fs:FS) (args:List RV) (K:Out→Option R):Option R :=
 match Jb6 fs.om args with
 | some (avs,us,bs) =>
  Jaw (Jao (us.map (·.1)++bs)) (fs.run avs fun res =>
   let n:=res.length - bs.length
   K ⟨JjC (res.take n),none,us++Jhy bs (res.drop n),bs⟩) (none)
 | none=>none
abbrev JkX (fs:FS) (args:List RV) (K:Out→Option R):Option R :=
 match JaG args with
 | some avs=>fs.run avs fun res=>Jk0 res K
 | none=>none
abbrev JkL (fs:FS) (args:List RV) (K:Out→Option R):Option R :=
 Jaw (JiJ args) (JkX fs args K) (JjE fs args K)
abbrev JkY (c:CK) (x:SV) (K:Out→Option R):Option R :=
 match x with
 | .p y=>JjP c y fun z=>K (JaO z)
 | _=>none
abbrev Jj2 (P:Program) (r:RV) (K:Out→Option R):Option R :=
 match r with
 | .box s off Tb cs=>Jaw (Nat.blt off cs.length) ((match Jlj P Tb with
  | some c=>JkY c (cs.getD off .dead) K
  | none=>(match cs.getD off .dead with
   | .p y=>K (JaO y)
   | .nl=>K (out .nl)
   | .own _ _=>K (Jhg (.o s (some off)))
   | .mp _ _ _=>K (Jhg (.o s (some off)))
   | _=>none))) (none)
 | .el _ _ T' es i off=>JeB P T' (es.getD i (.v (.bool false))) fun ys=>Jaw (Nat.blt off ys.length) (K (JaO (ys.getD off (.v (.bool false))))) (none)
 | .pv (.fb cs)=>Jep cs fun y _=>K (JaO y)
 | _=>none
abbrev Jj4 (r:RV) (K:Out→Option R):Option R :=
 match r with
 | .box s off Tb cs=>(match cs.getD off .dead with
  | .own _ es=>K ⟨.p (.sh es),none,[Jaq s (some (off,Tb,cs)) (.p (.sh es))],[]⟩
  | .nl=>K ⟨.p (.sh []),none,[],[]⟩
  | .p y=>K (JaO y)
  | _=>none)
 | _=>none
abbrev Jj5 (P:Program) (n:Nat) (r:RV) (K:Out→Option R):Option R :=
 match r with
 | .box s off Tb cs=>Jaw (Nat.ble (off + n) cs.length) ((match Jdh ((cs.drop off).take n) with
  | some ys=>K ⟨.p (.agg ys),none,(Jaw (Jct ((cs.drop off).take n)) ([(s,.bx Tb (splice cs off ys))]) ([])),[]⟩
  | none=>none)) (none)
 | .el _ _ T' es i off=>JeB P T' (es.getD i (.v (.bool false))) fun ys=>Jaw (Nat.ble (off + n) ys.length) (K (JaO (.agg ((ys.drop off).take n)))) (none)
 | .pv (.fb cs)=>Jaw (Nat.ble n cs.length) (K (JaO (.agg (cs.take n)))) (none)
 | _=>none
abbrev Jjy (P:Program) (r:RV) (x:Operand) (y:RV) (K:Out→Option R):Option R :=
 match r with
 | .box s off Tb cs=>Jaw (Nat.blt off cs.length) ((match y with
  | .pv z=>Jaw (z.leaf) (K ⟨.dead,none,[(s,.bx Tb (cs.set off (.p z)))],[s]⟩) (none)
  | .nl=>K ⟨.dead,none,[(s,.bx Tb (cs.set off .nl))],[s]⟩
  | .own s2 cx2 T2 es2=>Jaw (Nat.beq s2 s) (none) (Jaw (Jax x s2 cx2) (K ⟨.dead,none,[(s,.bx Tb (cs.set off (.own T2 es2))),(s2,.dead)],[s]⟩) (K ⟨.dead,none,[(s,.bx Tb (cs.set off (.p (.sh es2)))),Jaq s2 cx2 (.p (.sh es2))],[s]⟩))
  | .mp s2 cx2 d2 ks vs=>Jaw (Nat.beq s2 s) (none) (Jaw (Jax x s2 cx2) (K ⟨.dead,none,[(s,.bx Tb (cs.set off (.mp d2 ks vs))),(s2,.dead)],[s]⟩) (K ⟨.dead,none,[(s,.bx Tb (cs.set off (.p (.fm d2 ks vs)))),Jaq s2 cx2 (.p (.fm d2 ks vs))],[s]⟩))
  | _=>none)) (none)
 | .el s cx T' es i off=>match y with
  | .pv z=>Jaw (z.leaf) (JeB P T' (es.getD i (.v (.bool false))) (fun ys=>Jaw (Nat.blt off ys.length) (K ⟨.dead,none,[Jaq s cx (.own T' (es.set i (mkE (Jai P T') (ys.set off z))))],[]⟩) (none))) (none)
  | .nl=>JeB P T' (es.getD i (.v (.bool false))) fun ys=>Jaw (Nat.blt off ys.length) (K ⟨.dead,none,[Jaq s cx (.own T' (es.set i (mkE (Jai P T') (ys.set off (.sh [])))))],[]⟩) (none)
  | .own s2 cx2 _ es2=>Jaw (Nat.beq s2 s) (none) (JeB P T' (es.getD i (.v (.bool false))) fun ys=>Jaw (Nat.blt off ys.length) (K ⟨.dead,none,[Jaq s cx (.own T' (es.set i (mkE (Jai P T') (ys.set off (.sh es2))))),Jaq s2 cx2 (.p (.sh es2))],[]⟩) (none))
  | _=>none
 | _=>none
abbrev Jjz (P:Program) (n:Nat) (r:RV) (y:RV) (K:Out→Option R):Option R :=
 match y with
 | .pv (.agg zs)=>Jaw (Nat.beq zs.length n&&Jat zs) ((match r with
  | .box s off Tb cs=>Jaw (Nat.ble (off + n) cs.length) (K ⟨.dead,none,[(s,.bx Tb (splice cs off zs))],[s]⟩) (none)
  | .el s cx T' es i off=>JeB P T' (es.getD i (.v (.bool false))) fun ys=>Jaw (Nat.ble (off + n) ys.length) (K ⟨.dead,none,[Jaq s cx (.own T' (es.set i (mkE (Jai P T') (Jay ys off zs))))],[]⟩) (none)
  | _=>none)) (none)
 | .st s2 ds=>Jaw (Nat.beq ds.length n) ((match r with
  | .box s off Tb cs=>Jaw (!(Nat.beq s2 s)&&Nat.ble (off + n) cs.length) (K ⟨.dead,none,[(s,.bx Tb (cs.take off++ds++cs.drop (off + n))),(s2,.dead)],[s]⟩) (none)
  | _=>none)) (none)
 | _=>none
abbrev Jk8 (n:Nat) (r:RV) (K:Out→Option R):Option R :=
 match r with
 | .box s off Tb cs=>Jaw (Nat.ble (off + n) cs.length) (K ⟨.st ((cs.drop off).take n),none,[(s,.bx Tb (cs.take off++List.replicate n .dead++cs.drop (off + n)))],[]⟩) (none)
 | _=>none
abbrev JiN (P:Program) (T:TypeId) (f:Nat) (r:RV) (K:Out→Option R):Option R :=
 match P.underlying T,Jcr P T,Jhr P T f with
 | some (.struct gs),some zs,some (o,ft)=>(match Jal P ft,r with
  | some n,.mp s none d ks vs=>Jaw (Nat.beq n 1&&Nat.ble (o + 1) zs.length&&JaU zs&&JbQ P gs.toList) (K ⟨.st ((zs.map fun v=>psv (.v v)).set o (.mp d ks vs)),none,[(s,.dead)],[]⟩) (none)
  | _,_=>none)
 | _,_,_=>none
abbrev JiO (P:Program) (T:TypeId) (fs:List Nat) (vs:Option (List PV × List (Nat × SV))) (K:Out→Option R):Option R :=
 match P.underlying T,Jcr P T,vs with
 | some (.struct gs),some zs,some (ys,us)=>Jaw (Jao (us.map (·.1))&&JaU zs&&JbQ P gs.toList) ((match Jdg P T (fs.zip ys) (zs.map .v) with
  | some cs=>K ⟨.st (cs.map psv),none,us,[]⟩
  | none=>none)) (none)
 | _,_,_=>none
abbrev JhB (E:TypeId) (s x:RV) (K:Out→Option R):Option R :=
 match x with
 | .pv (.v (.string b))=>(match s with
  | .own s1 cx T es=>Jaw (Nat.beq T E) ((bif Ja7 (es.length + b.size) 1 then K ⟨.own E (es++JaA b),none,[Jaq s1 cx .dead],[]⟩ else none)) (none)
  | .nl=>bif Ja7 b.size 1 then K (out (.own E (JaA b))) else none
  | _=>none)
 | _=>none
abbrev Jdm (n bytes:Nat) (E:TypeId) (s x:RV) (K:Out→Option R):Option R :=
 match s with
 | .own s1 cx T es=>Jaw (Nat.beq T E) ((match x with
  | .nl=>K ⟨.own T es,none,[Jaq s1 cx .dead],[]⟩
  | .pv (.sh es2)=>bif Jht n es2&&Ja7 (es.length + es2.length) bytes then K ⟨.own T (es++es2),none,[Jaq s1 cx .dead],[]⟩ else none
  | .own s2 _ T2 es2=>Jaw (Nat.beq T2 E&&!(Nat.beq s1 s2)) ((bif Ja7 (es.length + es2.length) bytes then K ⟨.own T (es++es2),none,[Jaq s1 cx .dead],[]⟩ else none)) (none)
  | _=>none)) (none)
 | .nl=>(match x with
  | .nl=>K (out .nl)
  | .pv (.sh es2)=>bif Jht n es2&&Ja7 es2.length bytes then K (out (.own E es2)) else none
  | .own _ _ T2 es2=>Jaw (Nat.beq T2 E) ((bif Ja7 es2.length bytes then K (out (.own E es2)) else none)) (none)
  | _=>none)
 | _=>none
abbrev Jdw (app:Nat→Nat→TypeId→RV→RV→(Out→Option R)→Option R) (P:Program) (b:Builtin) (tys:List TypeId) (args:List RV) (K:Out→Option R):Option R :=
 match b,args with
 | .len,[x]=>Jaw (JkW P tys x) (JkV x K) (none)
 | .append,[s,x]=>(match tys with
  | [t,t2]=>Jaw (Nat.beq t t2) ((match Jbc P t with
      | some E=>(match Jal P E,Jda P E with
       | some n,some bytes=>Jaw (Nat.blt 0 n&&Jbq P E) (app n bytes E s x K) (none)
       | _,_=>none)
      | none=>none)) ((match Jbc P t with
      | some E=>Jaw (JdJ P t2&&u8T P E) (JhB E s x K) (none)
      | none=>none))
  | _=>none)
 | .min,[.pv (.v (.int k a)),.pv (.v (.int k' b))]=>Jaw (Jeg k k') (K (JaO (.v (.int k (Jhv a b))))) (none)
 | .min,[.pv (.v (.int k a)),.pv (.v (.int k' b)),.pv (.v (.int k'' c))]=>Jaw (Jeg k k'&&Jeg k k'') (K (JaO (.v (.int k (Jhv (Jhv a b) c))))) (none)
 | .max,[.pv (.v (.int k a)),.pv (.v (.int k' b))]=>Jaw (Jeg k k') (K (JaO (.v (.int k (Jlf a b))))) (none)
 | _,_=>none
abbrev JcF (P:Program) (b:Builtin) (tys:List TypeId) (args:List RV) (K:Out→Option R):Option R:=Jdw Jdm P b tys args K
abbrev Jez (P:Program) (src:TypeId) (es:List PV) (K:Out→Option R):Option R :=
 match Jbc P src with
 | some e=>(match P.underlying e with
  | some (.int .u8)=>bif JeY es then K (JaO (.v (.string (Jhn es)))) else none
  | _=>none)
 | none=>none
abbrev JhM (P:Program) (src dst:TypeId) (x:RV) (K:Out→Option R):Option R :=
 match P.underlying src,P.underlying dst,x with
 | some .string,some (.slice e),.pv (.v (.string s))=>(match P.underlying e with
  | some (.int .u8)=>Jaw (u8T P e) ((bif Ja7 s.size 1 then K (out (.own e (JaA s))) else none)) (none)
  | _=>none)
 | some (.slice _),some (.slice e),.own s none T es=>(match P.underlying e with
  | some (.int .u8)=>Jaw (Nat.beq src dst&&Nat.beq T e&&u8T P e&&Nat.blt 0 es.length) (K ⟨.own T es,none,[(s,.dead)],[]⟩) (none)
  | _=>none)
 | _,_,_=>none
abbrev Jgi (P:Program) (src dst:TypeId) (x:RV) (K:Out→Option R):Option R :=
 Jaw (!(JaF P src)) (none) (match P.underlying dst,x with
 | some (.int k),.pv (.v (.int _ n))=>K (JaO (.v (.int k (k.wrap n))))
 | some .string,.pv (.v (.string s))=>K (JaO (.v (.string s)))
 | some .string,.pv (.v (.int _ n))=>K (JaO (.v (.string (Utf8.encode n))))
 | some .string,.pv (.sh es)=>Jez P src es K
 | some .string,.own _ _ _ es=>Jez P src es K
 | some .string,.nl=>Jez P src [] K
 | some (.slice _),.pv (.v (.string s))=>Jaw (JdJ P src&&JjZ P dst) ((bif Ja7 s.size 1 then K (JaO (.sh (JaA s))) else none)) (none)
 | _,_=>none)
abbrev JeN (P:Program) (T:TypeId) (x:RV) (lo hi:Option RV) (K:Out→Option R):Option R :=
 match P.underlying T,x with
 | some .string,.pv (.v (.string s))=>(match JaB lo 0,JaB hi (s.size:Int) with
  | some l,some h=>bif Jgk l h s.size then K (JaO (.v (.string (s.extract l.toNat h.toNat)))) else none
  | _,_=>none)
 | some (.slice E),.pv (.sh es)=>(match Jal P E,JaB lo 0,JaB hi (es.length:Int) with
  | some n,some l,some h=>bif Jht n es&&Jgk l h es.length then K (JaO (.sh ((es.take h.toNat).drop l.toNat))) else none
  | _,_,_=>none)
 | some (.slice E),.own s cx T' es=>(match Jal P E,JaB lo 0,JaB hi (es.length:Int) with
  | some n,some l,some h=>Jaw (Nat.beq T' E) ((bif Jgk l h es.length then K ⟨.p (.sh ((es.take h.toNat).drop l.toNat)),none,[Jaq s cx (.p (.sh es))],[]⟩ else none)) (none)
  | _,_,_=>none)
 | some (.slice E),.nl=>Jaw (JeI P E) ((match JaB lo 0,JaB hi 0 with
  | some l,some h=>bif Jgk l h 0 then K (out .nl) else none
  | _,_=>none)) (none)
 | _,_=>none
abbrev JeW (P:Program) (T:TypeId) (x:RV) (i:Int) (K:Out→Option R):Option R :=
 match P.underlying T,x with
 | some (.array m E),.box s off _ _=>(match Jal P E with
  | some n=>bif inR i m then K (Jhg (.b s (off + i.toNat * n))) else none
  | none=>none)
 | _,_=>none
abbrev JiH (P:Program) (m:Nat) (E:TypeId) (cs:List PV) (i:Int) (K:Out→Option R):Option R :=
 match Jal P E with
 | some n=>Jaw (JaF P E) ((bif inR i m&&Nat.ble (i.toNat * n + n) cs.length then JeB P E (mkE (Jai P E) ((cs.drop (i.toNat * n)).take n)) (fun ys=>Jaw (Nat.beq ys.length n) (K (JaO (mkE (Jai P E) ys))) (none)) else none)) (none)
 | none=>none
abbrev JfZ (P:Program) (T:TypeId) (x i:RV) (K:Out→Option R):Option R :=
 match Jbc P T,i with
 | some E,.pv (.v (.int _ i))=>(match Jal P E with
  | some n=>(match x with
   | .own s cx T' es=>Jaw (Nat.beq T' E) ((bif inR i es.length then K (Jhg (.e s (cx.map (·.1)) T' i.toNat 0)) else none)) (none)
   | .pv (.sh es)=>bif inR i es.length then JeB P E (es.getD i.toNat (.v (.bool false))) (fun ys=>Jaw (Nat.beq ys.length n) (K (JaO (.fb ys))) (none)) else none
   | _=>none)
  | none=>none)
 | none,.pv (.v (.int _ i))=>JeW P T x i K
 | _,_=>none
abbrev Jfl (P:Program) (E:TypeId) (k z:PV) (ks vs:List PV) (ok:Bool) (K:Out→Option R):Option R :=
 JeB P E (Jh4 k z ks vs) fun ys=>K (Jj6 ok (mkE (Jai P E) ys) (Jg9 k ks))
abbrev Jjh (P:Program) (T:TypeId) (x i:RV) (ok:Bool) (K:Out→Option R):Option R :=
 match Jg7 P T,i with
 | some (d,E),.pv k=>Jaw (Jb7 d k) ((match JiA P E with
  | some z=>(match x with
   | .mp _ _ d' ks vs=>Jaw (JiC d' d) (Jfl P E k z ks vs ok K) (none)
   | .pv (.fm d' ks vs)=>Jaw (JiC d' d) (Jfl P E k z ks vs ok K) (none)
   | _=>none)
  | none=>none)) (none)
 | _,_=>none
abbrev Jgz (P:Program) (T:TypeId) (x i:RV) (y:Operand) (r:RV) (K:Out→Option R):Option R :=
 match Jg7 P T,x,i,Jbj y r with
 | some (d,_),.mp s cx d' ks vs,.pv k,some (v,us)=>Jaw (JiC d' d&&Jb7 d k&&Jao (s::us.map (·.1))) (K ⟨.dead,none,us++[Jaq s cx (.mp d' (Jc5 k ks) (Jdi k v ks vs))],[]⟩) (none)
 | _,_,_,_=>none
abbrev Jlr (bi:Program→Builtin→List TypeId→List RV→(Out→Option R)→Option R) (sl:Program→TypeId→RV→Option RV→Option RV→(Out→Option R)→Option R) (cv:Program→TypeId→TypeId→RV→(Out→Option R)→Option R) (P:Program) (env:Env) (o:Op) (ty:TypeId) (ρ:Operand→RV) (K:Out→Option R):Option R :=
 match o with
 | .move x=>JbD (ρ x) K
 | .assign x=>(match ρ x with
  | .own s cx T es=>Jaw (Jax x s cx) (K ⟨.own T es,none,[(s,.dead)],[]⟩) (K ⟨.p (.sh es),none,[Jaq s cx (.p (.sh es))],[]⟩)
  | .mp s cx d ks vs=>Jaw (Jax x s cx) (K ⟨.mp d ks vs,none,[(s,.dead)],[]⟩) (K ⟨.p (.fm d ks vs),none,[Jaq s cx (.p (.fm d ks vs))],[]⟩)
  | .pv y=>K (JaO y)
  | .nl=>K (out .nl)
  | .tup s l=>K ⟨.tup l,none,[(s,.dead)],[]⟩
  | .st s l=>K ⟨.st l,none,[(s,.dead)],[]⟩
  | _=>none)
 | .pick c a b=>(match ρ c with
  | .pv (.v (.bool t))=>(match ρ a,ρ b with
   | .pv (.v (.bool x)),.pv (.v (.bool y))=>K (JaO (.v (.bool (bif t then x else y))))
   | ra,rb=>bif t then JbD ra K else JbD rb K)
  | _=>none)
 | .alloc T=>(match Jcr P T with
  | some zs=>Jaw (JaU zs) (K (out (.bx T (zs.map zsv)))) (none)
  | none=>none)
 | .box T x=>(match Jal P T with
  | some n=>(match ρ x with
   | .pv y=>Jaw (Nat.beq (Jad y).length n&&Jat (Jad y)) (K (out (.bx T ((Jad y).map .p)))) (none)
   | .nl=>Jaw (Nat.beq n 1) (K (out (.bx T [.nl]))) (none)
   | .own s cx T2 es=>Jaw (Nat.beq n 1) ((Jaw (Jax x s cx) (K ⟨.bx T [.own T2 es],none,[(s,.dead)],[]⟩) (K ⟨.bx T [.p (.sh es)],none,[Jaq s cx (.p (.sh es))],[]⟩))) (none)
   | .mp s cx d2 ks vs=>Jaw (Nat.beq n 1&&Jax x s cx) (K ⟨.bx T [.mp d2 ks vs],none,[(s,.dead)],[]⟩) (none)
   | .st s cs=>Jaw (Nat.beq cs.length n) (K ⟨.bx T cs,none,[(s,.dead)],[]⟩) (none)
   | _=>none)
  | none=>none)
 | .build T parts=>(match P.underlying T,Jcr P T,Ja2 (parts.toList.map fun q=>(q.2,ρ q.2)) with
  | some (.struct fs),some zs,some (ys,us)=>Jaw (Jao (us.map (·.1))&&JaU zs&&JbQ P fs.toList) ((match Jdg P T ((parts.toList.map (·.1)).zip ys) (zs.map cpv) with
   | some cs=>K ⟨.p (.agg cs),none,us,[]⟩
   | none=>none)) (none)
  | _,_,_=>none)
 | .buildSlice T len parts=>(match Jbc P T,Ja2 (parts.toList.map fun q=>(q.2,ρ q.2)) with
  | some E,some (ys,us)=>(match JfD P E,Jal P E with
   | some ze,some n=>Jaw (Jao (us.map (·.1))&&Nat.ble (len * n) 1000&&JdS n len ((parts.toList.map (·.1)).zip ys)) (K ⟨.own E (JdY ((parts.toList.map (·.1)).zip ys) (List.replicate len ze)),none,us,[]⟩) (none)
   | _,_=>none)
  | _,_=>none)
 | .load T x=>Jaw (!(JaF P T)) (none) (Jaw (Jai P T) ((match Jal P T with
  | some n=>Jj5 P n (ρ x) K
  | none=>none)) (Jj2 P (ρ x) K))
 | .store T x y=>Jaw (Jai P T) ((match Jal P T with
  | some n=>Jjz P n (ρ x) (ρ y) K
  | none=>none)) ((match Jal P T with
  | some n=>Jaw (Nat.beq n 1) (Jjy P (ρ x) y (ρ y) K) (none)
  | none=>none))
 | .nilCheck x=>(match ρ x with
  | .box s off Tb cs=>JbD (.box s off Tb cs) K
  | .ob s T e bs=>JbD (.ob s T e bs) K
  | .el s cx T es i off=>JbD (.el s cx T es i off) K
  | .cl s g T cs=>JbD (.cl s g T cs) K
  | .pv (.fb cs)=>K (JaO (.fb cs))
  | .pv (.clo f cs)=>K (JaO (.clo f cs))
  | .pv (.v (.func (.func f) a b))=>K (JaO (.v (.func (.func f) a b)))
  | _=>none)
 | .binOp op T x y _=>(match ρ x,ρ y with
  | .pv a,.pv b=>Jlk P op T a b fun z=>K (JaO z)
  | _,_=>none)
 | .unOp op _ x=>(match ρ x with
  | .pv a=>unK op a fun z=>K (JaO z)
  | _=>none)
 | .convert s d x=>cv P s d (ρ x) K
 | .makeFunc (.func f) first caps=>(match first.toList,Ja2 (caps.toList.map fun q=>(q,ρ q)) with
  | [],some (ys,us)=>Jaw (Jao (us.map (·.1))) (K ⟨.p (.clo f ys),none,us,[]⟩) (none)
  | _,_=>none)
 | .makeSlice T l c=>(match Jbc P T,ρ l,ρ c with
  | some E,.pv (.v (.int _ l)),.pv (.v (.int _ c))=>(match JfD P E,Jda P E with
   | some ze,some bytes=>bif decide (0≤l)&&decide (l≤c)&&Ja7 c.toNat bytes then K (out (.own E (List.replicate l.toNat ze))) else none
   | _,_=>none)
  | _,_,_=>none)
 | .slice T x lo hi mx=>Jaw (Jj9 mx) (sl P T (ρ x) (lo.map ρ) (hi.map ρ) K) (none)
 | .fieldAddr S x f=>(match Jhr P S f with
  | some (o,fT)=>Jaw (JiE P fT) ((match ρ x with
   | .box s off _ _=>K (Jhg (.b s (off + o)))
   | .el s cx T _ i off=>K (Jhg (.e s (cx.map (·.1)) T i (off + o)))
   | .pv (.fb cs)=>K (JaO (.fb (cs.drop o)))
   | _=>none)) (none)
  | none=>none)
 | .field S x f=>(match Jhr P S f,ρ x with
  | some (o,T),.pv (.agg cs)=>Jaw (!(JaF P T)) (none) ((match Jal P T with
   | some n=>Jaw (Jai P T) ((Jaw (Nat.ble (o + n) cs.length) (K (JaO (.agg ((cs.drop o).take n)))) (none))) ((Jaw (Nat.blt o cs.length) (K (JaO (cs.getD o (.v (.bool false))))) (none)))
   | none=>none))
  | _,_=>none)
 | .indexAddr T x i=>JfZ P T (ρ x) (ρ i) K
 | .index T x i=>(match P.underlying T,ρ x,ρ i with
  | some .string,.pv (.v (.string s)),.pv (.v (.int _ i))=>bif inR i s.size then K (JaO (.v (.int .u8 (Je1 s i)))) else none
  | some (.array m E),.pv (.agg cs),.pv (.v (.int _ i))=>JiH P m E cs i K
  | _,_,_=>none)
 | .makeMap T r=>(match Jg7 P T,r with
  | some (d,_),none=>K (out (.mp d [] []))
  | _,_=>none)
 | .lookup T x i ok=>Jjh P T (ρ x) (ρ i) ok K
 | .mapUpdate T m k v=>Jgz P T (ρ m) (ρ k) v (ρ v) K
 | .insert T m k v=>Jgz P T (ρ m) (ρ k) v (ρ v) K
 | .extract x i=>(match ρ x with
  | .tup s l=>(match l.getD i .dead with
   | .p y=>K (JaO y)
   | .nl=>K (out .nl)
   | .own T es=>K ⟨.own T es,none,[(s,.tup (l.set i .dead))],[]⟩
   | .mp d ks vs=>K ⟨.mp d ks vs,none,[(s,.tup (l.set i .dead))],[]⟩
   | .bx T cs=>K ⟨.bx T cs,none,[(s,.tup (l.set i .dead))],[]⟩
   | .ob T e bs=>K ⟨.ob T e bs,none,[(s,.tup (l.set i .dead))],[]⟩
   | .st cs=>K ⟨.st cs,none,[(s,.tup (l.set i .dead))],[]⟩
   | _=>none)
  | _=>none)
 | .call c=>(match c.callee with
  | .builtin b=>bi P b c.argTypes.toList (c.args.toList.map ρ) K
  | .value f=>(match ρ f with
   | .pv (.v (.func (.func g) fi ca))=>(match fi.toList,ca.toList,env g with
    | [],[],some fs=>JkL fs (c.args.toList.map ρ) K
    | _,_,_=>none)
   | .pv (.clo g caps)=>(match env g with
    | some fs=>JjE fs (c.args.toList.map ρ++caps.map RV.pv) K
    | none=>none)
   | _=>none)
  | _=>none)
 | _=>none
abbrev Jlg (P:Program) (env:Env) (o:Op) (ty:TypeId) (ρ:Operand→RV) (K:Out→Option R):Option R:=Jlr JcF JeN Jgi P env o ty ρ K
abbrev Jlp (ok:Program→Env→Op→TypeId→(Operand→RV)→(Out→Option R)→Option R) (P:Program) (env:Env) (fz:List Nat) (o:Oper) (ρ:Operand→RV) (K:Out→Option R):Option R :=
 match o.op with
 | .move x=>(match o.dst with
  | some d=>Jaw (JaZ fz d) (JdG (ρ x) K) (JeH (JaZ fz (4000000 + d)) (ρ x) K)
  | none=>JbD (ρ x) K)
 | .assign x=>Jaw (JfX fz o.dst) (Jjb (ρ x) K) (ok P env (.assign x) o.type ρ K)
 | .makeFunc (.func f) first caps=>Jaw (Jj1 fz o.dst) (Jfh f first.toList (caps.toList.map ρ) K) (ok P env (.makeFunc (.func f) first caps) o.type ρ K)
 | .convert src dst x=>Jaw (Jcv fz o.dst) (JhM P src dst (ρ x) K) (ok P env (.convert src dst x) o.type ρ K)
 | .build T parts=>Jaw (Jcv fz o.dst) (JiO P T (parts.toList.map (·.1)) (Ja2 (parts.toList.map fun q=>(q.2,ρ q.2))) K) (Jaw (JfX fz o.dst) ((match parts.toList with
  | [q]=>JiN P T q.1 (ρ q.2) K
  | _=>none)) (ok P env (.build T parts) o.type ρ K))
 | .load T x=>Jaw (Jcv fz o.dst&&Jai P T&&JaF P T) ((match Jal P T with
  | some n=>Jk8 n (ρ x) K
  | none=>none)) (Jaw (Jj0 fz o.dst&&!(Jai P T)&&JaF P T) (Jj4 (ρ x) K) (ok P env (.load T x) o.type ρ K))
 | op=>ok P env op o.type ρ K
abbrev Jlq (P:Program) (env:Env) (fz:List Nat) (o:Oper) (ρ:Operand→RV) (K:Out→Option R):Option R:=Jlp Jlg P env fz o ρ K
abbrev Jle (P:Program) (env:Env) (fz:List Nat) (N:Nat × List Nat) (o:Oper) (st:St) (K:St→Out→Option R):Option R :=
 Jlq P env fz o (opd st) fun r=>Jaw (r.fits N o.dst) (K st r) (none)
abbrev Jlu (N:Nat × List Nat) (o:Oper) (st:St) (K:St→Out→Option R):Option R :=
 Jaw (JcA.fits N o.dst) (K st JcA) (none)
abbrev Jik (go:(Program→Env→List Nat→Nat × List Nat→Oper→St→(St→Out→Option R)→Option R)) (sk:Nat × List Nat→Oper→St→(St→Out→Option R)→Option R) (P:Program) (env:Env) (fz:List Nat) (N:Nat × List Nat) (ops:List Oper) (o:Oper) (st:St) (K:St→Out→Option R):Option R :=
 match o.guard with
 | none=>go P env fz N o st K
 | some (j,want)=>match (ops[j]?).bind (·.dst) with
  | none=>none
  | some d=>match JaJ st.ral d with
   | some _=>none
   | none=>match st.fr d with
    | .p (.v (.bool t)) =>
     bif t then (Jaw (want) (go P env fz N o (Jhx st d true) K) (sk N o (Jhx st d true) K))
     else (Jaw (want) (sk N o (Jhx st d false) K) (go P env fz N o (Jhx st d false) K))
    | .p (.v (.tuple _))=>sk N o st K
    | _=>none
abbrev Jel (P:Program) (env:Env) (fz:List Nat) (N:Nat × List Nat) (ops:List Oper) (o:Oper) (st:St) (K:St→Out→Option R):Option R:=Jik Jle Jlu P env fz N ops o st K
abbrev Jjt (P:Program) (env:Env) (fz:List Nat) (N:Nat × List Nat) (ops:List Oper):List Oper→St→(St→Option R)→Option R
 | [],st,K=>K st
 | o::r,st,K=>Jel P env fz N ops o st fun st' out=>Jjt P env fz N ops r (st'.put o.dst out) K
abbrev Jin (P:Program) (env:Env) (fz:List Nat) (N:Nat × List Nat) (ops:List Oper):List Oper→St→List Fp→(St→List Fp→Option R)→Option R
 | [],st,tr,K=>K st tr
 | o::r,st,tr,K=>Jel P env fz N ops o st fun st' out=>Jin P env fz N ops r (st'.put o.dst out) (tr++[JbJ ops o st' out]) K
abbrev Jju (P:Program) (env:Env) (fz:List Nat) (N:Nat × List Nat) (ops:List Oper) (draw:Bool) (fr:Fr) (K:Fr→Option R):Option R :=
 Jaw (draw) ((Jaw (P.follows .mixedOrders) (Jin P env fz N ops ops ⟨fr,[]⟩ [] fun st tr=>Jaw (JdR ops tr) (K st.fr) (none)) (none))) (Jjt P env fz N ops ops ⟨fr,[]⟩ fun st=>K st.fr)
abbrev JjX (P:Program) (ann:Ann) (fn:Func) (args:List SV) (fr:Fr) (K:List SV→Option R):Option R :=
 match Jbz P (fn.ntmps,JaM 0 args) ann.rm fn.results.toList fr with
 | none=>none
 | some fr=>match JiF P fr ann.rm fn.results.toList,JfJ fr (JaM 0 args) with
  | some rs,some bs=>Jaw (Jao (JaC fn.results.toList++JaM 0 args)&&Nat.ble rs.length 4) (K (rs++bs)) (none)
  | _,_=>none
abbrev Jdo (P:Program) (env:Env) (ann:Ann) (N:Nat × List Nat) (lo cu:Orc R):Code→Fr→Kc R→Option R
 | .skip,fr,K=>K .normal fr
 | .region _ ops draw,fr,K=>Jju P env ann.frz N ops.toList draw fr fun fr'=>K .normal fr'
 | .seq a b,fr,K=>Jdo P env ann N lo cu a fr fun e fr'=>match e with
  | .normal=>(match JaV b with
   | some i=>Jaw (isA ann.cuts i) (cu i (Jdk (Jc1 ann.cuts i) fr') K) (Jdo P env ann N lo cu b fr' K)
   | none=>Jdo P env ann N lo cu b fr' K)
  | .exit i=>K (.exit i) fr'
  | .ret=>K .ret fr'
 | .cond c a b,fr,K=>(match opd ⟨fr,[]⟩ c with
  | .pv (.v (.bool t))=>bif t then Jdo P env ann N lo cu a fr K else Jdo P env ann N lo cu b fr K
  | _=>none)
 | .block id a,fr,K=>Jdo P env ann N lo cu a fr fun e fr'=>match e with
  | .exit i=>Jaw (Nat.beq i id) (K .normal fr') (K (.exit i) fr')
  | .normal=>K .normal fr'
  | .ret=>K .ret fr'
 | .loop a,fr,K=>(match JaV a with
  | some i=>Jaw (isA ann.loops i) (lo i (Jdk (Jc1 ann.loops i) fr) K) (none)
  | none=>none)
 | .exit i,fr,K=>K (.exit i) fr
 | .ret,fr,K=>K .ret fr
 | _,_,_=>none
abbrev JjH (P:Program) (env:Env) (ann:Ann) (lo cu:Orc R) (fn:Func) (args:List SV) (K:List SV→Option R):Option R :=
 match fn.body with
 | some c=>Jaw (Nat.ble args.length fn.ntmps) (Jdo P env ann (fn.ntmps,JaM 0 args) lo cu c (JhC args) fun e fr=>match e with
  | .exit _=>none
  | .normal=>JjX P ann fn args fr K
  | .ret=>JjX P ann fn args fr K) (none)
 | none=>none
theorem Jcc {α:Type} (b:Bool) (x y:α):Jaw b x y=cond b x y:=by cases b <;> rfl
theorem JeC {α:Type} (a b:Bool) (x y:α):(bif a&&b then x else y)=(bif a then (bif b then x else y) else y):=by cases a <;> cases b <;> rfl
theorem JgU:@Jez R=@JcG R:=by kernel_rfl
theorem JfG:@Jdm R=@Jcw R:=by
 funext n bytes E s x K
 unfold Jdm Jcw
 simp only [Jcc,JeC]
 kernel_rfl
theorem JhL:@Jgi R=@JfL R:=by
 funext P s d x K
 unfold Jgi JfL
 simp only [Jcc,JeC,JgU]
 kernel_rfl
theorem Jhm:@JeN R=@JdZ R:=by
 funext P T x lo hi K
 unfold JeN JdZ
 simp only [Jcc,JeC]
 kernel_rfl
theorem JeZ:@Jdw R Jcw=@JaI R:=by kernel_rfl
theorem Je0:@JcF R=@JaI R:=by
 rw [←JeZ]
 funext P b tys args K
 rw [show @JcF R=fun P b tys args K=>Jdw Jdm P b tys args K from rfl,JfG]
theorem Jkc:@Jlr R JaI JdZ JfL=@opK R:=by kernel_rfl
theorem Jkd:@Jlg R=@opK R:=by
 rw [←Jkc]
 funext P env o ty ρ K
 rw [show @Jlg R=fun P env o ty ρ K=>Jlr JcF JeN Jgi P env o ty ρ K from rfl,Je0,Jhm,JhL]
theorem Jk:@Jlp R opK=@opF R:=by kernel_rfl
theorem Jkb:@Jlq R=@opF R:=by
 rw [←Jk]
 funext P env fz o ρ K
 rw [show @Jlq R=fun P env fz o ρ K=>Jlp Jlg P env fz o ρ K from rfl,Jkd]
theorem JjY:@Jle R=@goO R:=by
 funext P env fz N o st K
 unfold Jle goO
 rw [Jkb]
 kernel_rfl
theorem Jkp:@Jlu R=@skO R:=by kernel_rfl
theorem Jil:@Jik R goO skO=@Ja0 R:=by kernel_rfl
theorem Jfv:@Jel R=@Ja0 R:=by
 rw [←Jil]
 funext P env fz N ops o st K
 rw [show @Jel R=fun P env fz N ops o st K=>Jik Jle Jlu P env fz N ops o st K from rfl,JjY,Jkp]
theorem JgD (P:Program) (env:Env) (fz:List Nat) (N:Nat × List Nat) (ops:List Oper):∀ (l:List Oper) (st:St) (K:St→Option R),Jjt P env fz N ops l st K=Jhf P env fz N ops l st K
 | [],st,K=>rfl
 | o::r,st,K=>by
  show Jel P env fz N ops o st (fun st' out=>Jjt P env fz N ops r (st'.put o.dst out) K)=Ja0 P env fz N ops o st (fun st' out=>Jhf P env fz N ops r (st'.put o.dst out) K)
  rw [Jfv]
  congr 1
  funext st' out
  exact JgD P env fz N ops r _ K
theorem JgC (P:Program) (env:Env) (fz:List Nat) (N:Nat × List Nat) (ops:List Oper):∀ (l:List Oper) (st:St) (tr:List Fp) (K:St→List Fp→Option R),Jin P env fz N ops l st tr K=Jhe P env fz N ops l st tr K
 | [],st,tr,K=>rfl
 | o::r,st,tr,K=>by
  show Jel P env fz N ops o st (fun st' out=>Jin P env fz N ops r (st'.put o.dst out) (tr++[JbJ ops o st' out]) K)=Ja0 P env fz N ops o st (fun st' out=>Jhe P env fz N ops r (st'.put o.dst out) (tr++[JbJ ops o st' out]) K)
  rw [Jfv]
  congr 1
  funext st' out
  exact JgC P env fz N ops r _ _ K
theorem Jjv:@Jju R=@JgG R:=by
 funext P env fz N ops draw fr K
 unfold Jju JgG
 cases draw with
 | true =>
  show Jaw (P.follows .mixedOrders) (Jin P env fz N ops ops ⟨fr,[]⟩ [] fun st tr=>Jaw (JdR ops tr) (K st.fr) none) none=bif P.follows .mixedOrders then Jhe P env fz N ops ops ⟨fr,[]⟩ [] (fun st tr=>bif JdR ops tr then K st.fr else none) else none
  rw [Jcc,JgC]
  kernel_rfl
 | false=>exact JgD P env fz N ops ops _ _
theorem Ji9:@JjX R=@Jhq R:=by kernel_rfl
theorem JhT {P:Program} {env:Env} {ann:Ann} {N:Nat × List Nat} {lo cu:Orc R}:∀ (c:Code) (fr:Fr) (K:Kc R),Jdo P env ann N lo cu c fr K=evO P env ann N lo cu c fr K:=by
 intro c
 induction c with
 | region id ops draw =>
  intro fr K
  show Jju P env ann.frz N ops.toList draw fr _=JgG P env ann.frz N ops.toList draw fr _
  rw [Jjv]
 | seq a b iha ihb =>
  intro fr K
  have h:∀ fr K,Jdo P env ann N lo cu b fr K=evO P env ann N lo cu b fr K:=ihb
  have hf:Jdo P env ann N lo cu b=evO P env ann N lo cu b:=funext fun fr=>funext fun K=>h fr K
  show Jdo P env ann N lo cu a fr (fun e fr'=>match e with
   | .normal=>(match JaV b with
    | some i=>Jaw (isA ann.cuts i) (cu i (Jdk (Jc1 ann.cuts i) fr') K) (Jdo P env ann N lo cu b fr' K)
    | none=>Jdo P env ann N lo cu b fr' K)
   | .exit i=>K (.exit i) fr'
   | .ret=>K .ret fr')=_
  rw [iha,hf]
  kernel_rfl
 | cond c a b iha ihb =>
  intro fr K
  have h1:Jdo P env ann N lo cu a=evO P env ann N lo cu a:=funext fun fr=>funext fun K=>iha fr K
  have h2:Jdo P env ann N lo cu b=evO P env ann N lo cu b:=funext fun fr=>funext fun K=>ihb fr K
  show (match opd ⟨fr,[]⟩ c with
   | .pv (.v (.bool t))=>bif t then Jdo P env ann N lo cu a fr K else Jdo P env ann N lo cu b fr K
   | _=>none)=_
  rw [h1,h2]
  kernel_rfl
 | block id a ih =>
  intro fr K
  show Jdo P env ann N lo cu a fr (fun e fr'=>match e with
   | .exit i=>Jaw (Nat.beq i id) (K .normal fr') (K (.exit i) fr')
   | .normal=>K .normal fr'
   | .ret=>K .ret fr')=_
  rw [ih]
  kernel_rfl
 | loop a ih=>intro fr K; kernel_rfl
 | _=>intro fr K; rfl
theorem Jgt {P:Program} {env:Env} {ann:Ann} {n:Nat} {N:Nat × List Nat} {lo cu:Orc R} (c:Code) (h:JfF (Jd P env ann n N lo cu) (JaS ann c)) (fr:Fr) (K:Kc R) :
 evC P env ann n N c fr K=Jdo P env ann N lo cu c fr K:=by rw [JhS c h,JhT]
theorem JkP {P:Program} {env:Env} {ann:Ann} {n:Nat} {lo cu:Orc R} {fn:Func} {c:Code} (hc:fn.body=some c) {args:List SV} (h:JfF (Jd P env ann n (fn.ntmps,JaM 0 args) lo cu) (JaS ann c)) (K:List SV→Option R) :
 Jhp P env ann n fn args K=JjH P env ann lo cu fn args K:=by
 rw [Ji8 hc h]
 unfold JjH JjV
 have h1:Jdo P env ann (fn.ntmps,JaM 0 args) lo cu=evO P env ann (fn.ntmps,JaM 0 args) lo cu:=funext fun c=>funext fun fr=>funext fun K=>JhT c fr K
 rw [h1,Ji9]
 rw [hc]
 exact (Jcc _ _ _).symm
end Go.Proofs.YtgglhmfncoeffaaGreatDoor.Th
set_option linter.unusedVariables false
namespace Go.Proofs.YtgglhmfncoeffaaGreatDoor.Th
open Go
abbrev JgZ {α:Type _} (b:Bool) (x y:α):α:=match b with
 | true=>x
 | false=>y
abbrev JjK {α:Type} (o:Option α) (d:α):α:=match o with
 | some a=>a
 | none=>d
abbrev Jjj {α β:Type} (o:Option α) (k:α→Option β):Option β:=match o with
 | some a=>k a
 | none=>none
structure Sl (A:Type) where
 T:Type→Type
 ap:{r:Type}→A→T r→Option r
 all:{r:Type}→(A→r→Prop)→T r→Prop
 dom:A→Bool
 h1:∀ {r:Type} (x:A) (f:T r),(ap x f).isSome=dom x
 h2:∀ {r:Type} (P:A→r→Prop) (x:A) (f:T r) (g:r),all P f→ap x f=some g→P x g
 cur:{r:Type}→(A→r)→T r
 h3:∀ {r:Type} (P:A→r→Prop) (Y:A→r) (f:T r),(∀ x g,P x g→g=Y x)→all P f→f=cur Y
abbrev Sl.any {B:Type}:Sl B:=⟨fun r=>B→r,fun x f=>some (f x),fun P f=>∀ b,P b (f b),fun _=>true,fun _ _=>rfl,(fun P x f g h e=>by cases e; exact h x),fun X=>X,fun P Y f h a=>funext fun b=>h b _ (a b)⟩
abbrev Sl.any2 {B C:Type}:Sl (B × C):=⟨fun r=>B→C→r,fun x f=>some (f x.1 x.2),fun P f=>∀ b c,P (b,c) (f b c),fun _=>true,fun _ _=>rfl,(fun P x f g h e=>by cases e; exact h x.1 x.2),fun X=>fun b c=>X (b,c),fun P Y f h a=>funext fun b=>funext fun c=>h (b,c) _ (a b c)⟩
abbrev Sl.one:Sl Unit:=⟨fun r=>r,fun _ f=>some f,fun P f=>P () f,fun _=>true,fun _ _=>rfl,(fun P x f g h e=>by cases e; exact h),fun X=>X (),fun P Y f h a=>h () f a⟩
abbrev Sl.comp {A B:Type} (enc:B→A) (view:A→Option B) (hv:∀ x b,view x=some b→x=enc b) (s:Sl B):Sl A :=
 ⟨s.T,fun x f=>Jjj (view x) fun b=>s.ap b f,fun P f=>s.all (fun b g=>P (enc b) g) f,fun x=>JgZ (view x).isSome (JjK ((view x).map s.dom) false) false,
  fun {r} x f=>by
   cases h:view x with
   | none=>rfl
   | some b=>exact s.h1 b f,
  fun {r} P x f g h e=>by
   cases hx:view x with
   | none=>rw [hx] at e; cases e
   | some b =>
    rw [hx] at e
    rw [hv x b hx]
    exact s.h2 _ b f g h e,
  fun X=>s.cur fun b=>X (enc b),fun P Y f h a=>s.h3 _ (fun b=>Y (enc b)) f (fun b g hg=>h (enc b) g hg) a⟩
abbrev Sl.n {A:Type}:Sl (List A):=⟨fun r=>r,fun l f=>match l with
 | []=>some f
 | _::_=>none,fun P f=>P [] f,fun l=>match l with
 | []=>true
 | _::_=>false,fun x f=>by cases x <;> rfl,(fun P x f g h e=>by
  cases x with
  | nil=>cases e; exact h
  | cons a l=>cases e),fun X=>X [],fun P Y f h a=>h [] f a⟩
abbrev Sl.c {A:Type} (s:Sl A) (t:Sl (List A)):Sl (List A):=⟨fun r=>s.T (t.T r),fun l f=>match l with
 | x::xs=>Jjj (s.ap x f) fun g=>t.ap xs g
 | []=>none,fun P f=>s.all (fun x g=>t.all (fun xs h=>P (x::xs) h) g) f,fun l=>match l with
 | x::xs=>JgZ (s.dom x) (t.dom xs) false
 | []=>false,
 fun x f=>by
  cases x with
  | nil=>rfl
  | cons a l =>
   have h:=s.h1 a f
   show (Jjj (s.ap a f) fun g=>t.ap l g).isSome=JgZ (s.dom a) (t.dom l) false
   rw [←h]
   cases h2:s.ap a f with
   | none=>rfl
   | some g=>exact t.h1 l g,
 fun {r} P x f g h e=>by
  cases x with
  | nil=>cases e
  | cons a l =>
   have e':Jjj (s.ap a f) (fun g=>t.ap l g)=some g:=e
   cases h2:s.ap a f with
   | none=>rw [h2] at e'; cases e'
   | some g' =>
    rw [h2] at e'
    exact t.h2 _ l g' g (s.h2 _ a f g' h h2) e',
 fun X=>s.cur fun x=>t.cur fun xs=>X (x::xs),fun P Y f h a=>s.h3 _ (fun x=>t.cur fun xs=>Y (x::xs)) f (fun x g hg=>t.h3 _ _ g (fun xs g' hg'=>h (x::xs) g' hg') hg) a⟩
abbrev sP (s:Sl PV):Sl SV:=.comp .p (fun x=>match x with
 | .p y=>some y
 | _=>none) (fun x b h=>by cases x <;> first | (cases h; rfl) | cases h) s
abbrev sNl:Sl SV:=.comp (fun _=>.nl) (fun x=>match x with
 | .nl=>some ()
 | _=>none) (fun x b h=>by cases x <;> first | rfl | cases h) .one
theorem Jbo {α:Type} {c:Bool} {a b:α} (h:JgZ c (some a) none=some b):c=true∧a=b:=by
 cases c
 · cases h
 · cases h; exact ⟨rfl,rfl⟩
abbrev Jlx (T:Nat):Sl SV:=.comp (fun es=>.own T es) (fun x=>match x with
 | .own T' es=>JgZ (Nat.beq T' T) (some es) none
 | _=>none) (fun x b h=>by
  split at h
  · obtain ⟨h1,h2⟩:=Jbo h
    rw [Nat.eq_of_beq_eq_true h1,h2]
  · cases h) .any
abbrev sBx (T:Nat) (t:Sl (List SV)):Sl SV:=.comp (fun es=>.bx T es) (fun x=>match x with
 | .bx T' es=>JgZ (Nat.beq T' T) (some es) none
 | _=>none) (fun x b h=>by
  split at h
  · obtain ⟨h1,h2⟩:=Jbo h
    rw [Nat.eq_of_beq_eq_true h1,h2]
  · cases h) t
theorem Jjc {a b:Option IntKind} (h:JiC a b=true):a=b:=by
 cases a with
 | none=>cases b with
  | none=>rfl
  | some y=>cases h
 | some x=>cases b with
  | none=>cases h
  | some y=>rw [JbC h]
abbrev sMp (d:Option IntKind):Sl SV:=.comp (fun q=>.mp d q.1 q.2) (fun x=>match x with
 | .mp d' ks vs=>JgZ (JiC d d') (some (ks,vs)) none
 | _=>none) (fun x b h=>by
  split at h
  · obtain ⟨h1,h2⟩:=Jbo h
    rw [Jjc h1,←h2]
  · cases h) .any2
abbrev JlC (T:Nat):Sl SV:=.comp (fun es=>.bx T es) (fun x=>match x with
 | .bx T' es=>JgZ (Nat.beq T' T) (some es) none
 | _=>none) (fun x b h=>by
  split at h
  · obtain ⟨h1,h2⟩:=Jbo h
    rw [Nat.eq_of_beq_eq_true h1,h2]
  · cases h) .any
abbrev Jlw (k:IntKind):Sl PV:=.comp (fun v=>.v (.int k v)) (fun x=>match x with
 | .v (.int k' v)=>JgZ (Jeg k k') (some v) none
 | _=>none) (fun x b h=>by
  split at h
  · obtain ⟨h1,h2⟩:=Jbo h
    rw [JbC h1,h2]
  · cases h) .any
abbrev Jlt:Sl PV:=.comp (fun v=>.v (.bool v)) (fun x=>match x with
 | .v (.bool v)=>some v
 | _=>none) (fun x b h=>by
  split at h
  · cases h; rfl
  · cases h) .any
abbrev Jly:Sl PV:=.comp (fun v=>.v (.string v)) (fun x=>match x with
 | .v (.string v)=>some v
 | _=>none) (fun x b h=>by
  split at h
  · cases h; rfl
  · cases h) .any
abbrev sSh:Sl PV:=.comp .sh (fun x=>match x with
 | .sh y=>some y
 | _=>none) (fun x b h=>by cases x <;> first | (cases h; rfl) | cases h) .any
abbrev JlB (t:Sl (List PV)):Sl PV:=.comp .agg (fun x=>match x with
 | .agg y=>some y
 | _=>none) (fun x b h=>by cases x <;> first | (cases h; rfl) | cases h) t
abbrev sFb (t:Sl (List PV)):Sl PV:=.comp .fb (fun x=>match x with
 | .fb y=>some y
 | _=>none) (fun x b h=>by cases x <;> first | (cases h; rfl) | cases h) t
abbrev JlD (g:Nat) (t:Sl (List PV)):Sl PV:=.comp (fun y=>.clo g y) (fun x=>match x with
 | .clo g' y=>JgZ (Nat.beq g' g) (some y) none
 | _=>none) (fun x b h=>by
  split at h
  · obtain ⟨h1,h2⟩:=Jbo h
    rw [Nat.eq_of_beq_eq_true h1,h2]
  · cases h) t
abbrev sFn (g:Nat):Sl PV:=.comp (fun _=>.v (.func (.func g) #[] #[])) (fun x=>match x with
 | .v (.func (.func g') l c)=>(match l.toList,c.toList with
  | [],[]=>JgZ (Nat.beq g' g) (some ()) none
  | _,_=>none)
 | _=>none) (fun x b h=>by
  split at h
  · rename_i g' l c
    split at h
    · rename_i e1 e2
      obtain ⟨h1,h2⟩:=Jbo h
      rw [Nat.eq_of_beq_eq_true h1]
      obtain ⟨l⟩:=l
      obtain ⟨c⟩:=c
      simp only at e1 e2
      rw [e1,e2]
    · cases h
  · cases h) .one
abbrev JkN {R:Type} (ann:Ann) (i:Nat) (f:Fr→Kc R→Option R) (vs:List SV) (K:Kc R):Option R:=JfU f (Jc1 ann.cuts i) (Jhw ann.cuts i) vs K
abbrev Jc2 {R:Type} (ann:Ann) (i:Nat) (f:Fr→Kc R→Option R) (m:Nat) (vs:List SV) (K:Kc R):Option R:=Jdc f (Jc1 ann.loops i) (Jhw ann.loops i) m vs K
theorem Sl.eq {A r:Type} (t:Sl A) (X:A→r) (x:A) (d:r) (f:t.T r) (hd:X x=d) (h:t.all (fun y g=>X y=g) f):X x=JjK (t.ap x f) d:=by
 cases e:t.ap x f with
 | none=>exact hd
 | some g=>exact t.h2 _ x f g h e
section
variable {R:Type} {P:Program} {env:Env} {ann:Ann} {n:Nat} {N:Nat × List Nat} {lo cu:Orc R}
theorem Jlh {i:Nat} {c:Code} (hp:JfF (Jd P env ann n N lo cu) (JaS ann c)) (t:Sl (List SV)) (F:Kc R→t.T (Option R)) {D:List SV→Kc R→Option R}
 (he:∀ K,t.all (fun vs r=>JkN ann i (Jdo P env ann N lo cu c) vs K=r) (F K))
 (hD:∀ vs K,JkN ann i (evC P env ann n N c) vs K=D vs K) (vs:List SV) (K:Kc R) :
 JkN ann i (evC P env ann n N c) vs K=JjK (t.ap vs (F K)) (D vs K):=by
 have e:evC P env ann n N c=Jdo P env ann N lo cu c:=funext fun fr=>funext fun K=>Jgt c hp fr K
 refine t.eq (fun vs=>JkN ann i (evC P env ann n N c) vs K) vs _ _ (hD vs K) ?_
 rw [e]; exact he K
theorem Jk4 {i:Nat} {c:Code} (hp:JfF (Jd P env ann n N lo cu) (JaS ann c)) (t:Sl (List SV)) (F:Kc R→t.T (Option R)) {D:List SV→Kc R→Option R}
 (he:∀ K,t.all (fun vs r=>Jc2 ann i (Jdo P env ann N lo cu c) n vs K=r) (F K))
 (hD:∀ vs K,Jc2 ann i (evC P env ann n N c) n vs K=D vs K) (vs:List SV) (K:Kc R) :
 Jc2 ann i (evC P env ann n N c) n vs K=JjK (t.ap vs (F K)) (D vs K):=by
 have e:evC P env ann n N c=Jdo P env ann N lo cu c:=funext fun fr=>funext fun K=>Jgt c hp fr K
 refine t.eq (fun vs=>Jc2 ann i (evC P env ann n N c) n vs K) vs _ _ (hD vs K) ?_
 rw [e]; exact he K
end
structure Good (P:Program) (env:Env) (ann:Ann) (n:Nat) (fn:Func) (run:(R:Type)→List SV→(List SV→Option R)→Option R):Prop where
 a:∀ R args K res,run R args K=some res→Jhp P env ann n fn args K=some res
 d:∀ args,DetK fun R K=>run R args K
theorem Good.nil {P:Program} {env:Env} {ann:Ann} {n:Nat} {fn:Func}:Good P env ann n fn fun _ _ _=>none:=⟨fun _ _ _ _ h=>(nomatch h),fun _=>Ja⟩
theorem Jgo {α:Type} {f g:(R:Type)→(α→Option R)→Option R} (h:DetK f) (e:∀ R K,f R K=g R K):DetK g:=by
 have:f=g:=funext fun R=>funext fun K=>e R K
 rw [←this]; exact h
theorem Good.cons {P:Program} {I:GInv} {env:Env} (henv:EnvOK P I env) {ann:Ann} {n:Nat} {fn:Func} (t:Sl (List SV)) (F:{R:Type}→(List SV→Option R)→t.T (Option R))
 (he:∀ {R:Type} (K:List SV→Option R),t.all (fun args r=>Jhp P env ann n fn args K=r) (F K)) {D:(R:Type)→List SV→(List SV→Option R)→Option R} (hD:Good P env ann n fn D) :
 Good P env ann n fn fun R args K=>JjK (t.ap args (F K)) (D R args K):=by
 refine ⟨fun R args K res h=>?_,fun args=>?_⟩
 · cases e:t.ap args (F K) with
   | none=>rw [e] at h; exact hD.a R args K res h
   | some g=>rw [e] at h; exact (t.h2 _ args (F K) g (he K) e).trans h
 · cases hd:t.dom args with
   | false =>
    refine Jgo (hD.d args) fun R K=>?_
    have h:=t.h1 args (F K)
    rw [hd] at h
    cases e:t.ap args (F K) with
    | none=>rfl
    | some g=>rw [e] at h; cases h
   | true =>
    refine Jgo (Ji0 (P:=P) henv.det ann n fn args) fun R K=>?_
    have h:=t.h1 args (F K)
    rw [hd] at h
    cases e:t.ap args (F K) with
    | none=>rw [e] at h; cases h
    | some g=>exact t.h2 _ args (F K) g (he K) e
theorem FSound.good {P:Program} {I:GInv} {env:Env} (henv:EnvOK P I env) {ann:Ann} {n:Nat} {fn:Func} {g:Nat} {fs:FS} (hg:P.funcs[g]? = some fn) (hr:Good P env ann n fn fun R args K=>@FS.run fs R args K)
 (hann:Jeu P ann=true) (hb:fn.body.isNone=false) (hnm:(fn.name == "runtime.NumGoroutine")=false):FSound P I g fs :=
 FSound.of henv hann hg hb hnm (fun {R args K res} h=>hr.a R args K res h) hr.d
theorem FSound.goodD {P:Program} {I:GInv} {env:Env} (henv:EnvOK P I env) {ann:Ann} {n:Nat} {fn:Func} {g gd t r:Nat} {fs:FS} (hg:P.funcs[g]? = some fn) (hidle:∀ cv:Array Value,JjM P ⟨.fn (.func gd) cv,#[]⟩)
 (hr:Good P env ann n (Jln r fn) fun R args K=>@FS.run fs R args K) (hann:Jeu P ann=true) (hb:fn.body.isNone=false) (hnm:(fn.name == "runtime.NumGoroutine")=false)
 (hfm:(JhU r (fn.body.getD .skip)&&Jcb P gd t r (fn.body.getD .skip)&&(!(JaZ ann.frz t)&&JaZ ann.frz (4000000 + t)))=true):FSound P I g fs:=by
 cases hc:fn.body with
 | none=>rw [hc] at hb; cases hb
 | some c =>
  refine ⟨hr.d,⟨fn,hg,hb,hnm⟩,fun hk F W cargs B ha hn hB hF hI=>?_⟩
  have hk2:=hr.a _ _ _ _ hk
  simp only [Jln,hc,Option.getD_some] at hk2 hfm
  exact Ji7 henv hann hg hc hidle hfm hk2 F W cargs B ha hn hB hF hI
abbrev LP:=List PV
abbrev O (R:Type):=Option R
abbrev ids:List Nat→Lv
 | []=>[]
 | x::l=>(x,.id)::ids l
abbrev vI (x:Int):SV:=.p (.v (.int .i64 x))
abbrev vS (x:ByteArray):SV:=.p (.v (.string x))
abbrev vB (x:Bool):SV:=.p (.v (.bool x))
abbrev vH (x:List PV):SV:=.p (.sh x)
abbrev dD:SV:=.dead
noncomputable abbrev cI (s:Sl (List SV)):Sl (List SV):=.c (sP (Jlw .i64)) s
noncomputable abbrev cS (s:Sl (List SV)):Sl (List SV):=.c (sP Jly) s
noncomputable abbrev cB (s:Sl (List SV)):Sl (List SV):=.c (sP Jlt) s
noncomputable abbrev cH (s:Sl (List SV)):Sl (List SV):=.c (sP sSh) s
noncomputable abbrev cO (T:Nat) (s:Sl (List SV)):Sl (List SV):=.c (Jlx T) s
section
variable {R:Type}
noncomputable abbrev xC (ann:Ann) (i:Nat) (K:Kc R) (e:Ex) (l:List SV):Option R:=K e (lk (Jhw ann.cuts i) l)
noncomputable abbrev xL (ann:Ann) (i:Nat) (K:Kc R) (e:Ex) (l:List SV):Option R:=K e (lk (Jhw ann.loops i) l)
abbrev eN:Env:=fun _=>none
noncomputable abbrev eC (j:Nat) (f:FS) (r:Env):Env:=fun i=>bif Nat.beq i j then some f else r i
noncomputable abbrev oN:Orc R:=fun _ _ _=>none
noncomputable abbrev oC (ann:Ann) (E:Code→Fr→Kc R→Option R) (j:Nat) (c:Code) (t:Sl (List SV)) (F:Kc R→t.T (Option R)) (r:Orc R):Orc R:=fun i vs K=>JgZ (Nat.beq i j) (JjK (t.ap vs (F K)) (JkN ann j (E c) vs K)) (r i vs K)
noncomputable abbrev oL (ann:Ann) (E:Code→Fr→Kc R→Option R) (n:Nat) (j:Nat) (c:Code) (t:Sl (List SV)) (F:Kc R→t.T (Option R)) (r:Orc R):Orc R:=fun i vs K=>JgZ (Nat.beq i j) (JjK (t.ap vs (F K)) (Jc2 ann j (E c) n vs K)) (r i vs K)
noncomputable abbrev Jk7 (ann:Ann) (i:Nat) (f:Fr→Kc R→Option R) (L:List SV→Kc R→Option R) (vs:List SV) (K:Kc R):Option R :=
 f (lk (Jc1 ann.loops i) vs) fun e fr=>match e with
  | .normal=>L (Jdk (Jc1 ann.loops i) fr) K
  | .exit j=>K (.exit j) (lk (Jhw ann.loops i) (Jdk (Jhw ann.loops i) fr))
  | .ret=>K .ret (lk (Jhw ann.loops i) (Jdk (Jhw ann.loops i) fr))
variable {P:Program} {env:Env} {ann:Ann} {n:Nat} {N:Nat × List Nat} {lo cu:Orc R} {i:Nat} {c:Code} {l:List (Bool × Nat × Code)}
theorem pN {Q:Bool × Nat × Code→Prop}:JfF Q []:=trivial
theorem pC {Q:Bool × Nat × Code→Prop} {x:Bool × Nat × Code} {l:List (Bool × Nat × Code)} (h:Q x) (t:JfF Q l):JfF Q (x::l):=⟨h,t⟩
theorem pO (h:JfF (Jd P env ann n N lo cu) l) (e:JaS ann c=l):JfF (Jd P env ann n N lo cu) (JaS ann c):=by rw [e]; exact h
theorem Jji (t:Sl (List SV)) {V:Fr→Kc R→Option R} {F:Nat→Kc R→t.T (Option R)} (b:Kc R→t.T (Option R)→t.T (Option R)) (h0:∀ K,t.all (fun _ r=>none=r) (F 0 K)) (hS:∀ m K,F (m + 1) K=b K (F m K))
 (hb:∀ (L:List SV→Kc R→Option R) K,t.all (fun vs r=>Jk7 ann i V L vs K=r) (b K (t.cur fun vs=>L vs K))):∀ m K,t.all (fun vs r=>Jc2 ann i V m vs K=r) (F m K)
 | 0,K=>h0 K
 | m + 1,K=>by
  have ih:=Jji t b h0 hS hb m K
  rw [hS,t.h3 _ (fun vs=>Jc2 ann i V m vs K) (F m K) (fun x g h=>h.symm) ih]
  exact hb (fun vs K=>Jc2 ann i V m vs K) K
theorem Jh2 (t t1:Sl (List SV)) {V:Fr→Kc R→Option R} {F:Nat→Kc R→t.T (Option R)} {F1:Nat→Kc R→t1.T (Option R)} (b:Kc R→t.T (Option R)→t1.T (Option R)→t.T (Option R)) (h0:∀ K,t.all (fun _ r=>none=r) (F 0 K)) (hS:∀ m K,F (m + 1) K=b K (F m K) (F1 m K))
 (h1:∀ m K,t1.all (fun vs r=>Jc2 ann i V m vs K=r) (F1 m K))
 (hb:∀ (L:List SV→Kc R→Option R) K,t.all (fun vs r=>Jk7 ann i V L vs K=r) (b K (t.cur fun vs=>L vs K) (t1.cur fun vs=>L vs K))):∀ m K,t.all (fun vs r=>Jc2 ann i V m vs K=r) (F m K)
 | 0,K=>h0 K
 | m + 1,K=>by
  have ih:=Jh2 t t1 b h0 hS h1 hb m K
  rw [hS,t.h3 _ (fun vs=>Jc2 ann i V m vs K) (F m K) (fun x g h=>h.symm) ih,t1.h3 _ (fun vs=>Jc2 ann i V m vs K) (F1 m K) (fun x g h=>h.symm) (h1 m K)]
  exact hb (fun vs K=>Jc2 ann i V m vs K) K
end
noncomputable abbrev fT (om:List Bool) (t:Sl (List SV)) (F:{R:Type}→(List SV→Option R)→t.T (Option R)):FS:={ om:=om,run:=fun args K=>JjK (t.ap args (F K)) none }
theorem gd {P:Program} {I:GInv} {env:Env} (ann:Ann) (n:Nat) (henv:EnvOK P I env) {fn:Func} {g:Nat} {fs:FS} (hg:P.funcs[g]? = some fn) (hr:Good P env ann n fn fun R args K=>@FS.run fs R args K)
 (h:(Jeu P ann&&(!fn.body.isNone&&!(fn.name == "runtime.NumGoroutine")))=true):FSound P I g fs:=by
 rw [Bool.and_eq_true,Bool.and_eq_true] at h
 exact FSound.good henv hg hr h.1 (by simpa using h.2.1) (by simpa using h.2.2)
theorem gdD {P:Program} {I:GInv} {env:Env} (ann:Ann) (n:Nat) (henv:EnvOK P I env) {fn:Func} {g:Nat} {fs:FS} (hg:P.funcs[g]? = some fn) {gd t r:Nat} (hidle:∀ cv:Array Value,JjM P ⟨.fn (.func gd) cv,#[]⟩)
 (hr:Good P env ann n (Jln r fn) fun R args K=>@FS.run fs R args K)
 (h:(Jeu P ann&&(!fn.body.isNone&&!(fn.name == "runtime.NumGoroutine")))=true)
 (hfm:(JhU r (fn.body.getD .skip)&&Jcb P gd t r (fn.body.getD .skip)&&(!(JaZ ann.frz t)&&JaZ ann.frz (4000000 + t)))=true):FSound P I g fs:=by
 rw [Bool.and_eq_true,Bool.and_eq_true] at h
 exact FSound.goodD henv hg hidle hr h.1 (by simpa using h.2.1) (by simpa using h.2.2) hfm
abbrev JlA {R:Type} (x:SV) (K:PV→Option R):Option R:=match x with
 | .p y=>K y
 | _=>none
end Go.Proofs.YtgglhmfncoeffaaGreatDoor.Th
