/- Proved: what the evaluator of pure values says of a function's code, its calls keep (part 3; no further conditions). -/
import Derived.Test.YtmgfmlhdnadglaaGreatDoorT1
import Derived.Test.YtmgfmlhdnadglaaGreatDoorT0
import Derived.Shelf.Small.Strs
import Derived.Shelf.Strings.Count
import Derived.Shelf.Strings.Repeat
import Derived.IntWalk
import Derived.Shelf.Strings.SlTrimAscii
import Derived.Shelf.Strconv.AtoiAll
import Derived.Shelf.Strconv.Itoa4
import Derived.Deep.Slices
import Derived.ChangeArms
import Derived.DataReads
import Derived.WideShapes
import Derived.Shelf.Strings.Builder1
import Derived.Shelf.Strings.Builder2
import Derived.Shelf.Strings.Trim
import Derived.Shelf.Small.Utf8
import Derived.Shelf.Small.Wraps
import Derived.Shelf.Strings.BuilderF
import Derived.Shelf.Strings.BuilderK
import Derived.Shelf.Strings.Builder2Cap
import Derived.Shelf.Strconv.Atoi
import Derived.Shelf.Strconv.Itoa0
import Derived.Shelf.Strconv.Itoa1
import Derived.Shelf.LaysM
import Derived.Shelf.Strconv.Itoa2
import Derived.Shelf.Strconv.Itoa3
import Derived.Shelf.Strconv.AtoiErrFast
import Derived.Shelf.Strconv.ParseIntEmpty
import Derived.Shelf.Strconv.AtoiFail
import Derived.Shelf.Strconv.Clone
import Derived.Shelf.Strconv.SyntaxError
import Derived.Shelf.LaysC
import Derived.Shelf.Strconv.ToError
import Derived.Shelf.Strconv.Lower
import Derived.Shelf.Strconv.ParseUint10
import Derived.Shelf.Strconv.ParseUint10Empty
import Derived.Shelf.Strconv.ParseUint10Any
import Derived.Shelf.Strconv.ParseInt10
import Derived.Shelf.Strconv.AtoiLong
import Derived.Shelf.Strconv.AtoiInnerAll
import Derived.Shelf.Strconv.RangeError
import Derived.Shelf.Strconv.ToErrorRange
import Derived.Shelf.Strings.Search1
import Derived.Shelf.Strings.Search2
import Derived.Shelf.Strings.Cut
import Derived.Shelf.Strings.Shaped
import Derived.Shelf.Strings.Prefix
import Derived.Shelf.Strings.Runes
import Derived.Shelf.Strings.AsciiSet
import Derived.Shelf.Bits.Mul64
import Derived.Shelf.Unicode.DecodeSlow
import Derived.Shelf.Strings.BuilderCap
import Derived.Test.YtmgfmlhdnadglaaGreatDoorProg
set_option linter.unusedVariables false
set_option linter.unusedSimpArgs false
namespace Go.Proofs.YtmgfmlhdnadglaaGreatDoor.Th
open Go Go.Proofs Go.Shelf Go.RowKit
section
variable {P:Program} {ρ:Ren} {w:World} {T e:TypeId} {b:Nat} {p v:Value} {bs:List Value}
theorem Keep.freeze (w:World) (g n:Nat):Keep w (·=g) (w.freeze ⟨g,0,none⟩ n):=by
 unfold World.freeze
 split
 · exact Keep.refl _ _
 · refine ⟨rfl,rfl,rfl,by simp,fun k _ hk=>?_⟩
   simp only [Array.getElem?_modify]
   rw [if_neg (fun e=>hk e.symm)]
theorem Keep.alloc (w:World) (o:Obj) (A:Nat→Prop):Keep w A (w.alloc o):=⟨rfl,rfl,rfl,by simp,fun k hk _=>alloc_old w o k hk⟩
theorem BV.of_at (h:Lib.BuilderAtF T e 0 b p bs w) (hb:w.heap[b]? = some (.cells #[p,v] T (0,0))):BV T e b p v bs w:=by
 obtain ⟨_,v1,h1,h2,h3⟩:=h
 rw [hb] at h1
 cases h1
 exact ⟨hb,h2,h3⟩
theorem BV.alloc (h:BV T e b p v bs w) (o:Obj):BV T e b p v bs (w.alloc o):=BV.of_at (h.at'.alloc o) ((alloc_old w o b h.lt).trans h.1)
def Jh3 (T e:TypeId) (b:Nat) (p v:Value) (bs:List Value) (w w':World):Prop:=BV T e b p v bs w'∧Keep w (fun k=>v.ownBlock=some k) w'
set_option maxHeartbeats 1000000 in
set_option maxRecDepth 100000 in
theorem Jd0 (L:Lays.n169 P ρ) (X:Builder.Extra P ρ) (l:List UInt8) (h:BV (ρ.t 72) (ρ.t 5) b p v (Lib.byteCells l) w) (h0:l≠[]) :
 Calls P (ρ.f 169) #[.pointer (some ⟨b,0,none⟩)] w fun e w'=>e=.returned (.string ⟨l.toArray⟩)∧Jh3 (ρ.t 72) (ρ.t 5) b p v (Lib.byteCells l) w w':=by
 have hAt:=h.at'
 obtain ⟨hbk,hown,hne⟩:=h
 have hl0:l.length≠0:=by simpa using h0
 rw [Lib.byteCells_length] at hown
 obtain ⟨g,cap,cur,fz,rfl,hg,hfz,hnc,hcm,hcs,htake⟩:∃ g cap cur fz,v=.slice (some ⟨g,0,none⟩) l.length cap∧w.heap[g]? = some (.cells cur (ρ.t 5) fz)∧fz.2≤l.length * 1∧l.length≤cap∧cap≤maxLen∧cur.size=cap * 1∧cur.toList.take (l.length * 1)=Lib.byteCells l:=by
  rcases hown.2 with ⟨_,hz⟩ | ⟨g,cap,cur,fz,hv,_,r⟩
  · exact absurd hz hl0
  · exact ⟨g,cap,cur,fz,hv,r⟩
 have hgb:g≠b:=fun e=>hne (by simp [Value.ownBlock,e])
 have c1:w.drew.cell? ⟨b,1,none⟩=some (.slice (some ⟨g,0,none⟩) l.length cap):=by
  have:w.drew.heap[b]? = some (.cells #[p,.slice (some ⟨g,0,none⟩) l.length cap] (ρ.t 72) (0,0)):=hbk
  rw [Lib.cell_of_heap this]; rfl
 have hSD:(Builtin.unsafeSliceData_ #[(ρ.t 37)] (ρ.t 127) #[.slice (some ⟨g,0,none⟩) l.length cap]).run P w.drew=.ok (.pointer (some ⟨g,0,none⟩)) w.drew :=
  Lib.run_unsafeSliceData_row _ _ _ _ _ _ (by omega)
 have hUS:(Builtin.unsafeString_ #[(ρ.t 127),(ρ.t 3)] (ρ.t 9) #[.pointer (some ⟨g,0,none⟩),.int .i64 l.length]).run P w.drew=.ok (.string ⟨l.toArray⟩) (w.drew.freeze ⟨g,0,none⟩ l.length):=by
  refine Lib.run_unsafeString_row w.drew (ρ.t 127) (ρ.t 3) (ρ.t 9) (ρ.t 5) L.t127 X.cellsByte g cur.size (by have hg':w.drew.heap[g]? = some (.cells cur (ρ.t 5) fz):=hg; simp [World.shape?,hg']) l h0 (by omega) (by unfold maxLen at hcm; omega) ?_
  intro j x hx
  have:=hown.cells (g:=g) rfl j (.int .u8 x.toNat) (by simp [Lib.byteCells,hx])
  exact this
 have hkeep:Jh3 (ρ.t 72) (ρ.t 5) b p (.slice (some ⟨g,0,none⟩) l.length cap) (Lib.byteCells l) w (w.drew.freeze ⟨g,0,none⟩ l.length):=by
  have hA:Lib.BuilderAtF (ρ.t 72) (ρ.t 5) 0 b p (Lib.byteCells l) w.drew:=hAt
  have hF:=hA.froze (g:=g) (cap:=cap) (by rw [Lib.byteCells_length]; exact c1)
  rw [Lib.byteCells_length] at hF
  have kf:=Keep.freeze w.drew g l.length
  exact ⟨BV.of_at hF ((kf.block b (show b<w.drew.heap.size from hAt.lt) (Ne.symm hgb)).trans hbk),kf.os,kf.tape,kf.output,kf.size,fun k hk hn=>kf.block k hk fun e=>hn (by simp [Value.ownBlock,e])⟩
 have mixed:=L.mixed
 have t72:=L.t72; have a72:=L.a72; have z72:=L.z72; have v72:=L.v72; have u72:=run_underlying L.t72
 have t70:=L.t70; have a70:=L.a70; have z70:=L.z70; have v70:=L.v70; have u70:=run_underlying L.t70
 have t37:=L.t37; have a37:=L.a37; have z37:=L.z37; have v37:=L.v37; have u37:=run_underlying L.t37
 have t127:=L.t127; have a127:=L.a127; have z127:=L.z127; have v127:=L.v127; have u127:=run_underlying L.t127
 have t3:=L.t3; have a3:=L.a3; have z3:=L.z3; have v3:=L.v3; have u3:=run_underlying L.t3
 have t9:=L.t9; have a9:=L.a9; have z9:=L.z9; have v9:=L.v9; have u9:=run_underlying L.t9
 have t5:=X.t5; have a5:=X.a5; have z5:=X.z5; have v5:=X.v5; have u5:=run_underlying X.t5
 go_enter L.f169,Body.n169_ntmps ρ
 go_wp2
 go_region_o
 all_goals (go_wp2; go_ret; exact ⟨rfl,hkeep⟩)
set_option maxHeartbeats 2000000 in
set_option maxRecDepth 100000 in
theorem Jep (L:Lays.n169 P ρ) (X:Builder.Extra P ρ) (h:BV (ρ.t 72) (ρ.t 5) b p (.slice none 0 0) [] w) :
 Calls P (ρ.f 169) #[.pointer (some ⟨b,0,none⟩)] w fun e w'=>e=.returned (.string ⟨#[]⟩)∧Jh3 (ρ.t 72) (ρ.t 5) b p (.slice none 0 0) [] w w':=by
 have hUS:=Any.unsafeString_none L X
 have hbk:=h.1
 have c1:w.drew.cell? ⟨b,1,none⟩=some (.slice none 0 0):=by
  have:w.drew.heap[b]? = some (.cells #[p,.slice none 0 0] (ρ.t 72) (0,0)):=hbk
  rw [Lib.cell_of_heap this]; rfl
 have hSD:(Builtin.unsafeSliceData_ #[(ρ.t 37)] (ρ.t 127) #[.slice none 0 0]).run P w.drew=.ok (.pointer none) w.drew:=rfl
 have hkeep:Jh3 (ρ.t 72) (ρ.t 5) b p (.slice none 0 0) [] w w.drew:=⟨h,rfl,rfl,rfl,Nat.le_refl _,fun _ _ _=>rfl⟩
 have mixed:=L.mixed
 have t72:=L.t72; have a72:=L.a72; have z72:=L.z72; have v72:=L.v72; have u72:=run_underlying L.t72
 have t70:=L.t70; have a70:=L.a70; have z70:=L.z70; have v70:=L.v70; have u70:=run_underlying L.t70
 have t37:=L.t37; have a37:=L.a37; have z37:=L.z37; have v37:=L.v37; have u37:=run_underlying L.t37
 have t127:=L.t127; have a127:=L.a127; have z127:=L.z127; have v127:=L.v127; have u127:=run_underlying L.t127
 have t3:=L.t3; have a3:=L.a3; have z3:=L.z3; have v3:=L.v3; have u3:=run_underlying L.t3
 have t9:=L.t9; have a9:=L.a9; have z9:=L.z9; have v9:=L.v9; have u9:=run_underlying L.t9
 have t5:=X.t5; have a5:=X.a5; have z5:=X.z5; have v5:=X.v5; have u5:=run_underlying X.t5
 go_enter L.f169,Body.n169_ntmps ρ
 go_wp2
 go_region_o
 all_goals (go_wp2; go_ret; exact ⟨rfl,hkeep⟩)
set_option maxHeartbeats 2000000 in
set_option maxRecDepth 100000 in
theorem Jc1 (L:Lays.n169 P ρ) (X:Builder.Extra P ρ) (g:Nat) (cur:Array Value) (fz:Nat × Nat) (h:BV (ρ.t 72) (ρ.t 5) b p (.slice (some ⟨g,0,none⟩) 0 0) [] w) (hg:w.heap[g]? = some (.cells cur (ρ.t 5) fz)) :
 Calls P (ρ.f 169) #[.pointer (some ⟨b,0,none⟩)] w fun e w'=>e=.returned (.string ⟨#[]⟩)∧Jh3 (ρ.t 72) (ρ.t 5) b p (.slice (some ⟨g,0,none⟩) 0 0) [] w w':=by
 have hUS:=Any.unsafeString_none L X
 have hbk:=h.1
 have hlt:=h.lt
 have c1:w.drew.cell? ⟨b,1,none⟩=some (.slice (some ⟨g,0,none⟩) 0 0):=by
  have:w.drew.heap[b]? = some (.cells #[p,.slice (some ⟨g,0,none⟩) 0 0] (ρ.t 72) (0,0)):=hbk
  rw [Lib.cell_of_heap this]; rfl
 have hSD:(Builtin.unsafeSliceData_ #[(ρ.t 37)] (ρ.t 127) #[.slice (some ⟨g,0,none⟩) 0 0]).run P w.drew=.ok (.pointer (some ⟨w.drew.heap.size,0,none⟩)) (w.drew.alloc (.view ⟨g,0,none⟩ (ρ.t 5))) :=
  Lib.run_unsafeSliceData_zero w.drew _ _ (ρ.t 5) L.t127 ⟨g,0,none⟩ 0 ((ρ.t 5),cur.size) (by have hg':w.drew.heap[g]? = some (.cells cur (ρ.t 5) fz):=hg; simp [World.shape?,hg'])
 have c2:(w.drew.alloc (.view ⟨g,0,none⟩ (ρ.t 5))).cell? ⟨b,1,none⟩=some (.slice (some ⟨g,0,none⟩) 0 0):=by
  have:(w.drew.alloc (.view ⟨g,0,none⟩ (ρ.t 5))).heap[b]? = _:=(Lib.alloc_old w.drew _ b hlt).trans hbk
  rw [Lib.cell_of_heap this]; rfl
 have c3:(w.alloc (.view ⟨g,0,none⟩ (ρ.t 5))).drew.cell? ⟨b,1,none⟩=some (.slice (some ⟨g,0,none⟩) 0 0):=c2
 have c0:w.cell? ⟨b,1,none⟩=some (.slice (some ⟨g,0,none⟩) 0 0):=c1
 have hkeep:Jh3 (ρ.t 72) (ρ.t 5) b p (.slice (some ⟨g,0,none⟩) 0 0) [] w (w.drew.alloc (.view ⟨g,0,none⟩ (ρ.t 5))) :=
  ⟨BV.alloc (w:=w.drew) h _,rfl,rfl,rfl,by simp [World.alloc],fun k hk _=>alloc_old w.drew _ k hk⟩
 have mixed:=L.mixed
 have t72:=L.t72; have a72:=L.a72; have z72:=L.z72; have v72:=L.v72; have u72:=run_underlying L.t72
 have t70:=L.t70; have a70:=L.a70; have z70:=L.z70; have v70:=L.v70; have u70:=run_underlying L.t70
 have t37:=L.t37; have a37:=L.a37; have z37:=L.z37; have v37:=L.v37; have u37:=run_underlying L.t37
 have t127:=L.t127; have a127:=L.a127; have z127:=L.z127; have v127:=L.v127; have u127:=run_underlying L.t127
 have t3:=L.t3; have a3:=L.a3; have z3:=L.z3; have v3:=L.v3; have u3:=run_underlying L.t3
 have t9:=L.t9; have a9:=L.a9; have z9:=L.z9; have v9:=L.v9; have u9:=run_underlying L.t9
 have t5:=X.t5; have a5:=X.a5; have z5:=X.z5; have v5:=X.v5; have u5:=run_underlying X.t5
 go_enter L.f169,Body.n169_ntmps ρ
 go_wp2
 go_region_o
 all_goals (go_wp2; go_ret; exact ⟨rfl,hkeep⟩)
set_option maxHeartbeats 2000000 in
set_option maxRecDepth 100000 in
theorem JdZ (L:Lays.n169 P ρ) (X:Builder.Extra P ρ) (g cap:Nat) (hc0:cap≠0) (h:BV (ρ.t 72) (ρ.t 5) b p (.slice (some ⟨g,0,none⟩) 0 cap) [] w) :
 Calls P (ρ.f 169) #[.pointer (some ⟨b,0,none⟩)] w fun e w'=>e=.returned (.string ⟨#[]⟩)∧Jh3 (ρ.t 72) (ρ.t 5) b p (.slice (some ⟨g,0,none⟩) 0 cap) [] w w':=by
 have hUS:=Any.unsafeString_none L X
 have hbk:=h.1
 have c1:w.drew.cell? ⟨b,1,none⟩=some (.slice (some ⟨g,0,none⟩) 0 cap):=by
  have:w.drew.heap[b]? = some (.cells #[p,.slice (some ⟨g,0,none⟩) 0 cap] (ρ.t 72) (0,0)):=hbk
  rw [Lib.cell_of_heap this]; rfl
 have hSD:(Builtin.unsafeSliceData_ #[(ρ.t 37)] (ρ.t 127) #[.slice (some ⟨g,0,none⟩) 0 cap]).run P w.drew=.ok (.pointer (some ⟨g,0,none⟩)) w.drew :=
  Lib.run_unsafeSliceData_row _ _ _ _ _ _ hc0
 clear hc0
 have hkeep:Jh3 (ρ.t 72) (ρ.t 5) b p (.slice (some ⟨g,0,none⟩) 0 cap) [] w w.drew:=⟨h,rfl,rfl,rfl,Nat.le_refl _,fun _ _ _=>rfl⟩
 have mixed:=L.mixed
 have t72:=L.t72; have a72:=L.a72; have z72:=L.z72; have v72:=L.v72; have u72:=run_underlying L.t72
 have t70:=L.t70; have a70:=L.a70; have z70:=L.z70; have v70:=L.v70; have u70:=run_underlying L.t70
 have t37:=L.t37; have a37:=L.a37; have z37:=L.z37; have v37:=L.v37; have u37:=run_underlying L.t37
 have t127:=L.t127; have a127:=L.a127; have z127:=L.z127; have v127:=L.v127; have u127:=run_underlying L.t127
 have t3:=L.t3; have a3:=L.a3; have z3:=L.z3; have v3:=L.v3; have u3:=run_underlying L.t3
 have t9:=L.t9; have a9:=L.a9; have z9:=L.z9; have v9:=L.v9; have u9:=run_underlying L.t9
 have t5:=X.t5; have a5:=X.a5; have z5:=X.z5; have v5:=X.v5; have u5:=run_underlying X.t5
 go_enter L.f169,Body.n169_ntmps ρ
 go_wp2
 go_region_o
 all_goals (go_wp2; go_ret; exact ⟨rfl,hkeep⟩)
theorem Jib (L:Lays.n169 P ρ) (X:Builder.Extra P ρ) (l:List UInt8) (h:BV (ρ.t 72) (ρ.t 5) b p v (Lib.byteCells l) w) :
 Calls P (ρ.f 169) #[.pointer (some ⟨b,0,none⟩)] w fun e w'=>e=.returned (.string ⟨l.toArray⟩)∧Jh3 (ρ.t 72) (ρ.t 5) b p v (Lib.byteCells l) w w':=by
 cases l with
 | cons x r=>exact Jd0 L X (x::r) h (by simp)
 | nil =>
  have h':BV (ρ.t 72) (ρ.t 5) b p v [] w:=h
  have hown:=h'.2.1
  rcases hown.2 with ⟨rfl,_⟩ | ⟨g,cap,cur,fz,rfl,_,hg,_,_,_,_,_⟩
  · exact Jep L X h'
  · by_cases hc0:cap=0
    · subst hc0
      exact Jc1 L X g cur fz h' hg
    · exact JdZ L X g cap hc0 h'
end
end Go.Proofs.YtmgfmlhdnadglaaGreatDoor.Th
set_option linter.unusedVariables false
set_option linter.unusedSimpArgs false
namespace Go.Proofs.YtmgfmlhdnadglaaGreatDoor.Th
open Go Go.Proofs Go.Shelf Go.RowKit
def JiT (n:Nat):Bool:=decide (n≤140737488355328)
def obK {R:Type} (T e:TypeId) (x:SV) (K:ByteArray→Option R):Option R :=
 match x with
 | .ob T' e' s=>bif Nat.beq T' T&&Nat.beq e' e then K s else none
 | .bx T' [.p (.v (.pointer none)),.nl]=>bif Nat.beq T' T then K ByteArray.empty else none
 | _=>none
noncomputable def JaV (T e:TypeId):FS:={ om:=[true,false],run:=fun args K=>match args with
 | [x,.p (.v (.string t))]=>obK T e x fun s=>bif JiT (s.size + t.size) then K [.p (.v (.int .i64 (t.size:Int))),.p (.v .nilIface),.ob T e (s++t)] else none
 | _=>none }
noncomputable def Jcn (T e:TypeId):FS:={ om:=[true],run:=fun args K=>match args with
 | [x]=>obK T e x fun s=>K [.p (.v (.string s)),.ob T e s]
 | _=>none }
theorem Jhe (T e:TypeId) (x:SV):DetK (fun R K=>@obK R T e x K):=JbM fun R K res h=>by
 unfold obK at h
 split at h
 · rename_i T' e' s
   cases hc:(Nat.beq T' T&&Nat.beq e' e) with
   | false=>rw [hc] at h; cases h
   | true=>exact ⟨s,fun R' K'=>by simp only [obK,hc,cond_true]⟩
 · rename_i T'
   cases hc:Nat.beq T' T with
   | false=>rw [hc] at h; cases h
   | true=>exact ⟨_,fun R' K'=>by simp only [obK,hc,cond_true]; rfl⟩
 · cases h
theorem Jcy (T e:TypeId) (args:List SV):DetK (fun R K=>@FS.run (JaV T e) R args K):=JbM fun R K res h=>by
 simp only [JaV] at h
 split at h
 · obtain ⟨s,h1,h2⟩:=(Jhe T e _).some h
   obtain ⟨hc,_⟩:=Jaa h1
   exact ⟨_,fun R' K'=>by simp only [JaV]; rw [h2]; simp only [hc,cond_true]; rfl⟩
 · cases h
theorem JeC (T e:TypeId) (args:List SV):DetK (fun R K=>@FS.run (Jcn T e) R args K):=JbM fun R K res h=>by
 simp only [Jcn] at h
 split at h
 · obtain ⟨s,h1,h2⟩:=(Jhe T e _).some h
   exact ⟨_,fun R' K'=>by simp only [Jcn]; rw [h2]⟩
 · cases h
section
variable {P:Program} {ρ:Ren} {I:GInv} {R:Type} {res:R}
theorem Jje {F:Nat→Prop} {W:World} {T e:TypeId} {x:SV} {c:Value} {B:List Nat} {K:ByteArray→Option R} (h:RS P F W x c B) (hk:obK T e x K=some res) :
 ∃ s b p v,K s=some res∧c=.pointer (some ⟨b,0,none⟩)∧(p=.pointer none∨p=.pointer (some ⟨b,0,none⟩))∧BV T e b p v (Lib.byteCells s.data.toList) W∧B=b::v.ownBlock.toList∧bxv [x] [c]=[c]:=by
 unfold obK at hk
 split at hk
 · obtain ⟨hc,hk1⟩:=Jaa hk
   clear hk
   simp only [Bool.and_eq_true] at hc
   have h1:=eqB hc.1
   have h2:=eqB hc.2
   subst h1 h2
   cases h with
   | ob q1 q2 q3 q4=>exact ⟨_,_,_,_,hk1,rfl,q2,⟨q1,by rw [Lib.byteCells_length]; exact q3,q4⟩,rfl,rfl⟩
 · obtain ⟨hc,hk1⟩:=Jaa hk
   clear hk
   have h1:=eqB hc
   subst h1
   cases h with
   | bx q1 q2 q3 =>
    rename_i b cur B
    generalize hcur:cur.toList=l at q2
    cases q2 with
    | cons r1 r2 =>
     cases r2 with
     | cons r3 r4 =>
      cases r4 with
      | nil =>
       cases r1 with
       | p r1 =>
        cases r1 with
        | v =>
         cases r3 with
         | nl =>
          have hcur':cur=#[.pointer none,.slice none 0 0]:=by apply Array.ext'; simpa using hcur
          subst hcur'
          exact ⟨ByteArray.empty,_,_,.slice none 0 0,hk1,rfl,.inl rfl,⟨q1,World.ownsRowF_nil _ _ _ _,by simp [Value.ownBlock]⟩,rfl,rfl⟩
 · cases hk
theorem Jf2 {T e:TypeId} {b:Nat} {p v:Value} {bs:List Value} {w:World} (h:BV T e b p v bs w):(b::v.ownBlock.toList).Nodup:=by
 have:=h.2.2
 cases hv:v.ownBlock with
 | none=>simp
 | some g=>rw [hv] at this; simp; exact fun e=>this (by rw [e])
theorem JjC {F:Nat→Prop} {W w':World} {T e:TypeId} {args:List SV} {cargs:List Value} {b:Nat} {v:Value} {s:ByteArray} {xs:List SV} {vs:List Value}
 (h:Wrote T e b v (Lib.byteCells s.data.toList) W w') (hb:b<W.heap.size) (hF:∀ k∈b::v.ownBlock.toList,¬ F k) (hlt:∀ k,F k→k<W.heap.size) (hl:xs.length=vs.length) (hxs:RSs P F w' xs vs []) (hbx:bxv args cargs=[.pointer (some ⟨b,0,none⟩)]) :
 Jjk P F W args cargs (b::v.ownBlock.toList) (xs++[.ob T e s]) (JgQ vs) w':=by
 obtain ⟨v',h1,h2,h3⟩:=h
 have hob:RSs P F w' [.ob T e s] [.pointer (some ⟨b,0,none⟩)] ((b::v'.ownBlock.toList)++[]) :=
  .cons (.ob h1.1 (.inr rfl) (by have:=h1.2.1; rwa [Lib.byteCells_length] at this) h1.2.2) .nil
 refine ⟨F,_,xs,[.ob T e s],vs,rfl,hl,rfl,by rw [hbx]; exact hxs.join hob,?_,?_,fun _ q=>q,fun _ q=>.inl q,fun k q=>Nat.lt_of_lt_of_le (hlt k q) h2.size,?_⟩
 · simpa using Jf2 h1
 · intro k hk
   have hk:k=b∨v'.ownBlock=some k:=by simpa using hk
   have hlt':k<w'.heap.size:=by
    rcases hk with rfl | q
    · exact h1.lt
    · exact (h1.2.1.lt k q).2
   rcases hk with rfl | q
   · exact ⟨hF k (by simp),hlt',.inr (by simp)⟩
   · rcases h3 k q with r | r
     · exact ⟨hF k (by simp [r]),hlt',.inr (by simp [r])⟩
     · exact ⟨fun hf=>by have:=hlt k hf; omega,hlt',.inl r⟩
 · exact h2.mono fun k q=>by rcases q with q | q <;> simp [q]
theorem JjD {F:Nat→Prop} {W w':World} {T e:TypeId} {args:List SV} {cargs:List Value} {b:Nat} {p v:Value} {s:ByteArray} {xs:List SV} {vs:List Value} (hp:p=.pointer none∨p=.pointer (some ⟨b,0,none⟩))
 (h:Jh3 T e b p v (Lib.byteCells s.data.toList) W w') (hb:b<W.heap.size) (hF:∀ k∈b::v.ownBlock.toList,¬ F k) (hlt:∀ k,F k→k<W.heap.size) (hl:xs.length=vs.length) (hxs:RSs P F w' xs vs []) (hbx:bxv args cargs=[.pointer (some ⟨b,0,none⟩)]) :
 Jjk P F W args cargs (b::v.ownBlock.toList) (xs++[.ob T e s]) (JgQ vs) w':=by
 obtain ⟨h1,h2⟩:=h
 have hob:RSs P F w' [.ob T e s] [.pointer (some ⟨b,0,none⟩)] ((b::v.ownBlock.toList)++[]) :=
  .cons (.ob h1.1 hp (by have:=h1.2.1; rwa [Lib.byteCells_length] at this) h1.2.2) .nil
 refine ⟨F,_,xs,[.ob T e s],vs,rfl,hl,rfl,by rw [hbx]; exact hxs.join hob,?_,?_,fun _ q=>q,fun _ q=>.inl q,fun k q=>Nat.lt_of_lt_of_le (hlt k q) h2.size,?_⟩
 · simpa using Jf2 h1
 · intro k hk
   have hk:k=b∨v.ownBlock=some k:=by simpa using hk
   rcases hk with rfl | q
   · exact ⟨hF k (by simp),h1.lt,.inr (by simp)⟩
   · exact ⟨hF k (by simp [q]),(h1.2.1.lt k q).2,.inr (by simp [q])⟩
 · exact h2.mono fun k q=>by simp [q]
theorem Jet (s t:ByteArray):Lib.byteCells s.data.toList++Lib.strCells t=Lib.byteCells (s++t).data.toList:=by
 simp [Lib.byteCells,Lib.strCells]
theorem JkY {F:Nat→Prop} {W:World} {x:SV} {cs:Array Value} {B:List Nat} (h:RSs P F W [x] cs.toList B):∃ c B1,cs=#[c]∧RS P F W x c B1∧B=B1:=by
 generalize hl:cs.toList=l at h
 cases h with
 | cons h1 h2 =>
  cases h2 with
  | nil =>
   refine ⟨_,_,?_,h1,by simp⟩
   apply Array.ext'; simpa using hl
theorem Jj7 {F:Nat→Prop} {W:World} {x:SV} {y:PV} {cs:Array Value} {B:List Nat} (h:RSs P F W [x,.p y] cs.toList B):∃ c d B1,cs=#[c,d]∧RS P F W x c B1∧RP F W y d∧B=B1:=by
 generalize hl:cs.toList=l at h
 cases h with
 | cons h1 h2 =>
  cases h2 with
  | cons h3 h4 =>
   cases h4 with
   | nil =>
    cases h3 with
    | p h3 =>
     refine ⟨_,_,_,?_,h1,h3,by simp⟩
     apply Array.ext'; simpa using hl
theorem Jlt {g:Nat} {fn:Func} (hg:P.funcs[g]? = some fn) (hb:fn.body.isNone=false) (hn:(fn.name == "runtime.NumGoroutine")=false):∃ fn,P.funcs[g]? = some fn∧fn.body.isNone=false∧(fn.name == "runtime.NumGoroutine")=false:=⟨fn,hg,hb,hn⟩
theorem Jh5 (L:Lays.n166 P ρ) (X:Builder.Extra P ρ) (hfn:∃ fn,P.funcs[ρ.f 166]? = some fn∧fn.body.isNone=false∧(fn.name == "runtime.NumGoroutine")=false):FSound P I (ρ.f 166) (JaV (ρ.t 72) (ρ.t 5)):=by
 refine ⟨Jcy _ _,hfn,fun {R args K res} hk F W cargs B ha hn hB hF _=>?_⟩
 simp only [JaV] at hk
 split at hk
 · rename_i x t
   obtain ⟨c,d,B1,rfl,h1,h2,rfl⟩:=Jj7 ha
   obtain ⟨s,b,p,v,hk,rfl,hp,hv,rfl,hbx⟩:=Jje h1 hk
   obtain ⟨hr,hk⟩:=Jaa hk
   have hd:=Jbd h2
   subst hd
   have hr':s.size + t.size≤140737488355328:=of_decide_eq_true hr
   refine Calls.mono (Jd1 L X hp t hv (by rw [Lib.byteCells_length]; exact hr')) fun e w' he=>?_
   obtain ⟨rfl,hw⟩:=he
   rw [Jet] at hw
   exact ⟨_,hk,JjC (xs:=[.p (.v (.int .i64 (t.size:Int))),.p (.v .nilIface)]) (vs:=[.int .i64 t.size,.nilIface]) hw hv.lt (fun k q=>(hB k q).1) hF rfl (.cons (B:=[]) (Bs:=[]) (.p (.v _)) (.cons (B:=[]) (Bs:=[]) (.p (.v _)) .nil)) (by rw [JfF,hbx]; rfl)⟩
 · cases hk
theorem JkA (L:Lays.n169 P ρ) (X:Builder.Extra P ρ) (hfn:∃ fn,P.funcs[ρ.f 169]? = some fn∧fn.body.isNone=false∧(fn.name == "runtime.NumGoroutine")=false):FSound P I (ρ.f 169) (Jcn (ρ.t 72) (ρ.t 5)):=by
 refine ⟨JeC _ _,hfn,fun {R args K res} hk F W cargs B ha hn hB hF _=>?_⟩
 simp only [Jcn] at hk
 split at hk
 · rename_i x
   obtain ⟨c,B1,rfl,h1,rfl⟩:=JkY ha
   obtain ⟨s,b,p,v,hk,rfl,hp,hv,rfl,hbx⟩:=Jje h1 hk
   refine Calls.mono (Jib L X s.data.toList hv) fun e w' he=>?_
   obtain ⟨rfl,hw⟩:=he
   have:=JjD (args:=[x]) (cargs:=[.pointer (some ⟨b,0,none⟩)]) (xs:=[.p (.v (.string s))]) (vs:=[.string s]) (P:=P) (F:=F) hp hw hv.lt (fun k q=>(hB k q).1) hF rfl (.cons (B:=[]) (Bs:=[]) (.p (.v _)) .nil) hbx
   exact ⟨_,hk,this⟩
 · cases hk
end
end Go.Proofs.YtmgfmlhdnadglaaGreatDoor.Th
set_option linter.unusedVariables false
set_option linter.unusedSimpArgs false
set_option maxRecDepth 10000
namespace Go.Proofs.YtmgfmlhdnadglaaGreatDoor.Th
open Go
variable {R:Type}
abbrev Jay {α:Type} (b:Bool) (x y:α):α:=match b with
 | true=>x
 | false=>y
abbrev Jkf (c:CK) (e:PV) (K:PV→Option R):Option R :=
 match c with
 | .i k=>Ji9 k e fun x=>K (.v (.int k x))
 | .b=>Jj1 e fun x=>K (.v (.bool x))
 | .s=>Jj2 e fun x=>K (.v (.string x))
 | .sl=>Jkq e fun x=>K (.sh x)
 | .o=>Jay (e.leaf) (K e) (none)
abbrev Jih:List CK→List PV→(List PV→Option R)→Option R
 | [],cs,K=>Ji1 cs (K [])
 | c::r,cs,K=>JdT cs fun e cs=>Jkf c e fun y=>Jih r cs fun ys=>K (y::ys)
abbrev Jk2 (ag:Bool) (ks:List CK) (e:PV) (K:List PV→Option R):Option R :=
 match ag with
 | true=>Jh1 e fun cs=>Jih ks cs K
 | false=>match ks with
  | [c]=>Jkf c e fun y=>K [y]
  | _=>none
abbrev Jfb (P:Program) (T:TypeId) (e:PV) (K:List PV→Option R):Option R :=
 Jk2 (Jai P T) (cks P 20 T) e K
abbrev Jk0 (P:Program) (op:BinOp) (T:TypeId) (x y:PV) (K:PV→Option R):Option R :=
 match x,y with
 | .v (.int k a),.v (.int k' b)=>Jay (Jde op) (shI op k a b K) (Jay (Jea k k') (Jka op k a b K) (none))
 | .v (.string a),.v (.string b)=>Jkb op a b K
 | .agg xa,.agg bs=>Jay (eqT P T) (Jih (cks P 20 T) xa fun xs=>Jih (cks P 20 T) bs fun ys=>eqO op (Jbz xs ys) K) (none)
 | .v (.bool a),.v (.bool b)=>Jay (Jic P T) ((match op with
  | .eql=>K (.v (.bool (a == b)))
  | .neq=>K (.v (.bool (!(a == b))))
  | _=>none)) (none)
 | _,_=>none
abbrev Ji4 (fs:FS) (args:List RV) (K:Out→Option R):Option R :=
 match JbL fs.om args with
 | some (avs,us,bs) =>
  Jay (Jap (us.map (·.1)++bs)) (fs.run avs fun res =>
   let n:=res.length - bs.length
   K ⟨Ji0 (res.take n),none,us++JgR bs (res.drop n),bs⟩) (none)
 | none=>none
abbrev Jjx (P:Program) (r:RV) (K:Out→Option R):Option R :=
 match r with
 | .box s off _ cs=>Jay (Nat.blt off cs.length) ((match cs.getD off .dead with
  | .p y=>K (JaM y)
  | .nl=>K (out .nl)
  | .own _ _=>K (JiP (.o s (some off)))
  | _=>none)) (none)
 | .el _ _ T' es i off=>Jfb P T' (es.getD i (.v (.bool false))) fun ys=>Jay (Nat.blt off ys.length) (K (JaM (ys.getD off (.v (.bool false))))) (none)
 | .pv (.fb cs)=>JdT cs fun y _=>K (JaM y)
 | _=>none
abbrev Jjy (P:Program) (n:Nat) (r:RV) (K:Out→Option R):Option R :=
 match r with
 | .box s off Tb cs=>Jay (Nat.ble (off + n) cs.length) ((match Jdu ((cs.drop off).take n) with
  | some ys=>K ⟨.p (.agg ys),none,(Jay (Jch ((cs.drop off).take n)) ([(s,.bx Tb (splice cs off ys))]) ([])),[]⟩
  | none=>none)) (none)
 | .el _ _ T' es i off=>Jfb P T' (es.getD i (.v (.bool false))) fun ys=>Jay (Nat.ble (off + n) ys.length) (K (JaM (.agg ((ys.drop off).take n)))) (none)
 | .pv (.fb cs)=>Jay (Nat.ble n cs.length) (K (JaM (.agg (cs.take n)))) (none)
 | _=>none
abbrev JiW (P:Program) (r:RV) (x:Operand) (y:RV) (K:Out→Option R):Option R :=
 match r with
 | .box s off Tb cs=>Jay (Nat.blt off cs.length) ((match y with
  | .pv z=>Jay (z.leaf) (K ⟨.dead,none,[(s,.bx Tb (cs.set off (.p z)))],[s]⟩) (none)
  | .nl=>K ⟨.dead,none,[(s,.bx Tb (cs.set off .nl))],[s]⟩
  | .own s2 cx2 T2 es2=>Jay (Nat.beq s2 s) (none) (Jay (JaP x s2 cx2) (K ⟨.dead,none,[(s,.bx Tb (cs.set off (.own T2 es2))),(s2,.dead)],[s]⟩) (K ⟨.dead,none,[(s,.bx Tb (cs.set off (.p (.sh es2)))),Jaz s2 cx2 (.p (.sh es2))],[s]⟩))
  | _=>none)) (none)
 | .el s cx T' es i off=>match y with
  | .pv z=>Jay (z.leaf) (Jfb P T' (es.getD i (.v (.bool false))) (fun ys=>Jay (Nat.blt off ys.length) (K ⟨.dead,none,[Jaz s cx (.own T' (es.set i (mkE (Jai P T') (ys.set off z))))],[]⟩) (none))) (none)
  | .nl=>Jfb P T' (es.getD i (.v (.bool false))) fun ys=>Jay (Nat.blt off ys.length) (K ⟨.dead,none,[Jaz s cx (.own T' (es.set i (mkE (Jai P T') (ys.set off (.sh [])))))],[]⟩) (none)
  | .own s2 cx2 _ es2=>Jay (Nat.beq s2 s) (none) (Jfb P T' (es.getD i (.v (.bool false))) fun ys=>Jay (Nat.blt off ys.length) (K ⟨.dead,none,[Jaz s cx (.own T' (es.set i (mkE (Jai P T') (ys.set off (.sh es2))))),Jaz s2 cx2 (.p (.sh es2))],[]⟩) (none))
  | _=>none
 | _=>none
abbrev JiX (P:Program) (n:Nat) (r:RV) (y:RV) (K:Out→Option R):Option R :=
 match y with
 | .pv (.agg zs)=>Jay (Nat.beq zs.length n&&Jan zs) ((match r with
  | .box s off Tb cs=>Jay (Nat.ble (off + n) cs.length) (K ⟨.dead,none,[(s,.bx Tb (splice cs off zs))],[s]⟩) (none)
  | .el s cx T' es i off=>Jfb P T' (es.getD i (.v (.bool false))) fun ys=>Jay (Nat.ble (off + n) ys.length) (K ⟨.dead,none,[Jaz s cx (.own T' (es.set i (mkE (Jai P T') (Jaw ys off zs))))],[]⟩) (none)
  | _=>none)) (none)
 | .st s2 ds=>Jay (Nat.beq ds.length n) ((match r with
  | .box s off Tb cs=>Jay (!(Nat.beq s2 s)&&Nat.ble (off + n) cs.length) (K ⟨.dead,none,[(s,.bx Tb (cs.take off++ds++cs.drop (off + n))),(s2,.dead)],[s]⟩) (none)
  | _=>none)) (none)
 | _=>none
abbrev JkI (n:Nat) (r:RV) (K:Out→Option R):Option R :=
 match r with
 | .box s off Tb cs=>Jay (Nat.ble (off + n) cs.length) (K ⟨.st ((cs.drop off).take n),none,[(s,.bx Tb (cs.take off++List.replicate n .dead++cs.drop (off + n)))],[]⟩) (none)
 | _=>none
abbrev Jie (P:Program) (T:TypeId) (fs:List Nat) (vs:Option (List PV × List (Nat × SV))) (K:Out→Option R):Option R :=
 match P.underlying T,JcG P T,vs with
 | some (.struct gs),some zs,some (ys,us)=>Jay (Jap (us.map (·.1))&&JaW zs&&Jb8 P gs.toList) ((match Jdx P T (fs.zip ys) (zs.map .v) with
  | some cs=>K ⟨.st (cs.map psv),none,us,[]⟩
  | none=>none)) (none)
 | _,_,_=>none
abbrev JcR (n bytes:Nat) (E:TypeId) (s x:RV) (K:Out→Option R):Option R :=
 match s with
 | .own s1 cx T es=>Jay (Nat.beq T E) ((match x with
  | .nl=>K ⟨.own T es,none,[Jaz s1 cx .dead],[]⟩
  | .pv (.sh es2)=>bif Jgw n es2&&Jbu (es.length + es2.length) bytes then K ⟨.own T (es++es2),none,[Jaz s1 cx .dead],[]⟩ else none
  | .own s2 _ T2 es2=>Jay (Nat.beq T2 E&&!(Nat.beq s1 s2)) ((bif Jbu (es.length + es2.length) bytes then K ⟨.own T (es++es2),none,[Jaz s1 cx .dead],[]⟩ else none)) (none)
  | _=>none)) (none)
 | .nl=>(match x with
  | .nl=>K (out .nl)
  | .pv (.sh es2)=>bif Jgw n es2&&Jbu es2.length bytes then K (out (.own E es2)) else none
  | .own _ _ T2 es2=>Jay (Nat.beq T2 E) ((bif Jbu es2.length bytes then K (out (.own E es2)) else none)) (none)
  | _=>none)
 | _=>none
abbrev Jc5 (app:Nat→Nat→TypeId→RV→RV→(Out→Option R)→Option R) (P:Program) (b:Builtin) (tys:List TypeId) (args:List RV) (K:Out→Option R):Option R :=
 match b,args with
 | .len,[x]=>Jay (Jkw P tys x) (Jkv x K) (none)
 | .append,[s,x]=>(match tys with
  | [t,t2]=>Jay (Nat.beq t t2) ((match Jbe P t with
      | some E=>(match Jal P E,JcJ P E with
       | some n,some bytes=>Jay (Nat.blt 0 n&&Ja9 P E) (app n bytes E s x K) (none)
       | _,_=>none)
      | none=>none)) (none)
  | _=>none)
 | .min,[.pv (.v (.int k a)),.pv (.v (.int k' b))]=>Jay (Jea k k') (K (JaM (.v (.int k (JgL a b))))) (none)
 | .min,[.pv (.v (.int k a)),.pv (.v (.int k' b)),.pv (.v (.int k'' c))]=>Jay (Jea k k'&&Jea k k'') (K (JaM (.v (.int k (JgL (JgL a b) c))))) (none)
 | .max,[.pv (.v (.int k a)),.pv (.v (.int k' b))]=>Jay (Jea k k') (K (JaM (.v (.int k (JkT a b))))) (none)
 | _,_=>none
abbrev Jci (P:Program) (b:Builtin) (tys:List TypeId) (args:List RV) (K:Out→Option R):Option R:=Jc5 JcR P b tys args K
abbrev Jd5 (P:Program) (src:TypeId) (es:List PV) (K:Out→Option R):Option R :=
 match Jbe P src with
 | some e=>(match P.underlying e with
  | some (.int .u8)=>bif Jeo es then K (JaM (.v (.string (JgH es)))) else none
  | _=>none)
 | none=>none
abbrev JfI (P:Program) (src dst:TypeId) (x:RV) (K:Out→Option R):Option R :=
 Jay (!(JaH P src)) (none) (match P.underlying dst,x with
 | some (.int k),.pv (.v (.int _ n))=>K (JaM (.v (.int k (k.wrap n))))
 | some .string,.pv (.v (.string s))=>K (JaM (.v (.string s)))
 | some .string,.pv (.v (.int _ n))=>K (JaM (.v (.string (Utf8.encode n))))
 | some .string,.pv (.sh es)=>Jd5 P src es K
 | some .string,.own _ _ _ es=>Jd5 P src es K
 | some .string,.nl=>Jd5 P src [] K
 | some (.slice _),.pv (.v (.string s))=>Jay (Jhm P src&&Jjw P dst) ((bif Jbu s.size 1 then K (JaM (.sh (Jcw s))) else none)) (none)
 | _,_=>none)
abbrev Jef (P:Program) (T:TypeId) (x:RV) (lo hi:Option RV) (K:Out→Option R):Option R :=
 match P.underlying T,x with
 | some .string,.pv (.v (.string s))=>(match Jas lo 0,Jas hi (s.size:Int) with
  | some l,some h=>bif Je5 l h s.size then K (JaM (.v (.string (s.extract l.toNat h.toNat)))) else none
  | _,_=>none)
 | some (.slice E),.pv (.sh es)=>(match Jal P E,Jas lo 0,Jas hi (es.length:Int) with
  | some n,some l,some h=>bif Jgw n es&&Je5 l h es.length then K (JaM (.sh ((es.take h.toNat).drop l.toNat))) else none
  | _,_,_=>none)
 | some (.slice E),.own s cx T' es=>(match Jal P E,Jas lo 0,Jas hi (es.length:Int) with
  | some n,some l,some h=>Jay (Nat.beq T' E) ((bif Je5 l h es.length then K ⟨.p (.sh ((es.take h.toNat).drop l.toNat)),none,[Jaz s cx (.p (.sh es))],[]⟩ else none)) (none)
  | _,_,_=>none)
 | some (.slice E),.nl=>Jay (Je P E) ((match Jas lo 0,Jas hi 0 with
  | some l,some h=>bif Je5 l h 0 then K (out .nl) else none
  | _,_=>none)) (none)
 | _,_=>none
abbrev Jfm (P:Program) (T:TypeId) (x i:RV) (K:Out→Option R):Option R :=
 match Jbe P T,i with
 | some E,.pv (.v (.int _ i))=>(match Jal P E with
  | some n=>(match x with
   | .own s cx T' es=>Jay (Nat.beq T' E) ((bif inR i es.length then K (JiP (.e s (cx.map (·.1)) T' i.toNat 0)) else none)) (none)
   | .pv (.sh es)=>bif inR i es.length then Jfb P E (es.getD i.toNat (.v (.bool false))) (fun ys=>Jay (Nat.beq ys.length n) (K (JaM (.fb ys))) (none)) else none
   | _=>none)
  | none=>none)
 | _,_=>none
abbrev Jl (bi:Program→Builtin→List TypeId→List RV→(Out→Option R)→Option R) (sl:Program→TypeId→RV→Option RV→Option RV→(Out→Option R)→Option R) (cv:Program→TypeId→TypeId→RV→(Out→Option R)→Option R) (P:Program) (env:Env) (o:Op) (ty:TypeId) (ρ:Operand→RV) (K:Out→Option R):Option R :=
 match o with
 | .move x=>Jbv (ρ x) K
 | .assign x=>(match ρ x with
  | .own s cx T es=>Jay (JaP x s cx) (K ⟨.own T es,none,[(s,.dead)],[]⟩) (K ⟨.p (.sh es),none,[Jaz s cx (.p (.sh es))],[]⟩)
  | .pv y=>K (JaM y)
  | .nl=>K (out .nl)
  | .tup s l=>K ⟨.tup l,none,[(s,.dead)],[]⟩
  | .st s l=>K ⟨.st l,none,[(s,.dead)],[]⟩
  | _=>none)
 | .pick c a b=>(match ρ c with
  | .pv (.v (.bool t))=>(match ρ a,ρ b with
   | .pv (.v (.bool x)),.pv (.v (.bool y))=>K (JaM (.v (.bool (bif t then x else y))))
   | ra,rb=>bif t then Jbv ra K else Jbv rb K)
  | _=>none)
 | .alloc T=>(match JcG P T with
  | some zs=>Jay (JaW zs) (K (out (.bx T (zs.map zsv)))) (none)
  | none=>none)
 | .box T x=>(match Jal P T with
  | some n=>(match ρ x with
   | .pv y=>Jay (Nat.beq (cellsOf y).length n&&Jan (cellsOf y)) (K (out (.bx T ((cellsOf y).map .p)))) (none)
   | .nl=>Jay (Nat.beq n 1) (K (out (.bx T [.nl]))) (none)
   | .own s cx T2 es=>Jay (Nat.beq n 1) ((Jay (JaP x s cx) (K ⟨.bx T [.own T2 es],none,[(s,.dead)],[]⟩) (K ⟨.bx T [.p (.sh es)],none,[Jaz s cx (.p (.sh es))],[]⟩))) (none)
   | _=>none)
  | none=>none)
 | .build T parts=>(match P.underlying T,JcG P T,JaS (parts.toList.map fun q=>(q.2,ρ q.2)) with
  | some (.struct fs),some zs,some (ys,us)=>Jay (Jap (us.map (·.1))&&JaW zs&&Jb8 P fs.toList) ((match Jdx P T ((parts.toList.map (·.1)).zip ys) (zs.map cpv) with
   | some cs=>K ⟨.p (.agg cs),none,us,[]⟩
   | none=>none)) (none)
  | _,_,_=>none)
 | .buildSlice T len parts=>(match Jbe P T,JaS (parts.toList.map fun q=>(q.2,ρ q.2)) with
  | some E,some (ys,us)=>(match Je4 P E,Jal P E with
   | some ze,some n=>Jay (Jap (us.map (·.1))&&Nat.ble (len * n) 1000&&Jdl n len ((parts.toList.map (·.1)).zip ys)) (K ⟨.own E (Jdq ((parts.toList.map (·.1)).zip ys) (List.replicate len ze)),none,us,[]⟩) (none)
   | _,_=>none)
  | _,_=>none)
 | .load T x=>Jay (!(JaH P T)) (none) (Jay (Jai P T) ((match Jal P T with
  | some n=>Jjy P n (ρ x) K
  | none=>none)) (Jjx P (ρ x) K))
 | .store T x y=>Jay (Jai P T) ((match Jal P T with
  | some n=>JiX P n (ρ x) (ρ y) K
  | none=>none)) ((match Jal P T with
  | some n=>Jay (Nat.beq n 1) (JiW P (ρ x) y (ρ y) K) (none)
  | none=>none))
 | .nilCheck x=>(match ρ x with
  | .box s off Tb cs=>Jbv (.box s off Tb cs) K
  | .ob s T e bs=>Jbv (.ob s T e bs) K
  | .el s cx T es i off=>Jbv (.el s cx T es i off) K
  | .pv (.fb cs)=>K (JaM (.fb cs))
  | .pv (.clo f cs)=>K (JaM (.clo f cs))
  | .pv (.v (.func (.func f) a b))=>K (JaM (.v (.func (.func f) a b)))
  | _=>none)
 | .binOp op T x y _=>(match ρ x,ρ y with
  | .pv a,.pv b=>Jk0 P op T a b fun z=>K (JaM z)
  | _,_=>none)
 | .unOp op _ x=>(match ρ x with
  | .pv a=>unK op a fun z=>K (JaM z)
  | _=>none)
 | .convert s d x=>cv P s d (ρ x) K
 | .makeFunc (.func f) first caps=>(match first.toList,JaS (caps.toList.map fun q=>(q,ρ q)) with
  | [],some (ys,us)=>Jay (Jap (us.map (·.1))) (K ⟨.p (.clo f ys),none,us,[]⟩) (none)
  | _,_=>none)
 | .makeSlice T l c=>(match Jbe P T,ρ l,ρ c with
  | some E,.pv (.v (.int _ l)),.pv (.v (.int _ c))=>(match Je4 P E,JcJ P E with
   | some ze,some bytes=>bif decide (0≤l)&&decide (l≤c)&&Jbu c.toNat bytes then K (out (.own E (List.replicate l.toNat ze))) else none
   | _,_=>none)
  | _,_,_=>none)
 | .slice T x lo hi mx=>Jay (JjB mx) (sl P T (ρ x) (lo.map ρ) (hi.map ρ) K) (none)
 | .fieldAddr S x f=>(match Jiz P S f with
  | some (o,fT)=>Jay (Jh6 P fT) ((match ρ x with
   | .box s off _ _=>K (JiP (.b s (off + o)))
   | .el s cx T _ i off=>K (JiP (.e s (cx.map (·.1)) T i (off + o)))
   | .pv (.fb cs)=>K (JaM (.fb (cs.drop o)))
   | _=>none)) (none)
  | none=>none)
 | .field S x f=>(match Jiz P S f,ρ x with
  | some (o,T),.pv (.agg cs)=>Jay (!(JaH P T)) (none) ((match Jal P T with
   | some n=>Jay (Jai P T) ((Jay (Nat.ble (o + n) cs.length) (K (JaM (.agg ((cs.drop o).take n)))) (none))) ((Jay (Nat.blt o cs.length) (K (JaM (cs.getD o (.v (.bool false))))) (none)))
   | none=>none))
  | _,_=>none)
 | .indexAddr T x i=>Jfm P T (ρ x) (ρ i) K
 | .index T x i=>(match P.underlying T,ρ x,ρ i with
  | some .string,.pv (.v (.string s)),.pv (.v (.int _ i))=>bif inR i s.size then K (JaM (.v (.int .u8 (Jc6 s i)))) else none
  | _,_,_=>none)
 | .extract x i=>(match ρ x with
  | .tup s l=>(match l.getD i .dead with
   | .p y=>K (JaM y)
   | .nl=>K (out .nl)
   | .own T es=>K ⟨.own T es,none,[(s,.tup (l.set i .dead))],[]⟩
   | .bx T cs=>K ⟨.bx T cs,none,[(s,.tup (l.set i .dead))],[]⟩
   | .ob T e bs=>K ⟨.ob T e bs,none,[(s,.tup (l.set i .dead))],[]⟩
   | .st cs=>K ⟨.st cs,none,[(s,.tup (l.set i .dead))],[]⟩
   | _=>none)
  | _=>none)
 | .call c=>(match c.callee with
  | .builtin b=>bi P b c.argTypes.toList (c.args.toList.map ρ) K
  | .value f=>(match ρ f with
   | .pv (.v (.func (.func g) fi ca))=>(match fi.toList,ca.toList,env g with
    | [],[],some fs=>Ji4 fs (c.args.toList.map ρ) K
    | _,_,_=>none)
   | .pv (.clo g caps)=>(match env g with
    | some fs=>Ji4 fs (c.args.toList.map ρ++caps.map RV.pv) K
    | none=>none)
   | _=>none)
  | _=>none)
 | _=>none
abbrev JkU (P:Program) (env:Env) (o:Op) (ty:TypeId) (ρ:Operand→RV) (K:Out→Option R):Option R:=Jl Jci Jef JfI P env o ty ρ K
abbrev Jk8 (ok:Program→Env→Op→TypeId→(Operand→RV)→(Out→Option R)→Option R) (P:Program) (env:Env) (fz:List Nat) (o:Oper) (ρ:Operand→RV) (K:Out→Option R):Option R :=
 match o.op with
 | .move x=>(match o.dst with
  | some d=>Jay (Jbf fz d) (Jdd (ρ x) K) (Jbv (ρ x) K)
  | none=>Jbv (ρ x) K)
 | .build T parts=>Jay (JdR fz o.dst) (Jie P T (parts.toList.map (·.1)) (JaS (parts.toList.map fun q=>(q.2,ρ q.2))) K) (ok P env (.build T parts) o.type ρ K)
 | .load T x=>Jay (JdR fz o.dst&&Jai P T&&JaH P T) ((match Jal P T with
  | some n=>JkI n (ρ x) K
  | none=>none)) (ok P env (.load T x) o.type ρ K)
 | op=>ok P env op o.type ρ K
abbrev Jk9 (P:Program) (env:Env) (fz:List Nat) (o:Oper) (ρ:Operand→RV) (K:Out→Option R):Option R:=Jk8 JkU P env fz o ρ K
abbrev JkR (P:Program) (env:Env) (fz:List Nat) (N:Nat × List Nat) (o:Oper) (st:St) (K:St→Out→Option R):Option R :=
 Jk9 P env fz o (opd st) fun r=>Jay (r.fits N o.dst) (K st r) (none)
abbrev Jlg (N:Nat × List Nat) (o:Oper) (st:St) (K:St→Out→Option R):Option R :=
 Jay (Jce.fits N o.dst) (K st Jce) (none)
abbrev JhN (go:(Program→Env→List Nat→Nat × List Nat→Oper→St→(St→Out→Option R)→Option R)) (sk:Nat × List Nat→Oper→St→(St→Out→Option R)→Option R) (P:Program) (env:Env) (fz:List Nat) (N:Nat × List Nat) (ops:List Oper) (o:Oper) (st:St) (K:St→Out→Option R):Option R :=
 match o.guard with
 | none=>go P env fz N o st K
 | some (j,want)=>match (ops[j]?).bind (·.dst) with
  | none=>none
  | some d=>match Jax st.ral d with
   | some _=>none
   | none=>match st.fr d with
    | .p (.v (.bool t)) =>
     bif t then (Jay (want) (go P env fz N o (JgP st d true) K) (sk N o (JgP st d true) K))
     else (Jay (want) (sk N o (JgP st d false) K) (go P env fz N o (JgP st d false) K))
    | .p (.v (.tuple _))=>sk N o st K
    | _=>none
abbrev JdP (P:Program) (env:Env) (fz:List Nat) (N:Nat × List Nat) (ops:List Oper) (o:Oper) (st:St) (K:St→Out→Option R):Option R:=JhN JkR Jlg P env fz N ops o st K
abbrev JiO (P:Program) (env:Env) (fz:List Nat) (N:Nat × List Nat) (ops:List Oper):List Oper→St→(St→Option R)→Option R
 | [],st,K=>K st
 | o::r,st,K=>JdP P env fz N ops o st fun st' out=>JiO P env fz N ops r (st'.put o.dst out) K
abbrev JhQ (P:Program) (env:Env) (fz:List Nat) (N:Nat × List Nat) (ops:List Oper):List Oper→St→List Fp→(St→List Fp→Option R)→Option R
 | [],st,tr,K=>K st tr
 | o::r,st,tr,K=>JdP P env fz N ops o st fun st' out=>JhQ P env fz N ops r (st'.put o.dst out) (tr++[Jbr ops o st' out]) K
abbrev JiR (P:Program) (env:Env) (fz:List Nat) (N:Nat × List Nat) (ops:List Oper) (draw:Bool) (fr:Fr) (K:Fr→Option R):Option R :=
 Jay (draw) ((Jay (P.follows .mixedOrders) (JhQ P env fz N ops ops ⟨fr,[]⟩ [] fun st tr=>Jay (Jdk ops tr) (K st.fr) (none)) (none))) (JiO P env fz N ops ops ⟨fr,[]⟩ fun st=>K st.fr)
abbrev Jju (P:Program) (ann:Ann) (fn:Func) (args:List SV) (fr:Fr) (K:List SV→Option R):Option R :=
 match Jbi P (fn.ntmps,JaC 0 args) ann.rm fn.results.toList fr with
 | none=>none
 | some fr=>match Jh7 P fr ann.rm fn.results.toList,Je9 fr (JaC 0 args) with
  | some rs,some bs=>Jay (Jap (Jat fn.results.toList++JaC 0 args)&&Nat.ble rs.length 4) (K (rs++bs)) (none)
  | _,_=>none
abbrev JcU (P:Program) (env:Env) (ann:Ann) (N:Nat × List Nat) (lo cu:Orc R):Code→Fr→Kc R→Option R
 | .skip,fr,K=>K .normal fr
 | .region _ ops draw,fr,K=>JiR P env ann.frz N ops.toList draw fr fun fr'=>K .normal fr'
 | .seq a b,fr,K=>JcU P env ann N lo cu a fr fun e fr'=>match e with
  | .normal=>(match JaL b with
   | some i=>Jay (isA ann.cuts i) (cu i (JcQ (JcA ann.cuts i) fr') K) (JcU P env ann N lo cu b fr' K)
   | none=>JcU P env ann N lo cu b fr' K)
  | .exit i=>K (.exit i) fr'
  | .ret=>K .ret fr'
 | .cond c a b,fr,K=>(match opd ⟨fr,[]⟩ c with
  | .pv (.v (.bool t))=>bif t then JcU P env ann N lo cu a fr K else JcU P env ann N lo cu b fr K
  | _=>none)
 | .block id a,fr,K=>JcU P env ann N lo cu a fr fun e fr'=>match e with
  | .exit i=>Jay (Nat.beq i id) (K .normal fr') (K (.exit i) fr')
  | .normal=>K .normal fr'
  | .ret=>K .ret fr'
 | .loop a,fr,K=>(match JaL a with
  | some i=>Jay (isA ann.loops i) (lo i (JcQ (JcA ann.loops i) fr) K) (none)
  | none=>none)
 | .exit i,fr,K=>K (.exit i) fr
 | .ret,fr,K=>K .ret fr
 | _,_,_=>none
abbrev Ji7 (P:Program) (env:Env) (ann:Ann) (lo cu:Orc R) (fn:Func) (args:List SV) (K:List SV→Option R):Option R :=
 match fn.body with
 | some c=>Jay (Nat.ble args.length fn.ntmps) (JcU P env ann (fn.ntmps,JaC 0 args) lo cu c (JgW args) fun e fr=>match e with
  | .exit _=>none
  | .normal=>Jju P ann fn args fr K
  | .ret=>Jju P ann fn args fr K) (none)
 | none=>none
theorem JbP {α:Type} (b:Bool) (x y:α):Jay b x y=cond b x y:=by cases b <;> rfl
theorem Jd7 {α:Type} (a b:Bool) (x y:α):(bif a&&b then x else y)=(bif a then (bif b then x else y) else y):=by cases a <;> cases b <;> rfl
theorem Jgi:@Jd5 R=@Jcj R:=by kernel_rfl
theorem Je7:@JcR R=@Jb9 R:=by
 funext n bytes E s x K
 unfold JcR Jb9
 simp only [JbP,Jd7]
 kernel_rfl
theorem Jhc:@JfI R=@Jfc R:=by
 funext P s d x K
 unfold JfI Jfc
 simp only [JbP,Jd7,Jgi]
 kernel_rfl
theorem JgG:@Jef R=@Jdr R:=by
 funext P T x lo hi K
 unfold Jef Jdr
 simp only [JbP,Jd7]
 kernel_rfl
theorem Jeq:@Jc5 R Jb9=@JaB R:=by kernel_rfl
theorem Jer:@Jci R=@JaB R:=by
 rw [←Jeq]
 funext P b tys args K
 rw [show @Jci R=fun P b tys args K=>Jc5 JcR P b tys args K from rfl,Je7]
theorem JjH:@Jl R JaB Jdr Jfc=@opK R:=by kernel_rfl
theorem JjI:@JkU R=@opK R:=by
 rw [←JjH]
 funext P env o ty ρ K
 rw [show @JkU R=fun P env o ty ρ K=>Jl Jci Jef JfI P env o ty ρ K from rfl,Jer,JgG,Jhc]
theorem JjE:@Jk8 R opK=@opF R:=by kernel_rfl
theorem JjG:@Jk9 R=@opF R:=by
 rw [←JjE]
 funext P env fz o ρ K
 rw [show @Jk9 R=fun P env fz o ρ K=>Jk8 JkU P env fz o ρ K from rfl,JjI]
theorem Jjv:@JkR R=@goO R:=by
 funext P env fz N o st K
 unfold JkR goO
 rw [JjG]
 kernel_rfl
theorem JjT:@Jlg R=@skO R:=by kernel_rfl
theorem JhO:@JhN R goO skO=@JaT R:=by kernel_rfl
theorem JeV:@JdP R=@JaT R:=by
 rw [←JhO]
 funext P env fz N ops o st K
 rw [show @JdP R=fun P env fz N ops o st K=>JhN JkR Jlg P env fz N ops o st K from rfl,Jjv,JjT]
theorem Jf5 (P:Program) (env:Env) (fz:List Nat) (N:Nat × List Nat) (ops:List Oper):∀ (l:List Oper) (st:St) (K:St→Option R),JiO P env fz N ops l st K=JgM P env fz N ops l st K
 | [],st,K=>rfl
 | o::r,st,K=>by
  show JdP P env fz N ops o st (fun st' out=>JiO P env fz N ops r (st'.put o.dst out) K)=JaT P env fz N ops o st (fun st' out=>JgM P env fz N ops r (st'.put o.dst out) K)
  rw [JeV]
  congr 1
  funext st' out
  exact Jf5 P env fz N ops r _ K
theorem Jf4 (P:Program) (env:Env) (fz:List Nat) (N:Nat × List Nat) (ops:List Oper):∀ (l:List Oper) (st:St) (tr:List Fp) (K:St→List Fp→Option R),JhQ P env fz N ops l st tr K=JgB P env fz N ops l st tr K
 | [],st,tr,K=>rfl
 | o::r,st,tr,K=>by
  show JdP P env fz N ops o st (fun st' out=>JhQ P env fz N ops r (st'.put o.dst out) (tr++[Jbr ops o st' out]) K)=JaT P env fz N ops o st (fun st' out=>JgB P env fz N ops r (st'.put o.dst out) (tr++[Jbr ops o st' out]) K)
  rw [JeV]
  congr 1
  funext st' out
  exact Jf4 P env fz N ops r _ _ K
theorem JiS:@JiR R=@JgO R:=by
 funext P env fz N ops draw fr K
 unfold JiR JgO
 cases draw with
 | true =>
  show Jay (P.follows .mixedOrders) (JhQ P env fz N ops ops ⟨fr,[]⟩ [] fun st tr=>Jay (Jdk ops tr) (K st.fr) none) none=bif P.follows .mixedOrders then JgB P env fz N ops ops ⟨fr,[]⟩ [] (fun st tr=>bif Jdk ops tr then K st.fr else none) else none
  rw [JbP,Jf4]
  kernel_rfl
 | false=>exact Jf5 P env fz N ops ops _ _
theorem Jix:@Jju R=@Jhj R:=by kernel_rfl
theorem Jhi {P:Program} {env:Env} {ann:Ann} {N:Nat × List Nat} {lo cu:Orc R}:∀ (c:Code) (fr:Fr) (K:Kc R),JcU P env ann N lo cu c fr K=evO P env ann N lo cu c fr K:=by
 intro c
 induction c with
 | region id ops draw =>
  intro fr K
  show JiR P env ann.frz N ops.toList draw fr _=JgO P env ann.frz N ops.toList draw fr _
  rw [JiS]
 | seq a b iha ihb =>
  intro fr K
  have h:∀ fr K,JcU P env ann N lo cu b fr K=evO P env ann N lo cu b fr K:=ihb
  have hf:JcU P env ann N lo cu b=evO P env ann N lo cu b:=funext fun fr=>funext fun K=>h fr K
  show JcU P env ann N lo cu a fr (fun e fr'=>match e with
   | .normal=>(match JaL b with
    | some i=>Jay (isA ann.cuts i) (cu i (JcQ (JcA ann.cuts i) fr') K) (JcU P env ann N lo cu b fr' K)
    | none=>JcU P env ann N lo cu b fr' K)
   | .exit i=>K (.exit i) fr'
   | .ret=>K .ret fr')=_
  rw [iha,hf]
  kernel_rfl
 | cond c a b iha ihb =>
  intro fr K
  have h1:JcU P env ann N lo cu a=evO P env ann N lo cu a:=funext fun fr=>funext fun K=>iha fr K
  have h2:JcU P env ann N lo cu b=evO P env ann N lo cu b:=funext fun fr=>funext fun K=>ihb fr K
  show (match opd ⟨fr,[]⟩ c with
   | .pv (.v (.bool t))=>bif t then JcU P env ann N lo cu a fr K else JcU P env ann N lo cu b fr K
   | _=>none)=_
  rw [h1,h2]
  kernel_rfl
 | block id a ih =>
  intro fr K
  show JcU P env ann N lo cu a fr (fun e fr'=>match e with
   | .exit i=>Jay (Nat.beq i id) (K .normal fr') (K (.exit i) fr')
   | .normal=>K .normal fr'
   | .ret=>K .ret fr')=_
  rw [ih]
  kernel_rfl
 | loop a ih=>intro fr K; kernel_rfl
 | _=>intro fr K; rfl
theorem JfT {P:Program} {env:Env} {ann:Ann} {n:Nat} {N:Nat × List Nat} {lo cu:Orc R} (c:Code) (h:Je6 (JcH P env ann n N lo cu) (JaJ ann c)) (fr:Fr) (K:Kc R) :
 evC P env ann n N c fr K=JcU P env ann N lo cu c fr K:=by rw [Jhh c h,Jhi]
theorem Jkp {P:Program} {env:Env} {ann:Ann} {n:Nat} {lo cu:Orc R} {fn:Func} {c:Code} (hc:fn.body=some c) {args:List SV} (h:Je6 (JcH P env ann n (fn.ntmps,JaC 0 args) lo cu) (JaJ ann c)) (K:List SV→Option R) :
 Jh4 P env ann n fn args K=Ji7 P env ann lo cu fn args K:=by
 rw [Jiw hc h]
 unfold Ji7 Jjs
 have h1:JcU P env ann (fn.ntmps,JaC 0 args) lo cu=evO P env ann (fn.ntmps,JaC 0 args) lo cu:=funext fun c=>funext fun fr=>funext fun K=>Jhi c fr K
 rw [h1,Jix]
 rw [hc]
 exact (JbP _ _ _).symm
end Go.Proofs.YtmgfmlhdnadglaaGreatDoor.Th
set_option linter.unusedVariables false
namespace Go.Proofs.YtmgfmlhdnadglaaGreatDoor.Th
open Go
abbrev JfJ {α:Type _} (b:Bool) (x y:α):α:=match b with
 | true=>x
 | false=>y
abbrev Jjf {α:Type} (o:Option α) (d:α):α:=match o with
 | some a=>a
 | none=>d
abbrev JiE {α β:Type} (o:Option α) (k:α→Option β):Option β:=match o with
 | some a=>k a
 | none=>none
structure Sl (A:Type) where
 T:Type→Type
 ap:{r:Type}→A→T r→Option r
 all:{r:Type}→(A→r→Prop)→T r→Prop
 dom:A→Bool
 h1:∀ {r:Type} (x:A) (f:T r),(ap x f).isSome=dom x
 h2:∀ {r:Type} (P:A→r→Prop) (x:A) (f:T r) (g:r),all P f→ap x f=some g→P x g
 cur:{r:Type}→(A→r)→T r
 h3:∀ {r:Type} (P:A→r→Prop) (Y:A→r) (f:T r),(∀ x g,P x g→g=Y x)→all P f→f=cur Y
abbrev Sl.any {B:Type}:Sl B:=⟨fun r=>B→r,fun x f=>some (f x),fun P f=>∀ b,P b (f b),fun _=>true,fun _ _=>rfl,(fun P x f g h e=>by cases e; exact h x),fun X=>X,fun P Y f h a=>funext fun b=>h b _ (a b)⟩
abbrev Sl.one:Sl Unit:=⟨fun r=>r,fun _ f=>some f,fun P f=>P () f,fun _=>true,fun _ _=>rfl,(fun P x f g h e=>by cases e; exact h),fun X=>X (),fun P Y f h a=>h () f a⟩
abbrev Sl.comp {A B:Type} (enc:B→A) (view:A→Option B) (hv:∀ x b,view x=some b→x=enc b) (s:Sl B):Sl A :=
 ⟨s.T,fun x f=>JiE (view x) fun b=>s.ap b f,fun P f=>s.all (fun b g=>P (enc b) g) f,fun x=>JfJ (view x).isSome (Jjf ((view x).map s.dom) false) false,
  fun {r} x f=>by
   cases h:view x with
   | none=>rfl
   | some b=>exact s.h1 b f,
  fun {r} P x f g h e=>by
   cases hx:view x with
   | none=>rw [hx] at e; cases e
   | some b =>
    rw [hx] at e
    rw [hv x b hx]
    exact s.h2 _ b f g h e,
  fun X=>s.cur fun b=>X (enc b),fun P Y f h a=>s.h3 _ (fun b=>Y (enc b)) f (fun b g hg=>h (enc b) g hg) a⟩
abbrev Sl.n {A:Type}:Sl (List A):=⟨fun r=>r,fun l f=>match l with
 | []=>some f
 | _::_=>none,fun P f=>P [] f,fun l=>match l with
 | []=>true
 | _::_=>false,fun x f=>by cases x <;> rfl,(fun P x f g h e=>by
  cases x with
  | nil=>cases e; exact h
  | cons a l=>cases e),fun X=>X [],fun P Y f h a=>h [] f a⟩
abbrev Sl.c {A:Type} (s:Sl A) (t:Sl (List A)):Sl (List A):=⟨fun r=>s.T (t.T r),fun l f=>match l with
 | x::xs=>JiE (s.ap x f) fun g=>t.ap xs g
 | []=>none,fun P f=>s.all (fun x g=>t.all (fun xs h=>P (x::xs) h) g) f,fun l=>match l with
 | x::xs=>JfJ (s.dom x) (t.dom xs) false
 | []=>false,
 fun x f=>by
  cases x with
  | nil=>rfl
  | cons a l =>
   have h:=s.h1 a f
   show (JiE (s.ap a f) fun g=>t.ap l g).isSome=JfJ (s.dom a) (t.dom l) false
   rw [←h]
   cases h2:s.ap a f with
   | none=>rfl
   | some g=>exact t.h1 l g,
 fun {r} P x f g h e=>by
  cases x with
  | nil=>cases e
  | cons a l =>
   have e':JiE (s.ap a f) (fun g=>t.ap l g)=some g:=e
   cases h2:s.ap a f with
   | none=>rw [h2] at e'; cases e'
   | some g' =>
    rw [h2] at e'
    exact t.h2 _ l g' g (s.h2 _ a f g' h h2) e',
 fun X=>s.cur fun x=>t.cur fun xs=>X (x::xs),fun P Y f h a=>s.h3 _ (fun x=>t.cur fun xs=>Y (x::xs)) f (fun x g hg=>t.h3 _ _ g (fun xs g' hg'=>h (x::xs) g' hg') hg) a⟩
abbrev sP (s:Sl PV):Sl SV:=.comp .p (fun x=>match x with
 | .p y=>some y
 | _=>none) (fun x b h=>by cases x <;> first | (cases h; rfl) | cases h) s
abbrev sNl:Sl SV:=.comp (fun _=>.nl) (fun x=>match x with
 | .nl=>some ()
 | _=>none) (fun x b h=>by cases x <;> first | rfl | cases h) .one
theorem Ja3 {α:Type} {c:Bool} {a b:α} (h:JfJ c (some a) none=some b):c=true∧a=b:=by
 cases c
 · cases h
 · cases h; exact ⟨rfl,rfl⟩
abbrev Jlw (T:Nat):Sl SV:=.comp (fun es=>.own T es) (fun x=>match x with
 | .own T' es=>JfJ (Nat.beq T' T) (some es) none
 | _=>none) (fun x b h=>by
  split at h
  · obtain ⟨h1,h2⟩:=Ja3 h
    rw [Nat.eq_of_beq_eq_true h1,h2]
  · cases h) .any
abbrev sBx (T:Nat) (t:Sl (List SV)):Sl SV:=.comp (fun es=>.bx T es) (fun x=>match x with
 | .bx T' es=>JfJ (Nat.beq T' T) (some es) none
 | _=>none) (fun x b h=>by
  split at h
  · obtain ⟨h1,h2⟩:=Ja3 h
    rw [Nat.eq_of_beq_eq_true h1,h2]
  · cases h) t
abbrev sOb (T e:Nat):Sl SV:=.comp (fun b=>.ob T e b) (fun x=>match x with
 | .ob T' e' b=>JfJ (Nat.beq T' T&&Nat.beq e' e) (some b) none
 | _=>none) (fun x b h=>by
  split at h
  · obtain ⟨h1,h2⟩:=Ja3 h
    rw [Bool.and_eq_true] at h1
    rw [Nat.eq_of_beq_eq_true h1.1,Nat.eq_of_beq_eq_true h1.2,h2]
  · cases h) .any
abbrev Jlu (k:IntKind):Sl PV:=.comp (fun v=>.v (.int k v)) (fun x=>match x with
 | .v (.int k' v)=>JfJ (Jea k k') (some v) none
 | _=>none) (fun x b h=>by
  split at h
  · obtain ⟨h1,h2⟩:=Ja3 h
    rw [JbQ h1,h2]
  · cases h) .any
abbrev Jle:Sl PV:=.comp (fun v=>.v (.bool v)) (fun x=>match x with
 | .v (.bool v)=>some v
 | _=>none) (fun x b h=>by
  split at h
  · cases h; rfl
  · cases h) .any
abbrev Jlx:Sl PV:=.comp (fun v=>.v (.string v)) (fun x=>match x with
 | .v (.string v)=>some v
 | _=>none) (fun x b h=>by
  split at h
  · cases h; rfl
  · cases h) .any
abbrev Jlv (k:IntKind) (c:Int):Sl PV:=.comp (fun _=>.v (.int k c)) (fun x=>match x with
 | .v (.int k' v)=>JfJ (Jea k k'&&decide (v=c)) (some ()) none
 | _=>none) (fun x b h=>by
  split at h
  · obtain ⟨h1,h2⟩:=Ja3 h
    rw [Bool.and_eq_true] at h1
    rw [JbQ h1.1,of_decide_eq_true h1.2]
  · cases h) .one
theorem Jkn {a b:ByteArray} (h:eqS a b=true):a=b:=by
 unfold eqS at h
 have:=eq_of_beq h
 cases a; cases b
 rename_i a b
 cases a; cases b
 simp only at this
 rw [this]
abbrev Jly (c:ByteArray):Sl PV:=.comp (fun _=>.v (.string c)) (fun x=>match x with
 | .v (.string v)=>JfJ (eqS v c) (some ()) none
 | _=>none) (fun x b h=>by
  split at h
  · obtain ⟨h1,h2⟩:=Ja3 h
    rw [Jkn h1]
  · cases h) .one
abbrev sSh:Sl PV:=.comp .sh (fun x=>match x with
 | .sh y=>some y
 | _=>none) (fun x b h=>by cases x <;> first | (cases h; rfl) | cases h) .any
abbrev JlH (t:Sl (List PV)):Sl PV:=.comp .agg (fun x=>match x with
 | .agg y=>some y
 | _=>none) (fun x b h=>by cases x <;> first | (cases h; rfl) | cases h) t
abbrev sFb (t:Sl (List PV)):Sl PV:=.comp .fb (fun x=>match x with
 | .fb y=>some y
 | _=>none) (fun x b h=>by cases x <;> first | (cases h; rfl) | cases h) t
abbrev JlI (g:Nat) (t:Sl (List PV)):Sl PV:=.comp (fun y=>.clo g y) (fun x=>match x with
 | .clo g' y=>JfJ (Nat.beq g' g) (some y) none
 | _=>none) (fun x b h=>by
  split at h
  · obtain ⟨h1,h2⟩:=Ja3 h
    rw [Nat.eq_of_beq_eq_true h1,h2]
  · cases h) t
abbrev sFn (g:Nat):Sl PV:=.comp (fun _=>.v (.func (.func g) #[] #[])) (fun x=>match x with
 | .v (.func (.func g') l c)=>(match l.toList,c.toList with
  | [],[]=>JfJ (Nat.beq g' g) (some ()) none
  | _,_=>none)
 | _=>none) (fun x b h=>by
  split at h
  · rename_i g' l c
    split at h
    · rename_i e1 e2
      obtain ⟨h1,h2⟩:=Ja3 h
      rw [Nat.eq_of_beq_eq_true h1]
      obtain ⟨l⟩:=l
      obtain ⟨c⟩:=c
      simp only at e1 e2
      rw [e1,e2]
    · cases h
  · cases h) .one
abbrev Jlf:Sl PV:=.comp (fun _=>.v (.pointer none)) (fun x=>match x with
 | .v (.pointer none)=>some ()
 | _=>none) (fun x b h=>by
  split at h
  · rfl
  · cases h) .one
abbrev Jkh {R:Type} (ann:Ann) (i:Nat) (f:Fr→Kc R→Option R) (vs:List SV) (K:Kc R):Option R:=Jgu f (JcA ann.cuts i) (JgN ann.cuts i) vs K
abbrev JcB {R:Type} (ann:Ann) (i:Nat) (f:Fr→Kc R→Option R) (m:Nat) (vs:List SV) (K:Kc R):Option R:=JcL f (JcA ann.loops i) (JgN ann.loops i) m vs K
theorem Sl.eq {A r:Type} (t:Sl A) (X:A→r) (x:A) (d:r) (f:t.T r) (hd:X x=d) (h:t.all (fun y g=>X y=g) f):X x=Jjf (t.ap x f) d:=by
 cases e:t.ap x f with
 | none=>exact hd
 | some g=>exact t.h2 _ x f g h e
section
variable {R:Type} {P:Program} {env:Env} {ann:Ann} {n:Nat} {N:Nat × List Nat} {lo cu:Orc R}
theorem JkV {i:Nat} {c:Code} (hp:Je6 (JcH P env ann n N lo cu) (JaJ ann c)) (t:Sl (List SV)) (F:Kc R→t.T (Option R)) {D:List SV→Kc R→Option R}
 (he:∀ K,t.all (fun vs r=>Jkh ann i (JcU P env ann N lo cu c) vs K=r) (F K))
 (hD:∀ vs K,Jkh ann i (evC P env ann n N c) vs K=D vs K) (vs:List SV) (K:Kc R) :
 Jkh ann i (evC P env ann n N c) vs K=Jjf (t.ap vs (F K)) (D vs K):=by
 have e:evC P env ann n N c=JcU P env ann N lo cu c:=funext fun fr=>funext fun K=>JfT c hp fr K
 refine t.eq (fun vs=>Jkh ann i (evC P env ann n N c) vs K) vs _ _ (hD vs K) ?_
 rw [e]; exact he K
theorem JkE {i:Nat} {c:Code} (hp:Je6 (JcH P env ann n N lo cu) (JaJ ann c)) (t:Sl (List SV)) (F:Kc R→t.T (Option R)) {D:List SV→Kc R→Option R}
 (he:∀ K,t.all (fun vs r=>JcB ann i (JcU P env ann N lo cu c) n vs K=r) (F K))
 (hD:∀ vs K,JcB ann i (evC P env ann n N c) n vs K=D vs K) (vs:List SV) (K:Kc R) :
 JcB ann i (evC P env ann n N c) n vs K=Jjf (t.ap vs (F K)) (D vs K):=by
 have e:evC P env ann n N c=JcU P env ann N lo cu c:=funext fun fr=>funext fun K=>JfT c hp fr K
 refine t.eq (fun vs=>JcB ann i (evC P env ann n N c) n vs K) vs _ _ (hD vs K) ?_
 rw [e]; exact he K
end
structure Good (P:Program) (env:Env) (ann:Ann) (n:Nat) (fn:Func) (run:(R:Type)→List SV→(List SV→Option R)→Option R):Prop where
 a:∀ R args K res,run R args K=some res→Jh4 P env ann n fn args K=some res
 d:∀ args,DetK fun R K=>run R args K
theorem Good.nil {P:Program} {env:Env} {ann:Ann} {n:Nat} {fn:Func}:Good P env ann n fn fun _ _ _=>none:=⟨fun _ _ _ _ h=>(nomatch h),fun _=>Ja⟩
theorem JfN {α:Type} {f g:(R:Type)→(α→Option R)→Option R} (h:DetK f) (e:∀ R K,f R K=g R K):DetK g:=by
 have:f=g:=funext fun R=>funext fun K=>e R K
 rw [←this]; exact h
theorem Good.cons {P:Program} {I:GInv} {env:Env} (henv:EnvOK P I env) {ann:Ann} {n:Nat} {fn:Func} (t:Sl (List SV)) (F:{R:Type}→(List SV→Option R)→t.T (Option R))
 (he:∀ {R:Type} (K:List SV→Option R),t.all (fun args r=>Jh4 P env ann n fn args K=r) (F K)) {D:(R:Type)→List SV→(List SV→Option R)→Option R} (hD:Good P env ann n fn D) :
 Good P env ann n fn fun R args K=>Jjf (t.ap args (F K)) (D R args K):=by
 refine ⟨fun R args K res h=>?_,fun args=>?_⟩
 · cases e:t.ap args (F K) with
   | none=>rw [e] at h; exact hD.a R args K res h
   | some g=>rw [e] at h; exact (t.h2 _ args (F K) g (he K) e).trans h
 · cases hd:t.dom args with
   | false =>
    refine JfN (hD.d args) fun R K=>?_
    have h:=t.h1 args (F K)
    rw [hd] at h
    cases e:t.ap args (F K) with
    | none=>rfl
    | some g=>rw [e] at h; cases h
   | true =>
    refine JfN (Jip (P:=P) henv.det ann n fn args) fun R K=>?_
    have h:=t.h1 args (F K)
    rw [hd] at h
    cases e:t.ap args (F K) with
    | none=>rw [e] at h; cases h
    | some g=>exact t.h2 _ args (F K) g (he K) e
theorem FSound.good {P:Program} {I:GInv} {env:Env} (henv:EnvOK P I env) {ann:Ann} {n:Nat} {fn:Func} {g:Nat} {fs:FS} (hg:P.funcs[g]? = some fn) (hr:Good P env ann n fn fun R args K=>@FS.run fs R args K)
 (hann:JgV P ann=true) (hb:fn.body.isNone=false) (hnm:(fn.name == "runtime.NumGoroutine")=false):FSound P I g fs :=
 FSound.of henv hann hg hb hnm (fun {R args K res} h=>hr.a R args K res h) hr.d
end Go.Proofs.YtmgfmlhdnadglaaGreatDoor.Th
set_option linter.unusedVariables false
set_option linter.unusedSimpArgs false
namespace Go.Proofs.YtmgfmlhdnadglaaGreatDoor.Th
open Go Go.Proofs Go.Shelf Go.RowKit
section
variable {P:Program} {I:GInv} {R:Type} {res:R}
theorem JgZ {F:Nat→Prop} {W:World} {args:List SV} {cargs:List Value} {B:List Nat} {xs:List SV} {vs:List Value} (hxs:RSs P F W xs vs []) (hF:∀ b,F b→b<W.heap.size)
 (hbx:bxv args cargs=[]):Jjk P F W args cargs B xs (JgQ vs) W :=
 ⟨F,[],xs,[],vs,by simp,hxs.length,rfl,by rw [hbx,List.append_nil,List.append_nil]; exact hxs,by simp,by simp,fun _ q=>q,fun _ q=>.inl q,hF,Keep.refl _ _⟩
theorem JfC {F:Nat→Prop} {W:World} {x y:Value} {cs:Array Value} {B:List Nat} (h:RSs P F W [.p (.v x),.p (.v y)] cs.toList B):cs=#[x,y]:=by
 obtain ⟨c,d,B1,rfl,h1,h2,_⟩:=Jj7 h
 cases h1 with
 | p h1=>rw [Jbd h1,Jbd h2]
theorem JiF {t:ByteArray} (h:t.size=1):t=⟨#[t.data.toList.headD 0]⟩:=by
 cases t with
 | mk d =>
  cases d with
  | mk l =>
   match l,h with
   | [x],_=>rfl
end
end Go.Proofs.YtmgfmlhdnadglaaGreatDoor.Th
set_option linter.unusedVariables false
namespace Go.Proofs.YtmgfmlhdnadglaaGreatDoor.Th
open Go Go.Proofs Go.Shelf Go.RowKit
def Jlc (s:ByteArray) (c:Int):ByteArray:=⟨(Lib.repeatL s.data.toList c.toNat).toArray⟩
noncomputable def fsRepeat:FS:={ om:=[false,false],run:=fun args K=>match args with
 | [.p (.v (.string s)),.p (.v (.int .i64 c))]=>bif decide (0≤c)&&decide (c≤9223372036854775807)&&JiT (s.size * c.toNat) then K [.p (.v (.string (Jlc s c)))] else none
 | _=>none }
theorem JeB (args:List SV):DetK (fun R K=>@FS.run fsRepeat R args K):=JbM fun R K res h=>by
 simp only [fsRepeat] at h
 split at h
 · obtain ⟨hc,_⟩:=Jaa h
   exact ⟨_,fun R' K'=>by simp only [fsRepeat,hc,cond_true]; rfl⟩
 · cases h
section
variable {P:Program} {I:GInv} {R:Type} {res:R}
theorem Jbo {F:Nat→Prop} {W w':World} {args:List SV} {cargs:List Value} {B:List Nat} {xs:List SV} {vs:List Value} (hb:Below W.heap.size W w') (hxs:RSs P F w' xs vs []) (hF:∀ b,F b→b<W.heap.size)
 (hbx:bxv args cargs=[]):Jjk P F W args cargs B xs (JgQ vs) w' :=
 ⟨F,[],xs,[],vs,by simp,hxs.length,rfl,by rw [hbx,List.append_nil,List.append_nil]; exact hxs,by simp,by simp,fun _ q=>q,fun _ q=>.inl q,fun b q=>Nat.lt_of_lt_of_le (hF b q) hb.size,
   ⟨hb.os,hb.tape,hb.output,hb.size,fun b hlt _=>hb.block b hlt⟩⟩
theorem Jkz {g:Nat} (hfn:∃ fn,P.funcs[g]? = some fn∧fn.body.isNone=false∧(fn.name == "runtime.NumGoroutine")=false)
 (H:∀ (s:ByteArray) (c:Nat) (w:World),c≤9223372036854775807→s.size * c≤140737488355328 →
   Calls P g #[.string s,.int .i64 c] w fun e w'=>e=.returned (.string ⟨(Lib.repeatL s.data.toList c).toArray⟩)∧Below w.heap.size w w'):FSound P I g fsRepeat:=by
 refine ⟨JeB,hfn,fun {R args K res} hk F W cargs B ha hn hB hF _=>?_⟩
 simp only [fsRepeat] at hk
 split at hk
 · rename_i s c
   obtain ⟨h1,hk1⟩:=Jaa hk
   simp only [Bool.and_eq_true,decide_eq_true_eq] at h1
   obtain ⟨a,rfl⟩:=Int.eq_ofNat_of_zero_le h1.1.1
   have:=JfC ha
   subst this
   have hr:s.size * a≤140737488355328:=of_decide_eq_true h1.2
   refine Calls.mono (H s a W (by omega) hr) fun e w' he=>?_
   obtain ⟨rfl,hb⟩:=he
   exact ⟨_,hk1,Jbo (vs:=[.string (Jlc s (a:Int))]) hb (.cons (B:=[]) (Bs:=[]) (.p (.v _)) .nil) hF rfl⟩
 · cases hk
end
end Go.Proofs.YtmgfmlhdnadglaaGreatDoor.Th
set_option linter.unusedVariables false
set_option linter.unusedSimpArgs false
namespace Go.Proofs.YtmgfmlhdnadglaaGreatDoor.Th
open Go Go.Proofs Go.Shelf Go.RowKit
section
variable {P:Program} {ρ:Ren} {w:World} {T e:TypeId} {b:Nat} {p v:Value} {bs:List Value}
theorem Wrote.after {w0 w1 w2:World} {v0 v1:Value} (k:Keep w0 (·=b) w1) (h:Wrote T e b v1 bs w1 w2) (hv:v1.ownBlock=v0.ownBlock):Wrote T e b v0 bs w0 w2:=by
 obtain ⟨v',h1,h2,h3⟩:=h
 refine ⟨v',h1,?_,fun c hc=>?_⟩
 · rw [←hv]; exact (k.mono fun k q=>.inl q).trans h2 fun _ _ q=>q
 · rw [←hv]; exact (h3 c hc).imp id fun q=>Nat.le_trans k.size q
end
end Go.Proofs.YtmgfmlhdnadglaaGreatDoor.Th
set_option linter.unusedVariables false
set_option linter.unusedSimpArgs false
namespace Go.Proofs.YtmgfmlhdnadglaaGreatDoor.Th
open Go Go.Proofs Go.Shelf Go.RowKit
section
variable {P:Program} {ρ:Ren} {I:GInv} {R:Type} {res:R}
end
end Go.Proofs.YtmgfmlhdnadglaaGreatDoor.Th
set_option linter.unusedVariables false
namespace Go.Proofs.YtmgfmlhdnadglaaGreatDoor.Th
open Go
abbrev LP:=List PV
abbrev O (R:Type):=Option R
abbrev ids:List Nat→Lv
 | []=>[]
 | x::l=>(x,.id)::ids l
abbrev vI (x:Int):SV:=.p (.v (.int .i64 x))
abbrev vS (x:ByteArray):SV:=.p (.v (.string x))
abbrev vB (x:Bool):SV:=.p (.v (.bool x))
abbrev vH (x:List PV):SV:=.p (.sh x)
abbrev dD:SV:=.dead
noncomputable abbrev cI (s:Sl (List SV)):Sl (List SV):=.c (sP (Jlu .i64)) s
noncomputable abbrev cS (s:Sl (List SV)):Sl (List SV):=.c (sP Jlx) s
noncomputable abbrev cB (s:Sl (List SV)):Sl (List SV):=.c (sP Jle) s
noncomputable abbrev cH (s:Sl (List SV)):Sl (List SV):=.c (sP sSh) s
noncomputable abbrev cO (T:Nat) (s:Sl (List SV)):Sl (List SV):=.c (Jlw T) s
section
variable {R:Type}
noncomputable abbrev xC (ann:Ann) (i:Nat) (K:Kc R) (e:Ex) (l:List SV):Option R:=K e (lk (JgN ann.cuts i) l)
noncomputable abbrev xL (ann:Ann) (i:Nat) (K:Kc R) (e:Ex) (l:List SV):Option R:=K e (lk (JgN ann.loops i) l)
abbrev eN:Env:=fun _=>none
noncomputable abbrev eC (j:Nat) (f:FS) (r:Env):Env:=fun i=>bif Nat.beq i j then some f else r i
noncomputable abbrev oN:Orc R:=fun _ _ _=>none
noncomputable abbrev oC (ann:Ann) (E:Code→Fr→Kc R→Option R) (j:Nat) (c:Code) (t:Sl (List SV)) (F:Kc R→t.T (Option R)) (r:Orc R):Orc R:=fun i vs K=>JfJ (Nat.beq i j) (Jjf (t.ap vs (F K)) (Jkh ann j (E c) vs K)) (r i vs K)
noncomputable abbrev oL (ann:Ann) (E:Code→Fr→Kc R→Option R) (n:Nat) (j:Nat) (c:Code) (t:Sl (List SV)) (F:Kc R→t.T (Option R)) (r:Orc R):Orc R:=fun i vs K=>JfJ (Nat.beq i j) (Jjf (t.ap vs (F K)) (JcB ann j (E c) n vs K)) (r i vs K)
noncomputable abbrev JkH (ann:Ann) (i:Nat) (f:Fr→Kc R→Option R) (L:List SV→Kc R→Option R) (vs:List SV) (K:Kc R):Option R :=
 f (lk (JcA ann.loops i) vs) fun e fr=>match e with
  | .normal=>L (JcQ (JcA ann.loops i) fr) K
  | .exit j=>K (.exit j) (lk (JgN ann.loops i) (JcQ (JgN ann.loops i) fr))
  | .ret=>K .ret (lk (JgN ann.loops i) (JcQ (JgN ann.loops i) fr))
variable {P:Program} {env:Env} {ann:Ann} {n:Nat} {N:Nat × List Nat} {lo cu:Orc R} {i:Nat} {c:Code} {l:List (Bool × Nat × Code)}
theorem pN {Q:Bool × Nat × Code→Prop}:Je6 Q []:=trivial
theorem pC {Q:Bool × Nat × Code→Prop} {x:Bool × Nat × Code} {l:List (Bool × Nat × Code)} (h:Q x) (t:Je6 Q l):Je6 Q (x::l):=⟨h,t⟩
theorem pO (h:Je6 (JcH P env ann n N lo cu) l) (e:JaJ ann c=l):Je6 (JcH P env ann n N lo cu) (JaJ ann c):=by rw [e]; exact h
theorem JiD (t:Sl (List SV)) {V:Fr→Kc R→Option R} {F:Nat→Kc R→t.T (Option R)} (b:Kc R→t.T (Option R)→t.T (Option R)) (h0:∀ K,t.all (fun _ r=>none=r) (F 0 K)) (hS:∀ m K,F (m + 1) K=b K (F m K))
 (hb:∀ (L:List SV→Kc R→Option R) K,t.all (fun vs r=>JkH ann i V L vs K=r) (b K (t.cur fun vs=>L vs K))):∀ m K,t.all (fun vs r=>JcB ann i V m vs K=r) (F m K)
 | 0,K=>h0 K
 | m + 1,K=>by
  have ih:=JiD t b h0 hS hb m K
  rw [hS,t.h3 _ (fun vs=>JcB ann i V m vs K) (F m K) (fun x g h=>h.symm) ih]
  exact hb (fun vs K=>JcB ann i V m vs K) K
theorem Jhv (t t1:Sl (List SV)) {V:Fr→Kc R→Option R} {F:Nat→Kc R→t.T (Option R)} {F1:Nat→Kc R→t1.T (Option R)} (b:Kc R→t.T (Option R)→t1.T (Option R)→t.T (Option R)) (h0:∀ K,t.all (fun _ r=>none=r) (F 0 K)) (hS:∀ m K,F (m + 1) K=b K (F m K) (F1 m K))
 (h1:∀ m K,t1.all (fun vs r=>JcB ann i V m vs K=r) (F1 m K))
 (hb:∀ (L:List SV→Kc R→Option R) K,t.all (fun vs r=>JkH ann i V L vs K=r) (b K (t.cur fun vs=>L vs K) (t1.cur fun vs=>L vs K))):∀ m K,t.all (fun vs r=>JcB ann i V m vs K=r) (F m K)
 | 0,K=>h0 K
 | m + 1,K=>by
  have ih:=Jhv t t1 b h0 hS h1 hb m K
  rw [hS,t.h3 _ (fun vs=>JcB ann i V m vs K) (F m K) (fun x g h=>h.symm) ih,t1.h3 _ (fun vs=>JcB ann i V m vs K) (F1 m K) (fun x g h=>h.symm) (h1 m K)]
  exact hb (fun vs K=>JcB ann i V m vs K) K
end
noncomputable abbrev fT (om:List Bool) (t:Sl (List SV)) (F:{R:Type}→(List SV→Option R)→t.T (Option R)):FS:={ om:=om,run:=fun args K=>Jjf (t.ap args (F K)) none }
theorem gd {P:Program} {I:GInv} {env:Env} (ann:Ann) (n:Nat) (henv:EnvOK P I env) {fn:Func} {g:Nat} {fs:FS} (hg:P.funcs[g]? = some fn) (hr:Good P env ann n fn fun R args K=>@FS.run fs R args K)
 (h:(JgV P ann&&(!fn.body.isNone&&!(fn.name == "runtime.NumGoroutine")))=true):FSound P I g fs:=by
 rw [Bool.and_eq_true,Bool.and_eq_true] at h
 exact FSound.good henv hg hr h.1 (by simpa using h.2.1) (by simpa using h.2.2)
end Go.Proofs.YtmgfmlhdnadglaaGreatDoor.Th
set_option linter.unusedVariables false
namespace Go.Proofs.YtmgfmlhdnadglaaGreatDoor.Th
open Go Go.Proofs
theorem w64 {x:Int} (h1:-9223372036854775808≤x) (h2:x<9223372036854775808):IntKind.i64.wrap x=x:=by
 exact IntWalk.i64_in _ (by omega)
theorem Jkt {i:Int} {n:Nat} (h1:0≤i) (h2:i<n):inR i n=true:=by simp [inR,h1,h2]
theorem Ji5 {l h:Int} {n:Nat} (h1:0≤l) (h2:l≤h) (h3:h≤n):Je5 l h n=true:=by simp [Je5,h1,h2,h3]
theorem JhY {n:Nat} (h:n≤140737488355328):JiT n=true:=by simp [JiT,h]
def bs (l:List UInt8):ByteArray:=⟨⟨l⟩⟩
theorem Jd4 (l:List UInt8):(bs l).size=l.length:=(Eq.refl _).trans (Eq.refl _)
theorem Jg6 (l:List UInt8):(bs l).data.toList=l:=(Eq.refl _).trans (Eq.refl _)
theorem Jc3 (a b:List UInt8):bs a++bs b=bs (a++b):=by
 apply ByteArray.ext
 simp [bs]
theorem JfE:ByteArray.empty=bs []:=(Eq.refl _).trans (Eq.refl _)
theorem Jg7 (a:List UInt8) (c:UInt8):ByteArray.push (bs a) c=bs (a++[c]):=by
 apply ByteArray.ext
 simp [bs,ByteArray.push]
theorem JdD (l:List UInt8) (i j:Nat):ByteArray.extract (bs l) i j=bs ((l.take j).drop i):=by
 apply ByteArray.ext
 rw [ByteArray.data_extract]
 apply Array.ext'
 simp only [bs,List.size_toArray,List.extract_toArray,List.extract_eq_take_drop,List.take_drop]
 by_cases h:i≤j
 · rw [show i + (j - i)=j from by omega]
 · rw [List.drop_eq_nil_of_le (by simp; omega),List.drop_eq_nil_of_le (by simp; omega)]
theorem Ji6 (a b:List UInt8):eqS (bs a) (bs b)=(a == b):=by rfl
theorem Jg8 (l:List UInt8) (i:Int):Jc6 (bs l) i=((l.getD i.toNat 0).toNat:Int):=rfl
theorem JjY {l:List UInt8} {i:Nat} (h:i<l.length):Jc6 (bs l) (i:Int)=((l[i]).toNat:Int):=by
 rw [Jg8]; simp [List.getD_eq_getElem?_getD,h]
theorem Jh {R:Type} {a b:List UInt8} (h:a.length + b.length<9223372036854775808) (K:ByteArray→Option R):JjZ (bs a) (bs b) K=K (bs (a++b)):=by
 unfold JjZ
 rw [Jc3,Jd4,Jd4,Jhq,decide_eq_true (by omega)]; rfl
theorem Jld (l:List UInt8) (c:Int):Jlc (bs l) c=bs (Lib.repeatL l c.toNat):=rfl
theorem JlC {a b:UInt8}:((a.toNat:Int) == (b.toNat:Int))=(a == b):=by
 rw [Bool.eq_iff_iff]; simp only [beq_iff_eq]; rw [←UInt8.toNat_inj]; omega
theorem Ji3 (l:List UInt8):ByteArray.mk (List.toArray l)=bs l:=(Eq.refl _).trans (Eq.refl _)
theorem Jkk {p:Prop} {d:Decidable p} (h:p):@decide p d=true:=decide_eq_true h
theorem Jkj {p:Prop} {d:Decidable p} (h:¬ p):@decide p d=false:=decide_eq_false h
theorem Jke {R:Type} {p:Prop} {d:Decidable p} {a b:R} (h:p):(bif @decide p d then a else b)=a:=by rw [decide_eq_true h]; rfl
theorem c_neg {R:Type} {p:Prop} {d:Decidable p} {a b:R} (h:¬ p):(bif @decide p d then a else b)=b:=by rw [decide_eq_false h]; rfl
theorem JfZ {R:Type} {p:Prop} {d:Decidable p} {a b:R} (h:p):@ite _ p d a b=a:=if_pos h
theorem JfY {R:Type} {p:Prop} {d:Decidable p} {a b:R} (h:¬ p):@ite _ p d a b=b:=if_neg h
theorem Jhs {n b:Nat} (h1:n * b≤140737488355328) (h2:n≤140737488355328):Jbu n b=true:=by simp [Jbu,h1,h2]
theorem JlG:type_of% @Jke∧type_of% @c_neg :=
 ⟨@Jke,@c_neg⟩
theorem JlE:type_of% @Jkk∧type_of% @Jkj∧type_of% @Bool.and_true∧type_of% @Bool.true_and∧type_of% @Bool.and_false∧type_of% @Bool.false_and∧type_of% @Bool.not_true∧type_of% @Bool.not_false∧type_of% @cond_true.{1}∧type_of% @cond_false.{1}∧type_of% @Jkt∧type_of% @Ji5∧type_of% @JhY∧type_of% @Jhs∧type_of% @w64∧type_of% @Jd4∧type_of% @List.length_append.{0}∧type_of% @List.length_cons.{0}∧type_of% @List.length_nil.{0}∧type_of% @JdD∧type_of% @Jc3∧type_of% @Jg7∧type_of% @Jg6∧type_of% @JfE∧type_of% @Ji3∧type_of% @Jh∧type_of% @Ji6∧type_of% @JfZ∧type_of% @JfY∧type_of% @decide_true∧type_of% @decide_false∧type_of% @if_true.{1}∧type_of% @if_false.{1} :=
 ⟨@Jkk,@Jkj,@Bool.and_true,@Bool.true_and,@Bool.and_false,@Bool.false_and,@Bool.not_true,@Bool.not_false,@cond_true.{1},@cond_false.{1},@Jkt,@Ji5,@JhY,@Jhs,@w64,@Jd4,@List.length_append.{0},@List.length_cons.{0},@List.length_nil.{0},@JdD,@Jc3,@Jg7,@Jg6,@JfE,@Ji3,@Jh,@Ji6,@JfZ,@JfY,@decide_true,@decide_false,@if_true.{1},@if_false.{1}⟩
theorem JlD:type_of% @List.length_append.{0}∧type_of% @List.length_cons.{0}∧type_of% @List.length_nil.{0}∧type_of% @List.length_replicate.{0}∧type_of% @List.length_take.{0}∧type_of% @List.length_drop.{0} :=
 ⟨@List.length_append.{0},@List.length_cons.{0},@List.length_nil.{0},@List.length_replicate.{0},@List.length_take.{0},@List.length_drop.{0}⟩
end Go.Proofs.YtmgfmlhdnadglaaGreatDoor.Th
set_option linter.unusedVariables false
set_option linter.unusedSimpArgs false
namespace Go.Proofs.YtmgfmlhdnadglaaGreatDoor.Th
open Go Go.Proofs
theorem Jlr {x:Int} (h1:0≤x) (h2:x<4294967296):IntKind.u32.wrap x=x:=by
 simp [IntKind.wrap,IntKind.bits,IntKind.signed]; omega
theorem Jls {x:Int} (h1:0≤x) (h2:x<18446744073709551616):IntKind.u64.wrap x=x:=by
 simp [IntKind.wrap,IntKind.bits,IntKind.signed]; omega
theorem wu8 {x:Int} (h1:0≤x) (h2:x<256):IntKind.u8.wrap x=x:=by
 simp [IntKind.wrap,IntKind.bits,IntKind.signed]; omega
def nl (k:IntKind) (l:List Nat):List PV:=l.map fun (x:Nat)=>PV.v (Value.int k (x:Int))
theorem Jjc (k:IntKind) (l:List Nat):(nl k l).length=l.length:=by unfold nl; rw [List.length_map]
theorem Jhk {R:Type} {k:IntKind} {l:List Nat} {i:Nat} {d:PV} {K:Int→Option R} (h:i<l.length):Ji9 k ((nl k l).getD i d) K=K ((l.getD i 0:Nat):Int):=by
 unfold nl
 rw [List.getD_eq_getElem?_getD,List.getElem?_map,List.getD_eq_getElem?_getD,List.getElem?_eq_getElem h]
 simp only [Option.map_some,Option.getD_some,Ji9]
 cases k <;> rfl
theorem Jhz (k:IntKind) (l:List Nat) (i x:Nat):(nl k l).set i (.v (.int k (x:Int)))=nl k (l.set i x):=by unfold nl; rw [List.map_set]
theorem JhA (k:IntKind) (l:List Nat) (i:Nat):(nl k l).set i (.v (.int k 0))=nl k (l.set i 0):=Jhz k l i 0
theorem JhB (k:IntKind) (l:List Nat) (i:Nat):(nl k l).take i=nl k (l.take i):=by unfold nl; rw [List.map_take]
theorem Jhy (k:IntKind) (l:List Nat) (i:Nat):(nl k l).drop i=nl k (l.drop i):=by unfold nl; rw [List.map_drop]
theorem Jjd (k:IntKind) (n:Nat):List.replicate n (PV.v (.int k 0))=nl k (List.replicate n 0):=by unfold nl; rw [List.map_replicate]; rfl
theorem Jjb (k:IntKind) (a b:List Nat):nl k a++nl k b=nl k (a++b):=by unfold nl; rw [List.map_append]
theorem Jhl (k:IntKind) (l:List Nat):Jgw 1 (nl k l)=true:=by
 cases l with
 | nil=>rfl
 | cons x l=>rfl
theorem Jll (k:IntKind):nl k []=[]:=rfl
theorem Jlm (k:IntKind) (x:Nat):[PV.v (.int k (x:Int))]=nl k [x]:=rfl
theorem JdC (a b:Nat):(((a:Int)) == (b:Int))=(a == b):=by
 rw [Bool.eq_iff_iff]; simp only [beq_iff_eq]; omega
theorem JjX (a b:Nat):(((a:Int)) != (b:Int))=(a != b):=by
 rw [bne,JdC]; rfl
theorem JkZ (a:Nat):(((a:Int)) == 0)=(a == 0):=JdC a 0
theorem Jli (a b:Nat):Int.tdiv (a:Int) (b:Int)=((a / b:Nat):Int):=(Int.ofNat_tdiv a b).symm
theorem Jlj (a b:Nat):Int.tmod (a:Int) (b:Int)=((a % b:Nat):Int):=(Int.ofNat_tmod a b).symm
theorem JlA (a:Nat):Int.tdiv (a:Int) 1000000000=((a / 1000000000:Nat):Int):=Jli a 1000000000
theorem JlB (a:Nat):Int.tmod (a:Int) 1000000000=((a % 1000000000:Nat):Int):=Jlj a 1000000000
theorem Jjh (a:Nat):(a:Int).toNat=a:=Int.toNat_natCast a
theorem Jkl {α:Type} (l:List α):l.drop (0:Int).toNat=l:=rfl
theorem JlF:type_of% @Jjh∧type_of% @Jhk∧type_of% @Jjc∧type_of% @Jhz∧type_of% @JhA∧type_of% @JhB∧type_of% @Jhy∧type_of% @Jjd∧type_of% @Jjb∧type_of% @Jhl∧type_of% @Jkl∧type_of% @Jlr∧type_of% @Jls∧type_of% @wu8∧type_of% @List.length_set.{0}∧type_of% @List.length_replicate.{0} :=
 ⟨@Jjh,@Jhk,@Jjc,@Jhz,@JhA,@JhB,@Jhy,@Jjd,@Jjb,@Jhl,@Jkl,@Jlr,@Jls,@wu8,@List.length_set.{0},@List.length_replicate.{0}⟩
end Go.Proofs.YtmgfmlhdnadglaaGreatDoor.Th
set_option linter.unusedVariables false
set_option linter.unusedSimpArgs false
namespace Go.Proofs.YtmgfmlhdnadglaaGreatDoor.Th
open Go Go.Proofs Go.Shelf Go.RowKit
def GInv.tab (P:Program) (name:String) (k:IntKind) (zs:List Int) (g:Nat) (hg:P.globalNamed name=some g):GInv :=
 ⟨fun F w=>F g∧Lib.TabIs P w name k zs,fun F F' W w h hF _ hb=>⟨hF g h.1,by
   have h2:=h.2
   unfold Lib.TabIs World.var? at h2 ⊢
   rw [hg] at h2 ⊢
   simp only [Option.bind_some] at h2 ⊢
   rw [hb g h.1]; exact h2⟩⟩
def Jji (s t:ByteArray):Bool:=decide (s.size≤9223372036854775807)&&decide (t.size<4294967281)&&t.data.toList.all fun b=>decide (b.toNat<128)
def JkK (s t:ByteArray):ByteArray:=⟨(Lib.trimS s.data.toList t.data.toList).toArray⟩
def Jia {R:Type} (s:ByteArray) (K:Int→Option R):Option R :=
 match Lib.atoiAll s.data.toList with
 | .ok v=>bif decide (s.size≤9223372036854775806) then K v else none
 | _=>none
def JkS (x:Int):Bool:=decide (-9223372036854775808≤x)&&decide (x≤9223372036854775807)
def JiA (x:Int):ByteArray:=⟨(Lib.itoa x).toArray⟩
noncomputable def fsTrim:FS:={ om:=[false,false],run:=fun args K=>match args with
 | [.p (.v (.string s)),.p (.v (.string t))]=>bif Jji s t then K [.p (.v (.string (JkK s t)))] else none
 | _=>none }
noncomputable def fsAtoi:FS:={ om:=[false],run:=fun args K=>match args with
 | [.p (.v (.string s))]=>Jia s fun v=>K [.p (.v (.int .i64 v)),.p (.v .nilIface)]
 | _=>none }
noncomputable def fsItoa:FS:={ om:=[false],run:=fun args K=>match args with
 | [.p (.v (.int .i64 x))]=>bif JkS x then K [.p (.v (.string (JiA x)))] else none
 | _=>none }
noncomputable def fsFormatInt:FS:={ om:=[false,false],run:=fun args K=>match args with
 | [.p (.v (.int .i64 x)),.p (.v (.int .i64 b))]=>bif decide (b=10) then (bif JkS x then K [.p (.v (.string (JiA x)))] else none) else none
 | _=>none }
noncomputable def fsIndex1:FS:={ om:=[false,false],run:=fun args K=>match args with
 | [.p (.v (.string s)),.p (.v (.string t))]=>bif Nat.beq t.size 1 then K [.p (.v (.int .i64 (Lib.indexByte s.data.toList (t.data.toList.headD 0))))] else none
 | _=>none }
theorem Jgp (args:List SV):DetK (fun R K=>@FS.run fsTrim R args K):=JbM fun R K res h=>by
 simp only [fsTrim] at h
 split at h
 · obtain ⟨hc,_⟩:=Jaa h
   exact ⟨_,fun R' K'=>by simp only [fsTrim,hc,cond_true]; rfl⟩
 · cases h
theorem Jgn (args:List SV):DetK (fun R K=>@FS.run fsAtoi R args K):=JbM fun R K res h=>by
 simp only [fsAtoi] at h
 split at h
 · unfold Jia at h
   split at h
   · rename_i v hv
     obtain ⟨hc,_⟩:=Jaa h
     exact ⟨_,fun R' K'=>by simp only [fsAtoi,Jia,hv,hc,cond_true]; rfl⟩
   · cases h
 · cases h
theorem Jgo (args:List SV):DetK (fun R K=>@FS.run fsItoa R args K):=JbM fun R K res h=>by
 simp only [fsItoa] at h
 split at h
 · obtain ⟨hc,_⟩:=Jaa h
   exact ⟨_,fun R' K'=>by simp only [fsItoa,hc,cond_true]; rfl⟩
 · cases h
theorem Jc8 (args:List SV):DetK (fun R K=>@FS.run fsFormatInt R args K):=JbM fun R K res h=>by
 simp only [fsFormatInt] at h
 split at h
 · obtain ⟨hb,h⟩:=Jaa h
   obtain ⟨hc,_⟩:=Jaa h
   exact ⟨_,fun R' K'=>by simp only [fsFormatInt,hb,hc,cond_true]; rfl⟩
 · cases h
theorem JeA (args:List SV):DetK (fun R K=>@FS.run fsIndex1 R args K):=JbM fun R K res h=>by
 simp only [fsIndex1] at h
 split at h
 · obtain ⟨hc,_⟩:=Jaa h
   exact ⟨_,fun R' K'=>by simp only [fsIndex1,hc,cond_true]; rfl⟩
 · cases h
section
variable {P:Program} {I:GInv} {R:Type} {res:R}
theorem Ji2 {F:Nat→Prop} {W:World} {x:Value} {cs:Array Value} {B:List Nat} (h:RSs P F W [.p (.v x)] cs.toList B):cs=#[x]:=by
 obtain ⟨l⟩:=cs
 cases h with
 | cons h1 h2 =>
  cases h2
  cases h1 with
  | p h1=>rw [Jbd h1]
theorem Jk7 {g:Nat} (hfn:∃ fn,P.funcs[g]? = some fn∧fn.body.isNone=false∧(fn.name == "runtime.NumGoroutine")=false)
 (H:∀ (s t:ByteArray) (w:World),s.size≤9223372036854775807→t.size<4294967281→(∀ (j:Nat) b,t.data.toList[j]? = some b→b.toNat<128) →
   Calls P g #[.string s,.string t] w fun e w'=>e=.returned (.string ⟨(Lib.trimS s.data.toList t.data.toList).toArray⟩)∧Below w.heap.size w w'):FSound P I g fsTrim:=by
 refine ⟨Jgp,hfn,fun {R args K res} hk F W cargs B ha hn hB hF _=>?_⟩
 simp only [fsTrim] at hk
 split at hk
 · rename_i s t
   obtain ⟨h1,hk1⟩:=Jaa hk
   simp only [Jji,Bool.and_eq_true,decide_eq_true_eq] at h1
   have:=JfC ha
   subst this
   refine Calls.mono (H s t W h1.1.1 h1.1.2 (ascii_of_all h1.2)) fun e w' he=>?_
   obtain ⟨rfl,hb⟩:=he
   exact ⟨_,hk1,Jbo (vs:=[.string (JkK s t)]) hb (.cons (B:=[]) (Bs:=[]) (.p (.v _)) .nil) hF rfl⟩
 · cases hk
theorem Jky {g:Nat} (hfn:∃ fn,P.funcs[g]? = some fn∧fn.body.isNone=false∧(fn.name == "runtime.NumGoroutine")=false)
 (H:∀ (s:ByteArray) (c:UInt8) (w:World),Calls P g #[.string s,.string ⟨#[c]⟩] w fun e w'=>e=.returned (.int .i64 (Lib.indexByte s.data.toList c))∧w'=w):FSound P I g fsIndex1:=by
 refine ⟨JeA,hfn,fun {R args K res} hk F W cargs B ha hn hB hF _=>?_⟩
 simp only [fsIndex1] at hk
 split at hk
 · rename_i s t
   obtain ⟨h1,hk1⟩:=Jaa hk
   have ht:=JiF (eqB h1)
   have:=JfC ha
   subst this
   refine Calls.mono (by rw [ht]; exact H s (t.data.toList.headD 0) W) fun e w' he=>?_
   obtain ⟨rfl,rfl⟩:=he
   exact ⟨_,hk1,JgZ (vs:=[.int .i64 (Lib.indexByte s.data.toList (t.data.toList.headD 0))]) (.cons (B:=[]) (Bs:=[]) (.p (.v _)) .nil) hF rfl⟩
 · cases hk
theorem Jf (w:World) (e:TypeId) (s:ByteArray):Below w.heap.size w (Lib.bytesWorld w e s) :=
 ⟨rfl,rfl,rfl,by rw [Lib.bytesWorld_size]; omega,fun b hb=>Lib.bytesWorld_at_old w e s b hb⟩
theorem JdG (w:World) (k:Nat):(w.drewN k).heap=w.heap:=rfl
theorem JdK (w:World) (k:Nat) (os:Array Obj):Below w.heap.size w (Sort.grow (w.drewN k) os) :=
 ⟨rfl,rfl,rfl,by simp [Sort.grow,JdG],fun b hb=>by simp only [Sort.grow,JdG]; rw [Array.getElem?_append_left hb]⟩
theorem Jk5 {g:Nat} (hfn:∃ fn,P.funcs[g]? = some fn∧fn.body.isNone=false∧(fn.name == "runtime.NumGoroutine")=false) {T:TypeId}
 (H:∀ (s:ByteArray),s.size≤9223372036854775806→∀ (v:Int),Lib.atoiAll s.data.toList=.ok v→∀ (w:World),
   Calls P g #[.string s] w fun e w'=>e=.returned (.tuple #[.int .i64 v,.nilIface])∧(w'=w∨∃ t,w'=Lib.bytesWorld w T t)):FSound P I g fsAtoi:=by
 refine ⟨Jgn,hfn,fun {R args K res} hk F W cargs B ha hn hB hF _=>?_⟩
 simp only [fsAtoi] at hk
 split at hk
 · rename_i s
   have:=Ji2 ha
   subst this
   unfold Jia at hk
   split at hk
   · rename_i v hv
     obtain ⟨h1,hk1⟩:=Jaa hk
     refine Calls.mono (H s (of_decide_eq_true h1) v hv W) fun e w' he=>?_
     obtain ⟨rfl,hb⟩:=he
     have hbl:Below W.heap.size W w':=by
      rcases hb with rfl | ⟨t,rfl⟩
      · exact Below.refl _ _
      · exact Jf _ _ _
     exact ⟨_,hk1,Jbo (vs:=[.int .i64 v,.nilIface]) hbl (.cons (B:=[]) (Bs:=[]) (.p (.v _)) (.cons (B:=[]) (Bs:=[]) (.p (.v _)) .nil)) hF rfl⟩
   · cases hk
 · cases hk
theorem Jk6 {g:Nat} (hfn:∃ fn,P.funcs[g]? = some fn∧fn.body.isNone=false∧(fn.name == "runtime.NumGoroutine")=false)
 (hI:∀ F W,I.ok F W→Lib.TabIs P W "internal/strconv.uint64pow10" .u64 Lib.pow10Tab)
 (H:∀ (n:Int),-9223372036854775808≤n→n≤9223372036854775807→∀ (w:World),Lib.TabIs P w "internal/strconv.uint64pow10" .u64 Lib.pow10Tab →
   Calls P g #[.int .i64 n] w fun e w'=>e=.returned (.string ⟨(Lib.itoa n).toArray⟩)∧∃ k os,w'=Sort.grow (w.drewN k) os):FSound P I g fsItoa:=by
 refine ⟨Jgo,hfn,fun {R args K res} hk F W cargs B ha hn hB hF hi=>?_⟩
 simp only [fsItoa] at hk
 split at hk
 · rename_i x
   obtain ⟨h1,hk1⟩:=Jaa hk
   simp only [JkS,Bool.and_eq_true,decide_eq_true_eq] at h1
   have:=Ji2 ha
   subst this
   refine Calls.mono (H x h1.1 h1.2 W (hI F W hi)) fun e w' he=>?_
   obtain ⟨rfl,k,os,rfl⟩:=he
   exact ⟨_,hk1,Jbo (vs:=[.string (JiA x)]) (JdK _ _ _) (.cons (B:=[]) (Bs:=[]) (.p (.v _)) .nil) hF rfl⟩
 · cases hk
theorem Jjg {g:Nat} (hfn:∃ fn,P.funcs[g]? = some fn∧fn.body.isNone=false∧(fn.name == "runtime.NumGoroutine")=false)
 (hI:∀ F W,I.ok F W→Lib.TabIs P W "internal/strconv.uint64pow10" .u64 Lib.pow10Tab)
 (H:∀ (n:Int),-9223372036854775808≤n→n≤9223372036854775807→∀ (w:World),Lib.TabIs P w "internal/strconv.uint64pow10" .u64 Lib.pow10Tab →
   Calls P g #[.int .i64 n,.int .i64 10] w fun e w'=>e=.returned (.string ⟨(Lib.itoa n).toArray⟩)∧∃ k os,w'=Sort.grow (w.drewN k) os):FSound P I g fsFormatInt:=by
 refine ⟨Jc8,hfn,fun {R args K res} hk F W cargs B ha hn hB hF hi=>?_⟩
 simp only [fsFormatInt] at hk
 split at hk
 · rename_i x b
   obtain ⟨hb,hk2⟩:=Jaa hk
   have hb2:=of_decide_eq_true hb
   subst hb2
   obtain ⟨h1,hk1⟩:=Jaa hk2
   simp only [JkS,Bool.and_eq_true,decide_eq_true_eq] at h1
   have:=JfC ha
   subst this
   refine Calls.mono (H x h1.1 h1.2 W (hI F W hi)) fun e w' he=>?_
   obtain ⟨rfl,k,os,rfl⟩:=he
   exact ⟨_,hk1,Jbo (vs:=[.string (JiA x)]) (JdK _ _ _) (.cons (B:=[]) (Bs:=[]) (.p (.v _)) .nil) hF rfl⟩
 · cases hk
end
end Go.Proofs.YtmgfmlhdnadglaaGreatDoor.Th
set_option linter.unusedVariables false
namespace Go.Proofs.YtmgfmlhdnadglaaGreatDoor.Th
open Go Go.Deep Go.ChangeShapes Go.WideShapes Go.Proofs
section
variable {H:Type} {enc:TypeId × Value→H} {P:Program} {W:World} {spare:Nat→Bool} {held:Bool} {F:Nat→Prop}
structure Rd (enc:TypeId × Value→H) (P:Program) (W:World) (spare:Nat→Bool) (held:Bool) (F:Nat→Prop) (e:TypeId) (A:Type) (ok:A→Prop) (cells:A→List PV):Prop where
 rd:∀ {fuel:Nat} {cs:List Value} {x:DataW H × List MemPlace},DataW.trod enc P W 0 spare held fuel e cs=some x→(∀ p∈x.2,F p.block)→∃ a,ok a∧RPs F W (cells a) cs
 len:∀ a,(cells a).length=P.cellsOf e
 leaf:∀ a,Jan (cells a)=true
theorem Jhr {a b:List PV} (h1:Jan a=true) (h2:Jan b=true):Jan (a++b)=true:=by
 induction a with
 | nil=>exact h2
 | cons x r ih =>
  simp only [Jan,Bool.and_eq_true,List.cons_append] at *
  exact ⟨h1.1,ih h1.2⟩
theorem Jln {t:TypeId} {k:IntKind} (ht:P.underlying t=some (.int k)) (hc:P.cellsOf t=1):Rd enc P W spare held F t Int (fun n=>(Lit.int k n).wf=true) (fun n=>[.v (.int k n)]) where
 rd:=by
  intro fuel cs x h _
  obtain ⟨n,h1,_,h3⟩:=DataW.trod_int ht h
  subst h1
  exact ⟨n,h3,.cons (.v _) .nil⟩
 len:=fun _=>hc.symm
 leaf:=fun _=>rfl
theorem Jlo {t:TypeId} (ht:P.underlying t=some .string) (hc:P.cellsOf t=1):Rd enc P W spare held F t ByteArray (fun s=>s.size≤maxLen) (fun s=>[.v (.string s)]) where
 rd:=by
  intro fuel cs x h _
  obtain ⟨s,h1,_,h3⟩:=DataW.trod_string ht h
  subst h1
  exact ⟨s,h3,.cons (.v _) .nil⟩
 len:=fun _=>hc.symm
 leaf:=fun _=>rfl
theorem Jlb {t:TypeId} (ht:P.underlying t=some .bool) (hc:P.cellsOf t=1):Rd enc P W spare held F t Bool (fun _=>True) (fun b=>[.v (.bool b)]) where
 rd:=by
  intro fuel cs x h _
  cases fuel with
  | zero=>simp [DataW.trod] at h
  | succ n =>
   unfold DataW.trod at h
   rw [ht] at h
   split at h <;> simp_all
   rename_i b
   cases b
   · exact .inl (.cons (.v _) .nil)
   · exact .inr (.cons (.v _) .nil)
 len:=fun _=>hc.symm
 leaf:=fun _=>rfl
theorem JfV {c:Nat→List Value} {k:Nat}:∀ (n:Nat),(∀ i,i<n→(c i).length=k)→∀ (j:Nat) (x:Value),((List.range n).flatMap c)[j]? = some x→∃ i r,i<n∧r<k∧j=i * k + r∧(c i)[r]? = some x
 | 0,_,j,x,h=>by simp at h
 | n + 1,hl,j,x,h=>by
  have hlen:∀ m,m≤n→((List.range m).flatMap c).length=m * k:=by
   intro m
   induction m with
   | zero=>simp
   | succ m ih =>
    intro hm
    rw [List.range_succ,List.flatMap_append,List.length_append,ih (by omega),Nat.succ_mul]
    simp [hl m (by omega)]
  rw [List.range_succ,List.flatMap_append,List.getElem?_append] at h
  rw [hlen n (Nat.le_refl _)] at h
  split at h
  · rename_i hj
    obtain ⟨i,r,h1,h2,h3,h4⟩:=JfV n (fun i hi=>hl i (by omega)) j x h
    exact ⟨i,r,by omega,h2,h3,h4⟩
  · rename_i hj
    simp only [List.flatMap_cons,List.flatMap_nil,List.append_nil] at h
    have hr:j - n * k<k:=by
     have:=(List.getElem?_eq_some_iff.1 h).1
     rw [hl n (by omega)] at this
     exact this
    exact ⟨n,j - n * k,by omega,hr,by omega,h⟩
theorem JfX {c:Nat→List Value} {g:Nat→List PV}:∀ (n:Nat),(∀ i,i<n→RPs F W (g i) (c i))→RPs F W ((List.range n).flatMap g) ((List.range n).flatMap c)
 | 0,_=>.nil
 | n + 1,h=>by
  rw [List.range_succ,List.flatMap_append,List.flatMap_append]
  refine RPs.append (JfX n fun i hi=>h i (by omega)) ?_
  simp only [List.flatMap_cons,List.flatMap_nil,List.append_nil]
  exact h n (by omega)
theorem JkX {t e:TypeId} {A:Type} [Inhabited A] {ok:A→Prop} {cells:A→List PV} {pk:A→PV} (ht:P.underlying t=some (.slice e)) (hc:P.cellsOf t=1) (hk:0<P.cellsOf e) (hpk:∀ a,cellsOf (pk a)=cells a) (r:Rd enc P W spare held F e A ok cells) :
 Rd enc P W spare held F t (List A) (fun l=>∀ a∈l,ok a) (fun l=>[.sh (l.map pk)]) where
 rd:=by
  intro fuel cs x h hF
  rcases open_slice ht h with ⟨rfl,rfl⟩ | ⟨a,len,cap,m,n,D,Pl,rfl,hb,hl,hm,hmm,rfl,hx⟩
  · refine ⟨[],fun a h=>(nomatch h),.cons (.sh (xs:=[]) (sz:=P.cellsOf e) .nil (fun e h=>(nomatch h)) hk (.inl rfl) rfl (Nat.le_refl _) (Nat.zero_le _)) .nil⟩
  · have hlm:len≤m:=by rw [hmm]; split <;> omega
    have each:∀ i,i<len→∃ y:A × List Value,ok y.1∧RPs F W (cells y.1) y.2∧W.cells? 0 (a.add (i * P.cellsOf e)) (P.cellsOf e)=some y.2:=by
     intro i hi
     obtain ⟨cs',h1,h2⟩:=hx i (by omega)
     obtain ⟨y,h3,h4⟩:=r.rd h2 fun p hp=>hF p (by
      rw [List.mem_append]
      exact Or.inr (List.mem_flatMap.2 ⟨i,List.mem_range.2 (by omega),hp⟩))
     exact ⟨(y,cs'),h3,h4,h1⟩
    have:Inhabited (A × List Value):=⟨(default,[])⟩
    obtain ⟨f,hf⟩:=choose_lt each
    have hlen:∀ i,i<len→(f i).2.length=P.cellsOf e:=fun i hi=>by rw [←RPs.length (hf i hi).2.1,r.len]
    refine ⟨(List.range len).map fun i=>(f i).1,fun y hy=>?_,.cons (.sh (xs:=(List.range len).flatMap fun i=>(f i).2) (sz:=P.cellsOf e) ?_ ?_ hk ?_ (by simp) hl hm) .nil⟩
    · obtain ⟨i,hi,rfl⟩:=List.mem_map.1 hy
      exact (hf i (List.mem_range.1 hi)).1
    · have:Jbk (((List.range len).map fun i=>(f i).1).map pk)=(List.range len).flatMap fun i=>cells (f i).1:=by
       unfold Jbk
       rw [List.flatMap_map,List.flatMap_map]
       simp only [hpk]
      rw [this]
      exact JfX len fun i hi=>(hf i hi).2.1
    · intro y hy
      obtain ⟨z,_,rfl⟩:=List.mem_map.1 hy
      rw [hpk]
      exact ⟨r.len z,r.leaf z⟩
    · by_cases h0:len=0
      · subst h0; exact .inl rfl
      · right
        have h1:=(hf 0 (by omega)).2.2
        obtain ⟨g1,g2,g3⟩:=World.cells?_some h1
        obtain ⟨b,off,spot⟩:=a
        have hspot:spot=none:=by
         have h2:=g3 0 hk
         obtain ⟨v,hv⟩:∃ v,(f 0).2[0]? = some v:=⟨(f 0).2[0]'(by rw [hlen 0 (by omega)]; exact hk),List.getElem?_eq_getElem _⟩
         rw [hv] at h2
         simpa [Addr.add] using World.cell?_spot h2
        subst hspot
        refine ⟨b,off,rfl,hF (MemPlace.cell b (off + 0)) (by
         rw [List.mem_append]
         exact Or.inl (MemPlace.mem_row.2 ⟨0,Nat.mul_pos (by omega) hk,rfl⟩)),fun j x hj=>?_⟩
        obtain ⟨i,q,hi,hq,rfl,hx2⟩:=JfV len hlen j x hj
        obtain ⟨_,_,k3⟩:=World.cells?_some (hf i hi).2.2
        have k4:=k3 q hq
        rw [add_add,add_plain,hx2] at k4
        exact k4
 len:=fun _=>hc.symm
 leaf:=fun _=>rfl
structure Fld (enc:TypeId × Value→H) (P:Program) (W:World) (spare:Nat→Bool) (held:Bool) (F:Nat→Prop) (fs:List Field) (off:Nat) (A:Type) (ok:A→Prop) (cells:A→List PV) (size:Nat):Prop where
 rd:∀ {n:Nat} {cs:List Value} {xs:List (DataW H × List MemPlace)},(∀ (i:Nat) (f:Field),fs[i]? = some f→DataW.trod enc P W 0 spare held n f.type ((cs.drop f.offset).take (P.cellsOf f.type))=xs[i]?)→xs.length=fs.length→(∀ x∈xs,∀ p∈x.2,F p.block)→cs.length=off + size →
  ∃ a,ok a∧RPs F W (cells a) (cs.drop off)
 len:∀ a,(cells a).length=size
 leaf:∀ a,Jan (cells a)=true
theorem Jk3 (off:Nat):Fld enc P W spare held F [] off Unit (fun _=>True) (fun _=>[]) 0 where
 rd:=by
  intro n cs xs _ _ _ hl
  refine ⟨(),trivial,?_⟩
  rw [List.drop_eq_nil_of_le (by omega)]; exact .nil
 len:=fun _=>rfl
 leaf:=fun _=>rfl
theorem JkQ {f:Field} {fs:List Field} {off:Nat} {A B:Type} {ok:A→Prop} {ok2:B→Prop} {cells:A→List PV} {cells2:B→List PV} {size k:Nat} (ho:f.offset=off) (hk:P.cellsOf f.type=k) (r:Rd enc P W spare held F f.type A ok cells) (s:Fld enc P W spare held F fs (off + k) B ok2 cells2 size) :
 Fld enc P W spare held F (f::fs) off (A × B) (fun y=>ok y.1∧ok2 y.2) (fun y=>cells y.1++cells2 y.2) (k + size) where
 rd:=by
  subst hk
  intro n cs xs h hx hF hl
  cases xs with
  | nil=>simp at hx
  | cons x xs =>
   have h0:=h 0 f rfl
   obtain ⟨a,a1,a2⟩:=r.rd h0 (hF x (List.mem_cons_self ..))
   obtain ⟨b,b1,b2⟩:=s.rd (cs:=cs) (xs:=xs) (fun i g hi=>h (i + 1) g (by simpa using hi)) (by simpa using hx) (fun y hy=>hF y (List.mem_cons_of_mem _ hy)) (by omega)
   refine ⟨(a,b),⟨a1,b1⟩,?_⟩
   have e:cs.drop off=(cs.drop off).take (P.cellsOf f.type)++cs.drop (off + P.cellsOf f.type):=by
    rw [←List.drop_drop,List.take_append_drop]
   rw [e]
   rw [ho] at a2
   exact RPs.append a2 b2
 len:=fun y=>by rw [List.length_append,r.len,s.len,hk]
 leaf:=fun y=>Jhr (r.leaf _) (s.leaf _)
theorem Jlp {t:TypeId} {A:Type} {ok:A→Prop} {cells:A→List PV} (r:Rd enc P W spare held F t A ok cells) {cs:Array Value} {d:DataW H} {p:List MemPlace}
 (h:DataW.Trod enc P W 0 spare held t (.agg cs) d p) (hF:∀ x∈p,F x.block):∃ a,ok a∧RP F W (.agg (cells a)) (.agg cs):=by
 obtain ⟨fuel,hf⟩:=h
 obtain ⟨a,h1,h2⟩:=r.rd hf hF
 refine ⟨a,h1,?_⟩
 have:=RP.agg h2 (r.leaf a)
 simpa [Value.cells] using this
theorem Jlq {t:TypeId} {A:Type} {ok:A→Prop} {pk:A→PV} (r:Rd enc P W spare held F t A ok (fun a=>[pk a])) {x:Option Addr} {len cap:Nat} {d:DataW H} {p:List MemPlace}
 (h:DataW.Trod enc P W 0 spare held t (.slice x len cap) d p) (hF:∀ x∈p,F x.block):∃ a,ok a∧RP F W (pk a) (.slice x len cap):=by
 obtain ⟨fuel,hf⟩:=h
 obtain ⟨a,h1,h2⟩:=r.rd hf hF
 refine ⟨a,h1,?_⟩
 simp only [Value.cells] at h2
 cases h2 with
 | cons q1 _=>exact q1
theorem JkF {t:TypeId} {fs:Array Field} {A:Type} {ok:A→Prop} {cells:A→List PV} {size:Nat} (ht:P.underlying t=some (.struct fs)) (hc:P.cellsOf t=size) (s:Fld enc P W spare held F fs.toList 0 A ok cells size):Rd enc P W spare held F t A ok cells where
 rd:=by
  intro fuel cs x h hF
  obtain ⟨xs,n,_,rfl,hl,hlen,hf⟩:=DataW.trod_struct ht h
  obtain ⟨a,a1,a2⟩:=s.rd (n:=n) (cs:=cs) (xs:=xs) (fun i f hi=>hf i f (by simpa using hi)) (by simpa using hlen) (fun y hy p hp=>hF p (List.mem_flatMap.2 ⟨y,hy,hp⟩)) (by omega)
  exact ⟨a,a1,by simpa using a2⟩
 len:=fun a=>by rw [s.len,hc]
 leaf:=s.leaf
end
end Go.Proofs.YtmgfmlhdnadglaaGreatDoor.Th
namespace Go.Proofs
open Go.Shelf
def Tryz.lays169_ren:Go.Shelf.Ren:=⟨fun | 169=>141 | n=>n,fun | 70=>179 | 9=>9 | 0=>0 | 72=>181 | 37=>173 | 127=>207 | 3=>3 | 5=>5 | n=>n,fun | n=>n⟩
theorem Tryz.lays169:Go.Proofs.Lays.n169 Tryz.prog Tryz.lays169_ren:={
 mixed:=by kernel_rfl
 f169:=Tryz.func141.trans (congrArg some (by kernel_rfl))
 t0:=Tryz.underlying0
 a0:=Tryz.isAgg0
 z0:=Tryz.sizeOf0
 v0:=Tryz.zeroValue0
 t3:=Tryz.underlying3
 a3:=Tryz.isAgg3
 z3:=Tryz.sizeOf3
 v3:=Tryz.zeroValue3
 t9:=Tryz.underlying9
 a9:=Tryz.isAgg9
 z9:=Tryz.sizeOf9
 v9:=Tryz.zeroValue9
 t37:=Tryz.underlying173
 a37:=Tryz.isAgg173
 z37:=Tryz.sizeOf173
 v37:=Tryz.zeroValue173
 t70:=Tryz.underlying179
 a70:=Tryz.isAgg179
 z70:=Tryz.sizeOf179
 v70:=Tryz.zeroValue179
 t72:=Tryz.underlying181
 a72:=Tryz.isAgg181
 z72:=Tryz.sizeOf181
 v72:=Tryz.zeroValue181
 t127:=Tryz.underlying207
 a127:=Tryz.isAgg207
 z127:=Tryz.sizeOf207
 v127:=Tryz.zeroValue207 }
theorem Tryz.Builder_Extra_169:Builder.Extra Tryz.prog Tryz.lays169_ren:={
 sizeBuilder:=by kernel_rfl
 liesBuilder:=by kernel_rfl
 t5:=Tryz.underlying5
 a5:=Tryz.isAgg5
 z5:=Tryz.sizeOf5
 v5:=Tryz.zeroValue5
 infoByte:=by kernel_rfl
 cellsByte:=by kernel_rfl
 sizeByte:=by kernel_rfl
 neB5:=by decide }
def Tryz.lays160_ren:Go.Shelf.Ren:=⟨fun | 160=>130 | 232=>153 | 231=>152 | 227=>154 | 234=>156 | 233=>155 | 236=>158 | 235=>157 | 228=>183 | 271=>186 | 151=>185 | 197=>184 | 120=>200 | 152=>199 | 260=>198 | 137=>204 | 119=>205 | 224=>175 | 225=>174 | 217=>173 | 266=>193 | n=>n,fun | 9=>9 | 4=>4 | 3=>3 | 5=>5 | 117=>193 | 116=>192 | 0=>0 | 124=>196 | 21=>21 | 105=>219 | 46=>183 | 119=>243 | 139=>246 | 138=>245 | n=>n,fun | 3=>6 | 4=>7 | n=>n⟩
theorem Tryz.lays160:Go.Proofs.Lays.n160 Tryz.prog Tryz.lays160_ren:={
 mixed:=by kernel_rfl
 f119:=Tryz.func205.trans (congrArg some (by kernel_rfl))
 f120:=Tryz.func200.trans (congrArg some (by kernel_rfl))
 f137:=Tryz.func204.trans (congrArg some (by kernel_rfl))
 f151:=Tryz.func185.trans (congrArg some (by kernel_rfl))
 f152:=Tryz.func199.trans (congrArg some (by kernel_rfl))
 f160:=Tryz.func130.trans (congrArg some (by kernel_rfl))
 f197:=Tryz.func184.trans (congrArg some (by kernel_rfl))
 f217:=Tryz.func173.trans (congrArg some (by kernel_rfl))
 f224:=Tryz.func175.trans (congrArg some (by kernel_rfl))
 f225:=Tryz.func174.trans (congrArg some (by kernel_rfl))
 f227:=Tryz.func154.trans (congrArg some (by kernel_rfl))
 f228:=Tryz.func183.trans (congrArg some (by kernel_rfl))
 f231:=Tryz.func152.trans (congrArg some (by kernel_rfl))
 f232:=Tryz.func153.trans (congrArg some (by kernel_rfl))
 f233:=Tryz.func155.trans (congrArg some (by kernel_rfl))
 f234:=Tryz.func156.trans (congrArg some (by kernel_rfl))
 f235:=Tryz.func157.trans (congrArg some (by kernel_rfl))
 f236:=Tryz.func158.trans (congrArg some (by kernel_rfl))
 f260:=Tryz.func198.trans (congrArg some (by kernel_rfl))
 f266:=Tryz.func193.trans (congrArg some (by kernel_rfl))
 f271:=Tryz.func186.trans (congrArg some (by kernel_rfl))
 t0:=Tryz.underlying0
 a0:=Tryz.isAgg0
 z0:=Tryz.sizeOf0
 v0:=Tryz.zeroValue0
 t3:=Tryz.underlying3
 a3:=Tryz.isAgg3
 z3:=Tryz.sizeOf3
 v3:=Tryz.zeroValue3
 t4:=Tryz.underlying4
 a4:=Tryz.isAgg4
 z4:=Tryz.sizeOf4
 v4:=Tryz.zeroValue4
 t5:=Tryz.underlying5
 a5:=Tryz.isAgg5
 z5:=Tryz.sizeOf5
 v5:=Tryz.zeroValue5
 t9:=Tryz.underlying9
 a9:=Tryz.isAgg9
 z9:=Tryz.sizeOf9
 v9:=Tryz.zeroValue9
 t21:=Tryz.underlying21
 a21:=Tryz.isAgg21
 z21:=Tryz.sizeOf21
 v21:=Tryz.zeroValue21
 t46:=Tryz.underlying183
 a46:=Tryz.isAgg183
 z46:=Tryz.sizeOf183
 v46:=Tryz.zeroValue183
 t105:=Tryz.underlying219
 a105:=Tryz.isAgg219
 z105:=Tryz.sizeOf219
 v105:=Tryz.zeroValue219
 t116:=Tryz.underlying192
 a116:=Tryz.isAgg192
 z116:=Tryz.sizeOf192
 t117:=Tryz.underlying193
 a117:=Tryz.isAgg193
 z117:=Tryz.sizeOf193
 v117:=Tryz.zeroValue193
 t119:=Tryz.underlying243
 a119:=Tryz.isAgg243
 z119:=Tryz.sizeOf243
 t124:=Tryz.underlying196
 a124:=Tryz.isAgg196
 z124:=Tryz.sizeOf196
 v124:=Tryz.zeroValue196
 t138:=Tryz.underlying245
 a138:=Tryz.isAgg245
 z138:=Tryz.sizeOf245
 v138:=Tryz.zeroValue245
 t139:=Tryz.underlying246
 a139:=Tryz.isAgg246
 z139:=Tryz.sizeOf246
 v139:=Tryz.zeroValue246
 g3:=by kernel_rfl
 g4:=by kernel_rfl }
def Tryz.laysM171_ren:Go.Shelf.Ren:=⟨fun | 171=>138 | 243=>164 | 246=>102 | 283=>131 | 284=>132 | 285=>133 | 286=>134 | 129=>160 | 317=>159 | 318=>161 | 319=>162 | 320=>163 | 337=>187 | 338=>188 | n=>n,fun | 3=>3 | 9=>9 | 2=>2 | 4=>4 | 171=>170 | 0=>0 | 53=>144 | 37=>173 | 5=>5 | 173=>174 | 212=>199 | 51=>143 | 20=>20 | 213=>200 | 46=>183 | 232=>236 | 233=>237 | n=>n,fun | 17=>0 | 18=>4 | 19=>5 | n=>n⟩
theorem Tryz.laysM171:Go.Proofs.LaysM.n171 Tryz.prog Tryz.laysM171_ren:={
 mixed:=by kernel_rfl
 f129:=Tryz.func160.trans (congrArg some (by kernel_rfl))
 f171:=Tryz.func138.trans (congrArg some (by kernel_rfl))
 f243:=Tryz.func164.trans (congrArg some (by kernel_rfl))
 f246:=Tryz.func102.trans (congrArg some (by kernel_rfl))
 f283:=Tryz.func131.trans (congrArg some (by kernel_rfl))
 f284:=Tryz.func132.trans (congrArg some (by kernel_rfl))
 f285:=Tryz.func133.trans (congrArg some (by kernel_rfl))
 f286:=Tryz.func134.trans (congrArg some (by kernel_rfl))
 f317:=Tryz.func159.trans (congrArg some (by kernel_rfl))
 f318:=Tryz.func161.trans (congrArg some (by kernel_rfl))
 f319:=Tryz.func162.trans (congrArg some (by kernel_rfl))
 f320:=Tryz.func163.trans (congrArg some (by kernel_rfl))
 f337:=Tryz.func187.trans (congrArg some (by kernel_rfl))
 f338:=Tryz.func188.trans (congrArg some (by kernel_rfl))
 t0:=Tryz.underlying0
 a0:=Tryz.isAgg0
 z0:=Tryz.sizeOf0
 v0:=Tryz.zeroValue0
 t2:=Tryz.underlying2
 a2:=Tryz.isAgg2
 z2:=Tryz.sizeOf2
 v2:=Tryz.zeroValue2
 t3:=Tryz.underlying3
 a3:=Tryz.isAgg3
 z3:=Tryz.sizeOf3
 v3:=Tryz.zeroValue3
 t4:=Tryz.underlying4
 a4:=Tryz.isAgg4
 z4:=Tryz.sizeOf4
 v4:=Tryz.zeroValue4
 t5:=Tryz.underlying5
 a5:=Tryz.isAgg5
 z5:=Tryz.sizeOf5
 v5:=Tryz.zeroValue5
 t9:=Tryz.underlying9
 a9:=Tryz.isAgg9
 z9:=Tryz.sizeOf9
 v9:=Tryz.zeroValue9
 t20:=Tryz.underlying20
 a20:=Tryz.isAgg20
 z20:=Tryz.sizeOf20
 v20:=Tryz.zeroValue20
 t37:=Tryz.underlying173
 a37:=Tryz.isAgg173
 z37:=Tryz.sizeOf173
 v37:=Tryz.zeroValue173
 t46:=Tryz.underlying183
 a46:=Tryz.isAgg183
 z46:=Tryz.sizeOf183
 v46:=Tryz.zeroValue183
 t51:=Tryz.underlying143
 a51:=Tryz.isAgg143
 z51:=Tryz.sizeOf143
 v51:=Tryz.zeroValue143
 t53:=Tryz.underlying144
 a53:=Tryz.isAgg144
 z53:=Tryz.sizeOf144
 v53:=Tryz.zeroValue144
 t171:=Tryz.underlying170
 a171:=Tryz.isAgg170
 z171:=Tryz.sizeOf170
 v171:=Tryz.zeroValue170
 t173:=Tryz.underlying174
 a173:=Tryz.isAgg174
 z173:=Tryz.sizeOf174
 v173:=Tryz.zeroValue174
 t212:=Tryz.underlying199
 a212:=Tryz.isAgg199
 z212:=Tryz.sizeOf199
 v212:=Tryz.zeroValue199
 t213:=Tryz.underlying200
 a213:=Tryz.isAgg200
 z213:=Tryz.sizeOf200
 t232:=Tryz.underlying236
 a232:=Tryz.isAgg236
 z232:=Tryz.sizeOf236
 v232:=Tryz.zeroValue236
 t233:=Tryz.underlying237
 a233:=Tryz.isAgg237
 z233:=Tryz.sizeOf237
 v233:=Tryz.zeroValue237
 g17:=by kernel_rfl
 g18:=by kernel_rfl
 g19:=by kernel_rfl
 i0:=by kernel_rfl
 i2:=by kernel_rfl
 i3:=by kernel_rfl
 i4:=by kernel_rfl
 i5:=by kernel_rfl
 i9:=by kernel_rfl
 i20:=by kernel_rfl
 i37:=by kernel_rfl
 i46:=by kernel_rfl
 i51:=by kernel_rfl
 i53:=by kernel_rfl
 i171:=by kernel_rfl
 i173:=by kernel_rfl
 i212:=by kernel_rfl
 i232:=by kernel_rfl
 i233:=by kernel_rfl
 m17:=by kernel_rfl
 m18:=by kernel_rfl
 m19:=by kernel_rfl }
open Go.RowKit Go.Sort Go.Lib in
theorem Tryz.strconv_Itoa (n:Int) (h0:-9223372036854775808≤n) (h1:n≤9223372036854775807) (w:World) (htab:Lib.TabIs Tryz.prog w "internal/strconv.uint64pow10" .u64 Lib.pow10Tab) :
 Calls Tryz.prog 138 #[.int .i64 n] w fun e w'=>e=.returned (.string ⟨(Lib.itoa n).toArray⟩)∧∃ k os,w'=grow (w.drewN k) os:=Any.strconv_Itoa Tryz.laysM171 n h0 h1 w htab
def Tryz.laysM173_ren:Go.Shelf.Ren:=⟨fun | 173=>60 | 246=>102 | 283=>131 | 284=>132 | 285=>133 | 286=>134 | 129=>160 | 317=>159 | 318=>161 | 319=>162 | 320=>163 | 337=>187 | 338=>188 | n=>n,fun | 2=>2 | 3=>3 | 9=>9 | 4=>4 | 171=>170 | 0=>0 | 53=>144 | 37=>173 | 5=>5 | 173=>174 | 212=>199 | 51=>143 | 20=>20 | 213=>200 | 46=>183 | 232=>236 | 233=>237 | n=>n,fun | 17=>0 | 18=>4 | 19=>5 | n=>n⟩
theorem Tryz.laysM173:Go.Proofs.LaysM.n173 Tryz.prog Tryz.laysM173_ren:={
 mixed:=by kernel_rfl
 f129:=Tryz.func160.trans (congrArg some (by kernel_rfl))
 f173:=Tryz.func60.trans (congrArg some (by kernel_rfl))
 f246:=Tryz.func102.trans (congrArg some (by kernel_rfl))
 f283:=Tryz.func131.trans (congrArg some (by kernel_rfl))
 f284:=Tryz.func132.trans (congrArg some (by kernel_rfl))
 f285:=Tryz.func133.trans (congrArg some (by kernel_rfl))
 f286:=Tryz.func134.trans (congrArg some (by kernel_rfl))
 f317:=Tryz.func159.trans (congrArg some (by kernel_rfl))
 f318:=Tryz.func161.trans (congrArg some (by kernel_rfl))
 f319:=Tryz.func162.trans (congrArg some (by kernel_rfl))
 f320:=Tryz.func163.trans (congrArg some (by kernel_rfl))
 f337:=Tryz.func187.trans (congrArg some (by kernel_rfl))
 f338:=Tryz.func188.trans (congrArg some (by kernel_rfl))
 t0:=Tryz.underlying0
 a0:=Tryz.isAgg0
 z0:=Tryz.sizeOf0
 v0:=Tryz.zeroValue0
 t2:=Tryz.underlying2
 a2:=Tryz.isAgg2
 z2:=Tryz.sizeOf2
 v2:=Tryz.zeroValue2
 t3:=Tryz.underlying3
 a3:=Tryz.isAgg3
 z3:=Tryz.sizeOf3
 v3:=Tryz.zeroValue3
 t4:=Tryz.underlying4
 a4:=Tryz.isAgg4
 z4:=Tryz.sizeOf4
 v4:=Tryz.zeroValue4
 t5:=Tryz.underlying5
 a5:=Tryz.isAgg5
 z5:=Tryz.sizeOf5
 v5:=Tryz.zeroValue5
 t9:=Tryz.underlying9
 a9:=Tryz.isAgg9
 z9:=Tryz.sizeOf9
 v9:=Tryz.zeroValue9
 t20:=Tryz.underlying20
 a20:=Tryz.isAgg20
 z20:=Tryz.sizeOf20
 v20:=Tryz.zeroValue20
 t37:=Tryz.underlying173
 a37:=Tryz.isAgg173
 z37:=Tryz.sizeOf173
 v37:=Tryz.zeroValue173
 t46:=Tryz.underlying183
 a46:=Tryz.isAgg183
 z46:=Tryz.sizeOf183
 v46:=Tryz.zeroValue183
 t51:=Tryz.underlying143
 a51:=Tryz.isAgg143
 z51:=Tryz.sizeOf143
 v51:=Tryz.zeroValue143
 t53:=Tryz.underlying144
 a53:=Tryz.isAgg144
 z53:=Tryz.sizeOf144
 v53:=Tryz.zeroValue144
 t171:=Tryz.underlying170
 a171:=Tryz.isAgg170
 z171:=Tryz.sizeOf170
 v171:=Tryz.zeroValue170
 t173:=Tryz.underlying174
 a173:=Tryz.isAgg174
 z173:=Tryz.sizeOf174
 v173:=Tryz.zeroValue174
 t212:=Tryz.underlying199
 a212:=Tryz.isAgg199
 z212:=Tryz.sizeOf199
 v212:=Tryz.zeroValue199
 t213:=Tryz.underlying200
 a213:=Tryz.isAgg200
 z213:=Tryz.sizeOf200
 t232:=Tryz.underlying236
 a232:=Tryz.isAgg236
 z232:=Tryz.sizeOf236
 v232:=Tryz.zeroValue236
 t233:=Tryz.underlying237
 a233:=Tryz.isAgg237
 z233:=Tryz.sizeOf237
 v233:=Tryz.zeroValue237
 g17:=by kernel_rfl
 g18:=by kernel_rfl
 g19:=by kernel_rfl
 i0:=by kernel_rfl
 i2:=by kernel_rfl
 i3:=by kernel_rfl
 i4:=by kernel_rfl
 i5:=by kernel_rfl
 i9:=by kernel_rfl
 i20:=by kernel_rfl
 i37:=by kernel_rfl
 i46:=by kernel_rfl
 i51:=by kernel_rfl
 i53:=by kernel_rfl
 i171:=by kernel_rfl
 i173:=by kernel_rfl
 i212:=by kernel_rfl
 i232:=by kernel_rfl
 i233:=by kernel_rfl
 m17:=by kernel_rfl
 m18:=by kernel_rfl
 m19:=by kernel_rfl }
open Go.RowKit Go.Sort Go.Lib in
theorem Tryz.strconv_FormatInt_10 (n:Int) (h0:-9223372036854775808≤n) (h1:n≤9223372036854775807) (w:World) (htab:Lib.TabIs Tryz.prog w "internal/strconv.uint64pow10" .u64 Lib.pow10Tab) :
 Calls Tryz.prog 60 #[.int .i64 n,.int .i64 10] w fun e w'=>e=.returned (.string ⟨(Lib.itoa n).toArray⟩)∧∃ k os,w'=grow (w.drewN k) os:=Any.strconv_FormatInt_10 Tryz.laysM173 n h0 h1 w htab
def Tryz.laysC172_ren:Go.Shelf.Ren:=⟨fun | 172=>129 | 244=>150 | 245=>151 | 247=>178 | 279=>179 | 280=>180 | 281=>181 | 282=>182 | 287=>195 | 316=>196 | 171=>138 | 205=>197 | 321=>202 | 322=>203 | 243=>164 | 246=>102 | 283=>131 | 284=>132 | 285=>133 | 286=>134 | 129=>160 | 317=>159 | 318=>161 | 319=>162 | 320=>163 | 337=>187 | 338=>188 | n=>n,fun | 9=>9 | 3=>3 | 75=>166 | 76=>167 | 4=>4 | 5=>5 | 167=>212 | 37=>173 | 0=>0 | 85=>213 | 2=>2 | 168=>215 | 53=>144 | 175=>230 | 46=>183 | 210=>233 | 127=>207 | 145=>242 | 143=>240 | 21=>21 | 171=>170 | 173=>174 | 212=>199 | 51=>143 | 20=>20 | 213=>200 | 232=>236 | 233=>237 | 80=>154 | n=>n,fun | 15=>2 | 16=>3 | 17=>0 | 18=>4 | 19=>5 | n=>n⟩
theorem Tryz.laysC172:Go.Proofs.LaysC.n172 Tryz.prog Tryz.laysC172_ren:={
 mixed:=by kernel_rfl
 f129:=Tryz.func160.trans (congrArg some (by kernel_rfl))
 f171:=Tryz.func138.trans (congrArg some (by kernel_rfl))
 f172:=Tryz.func129.trans (congrArg some (by kernel_rfl))
 f205:=Tryz.func197.trans (congrArg some (by kernel_rfl))
 f243:=Tryz.func164.trans (congrArg some (by kernel_rfl))
 f244:=Tryz.func150.trans (congrArg some (by kernel_rfl))
 f245:=Tryz.func151.trans (congrArg some (by kernel_rfl))
 f246:=Tryz.func102.trans (congrArg some (by kernel_rfl))
 f247:=Tryz.func178.trans (congrArg some (by kernel_rfl))
 f279:=Tryz.func179.trans (congrArg some (by kernel_rfl))
 f280:=Tryz.func180.trans (congrArg some (by kernel_rfl))
 f281:=Tryz.func181.trans (congrArg some (by kernel_rfl))
 f282:=Tryz.func182.trans (congrArg some (by kernel_rfl))
 f283:=Tryz.func131.trans (congrArg some (by kernel_rfl))
 f284:=Tryz.func132.trans (congrArg some (by kernel_rfl))
 f285:=Tryz.func133.trans (congrArg some (by kernel_rfl))
 f286:=Tryz.func134.trans (congrArg some (by kernel_rfl))
 f287:=Tryz.func195.trans (congrArg some (by kernel_rfl))
 f316:=Tryz.func196.trans (congrArg some (by kernel_rfl))
 f317:=Tryz.func159.trans (congrArg some (by kernel_rfl))
 f318:=Tryz.func161.trans (congrArg some (by kernel_rfl))
 f319:=Tryz.func162.trans (congrArg some (by kernel_rfl))
 f320:=Tryz.func163.trans (congrArg some (by kernel_rfl))
 f321:=Tryz.func202.trans (congrArg some (by kernel_rfl))
 f322:=Tryz.func203.trans (congrArg some (by kernel_rfl))
 f337:=Tryz.func187.trans (congrArg some (by kernel_rfl))
 f338:=Tryz.func188.trans (congrArg some (by kernel_rfl))
 t0:=Tryz.underlying0
 a0:=Tryz.isAgg0
 z0:=Tryz.sizeOf0
 v0:=Tryz.zeroValue0
 t2:=Tryz.underlying2
 a2:=Tryz.isAgg2
 z2:=Tryz.sizeOf2
 v2:=Tryz.zeroValue2
 t3:=Tryz.underlying3
 a3:=Tryz.isAgg3
 z3:=Tryz.sizeOf3
 v3:=Tryz.zeroValue3
 t4:=Tryz.underlying4
 a4:=Tryz.isAgg4
 z4:=Tryz.sizeOf4
 v4:=Tryz.zeroValue4
 t5:=Tryz.underlying5
 a5:=Tryz.isAgg5
 z5:=Tryz.sizeOf5
 v5:=Tryz.zeroValue5
 t9:=Tryz.underlying9
 a9:=Tryz.isAgg9
 z9:=Tryz.sizeOf9
 v9:=Tryz.zeroValue9
 t20:=Tryz.underlying20
 a20:=Tryz.isAgg20
 z20:=Tryz.sizeOf20
 v20:=Tryz.zeroValue20
 t21:=Tryz.underlying21
 a21:=Tryz.isAgg21
 z21:=Tryz.sizeOf21
 v21:=Tryz.zeroValue21
 t37:=Tryz.underlying173
 a37:=Tryz.isAgg173
 z37:=Tryz.sizeOf173
 v37:=Tryz.zeroValue173
 t46:=Tryz.underlying183
 a46:=Tryz.isAgg183
 z46:=Tryz.sizeOf183
 v46:=Tryz.zeroValue183
 t51:=Tryz.underlying143
 a51:=Tryz.isAgg143
 z51:=Tryz.sizeOf143
 v51:=Tryz.zeroValue143
 t53:=Tryz.underlying144
 a53:=Tryz.isAgg144
 z53:=Tryz.sizeOf144
 v53:=Tryz.zeroValue144
 t75:=Tryz.underlying166
 a75:=Tryz.isAgg166
 z75:=Tryz.sizeOf166
 v75:=Tryz.zeroValue166
 t76:=Tryz.underlying167
 a76:=Tryz.isAgg167
 z76:=Tryz.sizeOf167
 v76:=Tryz.zeroValue167
 t85:=Tryz.underlying213
 a85:=Tryz.isAgg213
 z85:=Tryz.sizeOf213
 v85:=Tryz.zeroValue213
 t127:=Tryz.underlying207
 a127:=Tryz.isAgg207
 z127:=Tryz.sizeOf207
 v127:=Tryz.zeroValue207
 t143:=Tryz.underlying240
 a143:=Tryz.isAgg240
 z143:=Tryz.sizeOf240
 v143:=Tryz.zeroValue240
 t145:=Tryz.underlying242
 a145:=Tryz.isAgg242
 z145:=Tryz.sizeOf242
 v145:=Tryz.zeroValue242
 t167:=Tryz.underlying212
 a167:=Tryz.isAgg212
 z167:=Tryz.sizeOf212
 v167:=Tryz.zeroValue212
 t168:=Tryz.underlying215
 a168:=Tryz.isAgg215
 z168:=Tryz.sizeOf215
 v168:=Tryz.zeroValue215
 t171:=Tryz.underlying170
 a171:=Tryz.isAgg170
 z171:=Tryz.sizeOf170
 v171:=Tryz.zeroValue170
 t173:=Tryz.underlying174
 a173:=Tryz.isAgg174
 z173:=Tryz.sizeOf174
 v173:=Tryz.zeroValue174
 t175:=Tryz.underlying230
 a175:=Tryz.isAgg230
 z175:=Tryz.sizeOf230
 v175:=Tryz.zeroValue230
 t210:=Tryz.underlying233
 a210:=Tryz.isAgg233
 z210:=Tryz.sizeOf233
 v210:=Tryz.zeroValue233
 t212:=Tryz.underlying199
 a212:=Tryz.isAgg199
 z212:=Tryz.sizeOf199
 v212:=Tryz.zeroValue199
 t213:=Tryz.underlying200
 a213:=Tryz.isAgg200
 z213:=Tryz.sizeOf200
 t232:=Tryz.underlying236
 a232:=Tryz.isAgg236
 z232:=Tryz.sizeOf236
 v232:=Tryz.zeroValue236
 t233:=Tryz.underlying237
 a233:=Tryz.isAgg237
 z233:=Tryz.sizeOf237
 v233:=Tryz.zeroValue237
 g15:=by kernel_rfl
 g16:=by kernel_rfl
 g17:=by kernel_rfl
 g18:=by kernel_rfl
 g19:=by kernel_rfl
 t80:=Tryz.underlying154
 a80:=Tryz.isAgg154
 z80:=Tryz.sizeOf154
 v80:=Tryz.zeroValue154
 i0:=by kernel_rfl
 i2:=by kernel_rfl
 i3:=by kernel_rfl
 i4:=by kernel_rfl
 i5:=by kernel_rfl
 i9:=by kernel_rfl
 i20:=by kernel_rfl
 i21:=by kernel_rfl
 i37:=by kernel_rfl
 i46:=by kernel_rfl
 i51:=by kernel_rfl
 i53:=by kernel_rfl
 i75:=by kernel_rfl
 i76:=by kernel_rfl
 i80:=by kernel_rfl
 i85:=by kernel_rfl
 i127:=by kernel_rfl
 i143:=by kernel_rfl
 i145:=by kernel_rfl
 i167:=by kernel_rfl
 i168:=by kernel_rfl
 i171:=by kernel_rfl
 i173:=by kernel_rfl
 i175:=by kernel_rfl
 i210:=by kernel_rfl
 i212:=by kernel_rfl
 i232:=by kernel_rfl
 i233:=by kernel_rfl
 m15:=by kernel_rfl
 m16:=by kernel_rfl
 m17:=by kernel_rfl
 m18:=by kernel_rfl
 m19:=by kernel_rfl
 c0:=by kernel_rfl
 c2:=by kernel_rfl
 c3:=by kernel_rfl
 c4:=by kernel_rfl
 c5:=by kernel_rfl
 c9:=by kernel_rfl
 c20:=by kernel_rfl
 c21:=by kernel_rfl
 c37:=by kernel_rfl
 c46:=by kernel_rfl
 c51:=by kernel_rfl
 c53:=by kernel_rfl
 c75:=by kernel_rfl
 c76:=by kernel_rfl
 c80:=by kernel_rfl
 c85:=by kernel_rfl
 c127:=by kernel_rfl
 c143:=by kernel_rfl
 c145:=by kernel_rfl
 c167:=by kernel_rfl
 c168:=by kernel_rfl
 c171:=by kernel_rfl
 c173:=by kernel_rfl
 c175:=by kernel_rfl
 c210:=by kernel_rfl
 c212:=by kernel_rfl
 c213:=by kernel_rfl
 c232:=by kernel_rfl
 c233:=by kernel_rfl }
open Go.RowKit in
theorem Tryz.strconv_Atoi_ok (s:ByteArray) (hmax:s.size≤9223372036854775806) (v:Int) (h:Lib.atoiAll s.data.toList=.ok v) (w:World) :
 Calls Tryz.prog 129 #[.string s] w fun e w'=>e=.returned (.tuple #[.int .i64 v,.nilIface])∧(w'=w∨∃ t,w'=Lib.bytesWorld w 5 t):=Any.strconv_Atoi_ok Tryz.laysC172 s hmax v h w
def Tryz.lays219_ren:Go.Shelf.Ren:=⟨fun | 219=>148 | 217=>173 | 225=>174 | 224=>175 | 267=>176 | 266=>193 | 314=>194 | n=>n,fun | 9=>9 | 3=>3 | 4=>4 | 5=>5 | 46=>183 | 146=>223 | 51=>143 | n=>n,fun | 1=>1 | n=>n⟩
theorem Tryz.lays219:Go.Proofs.Lays.n219 Tryz.prog Tryz.lays219_ren:={
 mixed:=by kernel_rfl
 f217:=Tryz.func173.trans (congrArg some (by kernel_rfl))
 f219:=Tryz.func148.trans (congrArg some (by kernel_rfl))
 f224:=Tryz.func175.trans (congrArg some (by kernel_rfl))
 f225:=Tryz.func174.trans (congrArg some (by kernel_rfl))
 f266:=Tryz.func193.trans (congrArg some (by kernel_rfl))
 f267:=Tryz.func176.trans (congrArg some (by kernel_rfl))
 f314:=Tryz.func194.trans (congrArg some (by kernel_rfl))
 t3:=Tryz.underlying3
 a3:=Tryz.isAgg3
 z3:=Tryz.sizeOf3
 v3:=Tryz.zeroValue3
 t4:=Tryz.underlying4
 a4:=Tryz.isAgg4
 z4:=Tryz.sizeOf4
 v4:=Tryz.zeroValue4
 t5:=Tryz.underlying5
 a5:=Tryz.isAgg5
 z5:=Tryz.sizeOf5
 v5:=Tryz.zeroValue5
 t9:=Tryz.underlying9
 a9:=Tryz.isAgg9
 z9:=Tryz.sizeOf9
 v9:=Tryz.zeroValue9
 t46:=Tryz.underlying183
 a46:=Tryz.isAgg183
 z46:=Tryz.sizeOf183
 v46:=Tryz.zeroValue183
 t51:=Tryz.underlying143
 a51:=Tryz.isAgg143
 z51:=Tryz.sizeOf143
 v51:=Tryz.zeroValue143
 t146:=Tryz.underlying223
 a146:=Tryz.isAgg223
 z146:=Tryz.sizeOf223
 v146:=Tryz.zeroValue223
 g1:=by kernel_rfl }
open Go.RowKit Go.Lib in
theorem Tryz.stringslite_Index_one (s:ByteArray) (c:UInt8) (w:World) :
 Calls Tryz.prog 148 #[.string s,.string ⟨#[c]⟩] w fun e w'=>e=.returned (.int .i64 (Lib.indexByte s.data.toList c))∧w'=w:=Any.stringslite_Index_one Tryz.lays219 s c w
def Tryz.lays105_ren:Go.Shelf.Ren:=⟨fun | 105=>139 | 212=>165 | 99=>166 | 165=>167 | 166=>140 | 170=>168 | 169=>141 | 263=>189 | 264=>190 | 206=>177 | 240=>169 | 241=>191 | 276=>192 | 277=>201 | n=>n,fun | 9=>9 | 3=>3 | 4=>4 | 20=>20 | 0=>0 | 46=>183 | 109=>202 | 5=>5 | 72=>181 | 76=>167 | 51=>143 | 146=>223 | 53=>144 | 148=>225 | 70=>179 | 37=>173 | 75=>166 | 127=>207 | 164=>227 | 80=>154 | n=>n,fun | n=>n⟩
theorem Tryz.lays105:Go.Proofs.Lays.n105 Tryz.prog Tryz.lays105_ren:={
 mixed:=by kernel_rfl
 f99:=Tryz.func166.trans (congrArg some (by kernel_rfl))
 f105:=Tryz.func139.trans (congrArg some (by kernel_rfl))
 f165:=Tryz.func167.trans (congrArg some (by kernel_rfl))
 f166:=Tryz.func140.trans (congrArg some (by kernel_rfl))
 f169:=Tryz.func141.trans (congrArg some (by kernel_rfl))
 f170:=Tryz.func168.trans (congrArg some (by kernel_rfl))
 f206:=Tryz.func177.trans (congrArg some (by kernel_rfl))
 f212:=Tryz.func165.trans (congrArg some (by kernel_rfl))
 f240:=Tryz.func169.trans (congrArg some (by kernel_rfl))
 f241:=Tryz.func191.trans (congrArg some (by kernel_rfl))
 f263:=Tryz.func189.trans (congrArg some (by kernel_rfl))
 f264:=Tryz.func190.trans (congrArg some (by kernel_rfl))
 f276:=Tryz.func192.trans (congrArg some (by kernel_rfl))
 f277:=Tryz.func201.trans (congrArg some (by kernel_rfl))
 t0:=Tryz.underlying0
 a0:=Tryz.isAgg0
 z0:=Tryz.sizeOf0
 v0:=Tryz.zeroValue0
 t3:=Tryz.underlying3
 a3:=Tryz.isAgg3
 z3:=Tryz.sizeOf3
 v3:=Tryz.zeroValue3
 t4:=Tryz.underlying4
 a4:=Tryz.isAgg4
 z4:=Tryz.sizeOf4
 v4:=Tryz.zeroValue4
 t5:=Tryz.underlying5
 a5:=Tryz.isAgg5
 z5:=Tryz.sizeOf5
 v5:=Tryz.zeroValue5
 t9:=Tryz.underlying9
 a9:=Tryz.isAgg9
 z9:=Tryz.sizeOf9
 v9:=Tryz.zeroValue9
 t20:=Tryz.underlying20
 a20:=Tryz.isAgg20
 z20:=Tryz.sizeOf20
 v20:=Tryz.zeroValue20
 t37:=Tryz.underlying173
 a37:=Tryz.isAgg173
 z37:=Tryz.sizeOf173
 v37:=Tryz.zeroValue173
 t46:=Tryz.underlying183
 a46:=Tryz.isAgg183
 z46:=Tryz.sizeOf183
 v46:=Tryz.zeroValue183
 t51:=Tryz.underlying143
 a51:=Tryz.isAgg143
 z51:=Tryz.sizeOf143
 v51:=Tryz.zeroValue143
 t53:=Tryz.underlying144
 a53:=Tryz.isAgg144
 z53:=Tryz.sizeOf144
 v53:=Tryz.zeroValue144
 t70:=Tryz.underlying179
 a70:=Tryz.isAgg179
 z70:=Tryz.sizeOf179
 v70:=Tryz.zeroValue179
 t72:=Tryz.underlying181
 a72:=Tryz.isAgg181
 z72:=Tryz.sizeOf181
 v72:=Tryz.zeroValue181
 t75:=Tryz.underlying166
 a75:=Tryz.isAgg166
 z75:=Tryz.sizeOf166
 v75:=Tryz.zeroValue166
 t76:=Tryz.underlying167
 a76:=Tryz.isAgg167
 z76:=Tryz.sizeOf167
 v76:=Tryz.zeroValue167
 t109:=Tryz.underlying202
 a109:=Tryz.isAgg202
 z109:=Tryz.sizeOf202
 v109:=Tryz.zeroValue202
 t127:=Tryz.underlying207
 a127:=Tryz.isAgg207
 z127:=Tryz.sizeOf207
 v127:=Tryz.zeroValue207
 t146:=Tryz.underlying223
 a146:=Tryz.isAgg223
 z146:=Tryz.sizeOf223
 v146:=Tryz.zeroValue223
 t148:=Tryz.underlying225
 a148:=Tryz.isAgg225
 z148:=Tryz.sizeOf225
 v148:=Tryz.zeroValue225
 t164:=Tryz.underlying227
 a164:=Tryz.isAgg227
 z164:=Tryz.sizeOf227
 v164:=Tryz.zeroValue227 }
theorem Tryz.Builder_Extra_105:Builder.Extra Tryz.prog Tryz.lays105_ren:={
 sizeBuilder:=by kernel_rfl
 liesBuilder:=by kernel_rfl
 t5:=Tryz.underlying5
 a5:=Tryz.isAgg5
 z5:=Tryz.sizeOf5
 v5:=Tryz.zeroValue5
 infoByte:=by kernel_rfl
 cellsByte:=by kernel_rfl
 sizeByte:=by kernel_rfl
 neB5:=by decide }
open Go.RowKit Go.Lib in
theorem Tryz.strings_Repeat (s:ByteArray) (c:Nat) (w:World) (hc:c≤9223372036854775807) (hlen:s.size * c≤140737488355328) :
 Calls Tryz.prog 139 #[.string s,.int .i64 c] w fun e w'=>e=.returned (.string ⟨(Lib.repeatL s.data.toList c).toArray⟩)∧Below w.heap.size w w':=Any.strings_Repeat Tryz.lays105 Tryz.Builder_Extra_105 s c w hc hlen
end Go.Proofs
