/- Functions of the program, and what they come to. -/
import Derived.Test.YtgmadfpnljibhaaGreatExactFlushStripeF14
import Derived.Deep.RegionLaw
import Derived.Laws.Externs
import Derived.Laws.IdiomCopy
import Derived.Laws.NewBlocks
import Derived.Lib.AppendZerosOnto
import Derived.Lib.Overlaps
import Derived.Lib.SliceRun
import Derived.Lib.Walk
import Derived.Shelf.RegionOpenPlain
import Derived.Shelf.Spec.SlicesInsert
import Derived.WalkKit
namespace Go.Tf
noncomputable section
open Go.Proofs
set_option synthInstance.maxHeartbeats 400000
set_option synthInstance.maxSize 10000
set_option linter.unusedVariables false
set_option linter.unusedSimpArgs false
set_option maxRecDepth 100000
abbrev ygY:List Par:= [.kp tWs (.ow (.pr .fz (.ow .fz))),.rd tI,.rd tI]
abbrev yg4:List OT:= [⟨false,tWs,(.ow (.pr .fz (.ow .fz)))⟩]
end
end Go.Tf
namespace Go.Proofs
noncomputable section
open Go.Tf Go.RowKit Go.Lib
set_option synthInstance.maxHeartbeats 400000
set_option synthInstance.maxSize 10000
set_option linter.unusedVariables false
set_option linter.unusedSimpArgs false
set_option maxRecDepth 100000
set_option maxHeartbeats 4000000 in
set_option maxRecDepth 1000000 in
theorem y2B (w:World) (b off n c i j:Nat) (hij:i < j) (hj:j≤n) (hn:n≤c) (i0:TypeInfo) (hi0:Tryz.prog.info? 129=some i0) (hz1:i0.size=2) (hund:Tryz.prog.underlying 27=some (.slice 129))
  (news zs:List Value) (z:Value) (hz:Hdd (∀ w,(zeroValue 129).run Tryz.prog w= .ok z w)) (hzs:Hdd ((Builtin.zeroCells z.cells (n - (i+(n - j)))).toList=zs)) (hzl:Hdd (zs.length=(j - i) * 2)) (hz1c:Hdd (∀ v∈zs,v.oneCell'=true))
  (hnl:Hdd (news.length=(n - j) * 2)) (hn1:Hdd (∀ v∈news,v.oneCell'=true)) (hnews:Hdd (∀ t u,news[t]? =some u→w.drew.cell? ⟨b,off+j * 2+t,none⟩=some u))
  (hcell:Hdd (∀ t,t < n * 2→(w.drew.cell? ⟨b,off+t,none⟩).isSome=true)) (hfr:Hdd (∀ t,t < n * 2→w.drew.frozen? ⟨b,off+t,none⟩=false)) :
  Calls Tryz.prog 184 #[.slice (some ⟨b,off,none⟩) n c,.int .i64 i,.int .i64 j] w fun e w'=>e= .returned (.slice (some ⟨b,off,none⟩) (i+(n - j)) c) ∧
   w'=(w.drew.setCells b (off+i * 2) news).setCells b (off+(i+(n - j)) * 2) zs:=by
 have hne: ¬ ((i:Int)=(j:Int)):=by omega
 have yb:Tryz.prog.follows .mixedOrders=true:=by kernel_rfl
 obtain ⟨A,hA,hsrc⟩: ∃ A:Addr,(if c=j then (some ⟨b,off,none⟩:Option Addr) else some ⟨b,off+j * 2,none⟩)=some A∧Hdd (∀ t u,news[t]? =some u→w.drew.cell? (A.add t)=some u):=by
  by_cases h:c=j
  ·refine ⟨⟨b,off,none⟩,by simp [h],fun t u hu=> ?_⟩
   have h0:news.length=0:=by rw [hnl.out,show n - j=0 by omega]
   rw [List.length_eq_zero_iff.1 h0]at hu
   simp at hu
  ·exact ⟨⟨b,off+j * 2,none⟩,by simp [h],fun t u hu=>by rw [zay]; exact hnews.out t u hu⟩
 have s3:Hdd (∀ t,t < news.length→(w.drew.cell? ⟨b,off+i * 2+t,none⟩).isSome=true∧w.drew.frozen? ⟨b,off+i * 2+t,none⟩=false):=by
  intro t ht
  rw [hnl.out]at ht
  rw [Nat.add_assoc]
  exact ⟨hcell.out _ (by omega),hfr.out _ (by omega)⟩
 obtain ⟨W1,hW1⟩: ∃ W1,W1=w.drew.setCells b (off+i * 2) news:=⟨_,rfl⟩
 have hW:Hdd (W1=w.drew.setCells b (off+i * 2) news):=hW1
 have hic:i≤c:=by omega
 have hjc:j≤c:=by omega
 have hcl: ∀ ty,(Builtin.clear_ #[27] ty #[.slice (some ⟨b,off+(i+(n - j)) * 2,none⟩) (n - (i+(n - j))) (c - (i+(n - j)))]).run Tryz.prog W1= .ok (.tuple #[]) (W1.setCells b (off+(i+(n - j)) * 2) zs):=fun ty=>by
  refine y1z W1 27 129 ty z hund hz.out zs b _ _ _ (by omega) hzs.out hz1c.out (fun t ht=> ?_) (fun t ht=> ?_)
  ·rw [hzl.out]at ht
   rw [hW1,show off+(i+(n - j)) * 2+t=off+((i+(n - j)) * 2+t) by omega]
   exact Tf.isSome_setCells b _ _ _ (fun q hq=>(s3.out q hq).1) _ (hcell.out _ (by omega))
  ·rw [hzl.out]at ht
   rw [hW1,World.frozen?_setCells,show off+(i+(n - j)) * 2+t=off+((i+(n - j)) * 2+t) by omega]
   exact hfr.out _ (by omega)
 rw [← hW1]
 clear hW1
 go_enter Tryz.func184,Tryz.ntmps184
 go_wp2_with fail
 go_region_law_o (refine step_append_room rfl (.tmp 22) (.tmp 25) 27 rfl 129 i0 2 hund hi0 hz1 b off i c (by simp [Act.eval,Act.put]) A (n - j) (c - j) news (by simp [Act.eval,Act.put]) hnl.out hsrc.out hn1.out (by omega) s3.out ?_; rw [← hW.out])
 go_wp2
 go_ret
 exact ⟨rfl,rfl⟩
end
end Go.Proofs
namespace Go.Tf
noncomputable section
open Go.Proofs
set_option synthInstance.maxHeartbeats 400000
set_option synthInstance.maxSize 10000
set_option linter.unusedVariables false
set_option linter.unusedSimpArgs false
set_option maxRecDepth 100000
def yau (l:List dW) (i j:Int):Bool:=leb 0 i&&(ltb i j&&leb j (l.length:Int))
def ydN (l:List dW) (i j:Int):List dW:=l.take i.toNat++l.drop j.toNat
def yVP:Con:=⟨ygY,yg4,fun x=>bif yau x.1 x.2.1 x.2.2.1 then some ((ydN x.1 x.2.1 x.2.2.1,()),()) else none⟩
theorem y23 (w:World) (Z R:Nat→Prop) (l:List dW) (i j:Nat) (a0:Value) (f0:List Nat) (o0:Own (hp w) Z (.sl tW) (.ow aW) l [a0] f0) (hij:i < j) (hj:j≤l.length)
  (hlow: ∀ b,Z b∨R b→b < w.heap.size) (hnd:f0.Nodup) (hfr: ∀ b∈f0,b < w.heap.size∧ ¬ Z b∧ ¬ R b):Calls Tryz.prog 184 #[a0,.int .i64 (i:Int),.int .i64 (j:Int)] w (DoneOk yVP [a0,.int .i64 (i:Int),.int .i64 (j:Int)] [f0,[],[]] Z w ((l.take i++l.drop j,()),())):=by
 have hund:Tryz.prog.underlying 27=some (.slice 129):=by kernel_rfl
 have hinf:(Tryz.prog.info? 129).map (fun f=>(f.zero,f.size,f.bytes))=some (some (zeroVal tW),tW.size,tW.bytes):=by kernel_rfl
 obtain ⟨i0,hi0,hz0,hsz,hbz⟩: ∃ i0,Tryz.prog.info? 129=some i0∧i0.zero=some (zeroVal tW)∧i0.size=2∧i0.bytes=32:=by
  cases hq:Tryz.prog.info? 129 with
  | none=>rw [hq]at hinf; cases hinf
  | some f =>
   rw [hq]at hinf
   simp only [Option.map_some,Option.some.injEq,Prod.mk.injEq]at hinf
   exact ⟨f,rfl,hinf.1,hinf.2.1,hinf.2.2⟩
 have hzc:(zeroVal tW).cells.size=2:=rfl
 have hfl:([f0,[],[]]:List (List Nat)).flatten=f0:=by simp
 obtain ⟨hd,cap,hv0,hbnd,hlc,hc0⟩:=Own.elems o0
 subst hv0
 have hszt:tW.size=2:=rfl
 rcases hc0 with ⟨rfl,rfl,rfl,rfl⟩ | ⟨b,o,c,T,vs0,fp0,rfl,hB,hcap,hf0,hcs0,e0⟩
 ·simp at hj; omega
 ·have e0':=e0
  have hfle:=e0.fl
  have hsub:(fp0.take i++fp0.drop j).flatten.Sublist fp0.flatten:=by
   have h1:fp0.flatten=(fp0.take i).flatten++(((fp0.drop i).take (j - i)).flatten++(fp0.drop j).flatten):=by
    have:fp0.drop j=(fp0.drop i).drop (j - i):=by rw [List.drop_drop,show i+(j - i)=j by omega]
    rw [this,← List.flatten_append,List.take_append_drop,← List.flatten_append,List.take_append_drop]
   rw [h1,List.flatten_append]
   exact List.Sublist.append (List.Sublist.refl _) (List.sublist_append_right _ _)
  have hnd3:(b::fp0.flatten).Nodup:=by rw [← hf0]; exact hnd
  have hgb: ∀ x∈fp0.flatten,x≠b:=fun x hx e=>(List.nodup_cons.1 hnd3).1 (e ▸ hx)
  have hl0:=e0.len
  rw [hszt]at hcs0 hcap hl0
  have h1c:=fun v hv=>zif (e0.isCells (by decide) v hv)
  have hbf:b∈f0:=by rw [hf0]; exact List.mem_cons_self
  obtain ⟨hblt,hbZ,_⟩:=hfr b hbf
  have hdl:(vs0.drop (j * 2)).length=(l.length - j) * 2:=by rw [List.length_drop]; omega
  obtain ⟨zs,hzs⟩: ∃ zs,(Builtin.zeroCells (zeroVal tW).cells (l.length - (i+(l.length - j)))).toList=zs:=⟨_,rfl⟩
  have hzl:zs.length=(j - i) * 2:=by
   rw [← hzs,Array.length_toList,size_zeroCells,hzc]
   omega
  have hz1: ∀ v∈zs,v.oneCell'=true:=fun v hv=>by
   rw [← hzs]at hv
   have hzc2:(zeroVal tW).cells= #[.int .i64 0,.slice none 0 0]:=rfl
   simp only [Builtin.zeroCells,hzc2,Array.toList_map,List.mem_map]at hv
   obtain ⟨i,_,rfl⟩:=hv
   have h2:i % 2 < 2:=Nat.mod_lt _ (by decide)
   generalize i % 2=r at h2
   show (#[Value.int .i64 0,.slice none 0 0][r]!).oneCell'=true
   match r,h2 with
   | 0,_=>rfl
   | 1,_=>rfl
  have hin: ∀ t,t < l.length * 2→(w.drew.cell? ⟨b,o+t,none⟩).isSome=true∧w.drew.frozen? ⟨b,o+t,none⟩=false:=fun t ht=>y1G (w:=w.drew) hB (by omega)
  refine (y2B w b o l.length cap i j hij hj hlc i0 hi0 hsz hund (vs0.drop (j * 2)) zs (zeroVal tW) (fun w=>by simp [zeroValue,typeInfo,hi0,hz0]) hzs hzl hz1 hdl (fun v hv=>h1c v (List.mem_of_mem_drop hv)) (fun t u ht=>by
   rw [List.getElem?_drop]at ht
   rw [Nat.add_assoc]
   exact yyr (w:=w.drew) hcs0 _ u ht) (fun t ht=>(hin t ht).1) (fun t ht=>(hin t ht).2)).mono fun e w2 ⟨he,hw2⟩=> ?_
  subst he
  have e1:w.drew.setCells b (o+i * 2) (vs0.drop (j * 2))=World.setBlk w.drew b (ze c (o+i * 2) (vs0.drop (j * 2))) T:=ygW _ _ w.drew c hB (by omega)
  have hb1:hp (World.setBlk w.drew b (ze c (o+i * 2) (vs0.drop (j * 2))) T) b=some (.cells (ze c (o+i * 2) (vs0.drop (j * 2))) T (0,0)):=za5 (w:=w.drew) hblt
  rw [e1,ygW zs _ _ _ hb1 (by rw [zaN]; omega)] at hw2
  subst hw2
  have hsz1:b < (World.setBlk w.drew b (ze c (o+i * 2) (vs0.drop (j * 2))) T).heap.size:=by simp [World.setBlk]<;>exact hblt
  have hBn:=za5 (c:=ze (ze c (o+i * 2) (vs0.drop (j * 2))) (o+(i+(l.length - j)) * 2) zs) (T:=T) hsz1
  have oth: ∀ b',b'≠b→hp (World.setBlk (World.setBlk w.drew b (ze c (o+i * 2) (vs0.drop (j * 2))) T) b (ze (ze c (o+i * 2) (vs0.drop (j * 2))) (o+(i+(l.length - j)) * 2) zs) T) b'=hp w b':=fun b' h=>(zaI h).trans (zaI (w:=w.drew) h)
  have s1:=Elems.sub e0' 0 i (by omega)
  have s2:=Elems.sub e0' j (l.length - j) (by omega)
  rw [hszt]at s1 s2
  rw [Nat.zero_mul,List.drop_zero,List.drop_zero,List.drop_zero]at s1
  rw [List.take_of_length_le (l:=l.drop j) (by rw [List.length_drop]; omega),List.take_of_length_le (l:=vs0.drop (j * 2)) (by rw [List.length_drop]; omega),List.take_of_length_le (l:=fp0.drop j) (by rw [List.length_drop]; omega)] at s2
  have es:=s1.append s2
  have hkZ: ∀ b',Z b'→hp (World.setBlk (World.setBlk w.drew b (ze c (o+i * 2) (vs0.drop (j * 2))) T) b (ze (ze c (o+i * 2) (vs0.drop (j * 2))) (o+(i+(l.length - j)) * 2) zs) T) b'=hp w b':=fun b' hb'=>oth b' (fun e=>hbZ (e ▸ hb'))
  have es':=es.keep hkZ (fun _ h=>h) (fun b' hb'=>oth b' (hgb b' (hsub.mem hb')))
  have hL:(l.take i++l.drop j).length=i+(l.length - j):=by simp; omega
  have hcells:zd (hp (World.setBlk (World.setBlk w.drew b (ze c (o+i * 2) (vs0.drop (j * 2))) T) b (ze (ze c (o+i * 2) (vs0.drop (j * 2))) (o+(i+(l.length - j)) * 2) zs) T)) b o ((i+(l.length - j)) * 2)=some (vs0.take (i * 2)++vs0.drop (j * 2)):=by
   have hL2:(vs0.take (i * 2)++vs0.drop (j * 2)).length=(i+(l.length - j)) * 2:=by rw [List.length_append,List.length_take,List.length_drop]; omega
   have:=zac (h:=hp (World.setBlk (World.setBlk w.drew b (ze c (o+i * 2) (vs0.drop (j * 2))) T) b (ze (ze c (o+i * 2) (vs0.drop (j * 2))) (o+(i+(l.length - j)) * 2) zs) T)) (b:=b) (vs0.take (i * 2)++vs0.drop (j * 2)) o (fun t ht=>by
    rw [hL2]at ht
    unfold zF
    rw [hBn]
    show (ze (ze c (o+i * 2) (vs0.drop (j * 2))) (o+(i+(l.length - j)) * 2) zs)[o+t]? =_
    rw [z3 _ _ _ _ (by rw [zaN]; omega),if_neg (by omega),z3 _ _ _ _ (by omega)]
    by_cases g1:t < i * 2
    ·rw [if_neg (by omega),List.getElem?_append_left (by rw [List.length_take]; omega),List.getElem?_take,if_pos g1,zX hcs0 t (by omega)]
     unfold zF; rw [hB]
    ·rw [if_pos (by omega),List.getElem?_append_right (by rw [List.length_take]; omega),List.length_take]
     exact yK7 (by omega))
   rw [hL2]at this; exact this
  have hown:=es'.own (b:=b) (o:=o) (cap:=cap) hBn (by rw [hL]; exact hcells) (by rw [zaN,zaN]; exact hcap) (by rw [hL]; omega) (by rw [hL]; have:tW.bytes=32:=rfl; rw [this]at hbnd ⊢; omega)
  rw [hL]at hown
  refine ⟨[_],Z,[b::(fp0.take i++fp0.drop j).flatten],[[],[],[]],rfl,rfl,by simp [World.setBlk]<;>exact Nat.le_refl _,fun b' _ hb'=>oth b' (fun e=>hb' (by rw [hfl,e]; exact hbf)),fun _ h=>h,fun _ h=> .inl h,⟨⟨_,rfl,hown⟩,trivial⟩,⟨rfl,rfl,rfl,trivial⟩,?_,fun b' hb'=> ?_⟩
  ·simp only [List.flatten_cons,List.flatten_nil,List.append_nil,List.nodup_cons]
   exact ⟨fun h=>hgb b (hsub.mem h) rfl,(List.nodup_cons.1 hnd3).2.sublist hsub⟩
  ·simp only [List.flatten_cons,List.flatten_nil,List.append_nil,List.mem_cons]at hb'
   rcases hb' with rfl | hb'
   ·exact ⟨.inr (by rw [hfl]; exact hbf),hbZ⟩
   ·have hm:b'∈f0:=by rw [hf0]; exact List.mem_cons_of_mem _ (hsub.mem hb')
    exact ⟨.inr (by rw [hfl]; exact hm),(hfr b' hm).2.1⟩
theorem y3q:ConOk Tryz.prog 184 yVP where
 fn:=⟨_,Tryz.func184,by kernel_rfl,by kernel_rfl⟩
 run:=fun w Z R xs args fs r ha hF hz hnd hfr=>by
  obtain ⟨l,i,v,_⟩:=xs
  rcases args with _ | ⟨a0,_ | ⟨a1,_ | ⟨a2,_ | ⟨a3,t⟩⟩⟩⟩<;>rcases fs with _ | ⟨f0,_ | ⟨f1,_ | ⟨f2,_ | ⟨f3,u⟩⟩⟩⟩<;>try (simp [ArgsOk,yVP]at ha; done)
  obtain ⟨⟨cs0,rfl,o0⟩,⟨cs1,rfl,hi1⟩,rfl,⟨cs2,rfl,hj1⟩,rfl,_⟩:=ha
  obtain ⟨rfl,hif⟩:=hi1
  obtain ⟨rfl,hjf⟩:=hj1
  have hF':(bif yau l i v then some (((ydN l i v,()),()):ResD yg4×MutD ygY) else none)=some r:=hF
  cases hq:yau l i v with
  | false=>rw [hq]at hF'; cases hF'
  | true =>
   rw [hq]at hF'
   obtain rfl:=Option.some.inj hF'
   simp only [yau,Bool.and_eq_true]at hq
   obtain ⟨i0,i1,hv1⟩:=hq
   have i0:=zjQ.1 i0
   have i1:=zjT.1 i1
   have hv1:=zjQ.1 hv1
   obtain ⟨k,hk⟩: ∃ k:Nat,i=(k:Int):=⟨Int.toNat i,(Int.toNat_of_nonneg i0).symm⟩
   subst hk
   obtain ⟨m,hm⟩: ∃ m:Nat,v=(m:Int):=⟨Int.toNat v,(Int.toNat_of_nonneg (by have:=i0; have:=i1; omega)).symm⟩
   subst hm
   have hl1:=Own.len o0
   obtain ⟨a0,rfl⟩:=List.length_eq_one_iff.1 hl1
   have hfe:([f0,[],[]]:List (List Nat)).flatten=f0:=by simp
   rw [hfe]at hnd hfr
   exact y23 w Z R l k m a0 f0 o0 (by have:=i1; omega) (by have:=hv1; omega) hz hnd hfr
def yhd (a0:List dW) (a1 a2:Int):Option (ResD yg4×MutD ygY):=bif yau a0 a1 a2 then (fun n=>some ((n,()),())) (ydN a0 a1 a2) else none
theorem yHN (a0:List dW) (a1 a2:Int) (h:yau a0 a1 a2=true):yhd a0 a1 a2=(fun n=>some ((n,()),())) (ydN a0 a1 a2):=by unfold yhd; rw [h]; rfl
def yub:Con:=⟨ygY,yg4,fun x=>yhd x.1 x.2.1 x.2.2.1⟩
theorem yHL:ConOk Tryz.prog 184 yub:=y3q
section
def yxU:Code:=(Tryz.f83.body).getD .skip
def yx6:Env:=zki TT [(45,yw5),(53,yvm),(98,ytt),(116,yci),(183,yGB),(184,yub)] []
theorem yG2:FrOk Tryz.prog ⟨yx6,58,fun _=>none⟩ yxU:=zkp yb yc ⟨yII,yJm,yFD,yfR,yZS,yHL,trivial⟩
def yHl:Nat→Option Seg:=fun _=>none
abbrev yb6:List Par:= [.rd tA,.rd tI]
abbrev yiB:List OT:= [⟨false,tA,(.pr .fz (.pr (.pr .fz .fz) (.pr (.ow (.pr (.ow (.ow .fz)) (.pr (.ow (.pr .fz (.ow .fz))) (.pr .fz (.ow .fz))))) (.pr .fz (.pr .fz (.pr .fz (.pr .fz (.pr .fz (.pr (.ow (.pr .fz (.ow .fz))) (.pr .fz (.pr .fz .fz)))))))))))⟩,⟨false,tI,.fz⟩]
def yfZ (a0:dA) (a1:Int):Option (ResD yiB×MutD yb6) :=
 let r1:=ygL a0
 bif (!r1) then
 let r2:=yan a0
 some ((r2,1,()),())
 else
 bif a0.2.2.2.2.2.2.2.2.2.2.1 then
 let r3:=yan a0
 some ((r3,6,()),())
 else
 let r4:=yR a0.2.1 a1
 bif (!r4) then
 let r5:=yan a0
 some ((r5,2,()),())
 else
 let r6:=yvI a0 a1
 bif (ltb r6 0) then
 let r7:=yan a0
 some ((r7,0,()),())
 else
 bif (inb r6 a0.2.2.2.2.2.2.2.2.1.length) then
 let r8:=yez a0 a1 ((nth a0.2.2.2.2.2.2.2.2.1 r6 (0,[])).2)
 bif (r8.2==0) then
 bnd (yhd r8.1.2.2.2.2.2.2.2.2.1 r6 (IntKind.i64.wrap (r6+1))) fun r9 =>
 some (((r8.1.1,r8.1.2.1,r8.1.2.2.1,r8.1.2.2.2.1,r8.1.2.2.2.2.1,r8.1.2.2.2.2.2.1,r8.1.2.2.2.2.2.2.1,r8.1.2.2.2.2.2.2.2.1,r9.1.1,r8.1.2.2.2.2.2.2.2.2.2),r8.2,()),())
 else
 some ((r8.1,r8.2,()),())
 else none
theorem yKu (x:InD yb6):zjH ⟨yx6,58,yHl⟩ Tryz.f83.results.toList yxU yb6 yiB x=yfZ x.1 x.2.1:=by kernel_rfl
theorem yHH:ConOk Tryz.prog 83 ⟨yb6,yiB,fun x=>yfZ x.1 x.2.1⟩:=zkh (yG2) Tryz.func83 (by kernel_rfl) (by kernel_rfl) Tryz.ntmps83.symm (by decide) (fun x r h=>(yKu x).trans h)
def ycj (a0:dA) (a1:Int):dA×Int:=yC5 a0 a1
theorem yJc (a0:dA) (a1:Int) (hk:zi9 yb6 (a0,a1,())):yfZ a0 a1=(fun n=>some ((n.1,n.2,()),())) (ycj a0 a1):=by
 unfold yfZ ycj yC5
 simp only [yan,ygL,yvI,yez,yxR]
 cases ha:yB a0
 ·rfl
 rcases Bool.eq_false_or_eq_true (yd a0) with hd | hd
 ·rw [show a0.2.2.2.2.2.2.2.2.2.2.1=true from hd,hd]; rfl
 rw [show a0.2.2.2.2.2.2.2.2.2.2.1=false from hd,hd]
 cases yL a0.2.1 a1
 ·rfl
 unfold yi1
 cases h0:ltb (yq a0.2.2.2.2.2.2.2.2.1 a1) 0
 ·have h1:=zkU h0
  have hi:inb (yq a0.2.2.2.2.2.2.2.2.1 a1) a0.2.2.2.2.2.2.2.2.1.length=true:=(yxc (d:=((0:Int),([]:List Int))) (zk0 h1)).1
  have hk:=zjP.1 hi
  have hl8:=yYe (yKq ha) (yew ha)
  simp only [hi,cond_true,cond_false,Bool.not_true]
  generalize (nth a0.2.2.2.2.2.2.2.2.1 (yq a0.2.2.2.2.2.2.2.2.1 a1) (0,[])).2=D
  unfold yRG
  cases hc:(yo a0 a1 D !=0)
  ·simp only [cond_false]
   cases hr:((yaW a0 a1 D).1==0)
   ·rfl
   ·simp only [cond_true,yOq]
    generalize yq a0.2.2.2.2.2.2.2.2.1 a1=K at hk h1 ⊢
    rw [wr (show -9223372036854775808≤K+1 by omega) (by omega),yHN _ K (K+1) (by
     unfold yau
     rw [zk0 hk.1,zjI (show K < K+1 by omega),zk0 (show K+1≤(a0.2.2.2.2.2.2.2.2.1.length:Int) by omega)]; rfl),beq_iff_eq.1 hr]
    simp only [zky]
    unfold ydN yxQ yHQ
    rw [show (K+1).toNat=K.toNat+1 by omega]
  ·have hc2:(yo a0 a1 D==0)=false:=beq_eq_false_iff_ne.2 (bne_iff_ne.1 hc)
   simp only [cond_true,hc2,cond_false]
 ·rfl
def yvl:Con:=⟨yb6,yiB,fun x=>(fun n=>some ((n.1,n.2,()),())) (ycj x.1 x.2.1)⟩
theorem yJl:ConOk Tryz.prog 83 yvl:=(yHH).mono (fun x r hk h=>(yJc x.1 x.2.1 hk).trans h)
end
section
def ydy:Code:=(Tryz.f103.body).getD .skip
def yhi:Env:=zki TT [(152,yoz)] [(8192,(.pr (.ow .fz) (.pr (.ow (.pr .fz .fz)) (.pr .fz (.ow .fz))))),(25088,(.pr (.ow .fz) (.pr (.ow (.pr .fz .fz)) (.pr .fz (.ow .fz))))),(28672,(.pr .fz .fz)),(46144,(.pr .fz .fz))]
theorem yPD:FrOk Tryz.prog ⟨yhi,57,fun _=>none⟩ ydy:=zkp yb yc ⟨yxe,trivial⟩
def yEu:Nat→Option Seg:=fun _=>none
def ybY:Shape:=⟨[(1,false,[.ptr 0 0]),(2,false,[.ptr 64 0]),(3,false,[.ptr 4160 0]),(4,false,[.int .i64])],[(0,[.int .i64,.int .i64,.int .i64,.br tM,.int .i64,.int .i64,.int .i64,.int .i64,.int .i64,.br tW,.int .i64,.bool,.bool]),(64,[.int .i64,.int .i64,.int .i64,.nil,.int .i64,.int .i64,.int .i64,.int .i64,.int .i64,.nil,.int .i64,.bool,.bool]),(4160,[.int .i64,.int .i64,.int .i64,.at 800000000,.int .i64,.int .i64,.int .i64,.int .i64,.int .i64,.br tW,.int .i64,.bool,.bool])],[(800000000,tM,(.pr (.ow .fz) (.pr (.ow (.pr .fz .fz)) (.pr .fz (.ow .fz)))))]⟩
def ygA:Shape:=⟨[(1,false,[.ptr 0 0]),(2,false,[.ptr 64 0]),(3,false,[.ptr 4160 0]),(4,false,[.ci .i64 0])],[(0,[.int .i64,.int .i64,.int .i64,.br tM,.int .i64,.int .i64,.int .i64,.int .i64,.int .i64,.br tW,.int .i64,.bool,.bool]),(64,[.int .i64,.int .i64,.int .i64,.nil,.int .i64,.int .i64,.int .i64,.int .i64,.int .i64,.nil,.int .i64,.bool,.bool]),(4160,[.int .i64,.int .i64,.int .i64,.at 800000000,.int .i64,.int .i64,.int .i64,.int .i64,.int .i64,.br tW,.int .i64,.bool,.bool])],[(800000000,tM,(.pr (.ow .fz) (.pr (.ow (.pr .fz .fz)) (.pr .fz (.ow .fz)))))]⟩
def ygt:Shape:=⟨[(1,false,[.ptr 0 0]),(2,false,[.ptr 64 0]),(3,false,[.ptr 4160 0])],[(0,[.int .i64,.int .i64,.int .i64,.br tM,.int .i64,.int .i64,.int .i64,.int .i64,.int .i64,.br tW,.int .i64,.bool,.bool]),(64,[.int .i64,.int .i64,.int .i64,.nil,.int .i64,.int .i64,.int .i64,.int .i64,.int .i64,.nil,.int .i64,.bool,.bool]),(4160,[.int .i64,.int .i64,.int .i64,.at 800000000,.int .i64,.int .i64,.int .i64,.int .i64,.int .i64,.br tW,.int .i64,.bool,.bool])],[(800000000,tM,(.pr (.ow .fz) (.pr (.ow (.pr .fz .fz)) (.pr .fz (.ow .fz)))))]⟩
def ylS:Shape:=⟨[],[],[]⟩
abbrev yrD (v0:Int) (v1 v2 v3:dA):(ybY).X:=((((),()),((),()),((),()),(v0,()),()),((v1.1,v1.2.1.1,v1.2.1.2,v1.2.2.1,v1.2.2.2.1,v1.2.2.2.2.1,v1.2.2.2.2.2.1,v1.2.2.2.2.2.2.1,v1.2.2.2.2.2.2.2.1,v1.2.2.2.2.2.2.2.2.1,v1.2.2.2.2.2.2.2.2.2.1,v1.2.2.2.2.2.2.2.2.2.2.1,v1.2.2.2.2.2.2.2.2.2.2.2,()),(v2.1,v2.2.1.1,v2.2.1.2,(),v2.2.2.2.1,v2.2.2.2.2.1,v2.2.2.2.2.2.1,v2.2.2.2.2.2.2.1,v2.2.2.2.2.2.2.2.1,(),v2.2.2.2.2.2.2.2.2.2.1,v2.2.2.2.2.2.2.2.2.2.2.1,v2.2.2.2.2.2.2.2.2.2.2.2,()),(v3.1,v3.2.1.1,v3.2.1.2,(),v3.2.2.2.1,v3.2.2.2.2.1,v3.2.2.2.2.2.1,v3.2.2.2.2.2.2.1,v3.2.2.2.2.2.2.2.1,v3.2.2.2.2.2.2.2.2.1,v3.2.2.2.2.2.2.2.2.2.1,v3.2.2.2.2.2.2.2.2.2.2.1,v3.2.2.2.2.2.2.2.2.2.2.2,()),()),(v3.2.2.1,()))
abbrev yNi (v0 v1 v2:dA):(ygA).X:=((((),()),((),()),((),()),((),()),()),((v0.1,v0.2.1.1,v0.2.1.2,v0.2.2.1,v0.2.2.2.1,v0.2.2.2.2.1,v0.2.2.2.2.2.1,v0.2.2.2.2.2.2.1,v0.2.2.2.2.2.2.2.1,v0.2.2.2.2.2.2.2.2.1,v0.2.2.2.2.2.2.2.2.2.1,v0.2.2.2.2.2.2.2.2.2.2.1,v0.2.2.2.2.2.2.2.2.2.2.2,()),(v1.1,v1.2.1.1,v1.2.1.2,(),v1.2.2.2.1,v1.2.2.2.2.1,v1.2.2.2.2.2.1,v1.2.2.2.2.2.2.1,v1.2.2.2.2.2.2.2.1,(),v1.2.2.2.2.2.2.2.2.2.1,v1.2.2.2.2.2.2.2.2.2.2.1,v1.2.2.2.2.2.2.2.2.2.2.2,()),(v2.1,v2.2.1.1,v2.2.1.2,(),v2.2.2.2.1,v2.2.2.2.2.1,v2.2.2.2.2.2.1,v2.2.2.2.2.2.2.1,v2.2.2.2.2.2.2.2.1,v2.2.2.2.2.2.2.2.2.1,v2.2.2.2.2.2.2.2.2.2.1,v2.2.2.2.2.2.2.2.2.2.2.1,v2.2.2.2.2.2.2.2.2.2.2.2,()),()),(v2.2.2.1,()))
abbrev yNd (v0 v1 v2:dA):(ygt).X:=((((),()),((),()),((),()),()),((v0.1,v0.2.1.1,v0.2.1.2,v0.2.2.1,v0.2.2.2.1,v0.2.2.2.2.1,v0.2.2.2.2.2.1,v0.2.2.2.2.2.2.1,v0.2.2.2.2.2.2.2.1,v0.2.2.2.2.2.2.2.2.1,v0.2.2.2.2.2.2.2.2.2.1,v0.2.2.2.2.2.2.2.2.2.2.1,v0.2.2.2.2.2.2.2.2.2.2.2,()),(v1.1,v1.2.1.1,v1.2.1.2,(),v1.2.2.2.1,v1.2.2.2.2.1,v1.2.2.2.2.2.1,v1.2.2.2.2.2.2.1,v1.2.2.2.2.2.2.2.1,(),v1.2.2.2.2.2.2.2.2.2.1,v1.2.2.2.2.2.2.2.2.2.2.1,v1.2.2.2.2.2.2.2.2.2.2.2,()),(v2.1,v2.2.1.1,v2.2.1.2,(),v2.2.2.2.1,v2.2.2.2.2.1,v2.2.2.2.2.2.1,v2.2.2.2.2.2.2.1,v2.2.2.2.2.2.2.2.1,v2.2.2.2.2.2.2.2.2.1,v2.2.2.2.2.2.2.2.2.2.1,v2.2.2.2.2.2.2.2.2.2.2.1,v2.2.2.2.2.2.2.2.2.2.2.2,()),()),(v2.2.2.1,()))
def yrX (v0 v1 v2 v3:Int) (v4:List dM) (v5 v6 v7 v8 v9:Int) (v10:List dW) (v11:Int) (v12 v13:Bool) (v14 v15 v16 v17 v18 v19 v20 v21 v22:Int) (v23 v24:Bool) (v25 v26 v27 v28 v29 v30 v31 v32:Int) (v33:List dW) (v34:Int) (v35 v36:Bool) (v37:List dM):Option ((ybY).X ⊕ ((ygt).X ⊕ (ylS).X)) :=
 bif (ltb v0 (v4.length:Int)) then
 bif (inb v0 v4.length) then
 let r2:=ybR ((nth v4 v0 ([],[],false,[])).1,((nth v4 v0 ([],[],false,[])).2).1,(((nth v4 v0 ([],[],false,[])).2).2))
 bif (zj4 v37.length ([r2]:List dM).length 80) then
 some (.inl ((((),()),((),()),((),()),((IntKind.i64.wrap (v0+1)),()),()),((v1,v2,v3,v4,v5,v6,v7,v8,v9,v10,v11,v12,v13,()),(v14,v15,v16,(),v17,v18,v19,v20,v21,(),v22,v23,v24,()),(v25,v26,v27,(),v28,v29,v30,v31,v32,v33,v34,v35,v36,()),()),((v37++([r2]:List dM)),())))
 else none
 else none
 else
 some (.inr (.inl ((((),()),((),()),((),()),()),((v1,v2,v3,v4,v5,v6,v7,v8,v9,v10,v11,v12,v13,()),(v14,v15,v16,(),v17,v18,v19,v20,v21,(),v22,v23,v24,()),(v25,v26,v27,(),v28,v29,v30,v31,v32,v33,v34,v35,v36,()),()),(v37,()))))
def ycx (x:(ybY).X):=yrX x.1.2.2.2.1.1 x.2.1.1.1 x.2.1.1.2.1 x.2.1.1.2.2.1 x.2.1.1.2.2.2.1 x.2.1.1.2.2.2.2.1 x.2.1.1.2.2.2.2.2.1 x.2.1.1.2.2.2.2.2.2.1 x.2.1.1.2.2.2.2.2.2.2.1 x.2.1.1.2.2.2.2.2.2.2.2.1 x.2.1.1.2.2.2.2.2.2.2.2.2.1 x.2.1.1.2.2.2.2.2.2.2.2.2.2.1 x.2.1.1.2.2.2.2.2.2.2.2.2.2.2.1 x.2.1.1.2.2.2.2.2.2.2.2.2.2.2.2.1 x.2.1.2.1.1 x.2.1.2.1.2.1 x.2.1.2.1.2.2.1 x.2.1.2.1.2.2.2.2.1 x.2.1.2.1.2.2.2.2.2.1 x.2.1.2.1.2.2.2.2.2.2.1 x.2.1.2.1.2.2.2.2.2.2.2.1 x.2.1.2.1.2.2.2.2.2.2.2.2.1 x.2.1.2.1.2.2.2.2.2.2.2.2.2.2.1 x.2.1.2.1.2.2.2.2.2.2.2.2.2.2.2.1 x.2.1.2.1.2.2.2.2.2.2.2.2.2.2.2.2.1 x.2.1.2.2.1.1 x.2.1.2.2.1.2.1 x.2.1.2.2.1.2.2.1 x.2.1.2.2.1.2.2.2.2.1 x.2.1.2.2.1.2.2.2.2.2.1 x.2.1.2.2.1.2.2.2.2.2.2.1 x.2.1.2.2.1.2.2.2.2.2.2.2.1 x.2.1.2.2.1.2.2.2.2.2.2.2.2.1 x.2.1.2.2.1.2.2.2.2.2.2.2.2.2.1 x.2.1.2.2.1.2.2.2.2.2.2.2.2.2.2.1 x.2.1.2.2.1.2.2.2.2.2.2.2.2.2.2.2.1 x.2.1.2.2.1.2.2.2.2.2.2.2.2.2.2.2.2.1 x.2.2.1
def yAQ (x:(ygA).X):(ybY).X:=((((),()),((),()),((),()),(0,()),()),((x.2.1.1.1,x.2.1.1.2.1,x.2.1.1.2.2.1,x.2.1.1.2.2.2.1,x.2.1.1.2.2.2.2.1,x.2.1.1.2.2.2.2.2.1,x.2.1.1.2.2.2.2.2.2.1,x.2.1.1.2.2.2.2.2.2.2.1,x.2.1.1.2.2.2.2.2.2.2.2.1,x.2.1.1.2.2.2.2.2.2.2.2.2.1,x.2.1.1.2.2.2.2.2.2.2.2.2.2.1,x.2.1.1.2.2.2.2.2.2.2.2.2.2.2.1,x.2.1.1.2.2.2.2.2.2.2.2.2.2.2.2.1,()),(x.2.1.2.1.1,x.2.1.2.1.2.1,x.2.1.2.1.2.2.1,(),x.2.1.2.1.2.2.2.2.1,x.2.1.2.1.2.2.2.2.2.1,x.2.1.2.1.2.2.2.2.2.2.1,x.2.1.2.1.2.2.2.2.2.2.2.1,x.2.1.2.1.2.2.2.2.2.2.2.2.1,(),x.2.1.2.1.2.2.2.2.2.2.2.2.2.2.1,x.2.1.2.1.2.2.2.2.2.2.2.2.2.2.2.1,x.2.1.2.1.2.2.2.2.2.2.2.2.2.2.2.2.1,()),(x.2.1.2.2.1.1,x.2.1.2.2.1.2.1,x.2.1.2.2.1.2.2.1,(),x.2.1.2.2.1.2.2.2.2.1,x.2.1.2.2.1.2.2.2.2.2.1,x.2.1.2.2.1.2.2.2.2.2.2.1,x.2.1.2.2.1.2.2.2.2.2.2.2.1,x.2.1.2.2.1.2.2.2.2.2.2.2.2.1,x.2.1.2.2.1.2.2.2.2.2.2.2.2.2.1,x.2.1.2.2.1.2.2.2.2.2.2.2.2.2.2.1,x.2.1.2.2.1.2.2.2.2.2.2.2.2.2.2.2.1,x.2.1.2.2.1.2.2.2.2.2.2.2.2.2.2.2.2.1,()),()),(x.2.2.1,()))
def yCq:Code:=(zdI ydy 64 244).getD .skip
theorem yON:zdI ydy 64 61=some (.block 0 (.loop yCq)):=by kernel_rfl
theorem yRz (x:(ybY).X):zg7 ⟨yhi,57,yEu⟩ 0 yCq 244 ybY ygt ylS x=ycx x:=by kernel_rfl
def yA5 (x:(ygA).X):Nat:=18446744073709551616
def ytp (x:(ygA).X):Option ((ygt).X ⊕ (ylS).X):=zr ycx (yA5 x) (yAQ x)
def yBo:Seg:=⟨ygA,ygt,ylS,ytp⟩
def yun:Nat→Option Seg:=fun q=>bif Nat.beq q 61 then some yBo else yEu q
theorem yPE:FrOk Tryz.prog ⟨yhi,57,yun⟩ ydy:=(yPD).loop (sg:=yBo) ybY yAQ (by decide) yON ycx yA5 (by decide) (fun _=>rfl) (fun x r _ h=>h) yRz
def ybj:Shape:=⟨[(1,false,[.ptr 0 0]),(2,false,[.ptr 64 0]),(3,false,[.ptr 4160 0]),(5,false,[.int .i64])],[(0,[.int .i64,.int .i64,.int .i64,.br tM,.int .i64,.int .i64,.int .i64,.int .i64,.int .i64,.br tW,.int .i64,.bool,.bool]),(64,[.int .i64,.int .i64,.int .i64,.nil,.int .i64,.int .i64,.int .i64,.int .i64,.int .i64,.nil,.int .i64,.bool,.bool]),(4160,[.int .i64,.int .i64,.int .i64,.at 800000000,.int .i64,.int .i64,.int .i64,.int .i64,.int .i64,.at 800000001,.int .i64,.bool,.bool])],[(800000000,tM,(.pr (.ow .fz) (.pr (.ow (.pr .fz .fz)) (.pr .fz (.ow .fz))))),(800000001,tW,(.pr .fz .fz))]⟩
def yfD:Shape:=⟨[(1,false,[.ptr 0 0]),(2,false,[.ptr 64 0]),(3,false,[.ptr 4160 0]),(5,false,[.ci .i64 0])],[(0,[.int .i64,.int .i64,.int .i64,.br tM,.int .i64,.int .i64,.int .i64,.int .i64,.int .i64,.br tW,.int .i64,.bool,.bool]),(64,[.int .i64,.int .i64,.int .i64,.nil,.int .i64,.int .i64,.int .i64,.int .i64,.int .i64,.nil,.int .i64,.bool,.bool]),(4160,[.int .i64,.int .i64,.int .i64,.at 800000000,.int .i64,.int .i64,.int .i64,.int .i64,.int .i64,.at 800000001,.int .i64,.bool,.bool])],[(800000000,tM,(.pr (.ow .fz) (.pr (.ow (.pr .fz .fz)) (.pr .fz (.ow .fz))))),(800000001,tW,(.pr .fz .fz))]⟩
def yfv:Shape:=⟨[(2,false,[.ptr 64 0]),(3,false,[.ptr 4160 0])],[(64,[.int .i64,.int .i64,.int .i64,.nil,.int .i64,.int .i64,.int .i64,.int .i64,.int .i64,.nil,.int .i64,.bool,.bool]),(4160,[.int .i64,.int .i64,.int .i64,.at 800000000,.int .i64,.int .i64,.int .i64,.int .i64,.int .i64,.at 800000001,.int .i64,.bool,.bool])],[(800000000,tM,(.pr (.ow .fz) (.pr (.ow (.pr .fz .fz)) (.pr .fz (.ow .fz))))),(800000001,tW,(.pr .fz .fz))]⟩
def yjO:Shape:=⟨[],[],[]⟩
abbrev ypU (v0:Int) (v1 v2 v3:dA):(ybj).X:=((((),()),((),()),((),()),(v0,()),()),((v1.1,v1.2.1.1,v1.2.1.2,v1.2.2.1,v1.2.2.2.1,v1.2.2.2.2.1,v1.2.2.2.2.2.1,v1.2.2.2.2.2.2.1,v1.2.2.2.2.2.2.2.1,v1.2.2.2.2.2.2.2.2.1,v1.2.2.2.2.2.2.2.2.2.1,v1.2.2.2.2.2.2.2.2.2.2.1,v1.2.2.2.2.2.2.2.2.2.2.2,()),(v2.1,v2.2.1.1,v2.2.1.2,(),v2.2.2.2.1,v2.2.2.2.2.1,v2.2.2.2.2.2.1,v2.2.2.2.2.2.2.1,v2.2.2.2.2.2.2.2.1,(),v2.2.2.2.2.2.2.2.2.2.1,v2.2.2.2.2.2.2.2.2.2.2.1,v2.2.2.2.2.2.2.2.2.2.2.2,()),(v3.1,v3.2.1.1,v3.2.1.2,(),v3.2.2.2.1,v3.2.2.2.2.1,v3.2.2.2.2.2.1,v3.2.2.2.2.2.2.1,v3.2.2.2.2.2.2.2.1,(),v3.2.2.2.2.2.2.2.2.2.1,v3.2.2.2.2.2.2.2.2.2.2.1,v3.2.2.2.2.2.2.2.2.2.2.2,()),()),(v3.2.2.1,v3.2.2.2.2.2.2.2.2.1,()))
abbrev yLm (v0 v1 v2:dA):(yfD).X:=((((),()),((),()),((),()),((),()),()),((v0.1,v0.2.1.1,v0.2.1.2,v0.2.2.1,v0.2.2.2.1,v0.2.2.2.2.1,v0.2.2.2.2.2.1,v0.2.2.2.2.2.2.1,v0.2.2.2.2.2.2.2.1,v0.2.2.2.2.2.2.2.2.1,v0.2.2.2.2.2.2.2.2.2.1,v0.2.2.2.2.2.2.2.2.2.2.1,v0.2.2.2.2.2.2.2.2.2.2.2,()),(v1.1,v1.2.1.1,v1.2.1.2,(),v1.2.2.2.1,v1.2.2.2.2.1,v1.2.2.2.2.2.1,v1.2.2.2.2.2.2.1,v1.2.2.2.2.2.2.2.1,(),v1.2.2.2.2.2.2.2.2.2.1,v1.2.2.2.2.2.2.2.2.2.2.1,v1.2.2.2.2.2.2.2.2.2.2.2,()),(v2.1,v2.2.1.1,v2.2.1.2,(),v2.2.2.2.1,v2.2.2.2.2.1,v2.2.2.2.2.2.1,v2.2.2.2.2.2.2.1,v2.2.2.2.2.2.2.2.1,(),v2.2.2.2.2.2.2.2.2.2.1,v2.2.2.2.2.2.2.2.2.2.2.1,v2.2.2.2.2.2.2.2.2.2.2.2,()),()),(v2.2.2.1,v2.2.2.2.2.2.2.2.2.1,()))
abbrev yLe (v0 v1:dA):(yfv).X:=((((),()),((),()),()),((v0.1,v0.2.1.1,v0.2.1.2,(),v0.2.2.2.1,v0.2.2.2.2.1,v0.2.2.2.2.2.1,v0.2.2.2.2.2.2.1,v0.2.2.2.2.2.2.2.1,(),v0.2.2.2.2.2.2.2.2.2.1,v0.2.2.2.2.2.2.2.2.2.2.1,v0.2.2.2.2.2.2.2.2.2.2.2,()),(v1.1,v1.2.1.1,v1.2.1.2,(),v1.2.2.2.1,v1.2.2.2.2.1,v1.2.2.2.2.2.1,v1.2.2.2.2.2.2.1,v1.2.2.2.2.2.2.2.1,(),v1.2.2.2.2.2.2.2.2.2.1,v1.2.2.2.2.2.2.2.2.2.2.1,v1.2.2.2.2.2.2.2.2.2.2.2,()),()),(v1.2.2.1,v1.2.2.2.2.2.2.2.2.1,()))
def yqf (v0 v1 v2 v3:Int) (v4:List dM) (v5 v6 v7 v8 v9:Int) (v10:List dW) (v11:Int) (v12 v13:Bool) (v14 v15 v16 v17 v18 v19 v20 v21 v22:Int) (v23 v24:Bool) (v25 v26 v27 v28 v29 v30 v31 v32 v33:Int) (v34 v35:Bool) (v36:List dM) (v37:List dW):Option ((ybj).X ⊕ ((yfv).X ⊕ (yjO).X)) :=
 bif (ltb v0 (v10.length:Int)) then
 bif (inb v0 v10.length) then
 bif (inb v0 v10.length) then
 bif (zj4 ([]:List Int).length ((nth v10 v0 (0,[])).2).length 8) then
 bif (zj4 v37.length ([((nth v10 v0 (0,[])).1,(([]:List Int)++((nth v10 v0 (0,[])).2)))]:List dW).length 32) then
 some (.inl ((((),()),((),()),((),()),((IntKind.i64.wrap (v0+1)),()),()),((v1,v2,v3,v4,v5,v6,v7,v8,v9,v10,v11,v12,v13,()),(v14,v15,v16,(),v17,v18,v19,v20,v21,(),v22,v23,v24,()),(v25,v26,v27,(),v28,v29,v30,v31,v32,(),v33,v34,v35,()),()),(v36,(v37++([((nth v10 v0 (0,[])).1,(([]:List Int)++((nth v10 v0 (0,[])).2)))]:List dW)),())))
 else none
 else none
 else none
 else none
 else
 some (.inr (.inl ((((),()),((),()),()),((v14,v15,v16,(),v17,v18,v19,v20,v21,(),v22,v23,v24,()),(v25,v26,v27,(),v28,v29,v30,v31,v32,(),v33,v34,v35,()),()),(v36,v37,()))))
def ybF (x:(ybj).X):=yqf x.1.2.2.2.1.1 x.2.1.1.1 x.2.1.1.2.1 x.2.1.1.2.2.1 x.2.1.1.2.2.2.1 x.2.1.1.2.2.2.2.1 x.2.1.1.2.2.2.2.2.1 x.2.1.1.2.2.2.2.2.2.1 x.2.1.1.2.2.2.2.2.2.2.1 x.2.1.1.2.2.2.2.2.2.2.2.1 x.2.1.1.2.2.2.2.2.2.2.2.2.1 x.2.1.1.2.2.2.2.2.2.2.2.2.2.1 x.2.1.1.2.2.2.2.2.2.2.2.2.2.2.1 x.2.1.1.2.2.2.2.2.2.2.2.2.2.2.2.1 x.2.1.2.1.1 x.2.1.2.1.2.1 x.2.1.2.1.2.2.1 x.2.1.2.1.2.2.2.2.1 x.2.1.2.1.2.2.2.2.2.1 x.2.1.2.1.2.2.2.2.2.2.1 x.2.1.2.1.2.2.2.2.2.2.2.1 x.2.1.2.1.2.2.2.2.2.2.2.2.1 x.2.1.2.1.2.2.2.2.2.2.2.2.2.2.1 x.2.1.2.1.2.2.2.2.2.2.2.2.2.2.2.1 x.2.1.2.1.2.2.2.2.2.2.2.2.2.2.2.2.1 x.2.1.2.2.1.1 x.2.1.2.2.1.2.1 x.2.1.2.2.1.2.2.1 x.2.1.2.2.1.2.2.2.2.1 x.2.1.2.2.1.2.2.2.2.2.1 x.2.1.2.2.1.2.2.2.2.2.2.1 x.2.1.2.2.1.2.2.2.2.2.2.2.1 x.2.1.2.2.1.2.2.2.2.2.2.2.2.1 x.2.1.2.2.1.2.2.2.2.2.2.2.2.2.2.1 x.2.1.2.2.1.2.2.2.2.2.2.2.2.2.2.2.1 x.2.1.2.2.1.2.2.2.2.2.2.2.2.2.2.2.2.1 x.2.2.1 x.2.2.2.1
def yyE (x:(yfD).X):(ybj).X:=((((),()),((),()),((),()),(0,()),()),((x.2.1.1.1,x.2.1.1.2.1,x.2.1.1.2.2.1,x.2.1.1.2.2.2.1,x.2.1.1.2.2.2.2.1,x.2.1.1.2.2.2.2.2.1,x.2.1.1.2.2.2.2.2.2.1,x.2.1.1.2.2.2.2.2.2.2.1,x.2.1.1.2.2.2.2.2.2.2.2.1,x.2.1.1.2.2.2.2.2.2.2.2.2.1,x.2.1.1.2.2.2.2.2.2.2.2.2.2.1,x.2.1.1.2.2.2.2.2.2.2.2.2.2.2.1,x.2.1.1.2.2.2.2.2.2.2.2.2.2.2.2.1,()),(x.2.1.2.1.1,x.2.1.2.1.2.1,x.2.1.2.1.2.2.1,(),x.2.1.2.1.2.2.2.2.1,x.2.1.2.1.2.2.2.2.2.1,x.2.1.2.1.2.2.2.2.2.2.1,x.2.1.2.1.2.2.2.2.2.2.2.1,x.2.1.2.1.2.2.2.2.2.2.2.2.1,(),x.2.1.2.1.2.2.2.2.2.2.2.2.2.2.1,x.2.1.2.1.2.2.2.2.2.2.2.2.2.2.2.1,x.2.1.2.1.2.2.2.2.2.2.2.2.2.2.2.2.1,()),(x.2.1.2.2.1.1,x.2.1.2.2.1.2.1,x.2.1.2.2.1.2.2.1,(),x.2.1.2.2.1.2.2.2.2.1,x.2.1.2.2.1.2.2.2.2.2.1,x.2.1.2.2.1.2.2.2.2.2.2.1,x.2.1.2.2.1.2.2.2.2.2.2.2.1,x.2.1.2.2.1.2.2.2.2.2.2.2.2.1,(),x.2.1.2.2.1.2.2.2.2.2.2.2.2.2.2.1,x.2.1.2.2.1.2.2.2.2.2.2.2.2.2.2.2.1,x.2.1.2.2.1.2.2.2.2.2.2.2.2.2.2.2.2.1,()),()),(x.2.2.1,x.2.2.2.1,()))
def yAo:Code:=(zdI ydy 64 1012).getD .skip
theorem yMs:zdI ydy 64 253=some (.block 2 (.loop yAo)):=by kernel_rfl
theorem yN8 (x:(ybj).X):zg7 ⟨yhi,57,yun⟩ 2 yAo 1012 ybj yfv yjO x=ybF x:=by kernel_rfl
def yyU (x:(yfD).X):Nat:=18446744073709551616
def yrt (x:(yfD).X):Option ((yfv).X ⊕ (yjO).X):=zr ybF (yyU x) (yyE x)
def yzj:Seg:=⟨yfD,yfv,yjO,yrt⟩
def yEv:Nat→Option Seg:=fun q=>bif Nat.beq q 253 then some yzj else yun q
theorem yPF:FrOk Tryz.prog ⟨yhi,57,yEv⟩ ydy:=(yPE).loop (sg:=yzj) ybj yyE (by decide) yMs ybF yyU (by decide) (fun _=>rfl) (fun x r _ h=>h) yN8
abbrev yhy:List Par:= [.rd tA]
abbrev ysU:List OT:= [⟨false,tA,(.pr .fz (.pr (.pr .fz .fz) (.pr (.ow (.pr (.ow .fz) (.pr (.ow (.pr .fz .fz)) (.pr .fz (.ow .fz))))) (.pr .fz (.pr .fz (.pr .fz (.pr .fz (.pr .fz (.pr (.ow (.pr .fz .fz)) (.pr .fz (.pr .fz .fz)))))))))))⟩]
def yoV (a0:dA):Option (ResD ysU×MutD yhy) :=
 zjw (ytp ((((),()),((),()),((),()),((),()),()),((a0.1,a0.2.1.1,a0.2.1.2,a0.2.2.1,a0.2.2.2.1,a0.2.2.2.2.1,a0.2.2.2.2.2.1,a0.2.2.2.2.2.2.1,a0.2.2.2.2.2.2.2.1,a0.2.2.2.2.2.2.2.2.1,a0.2.2.2.2.2.2.2.2.2.1,a0.2.2.2.2.2.2.2.2.2.2.1,a0.2.2.2.2.2.2.2.2.2.2.2,()),(0,0,0,(),0,0,0,0,0,(),0,false,false,()),(a0.1,a0.2.1.1,a0.2.1.2,(),a0.2.2.2.1,a0.2.2.2.2.1,a0.2.2.2.2.2.1,a0.2.2.2.2.2.2.1,a0.2.2.2.2.2.2.2.1,a0.2.2.2.2.2.2.2.2.1,a0.2.2.2.2.2.2.2.2.2.1,a0.2.2.2.2.2.2.2.2.2.2.1,a0.2.2.2.2.2.2.2.2.2.2.2,()),()),(([]:List dM),()))) (fun y2 =>
 zjw (yrt ((((),()),((),()),((),()),((),()),()),((y2.2.1.1.1,y2.2.1.1.2.1,y2.2.1.1.2.2.1,y2.2.1.1.2.2.2.1,y2.2.1.1.2.2.2.2.1,y2.2.1.1.2.2.2.2.2.1,y2.2.1.1.2.2.2.2.2.2.1,y2.2.1.1.2.2.2.2.2.2.2.1,y2.2.1.1.2.2.2.2.2.2.2.2.1,y2.2.1.1.2.2.2.2.2.2.2.2.2.1,y2.2.1.1.2.2.2.2.2.2.2.2.2.2.1,y2.2.1.1.2.2.2.2.2.2.2.2.2.2.2.1,y2.2.1.1.2.2.2.2.2.2.2.2.2.2.2.2.1,()),(y2.2.1.2.1.1,y2.2.1.2.1.2.1,y2.2.1.2.1.2.2.1,(),y2.2.1.2.1.2.2.2.2.1,y2.2.1.2.1.2.2.2.2.2.1,y2.2.1.2.1.2.2.2.2.2.2.1,y2.2.1.2.1.2.2.2.2.2.2.2.1,y2.2.1.2.1.2.2.2.2.2.2.2.2.1,(),y2.2.1.2.1.2.2.2.2.2.2.2.2.2.2.1,y2.2.1.2.1.2.2.2.2.2.2.2.2.2.2.2.1,y2.2.1.2.1.2.2.2.2.2.2.2.2.2.2.2.2.1,()),(y2.2.1.2.2.1.1,y2.2.1.2.2.1.2.1,y2.2.1.2.2.1.2.2.1,(),y2.2.1.2.2.1.2.2.2.2.1,y2.2.1.2.2.1.2.2.2.2.2.1,y2.2.1.2.2.1.2.2.2.2.2.2.1,y2.2.1.2.2.1.2.2.2.2.2.2.2.1,y2.2.1.2.2.1.2.2.2.2.2.2.2.2.1,(),y2.2.1.2.2.1.2.2.2.2.2.2.2.2.2.2.1,y2.2.1.2.2.1.2.2.2.2.2.2.2.2.2.2.2.1,y2.2.1.2.2.1.2.2.2.2.2.2.2.2.2.2.2.2.1,()),()),(y2.2.2.1,([]:List dW),()))) (fun y3 =>
 some (((y3.2.1.2.1.1,(y3.2.1.2.1.2.1,y3.2.1.2.1.2.2.1),y3.2.2.1,y3.2.1.2.1.2.2.2.2.1,y3.2.1.2.1.2.2.2.2.2.1,y3.2.1.2.1.2.2.2.2.2.2.1,y3.2.1.2.1.2.2.2.2.2.2.2.1,y3.2.1.2.1.2.2.2.2.2.2.2.2.1,y3.2.2.2.1,y3.2.1.2.1.2.2.2.2.2.2.2.2.2.2.1,y3.2.1.2.1.2.2.2.2.2.2.2.2.2.2.2.1,y3.2.1.2.1.2.2.2.2.2.2.2.2.2.2.2.2.1),()),())) (fun y3 =>
 none)) (fun y2 =>
 none)
theorem yY0 (x:InD yhy):zjH ⟨yhi,57,yEv⟩ Tryz.f103.results.toList ydy yhy ysU x=yoV x.1:=by kernel_rfl
theorem yUw:ConOk Tryz.prog 103 ⟨yhy,ysU,fun x=>yoV x.1⟩:=zkh (yPF) Tryz.func103 (by kernel_rfl) (by kernel_rfl) Tryz.ntmps103.symm (by decide) (fun x r h=>(yY0 x).trans h)
def ym8 (a0:dA):dA:=a0
theorem yWU (a0:dA) (hk:zi9 yhy (a0,())):yoV a0=(fun n=>some ((n,()),())) (ym8 a0):=by
 have hb:a0.2.2.1.length * 80≤2 ^ 47:=hk.1.2.2.1.1
 have hb2:a0.2.2.2.2.2.2.2.2.1.length * 32≤2 ^ 47:=hk.1.2.2.2.2.2.2.2.2.1.1
 have hc: ∀ i,i < a0.2.2.2.2.2.2.2.2.1.length→(a0.2.2.2.2.2.2.2.2.1.getD i (0,[])).2.length * 8≤2 ^ 47:=fun i hi=>by rw [zcq hi]; exact (hk.1.2.2.2.2.2.2.2.2.1.2 _ (List.getElem_mem hi)).2.1
 have h1:=zkk (step:=ycx) a0.2.2.1 yh (fun i s=>yrD i a0 yxT (a0.1,a0.2.1,s,a0.2.2.2)) (fun s x=>s++ [x]) (fun i s=>s.length=i) (fun s=> .inl (yNd a0 yxT (a0.1,a0.2.1,s,a0.2.2.2))) (fun i s hi hs=>⟨by
   simp only [ycx,yrD,yrX,zjI (show (i:Int) < a0.2.2.1.length by omega),cond_true,wr (show -9223372036854775808≤(i:Int)+1 by omega) (by omega),Int.natCast_add,Int.natCast_one,Int.toNat_natCast,zkO hi,zjW,ybR,zkV]
   rw [zkw.2 (show (s.length+ [a0.2.2.1.getD i ([],[],false,[])].length) * 80≤140737488355328 by simp only [List.length_cons,List.length_nil]; omega)]; rfl,by simp [hs]⟩) (fun s hs=>by simp only [ycx,yrD,yrX,zkm (Int.le_refl _),cond_false]) [] rfl 18446744073709551616 (by omega)
 have h2:=zkk (step:=ybF) a0.2.2.2.2.2.2.2.2.1 (0,[]) (fun i s=>ypU i a0 yxT (a0.1,a0.2.1,a0.2.2.1,a0.2.2.2.1,a0.2.2.2.2.1,a0.2.2.2.2.2.1,a0.2.2.2.2.2.2.1,a0.2.2.2.2.2.2.2.1,s,a0.2.2.2.2.2.2.2.2.2)) (fun s x=>s++ [x]) (fun i s=>s.length=i) (fun s=> .inl (yLe yxT (a0.1,a0.2.1,a0.2.2.1,a0.2.2.2.1,a0.2.2.2.2.1,a0.2.2.2.2.2.1,a0.2.2.2.2.2.2.1,a0.2.2.2.2.2.2.2.1,s,a0.2.2.2.2.2.2.2.2.2))) (fun i s hi hs=>⟨by
   have:=hc i hi
   simp only [ybF,ypU,yqf,zjI (show (i:Int) < a0.2.2.2.2.2.2.2.2.1.length by omega),cond_true,wr (show -9223372036854775808≤(i:Int)+1 by omega) (by omega),Int.natCast_add,Int.natCast_one,Int.toNat_natCast,zkO hi,zjW,List.nil_append,zkV]
   rw [zkw.2 (show (([]:List Int).length+(a0.2.2.2.2.2.2.2.2.1.getD i (0,[])).2.length) * 8≤140737488355328 by rw [List.length_nil]; omega),zkw.2 (show (s.length+ [a0.2.2.2.2.2.2.2.2.1.getD i (0,[])].length) * 32≤140737488355328 by simp only [List.length_cons,List.length_nil]; omega)]; rfl,by simp [hs]⟩) (fun s hs=>by simp only [ybF,ypU,yqf,zkm (Int.le_refl _),cond_false]) [] rfl 18446744073709551616 (by omega)
 rw [ytu]at h1 h2
 unfold yoV ym8
 rw [show ytp (yNi a0 yxT (a0.1,a0.2.1,[],a0.2.2.2))=_ from h1,zkJ]
 refine (congrArg (fun z=>zjw z _ _) (show yrt (yLm a0 yxT (a0.1,a0.2.1,a0.2.2.1,a0.2.2.2.1,a0.2.2.2.2.1,a0.2.2.2.2.2.1,a0.2.2.2.2.2.2.1,a0.2.2.2.2.2.2.2.1,[],a0.2.2.2.2.2.2.2.2.2))=_ from h2)).trans rfl
def yFp:Con:=⟨yhy,ysU,fun x=>(fun n=>some ((n,()),())) (ym8 x.1)⟩
theorem yXT:ConOk Tryz.prog 103 yFp:=(yUw).mono (fun x r hk h=>(yWU x.1 hk).trans h)
end
section
def yFX:Code:=(Tryz.f208.body).getD .skip
def yGu:Env:=zki TT [(203,yFw),(261,yoA)] []
theorem yM9:FrOk Tryz.prog ⟨yGu,17,fun _=>none⟩ yFX:=zkp yb yc ⟨yX0,yxf,trivial⟩
def yOz:Nat→Option Seg:=fun _=>none
abbrev ykH:List Par:= [.pt tA (.pr .fz (.pr (.pr .fz .fz) (.pr (.ow (.pr (.ow .fz) (.pr (.ow (.pr .fz .fz)) (.pr .fz (.ow .fz))))) (.pr .fz (.pr .fz (.pr .fz (.pr .fz (.pr .fz (.pr (.ow (.pr .fz .fz)) (.pr .fz (.pr .fz .fz)))))))))))]
abbrev yqM:List OT:= []
def ytR (a0:dA):Option (ResD yqM×MutD ykH) :=
 let r1:=ydD a0
 bif r1.2.2.2.2.2.2.2.2.2.2.1 then
 some ((),(r1,()))
 else
 let r2:=yhG (r1.1,r1.2.1,r1.2.2.1,r1.2.2.2.1,r1.2.2.2.2.1,r1.2.2.2.2.2.1,r1.2.2.2.2.2.1,r1.2.2.2.2.2.2.2)
 some ((),(r2,()))
theorem yWc (x:InD ykH):zjH ⟨yGu,17,yOz⟩ Tryz.f208.results.toList yFX ykH yqM x=ytR x.1:=by kernel_rfl
theorem yQ3:ConOk Tryz.prog 208 ⟨ykH,yqM,fun x=>ytR x.1⟩:=zkh (yM9) Tryz.func208 (by kernel_rfl) (by kernel_rfl) Tryz.ntmps208.symm (by decide) (fun x r h=>(yWc x).trans h)
def yk8 (a0:dA):dA :=
 let r1:=ydD a0
 bif r1.2.2.2.2.2.2.2.2.2.2.1 then
 r1
 else
 let r2:=yhG (r1.1,r1.2.1,r1.2.2.1,r1.2.2.2.1,r1.2.2.2.2.1,r1.2.2.2.2.2.1,r1.2.2.2.2.2.1,r1.2.2.2.2.2.2.2)
 r2
def yCL:Con:=⟨ykH,yqM,fun x=>(fun n=>some ((),(n,()))) (yk8 x.1)⟩
theorem yT0 (a0:dA):ytR a0=(fun n=>some ((),(n,()))) (yk8 a0):=zkS (p:=fun (n:dA)=>((),(n,()))) (zkx (p:=fun (n:dA)=>((),(n,()))) rfl rfl)
theorem yUX:ConOk Tryz.prog 208 yCL:=(yQ3).mono (fun x r _ h=>(yT0 x.1).trans h)
theorem y0e (a:dA):yk8 a=yu a:=by
 unfold yk8 yu ydD yhG
 show (bif yd (yw a) then yw a else yfX (ynf (yw a)))=_
 rfl
end
section
def yH9:Code:=(Tryz.f271.body).getD .skip
def yIy:Env:=zki TT [(239,yGR)] []
theorem yPx:FrOk Tryz.prog ⟨yIy,18,fun _=>none⟩ yH9:=zkp yb yc ⟨yZ7,trivial⟩
def yRY:Nat→Option Seg:=fun _=>none
abbrev yhw:List Par:= [.rd tN]
abbrev ysQ:List OT:= [⟨false,tL,(.ow .fz)⟩]
def yoT (a0:dN):Option (ResD ysQ×MutD yhw) :=
 let r1:=yaU a0
 bif (!r1) then
 some ((([]:List Int),()),())
 else
 bif (zj4 ([21322,a0.1,a0.2.1,(a0.2.2.length:Int)]:List Int).length a0.2.2.length 8) then
 some (((([21322,a0.1,a0.2.1,(a0.2.2.length:Int)]:List Int)++a0.2.2),()),())
 else none
theorem yYW (x:InD yhw):zjH ⟨yIy,18,yRY⟩ Tryz.f271.results.toList yH9 yhw ysQ x=yoT x.1:=by kernel_rfl
theorem yUs:ConOk Tryz.prog 271 ⟨yhw,ysQ,fun x=>yoT x.1⟩:=zkh (yPx) Tryz.func271 (by kernel_rfl) (by kernel_rfl) Tryz.ntmps271.symm (by decide) (fun x r h=>(yYW x).trans h)
def ym7 (a0:dN):List Int:=yy5 a0
theorem yWQ (a0:dN) (hk:zi9 yhw (a0,())):yoT a0=(fun n=>some ((n,()),())) (ym7 a0):=by
 unfold yoT ym7 yy5
 cases hr:yaU a0
 ·rfl
 ·have:=(yYp.1 hr).2.2.1
  rw [zkw.2 (show (([21322,a0.1,a0.2.1,(a0.2.2.length:Int)]:List Int).length+a0.2.2.length) * 8≤140737488355328 by simp only [List.length_cons,List.length_nil]; omega)]; rfl
def yFm:Con:=⟨yhw,ysQ,fun x=>(fun n=>some ((n,()),())) (ym7 x.1)⟩
theorem yXQ:ConOk Tryz.prog 271 yFm:=(yUs).mono (fun x r hk h=>(yWQ x.1 hk).trans h)
end
section
def yo9:Code:=(Tryz.f229.body).getD .skip
def yuv:Env:=zki TT [(160,yFn),(207,yqP),(261,yoA),(271,yFm)] []
theorem yTr:FrOk Tryz.prog ⟨yuv,24,fun _=>none⟩ yo9:=zkp yb yc ⟨yXR,yzz,yxf,yXQ,trivial⟩
def yGi:Nat→Option Seg:=fun _=>none
def ycQ:Shape:=⟨[(0,false,[.ptr 1000000000 0]),(3,false,[.ptr 0 0]),(4,false,[.int .i64])],[(0,[.int .i64,.int .i64,.br tI]),(1000000000,[.int .i64,.int .i64,.int .i64,.at 800000000,.int .i64,.int .i64,.int .i64,.int .i64,.int .i64,.at 800000001,.int .i64,.bool,.bool])],[(800000000,tM,(.pr (.ow .fz) (.pr (.ow (.pr .fz .fz)) (.pr .fz (.ow .fz))))),(800000001,tW,(.pr .fz .fz))]⟩
def yiw:Shape:=⟨[(0,false,[.ptr 1000000000 0]),(3,false,[.ptr 0 0]),(4,false,[.ci .i64 0])],[(0,[.int .i64,.int .i64,.br tI]),(1000000000,[.int .i64,.int .i64,.int .i64,.at 800000000,.int .i64,.int .i64,.int .i64,.int .i64,.int .i64,.at 800000001,.int .i64,.bool,.bool])],[(800000000,tM,(.pr (.ow .fz) (.pr (.ow (.pr .fz .fz)) (.pr .fz (.ow .fz))))),(800000001,tW,(.pr .fz .fz))]⟩
def yid:Shape:=⟨[(0,false,[.ptr 1000000000 0])],[(1000000000,[.int .i64,.int .i64,.int .i64,.at 800000000,.int .i64,.int .i64,.int .i64,.int .i64,.int .i64,.at 800000001,.int .i64,.bool,.bool])],[(800000000,tM,(.pr (.ow .fz) (.pr (.ow (.pr .fz .fz)) (.pr .fz (.ow .fz))))),(800000001,tW,(.pr .fz .fz))]⟩
def yot:Shape:=⟨[],[],[]⟩
abbrev ytF (v0:Int) (v1:dN) (v2:dA):(ycQ).X:=((((),()),((),()),(v0,()),()),((v1.1,v1.2.1,v1.2.2,()),(v2.1,v2.2.1.1,v2.2.1.2,(),v2.2.2.2.1,v2.2.2.2.2.1,v2.2.2.2.2.2.1,v2.2.2.2.2.2.2.1,v2.2.2.2.2.2.2.2.1,(),v2.2.2.2.2.2.2.2.2.2.1,v2.2.2.2.2.2.2.2.2.2.2.1,v2.2.2.2.2.2.2.2.2.2.2.2,()),()),(v2.2.2.1,v2.2.2.2.2.2.2.2.2.1,()))
abbrev yQd (v0:dN) (v1:dA):(yiw).X:=((((),()),((),()),((),()),()),((v0.1,v0.2.1,v0.2.2,()),(v1.1,v1.2.1.1,v1.2.1.2,(),v1.2.2.2.1,v1.2.2.2.2.1,v1.2.2.2.2.2.1,v1.2.2.2.2.2.2.1,v1.2.2.2.2.2.2.2.1,(),v1.2.2.2.2.2.2.2.2.2.1,v1.2.2.2.2.2.2.2.2.2.2.1,v1.2.2.2.2.2.2.2.2.2.2.2,()),()),(v1.2.2.1,v1.2.2.2.2.2.2.2.2.1,()))
abbrev yDt (v0:dA):(yid).X:=((((),()),()),((v0.1,v0.2.1.1,v0.2.1.2,(),v0.2.2.2.1,v0.2.2.2.2.1,v0.2.2.2.2.2.1,v0.2.2.2.2.2.2.1,v0.2.2.2.2.2.2.2.1,(),v0.2.2.2.2.2.2.2.2.2.1,v0.2.2.2.2.2.2.2.2.2.2.1,v0.2.2.2.2.2.2.2.2.2.2.2,()),()),(v0.2.2.1,v0.2.2.2.2.2.2.2.2.1,()))
def yt5 (v0 v1 v2:Int) (v3:List Int) (v4 v5 v6 v7 v8 v9 v10 v11 v12:Int) (v13 v14:Bool) (v15:List dM) (v16:List dW):Option ((ycQ).X ⊕ ((yid).X ⊕ (yot).X)) :=
 bif (ltb v0 (v15.length:Int)) then
 let r4:=ydC v1
 let r5:=ym7 (v1,v2,v3)
 bnd (ygT (v4,(v5,v6),v15,v7,v8,v9,v10,v11,v16,v12,v13,v14) v0 r4 r5) fun r6 =>
 some (.inl ((((),()),((),()),((IntKind.i64.wrap (v0+1)),()),()),((v1,v2,v3,()),(r6.2.1.1,r6.2.1.2.1.1,r6.2.1.2.1.2,(),r6.2.1.2.2.2.1,r6.2.1.2.2.2.2.1,r6.2.1.2.2.2.2.2.1,r6.2.1.2.2.2.2.2.2.1,r6.2.1.2.2.2.2.2.2.2.1,(),r6.2.1.2.2.2.2.2.2.2.2.2.1,r6.2.1.2.2.2.2.2.2.2.2.2.2.1,r6.2.1.2.2.2.2.2.2.2.2.2.2.2,()),()),(r6.2.1.2.2.1,r6.2.1.2.2.2.2.2.2.2.2.1,())))
 else
 some (.inr (.inl ((((),()),()),((v4,v5,v6,(),v7,v8,v9,v10,v11,(),v12,v13,v14,()),()),(v15,v16,()))))
def ydu (x:(ycQ).X):=yt5 x.1.2.2.1.1 x.2.1.1.1 x.2.1.1.2.1 x.2.1.1.2.2.1 x.2.1.2.1.1 x.2.1.2.1.2.1 x.2.1.2.1.2.2.1 x.2.1.2.1.2.2.2.2.1 x.2.1.2.1.2.2.2.2.2.1 x.2.1.2.1.2.2.2.2.2.2.1 x.2.1.2.1.2.2.2.2.2.2.2.1 x.2.1.2.1.2.2.2.2.2.2.2.2.1 x.2.1.2.1.2.2.2.2.2.2.2.2.2.2.1 x.2.1.2.1.2.2.2.2.2.2.2.2.2.2.2.1 x.2.1.2.1.2.2.2.2.2.2.2.2.2.2.2.2.1 x.2.2.1 x.2.2.2.1
def yC1 (x:(yiw).X):(ycQ).X:=((((),()),((),()),(0,()),()),((x.2.1.1.1,x.2.1.1.2.1,x.2.1.1.2.2.1,()),(x.2.1.2.1.1,x.2.1.2.1.2.1,x.2.1.2.1.2.2.1,(),x.2.1.2.1.2.2.2.2.1,x.2.1.2.1.2.2.2.2.2.1,x.2.1.2.1.2.2.2.2.2.2.1,x.2.1.2.1.2.2.2.2.2.2.2.1,x.2.1.2.1.2.2.2.2.2.2.2.2.1,(),x.2.1.2.1.2.2.2.2.2.2.2.2.2.2.1,x.2.1.2.1.2.2.2.2.2.2.2.2.2.2.2.1,x.2.1.2.1.2.2.2.2.2.2.2.2.2.2.2.2.1,()),()),(x.2.2.1,x.2.2.2.1,()))
def yE5:Code:=(zdI yo9 64 52).getD .skip
theorem ySh:zdI yo9 64 13=some (.block 0 (.loop yE5)):=by kernel_rfl
theorem yVi (x:(ycQ).X):zg7 ⟨yuv,24,yGi⟩ 0 yE5 52 ycQ yid yot x=ydu x:=by kernel_rfl
def yDj (x:(yiw).X):Nat:=18446744073709551616
def yuK (x:(yiw).X):Option ((yid).X ⊕ (yot).X):=zr ydu (yDj x) (yC1 x)
def yDS:Seg:=⟨yiw,yid,yot,yuK⟩
def yGj:Nat→Option Seg:=fun q=>bif Nat.beq q 13 then some yDS else yGi q
theorem yTs:FrOk Tryz.prog ⟨yuv,24,yGj⟩ yo9:=(yTr).loop (sg:=yDS) ycQ yC1 (by decide) ySh ydu yDj (by decide) (fun _=>rfl) (fun x r _ h=>h) yVi
abbrev ykI:List Par:= [.pt tA (.pr .fz (.pr (.pr .fz .fz) (.pr (.ow (.pr (.ow .fz) (.pr (.ow (.pr .fz .fz)) (.pr .fz (.ow .fz))))) (.pr .fz (.pr .fz (.pr .fz (.pr .fz (.pr .fz (.pr (.ow (.pr .fz .fz)) (.pr .fz (.pr .fz .fz))))))))))),.rd tN]
abbrev yvf:List OT:= []
def yrd (a0:dA) (a1:dN):Option (ResD yvf×MutD ykI) :=
 zjw (yuK ((((),()),((),()),((),()),()),((a1.1,a1.2.1,a1.2.2,()),(a0.1,a0.2.1.1,a0.2.1.2,(),a0.2.2.2.1,a0.2.2.2.2.1,a0.2.2.2.2.2.1,a0.2.2.2.2.2.2.1,a0.2.2.2.2.2.2.2.1,(),a0.2.2.2.2.2.2.2.2.2.1,a0.2.2.2.2.2.2.2.2.2.2.1,a0.2.2.2.2.2.2.2.2.2.2.2,()),()),(a0.2.2.1,a0.2.2.2.2.2.2.2.2.1,()))) (fun y6 =>
 let r8:=ydD (y6.2.1.1.1,(y6.2.1.1.2.1,y6.2.1.1.2.2.1),y6.2.2.1,y6.2.1.1.2.2.2.2.1,y6.2.1.1.2.2.2.2.2.1,y6.2.1.1.2.2.2.2.2.2.1,y6.2.1.1.2.2.2.2.2.2.2.1,y6.2.1.1.2.2.2.2.2.2.2.2.1,y6.2.2.2.1,y6.2.1.1.2.2.2.2.2.2.2.2.2.2.1,y6.2.1.1.2.2.2.2.2.2.2.2.2.2.2.1,y6.2.1.1.2.2.2.2.2.2.2.2.2.2.2.2.1)
 some ((),(r8,()))) (fun y6 =>
 none)
theorem y0S (x:InD ykI):zjH ⟨yuv,24,yGj⟩ Tryz.f229.results.toList yo9 ykI yvf x=yrd x.1 x.2.1:=by kernel_rfl
theorem yXy:ConOk Tryz.prog 229 ⟨ykI,yvf,fun x=>yrd x.1 x.2.1⟩:=zkh (yTs) Tryz.func229 (by kernel_rfl) (by kernel_rfl) Tryz.ntmps229.symm (by decide) (fun x r h=>(y0S x).trans h)
def yk9 (a0:dA) (a1:dN):dA:=yaj a0 a1
theorem yZG (a0:dA) (a1:dN) (hk:zi9 ykI (a0,a1,())):yrd a0 a1=(fun n=>some ((),(n,()))) (yk9 a0 a1):=by
 have hb:a0.2.2.1.length * 80≤2 ^ 47:=hk.1.2.2.1.1
 have h1:yuK (yQd a1 a0)=some (.inl (yDt ((List.range a0.2.2.1.length).foldl (yfU a1) a0))) :=
  zks (step:=ydu) a0.2.2.1.length (fun i s=>ytF i a1 s) (yfU a1) (fun _ s=>s.2.2.1.length=a0.2.2.1.length) (fun s=> .inl (yDt s)) (fun i s hi hs=>⟨by
   simp only [ydu,ytF,yt5,hs,zjI (show (i:Int) < a0.2.2.1.length by omega),cond_true,wr (show -9223372036854775808≤(i:Int)+1 by omega) (by omega),Int.natCast_add,Int.natCast_one,Int.toNat_natCast,zkV,ym7]
   rw [ytb s i (ydC a1.1) (yy5 a1) (zkO (by rw [hs]; exact hi))]
   rfl,(yBD a1 s i).trans hs⟩) (fun s hs=>by simp only [ydu,ytF,yt5,hs,zkm (Int.le_refl _),cond_false]) a0 rfl _ (by show _ < 18446744073709551616; omega)
 unfold yrd yk9 yaj
 exact (congrArg (fun z=>zjw z _ _) h1).trans rfl
def yGU:Con:=⟨ykI,yvf,fun x=>(fun n=>some ((),(n,()))) (yk9 x.1 x.2.1)⟩
theorem y0a:ConOk Tryz.prog 229 yGU:=(yXy).mono (fun x r hk h=>(yZG x.1 x.2.1 hk).trans h)
end
end
end Go.Tf
