/- Functions of the program, and what they come to. -/
import Derived.Test.YtgmadfpnljibhaaGreatBlocksBentF14
import Derived.Deep.RegionLaw
import Derived.Laws.Externs
import Derived.Laws.IdiomCopy
import Derived.Laws.NewBlocks
import Derived.Lib.AppendZerosOnto
import Derived.Lib.Overlaps
import Derived.Lib.SliceRun
import Derived.Lib.Walk
import Derived.Shelf.RegionOpenPlain
import Derived.Shelf.Spec.SlicesInsert
import Derived.WalkKit
namespace Go.Tf
noncomputable section
open Go.Proofs
set_option synthInstance.maxHeartbeats 400000
set_option synthInstance.maxSize 10000
set_option linter.unusedVariables false
set_option linter.unusedSimpArgs false
set_option maxRecDepth 100000
abbrev yiw:List Par:= [.kp tWs (.ow (.pr .fz (.ow .fz))),.rd tI,.rd tI]
abbrev yiz:List OT:= [⟨false,tWs,(.ow (.pr .fz (.ow .fz)))⟩]
end
end Go.Tf
namespace Go.Proofs
noncomputable section
open Go.Tf Go.RowKit Go.Lib
set_option synthInstance.maxHeartbeats 400000
set_option synthInstance.maxSize 10000
set_option linter.unusedVariables false
set_option linter.unusedSimpArgs false
set_option maxRecDepth 100000
set_option maxHeartbeats 4000000 in
set_option maxRecDepth 1000000 in
theorem y6T (w:World) (b off n c i j:Nat) (hij:i < j) (hj:j≤n) (hn:n≤c) (i0:TypeInfo) (hi0:Tryz.prog.info? 129=some i0) (hz1:i0.size=2) (hund:Tryz.prog.underlying 27=some (.slice 129))
  (news zs:List Value) (z:Value) (hz:Hdd (∀ w,(zeroValue 129).run Tryz.prog w= .ok z w)) (hzs:Hdd ((Builtin.zeroCells z.cells (n - (i+(n - j)))).toList=zs)) (hzl:Hdd (zs.length=(j - i) * 2)) (hz1c:Hdd (∀ v∈zs,v.oneCell'=true))
  (hnl:Hdd (news.length=(n - j) * 2)) (hn1:Hdd (∀ v∈news,v.oneCell'=true)) (hnews:Hdd (∀ t u,news[t]? =some u→w.drew.cell? ⟨b,off+j * 2+t,none⟩=some u))
  (hcell:Hdd (∀ t,t < n * 2→(w.drew.cell? ⟨b,off+t,none⟩).isSome=true)) (hfr:Hdd (∀ t,t < n * 2→w.drew.frozen? ⟨b,off+t,none⟩=false)) :
  Calls Tryz.prog 184 #[.slice (some ⟨b,off,none⟩) n c,.int .i64 i,.int .i64 j] w fun e w'=>e= .returned (.slice (some ⟨b,off,none⟩) (i+(n - j)) c) ∧
   w'=(w.drew.setCells b (off+i * 2) news).setCells b (off+(i+(n - j)) * 2) zs:=by
 have hne: ¬ ((i:Int)=(j:Int)):=by omega
 have yb:Tryz.prog.follows .mixedOrders=true:=by kernel_rfl
 obtain ⟨A,hA,hsrc⟩: ∃ A:Addr,(if c=j then (some ⟨b,off,none⟩:Option Addr) else some ⟨b,off+j * 2,none⟩)=some A∧Hdd (∀ t u,news[t]? =some u→w.drew.cell? (A.add t)=some u):=by
  by_cases h:c=j
  ·refine ⟨⟨b,off,none⟩,by simp [h],fun t u hu=> ?_⟩
   have h0:news.length=0:=by rw [hnl.out,show n - j=0 by omega]
   rw [List.length_eq_zero_iff.1 h0]at hu
   simp at hu
  ·exact ⟨⟨b,off+j * 2,none⟩,by simp [h],fun t u hu=>by rw [zay]; exact hnews.out t u hu⟩
 have s3:Hdd (∀ t,t < news.length→(w.drew.cell? ⟨b,off+i * 2+t,none⟩).isSome=true∧w.drew.frozen? ⟨b,off+i * 2+t,none⟩=false):=by
  intro t ht
  rw [hnl.out]at ht
  rw [Nat.add_assoc]
  exact ⟨hcell.out _ (by omega),hfr.out _ (by omega)⟩
 obtain ⟨W1,hW1⟩: ∃ W1,W1=w.drew.setCells b (off+i * 2) news:=⟨_,rfl⟩
 have hW:Hdd (W1=w.drew.setCells b (off+i * 2) news):=hW1
 have hic:i≤c:=by omega
 have hjc:j≤c:=by omega
 have hcl: ∀ ty,(Builtin.clear_ #[27] ty #[.slice (some ⟨b,off+(i+(n - j)) * 2,none⟩) (n - (i+(n - j))) (c - (i+(n - j)))]).run Tryz.prog W1= .ok (.tuple #[]) (W1.setCells b (off+(i+(n - j)) * 2) zs):=fun ty=>by
  refine y5z W1 27 129 ty z hund hz.out zs b _ _ _ (by omega) hzs.out hz1c.out (fun t ht=> ?_) (fun t ht=> ?_)
  ·rw [hzl.out]at ht
   rw [hW1,show off+(i+(n - j)) * 2+t=off+((i+(n - j)) * 2+t) by omega]
   exact Tf.isSome_setCells b _ _ _ (fun q hq=>(s3.out q hq).1) _ (hcell.out _ (by omega))
  ·rw [hzl.out]at ht
   rw [hW1,World.frozen?_setCells,show off+(i+(n - j)) * 2+t=off+((i+(n - j)) * 2+t) by omega]
   exact hfr.out _ (by omega)
 rw [← hW1]
 clear hW1
 go_enter Tryz.func184,Tryz.ntmps184
 go_wp2_with fail
 go_region_law_o (refine step_append_room rfl (.tmp 22) (.tmp 25) 27 rfl 129 i0 2 hund hi0 hz1 b off i c (by simp [Act.eval,Act.put]) A (n - j) (c - j) news (by simp [Act.eval,Act.put]) hnl.out hsrc.out hn1.out (by omega) s3.out ?_; rw [← hW.out])
 go_wp2
 go_ret
 exact ⟨rfl,rfl⟩
end
end Go.Proofs
namespace Go.Tf
noncomputable section
open Go.Proofs
set_option synthInstance.maxHeartbeats 400000
set_option synthInstance.maxSize 10000
set_option linter.unusedVariables false
set_option linter.unusedSimpArgs false
set_option maxRecDepth 100000
def yaY (l:List dW) (i j:Int):Bool:=leb 0 i&&(ltb i j&&leb j (l.length:Int))
def yeR (l:List dW) (i j:Int):List dW:=l.take i.toNat++l.drop j.toNat
def y0f:Con:=⟨yiw,yiz,fun x=>bif yaY x.1 x.2.1 x.2.2.1 then some ((yeR x.1 x.2.1 x.2.2.1,()),()) else none⟩
theorem y7g (w:World) (Z R:Nat→Prop) (l:List dW) (i j:Nat) (a0:Value) (f0:List Nat) (o0:Own (hp w) Z (.sl tW) (.ow aW) l [a0] f0) (hij:i < j) (hj:j≤l.length)
  (hlow: ∀ b,Z b∨R b→b < w.heap.size) (hnd:f0.Nodup) (hfr: ∀ b∈f0,b < w.heap.size∧ ¬ Z b∧ ¬ R b):Calls Tryz.prog 184 #[a0,.int .i64 (i:Int),.int .i64 (j:Int)] w (DoneOk y0f [a0,.int .i64 (i:Int),.int .i64 (j:Int)] [f0,[],[]] Z w ((l.take i++l.drop j,()),())):=by
 have hund:Tryz.prog.underlying 27=some (.slice 129):=by kernel_rfl
 have hinf:(Tryz.prog.info? 129).map (fun f=>(f.zero,f.size,f.bytes))=some (some (zeroVal tW),tW.size,tW.bytes):=by kernel_rfl
 obtain ⟨i0,hi0,hz0,hsz,hbz⟩: ∃ i0,Tryz.prog.info? 129=some i0∧i0.zero=some (zeroVal tW)∧i0.size=2∧i0.bytes=32:=by
  cases hq:Tryz.prog.info? 129 with
  | none=>rw [hq]at hinf; cases hinf
  | some f =>
   rw [hq]at hinf
   simp only [Option.map_some,Option.some.injEq,Prod.mk.injEq]at hinf
   exact ⟨f,rfl,hinf.1,hinf.2.1,hinf.2.2⟩
 have hzc:(zeroVal tW).cells.size=2:=rfl
 have hfl:([f0,[],[]]:List (List Nat)).flatten=f0:=by simp
 obtain ⟨hd,cap,hv0,hbnd,hlc,hc0⟩:=Own.elems o0
 subst hv0
 have hszt:tW.size=2:=rfl
 rcases hc0 with ⟨rfl,rfl,rfl,rfl⟩ | ⟨b,o,c,T,vs0,fp0,rfl,hB,hcap,hf0,hcs0,e0⟩
 ·simp at hj; omega
 ·have e0':=e0
  have hfle:=e0.fl
  have hsub:(fp0.take i++fp0.drop j).flatten.Sublist fp0.flatten:=by
   have h1:fp0.flatten=(fp0.take i).flatten++(((fp0.drop i).take (j - i)).flatten++(fp0.drop j).flatten):=by
    have:fp0.drop j=(fp0.drop i).drop (j - i):=by rw [List.drop_drop,show i+(j - i)=j by omega]
    rw [this,← List.flatten_append,List.take_append_drop,← List.flatten_append,List.take_append_drop]
   rw [h1,List.flatten_append]
   exact List.Sublist.append (List.Sublist.refl _) (List.sublist_append_right _ _)
  have hnd3:(b::fp0.flatten).Nodup:=by rw [← hf0]; exact hnd
  have hgb: ∀ x∈fp0.flatten,x≠b:=fun x hx e=>(List.nodup_cons.1 hnd3).1 (e ▸ hx)
  have hl0:=e0.len
  rw [hszt]at hcs0 hcap hl0
  have h1c:=fun v hv=>zia (e0.isCells (by decide) v hv)
  have hbf:b∈f0:=by rw [hf0]; exact List.mem_cons_self
  obtain ⟨hblt,hbZ,_⟩:=hfr b hbf
  have hdl:(vs0.drop (j * 2)).length=(l.length - j) * 2:=by rw [List.length_drop]; omega
  obtain ⟨zs,hzs⟩: ∃ zs,(Builtin.zeroCells (zeroVal tW).cells (l.length - (i+(l.length - j)))).toList=zs:=⟨_,rfl⟩
  have hzl:zs.length=(j - i) * 2:=by
   rw [← hzs,Array.length_toList,size_zeroCells,hzc]
   omega
  have hz1: ∀ v∈zs,v.oneCell'=true:=fun v hv=>by
   rw [← hzs]at hv
   have hzc2:(zeroVal tW).cells= #[.int .i64 0,.slice none 0 0]:=rfl
   simp only [Builtin.zeroCells,hzc2,Array.toList_map,List.mem_map]at hv
   obtain ⟨i,_,rfl⟩:=hv
   have h2:i % 2 < 2:=Nat.mod_lt _ (by decide)
   generalize i % 2=r at h2
   show (#[Value.int .i64 0,.slice none 0 0][r]!).oneCell'=true
   match r,h2 with
   | 0,_=>rfl
   | 1,_=>rfl
  have hin: ∀ t,t < l.length * 2→(w.drew.cell? ⟨b,o+t,none⟩).isSome=true∧w.drew.frozen? ⟨b,o+t,none⟩=false:=fun t ht=>y5F (w:=w.drew) hB (by omega)
  refine (y6T w b o l.length cap i j hij hj hlc i0 hi0 hsz hund (vs0.drop (j * 2)) zs (zeroVal tW) (fun w=>by simp [zeroValue,typeInfo,hi0,hz0]) hzs hzl hz1 hdl (fun v hv=>h1c v (List.mem_of_mem_drop hv)) (fun t u ht=>by
   rw [List.getElem?_drop]at ht
   rw [Nat.add_assoc]
   exact yAB (w:=w.drew) hcs0 _ u ht) (fun t ht=>(hin t ht).1) (fun t ht=>(hin t ht).2)).mono fun e w2 ⟨he,hw2⟩=> ?_
  subst he
  have e1:w.drew.setCells b (o+i * 2) (vs0.drop (j * 2))=World.setBlk w.drew b (ze c (o+i * 2) (vs0.drop (j * 2))) T:=yiu _ _ w.drew c hB (by omega)
  have hb1:hp (World.setBlk w.drew b (ze c (o+i * 2) (vs0.drop (j * 2))) T) b=some (.cells (ze c (o+i * 2) (vs0.drop (j * 2))) T (0,0)):=za3 (w:=w.drew) hblt
  rw [e1,yiu zs _ _ _ hb1 (by rw [zaL]; omega)] at hw2
  subst hw2
  have hsz1:b < (World.setBlk w.drew b (ze c (o+i * 2) (vs0.drop (j * 2))) T).heap.size:=by simp [World.setBlk]<;>exact hblt
  have hBn:=za3 (c:=ze (ze c (o+i * 2) (vs0.drop (j * 2))) (o+(i+(l.length - j)) * 2) zs) (T:=T) hsz1
  have oth: ∀ b',b'≠b→hp (World.setBlk (World.setBlk w.drew b (ze c (o+i * 2) (vs0.drop (j * 2))) T) b (ze (ze c (o+i * 2) (vs0.drop (j * 2))) (o+(i+(l.length - j)) * 2) zs) T) b'=hp w b':=fun b' h=>(za4 h).trans (za4 (w:=w.drew) h)
  have s1:=Elems.sub e0' 0 i (by omega)
  have s2:=Elems.sub e0' j (l.length - j) (by omega)
  rw [hszt]at s1 s2
  rw [Nat.zero_mul,List.drop_zero,List.drop_zero,List.drop_zero]at s1
  rw [List.take_of_length_le (l:=l.drop j) (by rw [List.length_drop]; omega),List.take_of_length_le (l:=vs0.drop (j * 2)) (by rw [List.length_drop]; omega),List.take_of_length_le (l:=fp0.drop j) (by rw [List.length_drop]; omega)] at s2
  have es:=s1.append s2
  have hkZ: ∀ b',Z b'→hp (World.setBlk (World.setBlk w.drew b (ze c (o+i * 2) (vs0.drop (j * 2))) T) b (ze (ze c (o+i * 2) (vs0.drop (j * 2))) (o+(i+(l.length - j)) * 2) zs) T) b'=hp w b':=fun b' hb'=>oth b' (fun e=>hbZ (e ▸ hb'))
  have es':=es.keep hkZ (fun _ h=>h) (fun b' hb'=>oth b' (hgb b' (hsub.mem hb')))
  have hL:(l.take i++l.drop j).length=i+(l.length - j):=by simp; omega
  have hcells:zd (hp (World.setBlk (World.setBlk w.drew b (ze c (o+i * 2) (vs0.drop (j * 2))) T) b (ze (ze c (o+i * 2) (vs0.drop (j * 2))) (o+(i+(l.length - j)) * 2) zs) T)) b o ((i+(l.length - j)) * 2)=some (vs0.take (i * 2)++vs0.drop (j * 2)):=by
   have hL2:(vs0.take (i * 2)++vs0.drop (j * 2)).length=(i+(l.length - j)) * 2:=by rw [List.length_append,List.length_take,List.length_drop]; omega
   have:=zab (h:=hp (World.setBlk (World.setBlk w.drew b (ze c (o+i * 2) (vs0.drop (j * 2))) T) b (ze (ze c (o+i * 2) (vs0.drop (j * 2))) (o+(i+(l.length - j)) * 2) zs) T)) (b:=b) (vs0.take (i * 2)++vs0.drop (j * 2)) o (fun t ht=>by
    rw [hL2]at ht
    unfold zF
    rw [hBn]
    show (ze (ze c (o+i * 2) (vs0.drop (j * 2))) (o+(i+(l.length - j)) * 2) zs)[o+t]? =_
    rw [z3 _ _ _ _ (by rw [zaL]; omega),if_neg (by omega),z3 _ _ _ _ (by omega)]
    by_cases g1:t < i * 2
    ·rw [if_neg (by omega),List.getElem?_append_left (by rw [List.length_take]; omega),List.getElem?_take,if_pos g1,zX hcs0 t (by omega)]
     unfold zF; rw [hB]
    ·rw [if_pos (by omega),List.getElem?_append_right (by rw [List.length_take]; omega),List.length_take]
     exact yOJ (by omega))
   rw [hL2]at this; exact this
  have hown:=es'.own (b:=b) (o:=o) (cap:=cap) hBn (by rw [hL]; exact hcells) (by rw [zaL,zaL]; exact hcap) (by rw [hL]; omega) (by rw [hL]; have:tW.bytes=32:=rfl; rw [this]at hbnd ⊢; omega)
  rw [hL]at hown
  refine ⟨[_],Z,[b::(fp0.take i++fp0.drop j).flatten],[[],[],[]],rfl,rfl,by simp [World.setBlk]<;>exact Nat.le_refl _,fun b' _ hb'=>oth b' (fun e=>hb' (by rw [hfl,e]; exact hbf)),fun _ h=>h,fun _ h=> .inl h,⟨⟨_,rfl,hown⟩,trivial⟩,⟨rfl,rfl,rfl,trivial⟩,?_,fun b' hb'=> ?_⟩
  ·simp only [List.flatten_cons,List.flatten_nil,List.append_nil,List.nodup_cons]
   exact ⟨fun h=>hgb b (hsub.mem h) rfl,(List.nodup_cons.1 hnd3).2.sublist hsub⟩
  ·simp only [List.flatten_cons,List.flatten_nil,List.append_nil,List.mem_cons]at hb'
   rcases hb' with rfl | hb'
   ·exact ⟨.inr (by rw [hfl]; exact hbf),hbZ⟩
   ·have hm:b'∈f0:=by rw [hf0]; exact List.mem_cons_of_mem _ (hsub.mem hb')
    exact ⟨.inr (by rw [hfl]; exact hm),(hfr b' hm).2.1⟩
theorem y7t:ConOk Tryz.prog 184 y0f where
 fn:=⟨_,Tryz.func184,by kernel_rfl,by kernel_rfl⟩
 run:=fun w Z R xs args fs r ha hF hz hnd hfr=>by
  obtain ⟨l,i,v,_⟩:=xs
  rcases args with _ | ⟨a0,_ | ⟨a1,_ | ⟨a2,_ | ⟨a3,t⟩⟩⟩⟩<;>rcases fs with _ | ⟨f0,_ | ⟨f1,_ | ⟨f2,_ | ⟨f3,u⟩⟩⟩⟩<;>try (simp [ArgsOk,y0f]at ha; done)
  obtain ⟨⟨cs0,rfl,o0⟩,⟨cs1,rfl,hi1⟩,rfl,⟨cs2,rfl,hj1⟩,rfl,_⟩:=ha
  obtain ⟨rfl,hif⟩:=hi1
  obtain ⟨rfl,hjf⟩:=hj1
  have hF':(bif yaY l i v then some (((yeR l i v,()),()):ResD yiz×MutD yiw) else none)=some r:=hF
  cases hq:yaY l i v with
  | false=>rw [hq]at hF'; cases hF'
  | true =>
   rw [hq]at hF'
   obtain rfl:=Option.some.inj hF'
   simp only [yaY,Bool.and_eq_true]at hq
   obtain ⟨i0,i1,hv1⟩:=hq
   have i0:=zjE.1 i0
   have i1:=zjH.1 i1
   have hv1:=zjE.1 hv1
   obtain ⟨k,hk⟩: ∃ k:Nat,i=(k:Int):=⟨Int.toNat i,(Int.toNat_of_nonneg i0).symm⟩
   subst hk
   obtain ⟨m,hm⟩: ∃ m:Nat,v=(m:Int):=⟨Int.toNat v,(Int.toNat_of_nonneg (by have:=i0; have:=i1; omega)).symm⟩
   subst hm
   have hl1:=Own.len o0
   obtain ⟨a0,rfl⟩:=List.length_eq_one_iff.1 hl1
   have hfe:([f0,[],[]]:List (List Nat)).flatten=f0:=by simp
   rw [hfe]at hnd hfr
   exact y7g w Z R l k m a0 f0 o0 (by have:=i1; omega) (by have:=hv1; omega) hz hnd hfr
def yiM (a0:List dW) (a1 a2:Int):Option (ResD yiz×MutD yiw):=bif yaY a0 a1 a2 then (fun n=>some ((n,()),())) (yeR a0 a1 a2) else none
theorem yKP (a0:List dW) (a1 a2:Int) (h:yaY a0 a1 a2=true):yiM a0 a1 a2=(fun n=>some ((n,()),())) (yeR a0 a1 a2):=by unfold yiM; rw [h]; rfl
def yv6:Con:=⟨yiw,yiz,fun x=>yiM x.1 x.2.1 x.2.2.1⟩
theorem yKJ:ConOk Tryz.prog 184 yv6:=y7t
section
def yz7:Code:=(Tryz.f83.body).getD .skip
def yAh:Env:=zj3 TT [(45,yhw),(53,yxt),(98,yil),(116,ybt),(183,yzx),(184,yv6)] []
theorem yJv:FrOk Tryz.prog ⟨yAh,58,fun _=>none⟩ yz7:=zj7 yb yc ⟨yoM,yMV,yql,yd9,yL0,yKJ,trivial⟩
def yJ7:Nat→Option Seg:=fun _=>none
abbrev ycY:List Par:= [.rd tA,.rd tI]
abbrev yj1:List OT:= [⟨false,tA,(.pr .fz (.pr (.pr .fz .fz) (.pr (.ow (.pr (.ow (.ow .fz)) (.pr (.ow (.pr .fz (.ow .fz))) (.pr .fz (.ow .fz))))) (.pr .fz (.pr .fz (.pr .fz (.pr .fz (.pr .fz (.pr (.ow (.pr .fz (.ow .fz))) (.pr .fz (.pr .fz .fz)))))))))))⟩,⟨false,tI,.fz⟩]
def yhf (a0:dA) (a1:Int):Option (ResD yj1×MutD ycY) :=
 let r1:=yah a0
 bif (!r1) then
 let r2:=yC a0
 some ((r2,1,()),())
 else
 bif a0.2.2.2.2.2.2.2.2.2.2.1 then
 let r3:=yC a0
 some ((r3,6,()),())
 else
 let r4:=yY a0.2.1 a1
 bif (!r4) then
 let r5:=yC a0
 some ((r5,2,()),())
 else
 let r6:=ymD a0 a1
 bif (ltb r6 0) then
 let r7:=yC a0
 some ((r7,0,()),())
 else
 bif (inb r6 a0.2.2.2.2.2.2.2.2.1.length) then
 let r8:=yfH a0 a1 ((nth a0.2.2.2.2.2.2.2.2.1 r6 (0,[])).2)
 bif (r8.2==0) then
 bnd (yiM r8.1.2.2.2.2.2.2.2.2.1 r6 (IntKind.i64.wrap (r6+1))) fun r9 =>
 some (((r8.1.1,r8.1.2.1,r8.1.2.2.1,r8.1.2.2.2.1,r8.1.2.2.2.2.1,r8.1.2.2.2.2.2.1,r8.1.2.2.2.2.2.2.1,r8.1.2.2.2.2.2.2.2.1,r9.1.1,r8.1.2.2.2.2.2.2.2.2.2),r8.2,()),())
 else
 some ((r8.1,r8.2,()),())
 else none
theorem yNY (x:InD ycY):zjx ⟨yAh,58,yJ7⟩ Tryz.f83.results.toList yz7 ycY yj1 x=yhf x.1 x.2.1:=by kernel_rfl
theorem yKC:ConOk Tryz.prog 83 ⟨ycY,yj1,fun x=>yhf x.1 x.2.1⟩:=zj2 (yJv) Tryz.func83 (by kernel_rfl) (by kernel_rfl) Tryz.ntmps83.symm (by decide) (fun x r h=>(yNY x).trans h)
def ybu (a0:dA) (a1:Int):dA×Int:=yow a0 a1
theorem yMJ (a0:dA) (a1:Int) (hk:zi2 ycY (a0,a1,())):yhf a0 a1=(fun n=>some ((n.1,n.2,()),())) (ybu a0 a1):=by
 unfold yhf ybu yow
 simp only [yC,yah,ymD,yfH,ytY]
 cases ha:yx a0
 ·rfl
 rcases Bool.eq_false_or_eq_true (ye a0) with hd | hd
 ·rw [show a0.2.2.2.2.2.2.2.2.2.2.1=true from hd,hd]; rfl
 rw [show a0.2.2.2.2.2.2.2.2.2.2.1=false from hd,hd]
 cases yP a0.2.1 a1
 ·rfl
 unfold flushE
 cases h0:ltb (yo a0.2.2.2.2.2.2.2.2.1 a1) 0
 ·have h1:=zkr h0
  have hi:inb (yo a0.2.2.2.2.2.2.2.2.1 a1) a0.2.2.2.2.2.2.2.2.1.length=true:=(yno (d:=((0:Int),([]:List Int))) (zkx h1)).1
  have hk:=zjD.1 hi
  have hl8:=yb6 (yet ha) (yR ha)
  simp only [hi,cond_true,cond_false,Bool.not_true]
  generalize (nth a0.2.2.2.2.2.2.2.2.1 (yo a0.2.2.2.2.2.2.2.2.1 a1) (0,[])).2=D
  unfold yVN
  cases hc:(yp a0 a1 D !=0)
  ·simp only [cond_false]
   cases hr:((yac a0 a1 D).1==0)
   ·rfl
   ·simp only [cond_true,ySo]
    generalize yo a0.2.2.2.2.2.2.2.2.1 a1=K at hk h1 ⊢
    rw [wr (show -9223372036854775808≤K+1 by omega) (by omega),yKP _ K (K+1) (by
     unfold yaY
     rw [zkx hk.1,zj5 (show K < K+1 by omega),zkx (show K+1≤(a0.2.2.2.2.2.2.2.2.1.length:Int) by omega)]; rfl),beq_iff_eq.1 hr]
    simp only [zkd]
    unfold yeR yDq yFB
    rw [show (K+1).toNat=K.toNat+1 by omega]
  ·have hc2:(yp a0 a1 D==0)=false:=beq_eq_false_iff_ne.2 (bne_iff_ne.1 hc)
   simp only [cond_true,hc2,cond_false]
 ·rfl
def yni:Con:=⟨ycY,yj1,fun x=>(fun n=>some ((n.1,n.2,()),())) (ybu x.1 x.2.1)⟩
theorem yze:ConOk Tryz.prog 83 yni:=(yKC).mono (fun x r hk h=>(yMJ x.1 x.2.1 hk).trans h)
end
section
def yes:Code:=(Tryz.f103.body).getD .skip
def yiS:Env:=zj3 TT [(152,yf9)] [(8192,(.pr (.ow .fz) (.pr (.ow (.pr .fz .fz)) (.pr .fz (.ow .fz))))),(25088,(.pr (.ow .fz) (.pr (.ow (.pr .fz .fz)) (.pr .fz (.ow .fz))))),(28672,(.pr .fz .fz)),(46144,(.pr .fz .fz))]
theorem yTD:FrOk Tryz.prog ⟨yiS,57,fun _=>none⟩ yes:=zj7 yb yc ⟨ymQ,trivial⟩
def yGu:Nat→Option Seg:=fun _=>none
def ycM:Shape:=⟨[(1,false,[.ptr 0 0]),(2,false,[.ptr 64 0]),(3,false,[.ptr 4160 0]),(4,false,[.int .i64])],[(0,[.int .i64,.int .i64,.int .i64,.br tM,.int .i64,.int .i64,.int .i64,.int .i64,.int .i64,.br tW,.int .i64,.bool,.bool]),(64,[.int .i64,.int .i64,.int .i64,.nil,.int .i64,.int .i64,.int .i64,.int .i64,.int .i64,.nil,.int .i64,.bool,.bool]),(4160,[.int .i64,.int .i64,.int .i64,.at 800000000,.int .i64,.int .i64,.int .i64,.int .i64,.int .i64,.br tW,.int .i64,.bool,.bool])],[(800000000,tM,(.pr (.ow .fz) (.pr (.ow (.pr .fz .fz)) (.pr .fz (.ow .fz)))))]⟩
def yia:Shape:=⟨[(1,false,[.ptr 0 0]),(2,false,[.ptr 64 0]),(3,false,[.ptr 4160 0]),(4,false,[.ci .i64 0])],[(0,[.int .i64,.int .i64,.int .i64,.br tM,.int .i64,.int .i64,.int .i64,.int .i64,.int .i64,.br tW,.int .i64,.bool,.bool]),(64,[.int .i64,.int .i64,.int .i64,.nil,.int .i64,.int .i64,.int .i64,.int .i64,.int .i64,.nil,.int .i64,.bool,.bool]),(4160,[.int .i64,.int .i64,.int .i64,.at 800000000,.int .i64,.int .i64,.int .i64,.int .i64,.int .i64,.br tW,.int .i64,.bool,.bool])],[(800000000,tM,(.pr (.ow .fz) (.pr (.ow (.pr .fz .fz)) (.pr .fz (.ow .fz)))))]⟩
def yhY:Shape:=⟨[(1,false,[.ptr 0 0]),(2,false,[.ptr 64 0]),(3,false,[.ptr 4160 0])],[(0,[.int .i64,.int .i64,.int .i64,.br tM,.int .i64,.int .i64,.int .i64,.int .i64,.int .i64,.br tW,.int .i64,.bool,.bool]),(64,[.int .i64,.int .i64,.int .i64,.nil,.int .i64,.int .i64,.int .i64,.int .i64,.int .i64,.nil,.int .i64,.bool,.bool]),(4160,[.int .i64,.int .i64,.int .i64,.at 800000000,.int .i64,.int .i64,.int .i64,.int .i64,.int .i64,.br tW,.int .i64,.bool,.bool])],[(800000000,tM,(.pr (.ow .fz) (.pr (.ow (.pr .fz .fz)) (.pr .fz (.ow .fz)))))]⟩
def yne:Shape:=⟨[],[],[]⟩
abbrev ytr (v0:Int) (v1 v2 v3:dA):(ycM).X:=((((),()),((),()),((),()),(v0,()),()),((v1.1,v1.2.1.1,v1.2.1.2,v1.2.2.1,v1.2.2.2.1,v1.2.2.2.2.1,v1.2.2.2.2.2.1,v1.2.2.2.2.2.2.1,v1.2.2.2.2.2.2.2.1,v1.2.2.2.2.2.2.2.2.1,v1.2.2.2.2.2.2.2.2.2.1,v1.2.2.2.2.2.2.2.2.2.2.1,v1.2.2.2.2.2.2.2.2.2.2.2,()),(v2.1,v2.2.1.1,v2.2.1.2,(),v2.2.2.2.1,v2.2.2.2.2.1,v2.2.2.2.2.2.1,v2.2.2.2.2.2.2.1,v2.2.2.2.2.2.2.2.1,(),v2.2.2.2.2.2.2.2.2.2.1,v2.2.2.2.2.2.2.2.2.2.2.1,v2.2.2.2.2.2.2.2.2.2.2.2,()),(v3.1,v3.2.1.1,v3.2.1.2,(),v3.2.2.2.1,v3.2.2.2.2.1,v3.2.2.2.2.2.1,v3.2.2.2.2.2.2.1,v3.2.2.2.2.2.2.2.1,v3.2.2.2.2.2.2.2.2.1,v3.2.2.2.2.2.2.2.2.2.1,v3.2.2.2.2.2.2.2.2.2.2.1,v3.2.2.2.2.2.2.2.2.2.2.2,()),()),(v3.2.2.1,()))
abbrev yRg (v0 v1 v2:dA):(yia).X:=((((),()),((),()),((),()),((),()),()),((v0.1,v0.2.1.1,v0.2.1.2,v0.2.2.1,v0.2.2.2.1,v0.2.2.2.2.1,v0.2.2.2.2.2.1,v0.2.2.2.2.2.2.1,v0.2.2.2.2.2.2.2.1,v0.2.2.2.2.2.2.2.2.1,v0.2.2.2.2.2.2.2.2.2.1,v0.2.2.2.2.2.2.2.2.2.2.1,v0.2.2.2.2.2.2.2.2.2.2.2,()),(v1.1,v1.2.1.1,v1.2.1.2,(),v1.2.2.2.1,v1.2.2.2.2.1,v1.2.2.2.2.2.1,v1.2.2.2.2.2.2.1,v1.2.2.2.2.2.2.2.1,(),v1.2.2.2.2.2.2.2.2.2.1,v1.2.2.2.2.2.2.2.2.2.2.1,v1.2.2.2.2.2.2.2.2.2.2.2,()),(v2.1,v2.2.1.1,v2.2.1.2,(),v2.2.2.2.1,v2.2.2.2.2.1,v2.2.2.2.2.2.1,v2.2.2.2.2.2.2.1,v2.2.2.2.2.2.2.2.1,v2.2.2.2.2.2.2.2.2.1,v2.2.2.2.2.2.2.2.2.2.1,v2.2.2.2.2.2.2.2.2.2.2.1,v2.2.2.2.2.2.2.2.2.2.2.2,()),()),(v2.2.2.1,()))
abbrev yQ6 (v0 v1 v2:dA):(yhY).X:=((((),()),((),()),((),()),()),((v0.1,v0.2.1.1,v0.2.1.2,v0.2.2.1,v0.2.2.2.1,v0.2.2.2.2.1,v0.2.2.2.2.2.1,v0.2.2.2.2.2.2.1,v0.2.2.2.2.2.2.2.1,v0.2.2.2.2.2.2.2.2.1,v0.2.2.2.2.2.2.2.2.2.1,v0.2.2.2.2.2.2.2.2.2.2.1,v0.2.2.2.2.2.2.2.2.2.2.2,()),(v1.1,v1.2.1.1,v1.2.1.2,(),v1.2.2.2.1,v1.2.2.2.2.1,v1.2.2.2.2.2.1,v1.2.2.2.2.2.2.1,v1.2.2.2.2.2.2.2.1,(),v1.2.2.2.2.2.2.2.2.2.1,v1.2.2.2.2.2.2.2.2.2.2.1,v1.2.2.2.2.2.2.2.2.2.2.2,()),(v2.1,v2.2.1.1,v2.2.1.2,(),v2.2.2.2.1,v2.2.2.2.2.1,v2.2.2.2.2.2.1,v2.2.2.2.2.2.2.1,v2.2.2.2.2.2.2.2.1,v2.2.2.2.2.2.2.2.2.1,v2.2.2.2.2.2.2.2.2.2.1,v2.2.2.2.2.2.2.2.2.2.2.1,v2.2.2.2.2.2.2.2.2.2.2.2,()),()),(v2.2.2.1,()))
def ytK (v0 v1 v2 v3:Int) (v4:List dM) (v5 v6 v7 v8 v9:Int) (v10:List dW) (v11:Int) (v12 v13:Bool) (v14 v15 v16 v17 v18 v19 v20 v21 v22:Int) (v23 v24:Bool) (v25 v26 v27 v28 v29 v30 v31 v32:Int) (v33:List dW) (v34:Int) (v35 v36:Bool) (v37:List dM):Option ((ycM).X ⊕ ((yhY).X ⊕ (yne).X)) :=
 bif (ltb v0 (v4.length:Int)) then
 bif (inb v0 v4.length) then
 let r2:=yX ((nth v4 v0 ([],[],false,[])).1,((nth v4 v0 ([],[],false,[])).2).1,(((nth v4 v0 ([],[],false,[])).2).2))
 bif (zjR v37.length ([r2]:List dM).length 80) then
 some (.inl ((((),()),((),()),((),()),((IntKind.i64.wrap (v0+1)),()),()),((v1,v2,v3,v4,v5,v6,v7,v8,v9,v10,v11,v12,v13,()),(v14,v15,v16,(),v17,v18,v19,v20,v21,(),v22,v23,v24,()),(v25,v26,v27,(),v28,v29,v30,v31,v32,v33,v34,v35,v36,()),()),((v37++([r2]:List dM)),())))
 else none
 else none
 else
 some (.inr (.inl ((((),()),((),()),((),()),()),((v1,v2,v3,v4,v5,v6,v7,v8,v9,v10,v11,v12,v13,()),(v14,v15,v16,(),v17,v18,v19,v20,v21,(),v22,v23,v24,()),(v25,v26,v27,(),v28,v29,v30,v31,v32,v33,v34,v35,v36,()),()),(v37,()))))
def ydn (x:(ycM).X):=ytK x.1.2.2.2.1.1 x.2.1.1.1 x.2.1.1.2.1 x.2.1.1.2.2.1 x.2.1.1.2.2.2.1 x.2.1.1.2.2.2.2.1 x.2.1.1.2.2.2.2.2.1 x.2.1.1.2.2.2.2.2.2.1 x.2.1.1.2.2.2.2.2.2.2.1 x.2.1.1.2.2.2.2.2.2.2.2.1 x.2.1.1.2.2.2.2.2.2.2.2.2.1 x.2.1.1.2.2.2.2.2.2.2.2.2.2.1 x.2.1.1.2.2.2.2.2.2.2.2.2.2.2.1 x.2.1.1.2.2.2.2.2.2.2.2.2.2.2.2.1 x.2.1.2.1.1 x.2.1.2.1.2.1 x.2.1.2.1.2.2.1 x.2.1.2.1.2.2.2.2.1 x.2.1.2.1.2.2.2.2.2.1 x.2.1.2.1.2.2.2.2.2.2.1 x.2.1.2.1.2.2.2.2.2.2.2.1 x.2.1.2.1.2.2.2.2.2.2.2.2.1 x.2.1.2.1.2.2.2.2.2.2.2.2.2.2.1 x.2.1.2.1.2.2.2.2.2.2.2.2.2.2.2.1 x.2.1.2.1.2.2.2.2.2.2.2.2.2.2.2.2.1 x.2.1.2.2.1.1 x.2.1.2.2.1.2.1 x.2.1.2.2.1.2.2.1 x.2.1.2.2.1.2.2.2.2.1 x.2.1.2.2.1.2.2.2.2.2.1 x.2.1.2.2.1.2.2.2.2.2.2.1 x.2.1.2.2.1.2.2.2.2.2.2.2.1 x.2.1.2.2.1.2.2.2.2.2.2.2.2.1 x.2.1.2.2.1.2.2.2.2.2.2.2.2.2.1 x.2.1.2.2.1.2.2.2.2.2.2.2.2.2.2.1 x.2.1.2.2.1.2.2.2.2.2.2.2.2.2.2.2.1 x.2.1.2.2.1.2.2.2.2.2.2.2.2.2.2.2.2.1 x.2.2.1
def yCO (x:(yia).X):(ycM).X:=((((),()),((),()),((),()),(0,()),()),((x.2.1.1.1,x.2.1.1.2.1,x.2.1.1.2.2.1,x.2.1.1.2.2.2.1,x.2.1.1.2.2.2.2.1,x.2.1.1.2.2.2.2.2.1,x.2.1.1.2.2.2.2.2.2.1,x.2.1.1.2.2.2.2.2.2.2.1,x.2.1.1.2.2.2.2.2.2.2.2.1,x.2.1.1.2.2.2.2.2.2.2.2.2.1,x.2.1.1.2.2.2.2.2.2.2.2.2.2.1,x.2.1.1.2.2.2.2.2.2.2.2.2.2.2.1,x.2.1.1.2.2.2.2.2.2.2.2.2.2.2.2.1,()),(x.2.1.2.1.1,x.2.1.2.1.2.1,x.2.1.2.1.2.2.1,(),x.2.1.2.1.2.2.2.2.1,x.2.1.2.1.2.2.2.2.2.1,x.2.1.2.1.2.2.2.2.2.2.1,x.2.1.2.1.2.2.2.2.2.2.2.1,x.2.1.2.1.2.2.2.2.2.2.2.2.1,(),x.2.1.2.1.2.2.2.2.2.2.2.2.2.2.1,x.2.1.2.1.2.2.2.2.2.2.2.2.2.2.2.1,x.2.1.2.1.2.2.2.2.2.2.2.2.2.2.2.2.1,()),(x.2.1.2.2.1.1,x.2.1.2.2.1.2.1,x.2.1.2.2.1.2.2.1,(),x.2.1.2.2.1.2.2.2.2.1,x.2.1.2.2.1.2.2.2.2.2.1,x.2.1.2.2.1.2.2.2.2.2.2.1,x.2.1.2.2.1.2.2.2.2.2.2.2.1,x.2.1.2.2.1.2.2.2.2.2.2.2.2.1,x.2.1.2.2.1.2.2.2.2.2.2.2.2.2.1,x.2.1.2.2.1.2.2.2.2.2.2.2.2.2.2.1,x.2.1.2.2.1.2.2.2.2.2.2.2.2.2.2.2.1,x.2.1.2.2.1.2.2.2.2.2.2.2.2.2.2.2.2.1,()),()),(x.2.2.1,()))
def yEi:Code:=(zdD yes 64 244).getD .skip
theorem ySN:zdD yes 64 61=some (.block 0 (.loop yEi)):=by kernel_rfl
theorem yVH (x:(ycM).X):zg0 ⟨yiS,57,yGu⟩ 0 yEi 244 ycM yhY yne x=ydn x:=by kernel_rfl
def yC0 (x:(yia).X):Nat:=18446744073709551616
def yvc (x:(yia).X):Option ((yhY).X ⊕ (yne).X):=zz ydn (yC0 x) (yCO x)
def yDi:Seg:=⟨yia,yhY,yne,yvc⟩
def yws:Nat→Option Seg:=fun q=>bif Nat.beq q 61 then some yDi else yGu q
theorem yTE:FrOk Tryz.prog ⟨yiS,57,yws⟩ yes:=(yTD).loop (sg:=yDi) ycM yCO (by decide) ySN ydn yC0 (by decide) (fun _=>rfl) (fun x r _ h=>h) yVH
def yb3:Shape:=⟨[(1,false,[.ptr 0 0]),(2,false,[.ptr 64 0]),(3,false,[.ptr 4160 0]),(5,false,[.int .i64])],[(0,[.int .i64,.int .i64,.int .i64,.br tM,.int .i64,.int .i64,.int .i64,.int .i64,.int .i64,.br tW,.int .i64,.bool,.bool]),(64,[.int .i64,.int .i64,.int .i64,.nil,.int .i64,.int .i64,.int .i64,.int .i64,.int .i64,.nil,.int .i64,.bool,.bool]),(4160,[.int .i64,.int .i64,.int .i64,.at 800000000,.int .i64,.int .i64,.int .i64,.int .i64,.int .i64,.at 800000001,.int .i64,.bool,.bool])],[(800000000,tM,(.pr (.ow .fz) (.pr (.ow (.pr .fz .fz)) (.pr .fz (.ow .fz))))),(800000001,tW,(.pr .fz .fz))]⟩
def ygV:Shape:=⟨[(1,false,[.ptr 0 0]),(2,false,[.ptr 64 0]),(3,false,[.ptr 4160 0]),(5,false,[.ci .i64 0])],[(0,[.int .i64,.int .i64,.int .i64,.br tM,.int .i64,.int .i64,.int .i64,.int .i64,.int .i64,.br tW,.int .i64,.bool,.bool]),(64,[.int .i64,.int .i64,.int .i64,.nil,.int .i64,.int .i64,.int .i64,.int .i64,.int .i64,.nil,.int .i64,.bool,.bool]),(4160,[.int .i64,.int .i64,.int .i64,.at 800000000,.int .i64,.int .i64,.int .i64,.int .i64,.int .i64,.at 800000001,.int .i64,.bool,.bool])],[(800000000,tM,(.pr (.ow .fz) (.pr (.ow (.pr .fz .fz)) (.pr .fz (.ow .fz))))),(800000001,tW,(.pr .fz .fz))]⟩
def ygJ:Shape:=⟨[(2,false,[.ptr 64 0]),(3,false,[.ptr 4160 0])],[(64,[.int .i64,.int .i64,.int .i64,.nil,.int .i64,.int .i64,.int .i64,.int .i64,.int .i64,.nil,.int .i64,.bool,.bool]),(4160,[.int .i64,.int .i64,.int .i64,.at 800000000,.int .i64,.int .i64,.int .i64,.int .i64,.int .i64,.at 800000001,.int .i64,.bool,.bool])],[(800000000,tM,(.pr (.ow .fz) (.pr (.ow (.pr .fz .fz)) (.pr .fz (.ow .fz))))),(800000001,tW,(.pr .fz .fz))]⟩
def yk9:Shape:=⟨[],[],[]⟩
abbrev yrF (v0:Int) (v1 v2 v3:dA):(yb3).X:=((((),()),((),()),((),()),(v0,()),()),((v1.1,v1.2.1.1,v1.2.1.2,v1.2.2.1,v1.2.2.2.1,v1.2.2.2.2.1,v1.2.2.2.2.2.1,v1.2.2.2.2.2.2.1,v1.2.2.2.2.2.2.2.1,v1.2.2.2.2.2.2.2.2.1,v1.2.2.2.2.2.2.2.2.2.1,v1.2.2.2.2.2.2.2.2.2.2.1,v1.2.2.2.2.2.2.2.2.2.2.2,()),(v2.1,v2.2.1.1,v2.2.1.2,(),v2.2.2.2.1,v2.2.2.2.2.1,v2.2.2.2.2.2.1,v2.2.2.2.2.2.2.1,v2.2.2.2.2.2.2.2.1,(),v2.2.2.2.2.2.2.2.2.2.1,v2.2.2.2.2.2.2.2.2.2.2.1,v2.2.2.2.2.2.2.2.2.2.2.2,()),(v3.1,v3.2.1.1,v3.2.1.2,(),v3.2.2.2.1,v3.2.2.2.2.1,v3.2.2.2.2.2.1,v3.2.2.2.2.2.2.1,v3.2.2.2.2.2.2.2.1,(),v3.2.2.2.2.2.2.2.2.2.1,v3.2.2.2.2.2.2.2.2.2.2.1,v3.2.2.2.2.2.2.2.2.2.2.2,()),()),(v3.2.2.1,v3.2.2.2.2.2.2.2.2.1,()))
abbrev yO2 (v0 v1 v2:dA):(ygV).X:=((((),()),((),()),((),()),((),()),()),((v0.1,v0.2.1.1,v0.2.1.2,v0.2.2.1,v0.2.2.2.1,v0.2.2.2.2.1,v0.2.2.2.2.2.1,v0.2.2.2.2.2.2.1,v0.2.2.2.2.2.2.2.1,v0.2.2.2.2.2.2.2.2.1,v0.2.2.2.2.2.2.2.2.2.1,v0.2.2.2.2.2.2.2.2.2.2.1,v0.2.2.2.2.2.2.2.2.2.2.2,()),(v1.1,v1.2.1.1,v1.2.1.2,(),v1.2.2.2.1,v1.2.2.2.2.1,v1.2.2.2.2.2.1,v1.2.2.2.2.2.2.1,v1.2.2.2.2.2.2.2.1,(),v1.2.2.2.2.2.2.2.2.2.1,v1.2.2.2.2.2.2.2.2.2.2.1,v1.2.2.2.2.2.2.2.2.2.2.2,()),(v2.1,v2.2.1.1,v2.2.1.2,(),v2.2.2.2.1,v2.2.2.2.2.1,v2.2.2.2.2.2.1,v2.2.2.2.2.2.2.1,v2.2.2.2.2.2.2.2.1,(),v2.2.2.2.2.2.2.2.2.2.1,v2.2.2.2.2.2.2.2.2.2.2.1,v2.2.2.2.2.2.2.2.2.2.2.2,()),()),(v2.2.2.1,v2.2.2.2.2.2.2.2.2.1,()))
abbrev yOQ (v0 v1:dA):(ygJ).X:=((((),()),((),()),()),((v0.1,v0.2.1.1,v0.2.1.2,(),v0.2.2.2.1,v0.2.2.2.2.1,v0.2.2.2.2.2.1,v0.2.2.2.2.2.2.1,v0.2.2.2.2.2.2.2.1,(),v0.2.2.2.2.2.2.2.2.2.1,v0.2.2.2.2.2.2.2.2.2.2.1,v0.2.2.2.2.2.2.2.2.2.2.2,()),(v1.1,v1.2.1.1,v1.2.1.2,(),v1.2.2.2.1,v1.2.2.2.2.1,v1.2.2.2.2.2.1,v1.2.2.2.2.2.2.1,v1.2.2.2.2.2.2.2.1,(),v1.2.2.2.2.2.2.2.2.2.1,v1.2.2.2.2.2.2.2.2.2.2.1,v1.2.2.2.2.2.2.2.2.2.2.2,()),()),(v1.2.2.1,v1.2.2.2.2.2.2.2.2.1,()))
def yrZ (v0 v1 v2 v3:Int) (v4:List dM) (v5 v6 v7 v8 v9:Int) (v10:List dW) (v11:Int) (v12 v13:Bool) (v14 v15 v16 v17 v18 v19 v20 v21 v22:Int) (v23 v24:Bool) (v25 v26 v27 v28 v29 v30 v31 v32 v33:Int) (v34 v35:Bool) (v36:List dM) (v37:List dW):Option ((yb3).X ⊕ ((ygJ).X ⊕ (yk9).X)) :=
 bif (ltb v0 (v10.length:Int)) then
 bif (inb v0 v10.length) then
 bif (inb v0 v10.length) then
 bif (zjR ([]:List Int).length ((nth v10 v0 (0,[])).2).length 8) then
 bif (zjR v37.length ([((nth v10 v0 (0,[])).1,(([]:List Int)++((nth v10 v0 (0,[])).2)))]:List dW).length 32) then
 some (.inl ((((),()),((),()),((),()),((IntKind.i64.wrap (v0+1)),()),()),((v1,v2,v3,v4,v5,v6,v7,v8,v9,v10,v11,v12,v13,()),(v14,v15,v16,(),v17,v18,v19,v20,v21,(),v22,v23,v24,()),(v25,v26,v27,(),v28,v29,v30,v31,v32,(),v33,v34,v35,()),()),(v36,(v37++([((nth v10 v0 (0,[])).1,(([]:List Int)++((nth v10 v0 (0,[])).2)))]:List dW)),())))
 else none
 else none
 else none
 else none
 else
 some (.inr (.inl ((((),()),((),()),()),((v14,v15,v16,(),v17,v18,v19,v20,v21,(),v22,v23,v24,()),(v25,v26,v27,(),v28,v29,v30,v31,v32,(),v33,v34,v35,()),()),(v36,v37,()))))
def ycn (x:(yb3).X):=yrZ x.1.2.2.2.1.1 x.2.1.1.1 x.2.1.1.2.1 x.2.1.1.2.2.1 x.2.1.1.2.2.2.1 x.2.1.1.2.2.2.2.1 x.2.1.1.2.2.2.2.2.1 x.2.1.1.2.2.2.2.2.2.1 x.2.1.1.2.2.2.2.2.2.2.1 x.2.1.1.2.2.2.2.2.2.2.2.1 x.2.1.1.2.2.2.2.2.2.2.2.2.1 x.2.1.1.2.2.2.2.2.2.2.2.2.2.1 x.2.1.1.2.2.2.2.2.2.2.2.2.2.2.1 x.2.1.1.2.2.2.2.2.2.2.2.2.2.2.2.1 x.2.1.2.1.1 x.2.1.2.1.2.1 x.2.1.2.1.2.2.1 x.2.1.2.1.2.2.2.2.1 x.2.1.2.1.2.2.2.2.2.1 x.2.1.2.1.2.2.2.2.2.2.1 x.2.1.2.1.2.2.2.2.2.2.2.1 x.2.1.2.1.2.2.2.2.2.2.2.2.1 x.2.1.2.1.2.2.2.2.2.2.2.2.2.2.1 x.2.1.2.1.2.2.2.2.2.2.2.2.2.2.2.1 x.2.1.2.1.2.2.2.2.2.2.2.2.2.2.2.2.1 x.2.1.2.2.1.1 x.2.1.2.2.1.2.1 x.2.1.2.2.1.2.2.1 x.2.1.2.2.1.2.2.2.2.1 x.2.1.2.2.1.2.2.2.2.2.1 x.2.1.2.2.1.2.2.2.2.2.2.1 x.2.1.2.2.1.2.2.2.2.2.2.2.1 x.2.1.2.2.1.2.2.2.2.2.2.2.2.1 x.2.1.2.2.1.2.2.2.2.2.2.2.2.2.2.1 x.2.1.2.2.1.2.2.2.2.2.2.2.2.2.2.2.1 x.2.1.2.2.1.2.2.2.2.2.2.2.2.2.2.2.2.1 x.2.2.1 x.2.2.2.1
def yAN (x:(ygV).X):(yb3).X:=((((),()),((),()),((),()),(0,()),()),((x.2.1.1.1,x.2.1.1.2.1,x.2.1.1.2.2.1,x.2.1.1.2.2.2.1,x.2.1.1.2.2.2.2.1,x.2.1.1.2.2.2.2.2.1,x.2.1.1.2.2.2.2.2.2.1,x.2.1.1.2.2.2.2.2.2.2.1,x.2.1.1.2.2.2.2.2.2.2.2.1,x.2.1.1.2.2.2.2.2.2.2.2.2.1,x.2.1.1.2.2.2.2.2.2.2.2.2.2.1,x.2.1.1.2.2.2.2.2.2.2.2.2.2.2.1,x.2.1.1.2.2.2.2.2.2.2.2.2.2.2.2.1,()),(x.2.1.2.1.1,x.2.1.2.1.2.1,x.2.1.2.1.2.2.1,(),x.2.1.2.1.2.2.2.2.1,x.2.1.2.1.2.2.2.2.2.1,x.2.1.2.1.2.2.2.2.2.2.1,x.2.1.2.1.2.2.2.2.2.2.2.1,x.2.1.2.1.2.2.2.2.2.2.2.2.1,(),x.2.1.2.1.2.2.2.2.2.2.2.2.2.2.1,x.2.1.2.1.2.2.2.2.2.2.2.2.2.2.2.1,x.2.1.2.1.2.2.2.2.2.2.2.2.2.2.2.2.1,()),(x.2.1.2.2.1.1,x.2.1.2.2.1.2.1,x.2.1.2.2.1.2.2.1,(),x.2.1.2.2.1.2.2.2.2.1,x.2.1.2.2.1.2.2.2.2.2.1,x.2.1.2.2.1.2.2.2.2.2.2.1,x.2.1.2.2.1.2.2.2.2.2.2.2.1,x.2.1.2.2.1.2.2.2.2.2.2.2.2.1,(),x.2.1.2.2.1.2.2.2.2.2.2.2.2.2.2.1,x.2.1.2.2.1.2.2.2.2.2.2.2.2.2.2.2.1,x.2.1.2.2.1.2.2.2.2.2.2.2.2.2.2.2.2.1,()),()),(x.2.2.1,x.2.2.2.1,()))
def yCq:Code:=(zdD yes 64 1012).getD .skip
theorem yQh:zdD yes 64 253=some (.block 2 (.loop yCq)):=by kernel_rfl
theorem ySc (x:(yb3).X):zg0 ⟨yiS,57,yws⟩ 2 yCq 1012 yb3 ygJ yk9 x=ycn x:=by kernel_rfl
def yA2 (x:(ygV).X):Nat:=18446744073709551616
def ys8 (x:(ygV).X):Option ((ygJ).X ⊕ (yk9).X):=zz ycn (yA2 x) (yAN x)
def yBs:Seg:=⟨ygV,ygJ,yk9,ys8⟩
def yGv:Nat→Option Seg:=fun q=>bif Nat.beq q 253 then some yBs else yws q
theorem yTF:FrOk Tryz.prog ⟨yiS,57,yGv⟩ yes:=(yTE).loop (sg:=yBs) yb3 yAN (by decide) yQh ycn yA2 (by decide) (fun _=>rfl) (fun x r _ h=>h) ySc
abbrev yi3:List Par:= [.rd tA]
abbrev yuG:List OT:= [⟨false,tA,(.pr .fz (.pr (.pr .fz .fz) (.pr (.ow (.pr (.ow .fz) (.pr (.ow (.pr .fz .fz)) (.pr .fz (.ow .fz))))) (.pr .fz (.pr .fz (.pr .fz (.pr .fz (.pr .fz (.pr (.ow (.pr .fz .fz)) (.pr .fz (.pr .fz .fz)))))))))))⟩]
def yqy (a0:dA):Option (ResD yuG×MutD yi3) :=
 zjZ (yvc ((((),()),((),()),((),()),((),()),()),((a0.1,a0.2.1.1,a0.2.1.2,a0.2.2.1,a0.2.2.2.1,a0.2.2.2.2.1,a0.2.2.2.2.2.1,a0.2.2.2.2.2.2.1,a0.2.2.2.2.2.2.2.1,a0.2.2.2.2.2.2.2.2.1,a0.2.2.2.2.2.2.2.2.2.1,a0.2.2.2.2.2.2.2.2.2.2.1,a0.2.2.2.2.2.2.2.2.2.2.2,()),(0,0,0,(),0,0,0,0,0,(),0,false,false,()),(a0.1,a0.2.1.1,a0.2.1.2,(),a0.2.2.2.1,a0.2.2.2.2.1,a0.2.2.2.2.2.1,a0.2.2.2.2.2.2.1,a0.2.2.2.2.2.2.2.1,a0.2.2.2.2.2.2.2.2.1,a0.2.2.2.2.2.2.2.2.2.1,a0.2.2.2.2.2.2.2.2.2.2.1,a0.2.2.2.2.2.2.2.2.2.2.2,()),()),(([]:List dM),()))) (fun y2 =>
 zjZ (ys8 ((((),()),((),()),((),()),((),()),()),((y2.2.1.1.1,y2.2.1.1.2.1,y2.2.1.1.2.2.1,y2.2.1.1.2.2.2.1,y2.2.1.1.2.2.2.2.1,y2.2.1.1.2.2.2.2.2.1,y2.2.1.1.2.2.2.2.2.2.1,y2.2.1.1.2.2.2.2.2.2.2.1,y2.2.1.1.2.2.2.2.2.2.2.2.1,y2.2.1.1.2.2.2.2.2.2.2.2.2.1,y2.2.1.1.2.2.2.2.2.2.2.2.2.2.1,y2.2.1.1.2.2.2.2.2.2.2.2.2.2.2.1,y2.2.1.1.2.2.2.2.2.2.2.2.2.2.2.2.1,()),(y2.2.1.2.1.1,y2.2.1.2.1.2.1,y2.2.1.2.1.2.2.1,(),y2.2.1.2.1.2.2.2.2.1,y2.2.1.2.1.2.2.2.2.2.1,y2.2.1.2.1.2.2.2.2.2.2.1,y2.2.1.2.1.2.2.2.2.2.2.2.1,y2.2.1.2.1.2.2.2.2.2.2.2.2.1,(),y2.2.1.2.1.2.2.2.2.2.2.2.2.2.2.1,y2.2.1.2.1.2.2.2.2.2.2.2.2.2.2.2.1,y2.2.1.2.1.2.2.2.2.2.2.2.2.2.2.2.2.1,()),(y2.2.1.2.2.1.1,y2.2.1.2.2.1.2.1,y2.2.1.2.2.1.2.2.1,(),y2.2.1.2.2.1.2.2.2.2.1,y2.2.1.2.2.1.2.2.2.2.2.1,y2.2.1.2.2.1.2.2.2.2.2.2.1,y2.2.1.2.2.1.2.2.2.2.2.2.2.1,y2.2.1.2.2.1.2.2.2.2.2.2.2.2.1,(),y2.2.1.2.2.1.2.2.2.2.2.2.2.2.2.2.1,y2.2.1.2.2.1.2.2.2.2.2.2.2.2.2.2.2.1,y2.2.1.2.2.1.2.2.2.2.2.2.2.2.2.2.2.2.1,()),()),(y2.2.2.1,([]:List dW),()))) (fun y3 =>
 some (((y3.2.1.2.1.1,(y3.2.1.2.1.2.1,y3.2.1.2.1.2.2.1),y3.2.2.1,y3.2.1.2.1.2.2.2.2.1,y3.2.1.2.1.2.2.2.2.2.1,y3.2.1.2.1.2.2.2.2.2.2.1,y3.2.1.2.1.2.2.2.2.2.2.2.1,y3.2.1.2.1.2.2.2.2.2.2.2.2.1,y3.2.2.2.1,y3.2.1.2.1.2.2.2.2.2.2.2.2.2.2.1,y3.2.1.2.1.2.2.2.2.2.2.2.2.2.2.2.1,y3.2.1.2.1.2.2.2.2.2.2.2.2.2.2.2.2.1),()),())) (fun y3 =>
 none)) (fun y2 =>
 none)
theorem y3q (x:InD yi3):zjx ⟨yiS,57,yGv⟩ Tryz.f103.results.toList yes yi3 yuG x=yqy x.1:=by kernel_rfl
theorem yY6:ConOk Tryz.prog 103 ⟨yi3,yuG,fun x=>yqy x.1⟩:=zj2 (yTF) Tryz.func103 (by kernel_rfl) (by kernel_rfl) Tryz.ntmps103.symm (by decide) (fun x r h=>(y3q x).trans h)
def ycA (a0:dA):dA:=a0
theorem y1g (a0:dA) (hk:zi2 yi3 (a0,())):yqy a0=(fun n=>some ((n,()),())) (ycA a0):=by
 have hb:a0.2.2.1.length * 80≤2 ^ 47:=hk.1.2.2.1.1
 have hb2:a0.2.2.2.2.2.2.2.2.1.length * 32≤2 ^ 47:=hk.1.2.2.2.2.2.2.2.2.1.1
 have hc: ∀ i,i < a0.2.2.2.2.2.2.2.2.1.length→(a0.2.2.2.2.2.2.2.2.1.getD i (0,[])).2.length * 8≤2 ^ 47:=fun i hi=>by rw [zke hi]; exact (hk.1.2.2.2.2.2.2.2.2.1.2 _ (List.getElem_mem hi)).2.1
 have h1:=zj4 (step:=ydn) a0.2.2.1 noMem (fun i s=>ytr i a0 yaC (a0.1,a0.2.1,s,a0.2.2.2)) (fun s x=>s++ [x]) (fun i s=>s.length=i) (fun s=> .inl (yQ6 a0 yaC (a0.1,a0.2.1,s,a0.2.2.2))) (fun i s hi hs=>⟨by
   simp only [ydn,ytr,ytK,zj5 (show (i:Int) < a0.2.2.1.length by omega),cond_true,wr (show -9223372036854775808≤(i:Int)+1 by omega) (by omega),Int.natCast_add,Int.natCast_one,Int.toNat_natCast,zkm hi,zkn,yX,zks]
   rw [zkb.2 (show (s.length+ [a0.2.2.1.getD i ([],[],false,[])].length) * 80≤140737488355328 by simp only [List.length_cons,List.length_nil]; omega)]; rfl,by simp [hs]⟩) (fun s hs=>by simp only [ydn,ytr,ytK,zky (Int.le_refl _),cond_false]) [] rfl 18446744073709551616 (by omega)
 have h2:=zj4 (step:=ycn) a0.2.2.2.2.2.2.2.2.1 (0,[]) (fun i s=>yrF i a0 yaC (a0.1,a0.2.1,a0.2.2.1,a0.2.2.2.1,a0.2.2.2.2.1,a0.2.2.2.2.2.1,a0.2.2.2.2.2.2.1,a0.2.2.2.2.2.2.2.1,s,a0.2.2.2.2.2.2.2.2.2)) (fun s x=>s++ [x]) (fun i s=>s.length=i) (fun s=> .inl (yOQ yaC (a0.1,a0.2.1,a0.2.2.1,a0.2.2.2.1,a0.2.2.2.2.1,a0.2.2.2.2.2.1,a0.2.2.2.2.2.2.1,a0.2.2.2.2.2.2.2.1,s,a0.2.2.2.2.2.2.2.2.2))) (fun i s hi hs=>⟨by
   have:=hc i hi
   simp only [ycn,yrF,yrZ,zj5 (show (i:Int) < a0.2.2.2.2.2.2.2.2.1.length by omega),cond_true,wr (show -9223372036854775808≤(i:Int)+1 by omega) (by omega),Int.natCast_add,Int.natCast_one,Int.toNat_natCast,zkm hi,zkn,List.nil_append,zks]
   rw [zkb.2 (show (([]:List Int).length+(a0.2.2.2.2.2.2.2.2.1.getD i (0,[])).2.length) * 8≤140737488355328 by rw [List.length_nil]; omega),zkb.2 (show (s.length+ [a0.2.2.2.2.2.2.2.2.1.getD i (0,[])].length) * 32≤140737488355328 by simp only [List.length_cons,List.length_nil]; omega)]; rfl,by simp [hs]⟩) (fun s hs=>by simp only [ycn,yrF,yrZ,zky (Int.le_refl _),cond_false]) [] rfl 18446744073709551616 (by omega)
 rw [yvo]at h1 h2
 unfold yqy ycA
 rw [show yvc (yRg a0 yaC (a0.1,a0.2.1,[],a0.2.2.2))=_ from h1,zki]
 refine (congrArg (fun z=>zjZ z _ _) (show ys8 (yO2 a0 yaC (a0.1,a0.2.1,a0.2.2.1,a0.2.2.2.1,a0.2.2.2.2.1,a0.2.2.2.2.2.1,a0.2.2.2.2.2.2.1,a0.2.2.2.2.2.2.2.1,[],a0.2.2.2.2.2.2.2.2.2))=_ from h2)).trans rfl
def yqe:Con:=⟨yi3,yuG,fun x=>(fun n=>some ((n,()),())) (ycA x.1)⟩
theorem yzJ:ConOk Tryz.prog 103 yqe:=(yY6).mono (fun x r hk h=>(y1g x.1 hk).trans h)
end
section
def yIo:Code:=(Tryz.f208.body).getD .skip
def yI9:Env:=zj3 TT [(203,yqg),(261,yqh)] []
theorem yQY:FrOk Tryz.prog ⟨yI9,17,fun _=>none⟩ yIo:=zj7 yb yc ⟨yzL,yzM,trivial⟩
def ySC:Nat→Option Seg:=fun _=>none
abbrev yl6:List Par:= [.pt tA (.pr .fz (.pr (.pr .fz .fz) (.pr (.ow (.pr (.ow .fz) (.pr (.ow (.pr .fz .fz)) (.pr .fz (.ow .fz))))) (.pr .fz (.pr .fz (.pr .fz (.pr .fz (.pr .fz (.pr (.ow (.pr .fz .fz)) (.pr .fz (.pr .fz .fz)))))))))))]
abbrev yst:List OT:= []
def yvM (a0:dA):Option (ResD yst×MutD yl6) :=
 let r1:=yex a0
 bif r1.2.2.2.2.2.2.2.2.2.2.1 then
 some ((),(r1,()))
 else
 let r2:=yaH (r1.1,r1.2.1,r1.2.2.1,r1.2.2.2.1,r1.2.2.2.2.1,r1.2.2.2.2.2.1,r1.2.2.2.2.2.1,r1.2.2.2.2.2.2.2)
 some ((),(r2,()))
theorem y0F (x:InD yl6):zjx ⟨yI9,17,ySC⟩ Tryz.f208.results.toList yIo yl6 yst x=yvM x.1:=by kernel_rfl
theorem yVf:ConOk Tryz.prog 208 ⟨yl6,yst,fun x=>yvM x.1⟩:=zj2 (yQY) Tryz.func208 (by kernel_rfl) (by kernel_rfl) Tryz.ntmps208.symm (by decide) (fun x r h=>(y0F x).trans h)
def yhB (a0:dA):dA :=
 let r1:=yex a0
 bif r1.2.2.2.2.2.2.2.2.2.2.1 then
 r1
 else
 let r2:=yaH (r1.1,r1.2.1,r1.2.2.1,r1.2.2.2.1,r1.2.2.2.2.1,r1.2.2.2.2.2.1,r1.2.2.2.2.2.1,r1.2.2.2.2.2.2.2)
 r2
def yvl:Con:=⟨yl6,yst,fun x=>(fun n=>some ((),(n,()))) (yhB x.1)⟩
theorem yYz (a0:dA):yvM a0=(fun n=>some ((),(n,()))) (yhB a0):=zkq (p:=fun (n:dA)=>((),(n,()))) (zkc (p:=fun (n:dA)=>((),(n,()))) rfl rfl)
theorem yHN:ConOk Tryz.prog 208 yvl:=(yVf).mono (fun x r _ h=>(yYz x.1).trans h)
theorem yL9 (a:dA):yhB a=checkA a:=by
 unfold yhB checkA yex yaH
 show (bif ye (yK a) then yK a else markA (yiv (yK a)))=_
 rfl
end
section
def yLe:Code:=(Tryz.f271.body).getD .skip
def yLL:Env:=zj3 TT [(239,yJm)] []
theorem yTr:FrOk Tryz.prog ⟨yLL,18,fun _=>none⟩ yLe:=zj7 yb yc ⟨y38,trivial⟩
def yWa:Nat→Option Seg:=fun _=>none
abbrev yi1:List Par:= [.rd tN]
abbrev yux:List OT:= [⟨false,tL,(.ow .fz)⟩]
def yqw (a0:dN):Option (ResD yux×MutD yi1) :=
 let r1:=ycv a0
 bif (!r1) then
 some ((([]:List Int),()),())
 else
 bif (zjR ([21322,a0.1,a0.2.1,(a0.2.2.length:Int)]:List Int).length a0.2.2.length 8) then
 some (((([21322,a0.1,a0.2.1,(a0.2.2.length:Int)]:List Int)++a0.2.2),()),())
 else none
theorem y3h (x:InD yi1):zjx ⟨yLL,18,yWa⟩ Tryz.f271.results.toList yLe yi1 yux x=yqw x.1:=by kernel_rfl
theorem yYX:ConOk Tryz.prog 271 ⟨yi1,yux,fun x=>yqw x.1⟩:=zj2 (yTr) Tryz.func271 (by kernel_rfl) (by kernel_rfl) Tryz.ntmps271.symm (by decide) (fun x r h=>(y3h x).trans h)
def yoJ (a0:dN):List Int:=yBg a0
theorem y1b (a0:dN) (hk:zi2 yi1 (a0,())):yqw a0=(fun n=>some ((n,()),())) (yoJ a0):=by
 unfold yqw yoJ yBg
 cases hr:ycv a0
 ·rfl
 ·have:=(y2N.1 hr).2.2.1
  rw [zkb.2 (show (([21322,a0.1,a0.2.1,(a0.2.2.length:Int)]:List Int).length+a0.2.2.length) * 8≤140737488355328 by simp only [List.length_cons,List.length_nil]; omega)]; rfl
def yHp:Con:=⟨yi1,yux,fun x=>(fun n=>some ((n,()),())) (yoJ x.1)⟩
theorem y19:ConOk Tryz.prog 271 yHp:=(yYX).mono (fun x r hk h=>(y1b x.1 hk).trans h)
end
section
def yqN:Code:=(Tryz.f229.body).getD .skip
def ywB:Env:=zj3 TT [(160,yHq),(207,ymr),(261,yqh),(271,yHp)] []
theorem yXZ:FrOk Tryz.prog ⟨ywB,24,fun _=>none⟩ yqN:=zj7 yb yc ⟨y2a,yu0,yzM,y19,trivial⟩
def yIQ:Nat→Option Seg:=fun _=>none
def ydI:Shape:=⟨[(0,false,[.ptr 1000000000 0]),(3,false,[.ptr 0 0]),(4,false,[.int .i64])],[(0,[.int .i64,.int .i64,.br tI]),(1000000000,[.int .i64,.int .i64,.int .i64,.at 800000000,.int .i64,.int .i64,.int .i64,.int .i64,.int .i64,.at 800000001,.int .i64,.bool,.bool])],[(800000000,tM,(.pr (.ow .fz) (.pr (.ow (.pr .fz .fz)) (.pr .fz (.ow .fz))))),(800000001,tW,(.pr .fz .fz))]⟩
def yjW:Shape:=⟨[(0,false,[.ptr 1000000000 0]),(3,false,[.ptr 0 0]),(4,false,[.ci .i64 0])],[(0,[.int .i64,.int .i64,.br tI]),(1000000000,[.int .i64,.int .i64,.int .i64,.at 800000000,.int .i64,.int .i64,.int .i64,.int .i64,.int .i64,.at 800000001,.int .i64,.bool,.bool])],[(800000000,tM,(.pr (.ow .fz) (.pr (.ow (.pr .fz .fz)) (.pr .fz (.ow .fz))))),(800000001,tW,(.pr .fz .fz))]⟩
def yjH:Shape:=⟨[(0,false,[.ptr 1000000000 0])],[(1000000000,[.int .i64,.int .i64,.int .i64,.at 800000000,.int .i64,.int .i64,.int .i64,.int .i64,.int .i64,.at 800000001,.int .i64,.bool,.bool])],[(800000000,tM,(.pr (.ow .fz) (.pr (.ow (.pr .fz .fz)) (.pr .fz (.ow .fz))))),(800000001,tW,(.pr .fz .fz))]⟩
def yp6:Shape:=⟨[],[],[]⟩
abbrev yvA (v0:Int) (v1:dN) (v2:dA):(ydI).X:=((((),()),((),()),(v0,()),()),((v1.1,v1.2.1,v1.2.2,()),(v2.1,v2.2.1.1,v2.2.1.2,(),v2.2.2.2.1,v2.2.2.2.2.1,v2.2.2.2.2.2.1,v2.2.2.2.2.2.2.1,v2.2.2.2.2.2.2.2.1,(),v2.2.2.2.2.2.2.2.2.2.1,v2.2.2.2.2.2.2.2.2.2.2.1,v2.2.2.2.2.2.2.2.2.2.2.2,()),()),(v2.2.2.1,v2.2.2.2.2.2.2.2.2.1,()))
abbrev yUi (v0:dN) (v1:dA):(yjW).X:=((((),()),((),()),((),()),()),((v0.1,v0.2.1,v0.2.2,()),(v1.1,v1.2.1.1,v1.2.1.2,(),v1.2.2.2.1,v1.2.2.2.2.1,v1.2.2.2.2.2.1,v1.2.2.2.2.2.2.1,v1.2.2.2.2.2.2.2.1,(),v1.2.2.2.2.2.2.2.2.2.1,v1.2.2.2.2.2.2.2.2.2.2.1,v1.2.2.2.2.2.2.2.2.2.2.2,()),()),(v1.2.2.1,v1.2.2.2.2.2.2.2.2.1,()))
abbrev yFc (v0:dA):(yjH).X:=((((),()),()),((v0.1,v0.2.1.1,v0.2.1.2,(),v0.2.2.2.1,v0.2.2.2.2.1,v0.2.2.2.2.2.1,v0.2.2.2.2.2.2.1,v0.2.2.2.2.2.2.2.1,(),v0.2.2.2.2.2.2.2.2.2.1,v0.2.2.2.2.2.2.2.2.2.2.1,v0.2.2.2.2.2.2.2.2.2.2.2,()),()),(v0.2.2.1,v0.2.2.2.2.2.2.2.2.1,()))
def yvZ (v0 v1 v2:Int) (v3:List Int) (v4 v5 v6 v7 v8 v9 v10 v11 v12:Int) (v13 v14:Bool) (v15:List dM) (v16:List dW):Option ((ydI).X ⊕ ((yjH).X ⊕ (yp6).X)) :=
 bif (ltb v0 (v15.length:Int)) then
 let r4:=yew v1
 let r5:=yoJ (v1,v2,v3)
 bnd (yfM (v4,(v5,v6),v15,v7,v8,v9,v10,v11,v16,v12,v13,v14) v0 r4 r5) fun r6 =>
 some (.inl ((((),()),((),()),((IntKind.i64.wrap (v0+1)),()),()),((v1,v2,v3,()),(r6.2.1.1,r6.2.1.2.1.1,r6.2.1.2.1.2,(),r6.2.1.2.2.2.1,r6.2.1.2.2.2.2.1,r6.2.1.2.2.2.2.2.1,r6.2.1.2.2.2.2.2.2.1,r6.2.1.2.2.2.2.2.2.2.1,(),r6.2.1.2.2.2.2.2.2.2.2.2.1,r6.2.1.2.2.2.2.2.2.2.2.2.2.1,r6.2.1.2.2.2.2.2.2.2.2.2.2.2,()),()),(r6.2.1.2.2.1,r6.2.1.2.2.2.2.2.2.2.2.1,())))
 else
 some (.inr (.inl ((((),()),()),((v4,v5,v6,(),v7,v8,v9,v10,v11,(),v12,v13,v14,()),()),(v15,v16,()))))
def yem (x:(ydI).X):=yvZ x.1.2.2.1.1 x.2.1.1.1 x.2.1.1.2.1 x.2.1.1.2.2.1 x.2.1.2.1.1 x.2.1.2.1.2.1 x.2.1.2.1.2.2.1 x.2.1.2.1.2.2.2.2.1 x.2.1.2.1.2.2.2.2.2.1 x.2.1.2.1.2.2.2.2.2.2.1 x.2.1.2.1.2.2.2.2.2.2.2.1 x.2.1.2.1.2.2.2.2.2.2.2.2.1 x.2.1.2.1.2.2.2.2.2.2.2.2.2.2.1 x.2.1.2.1.2.2.2.2.2.2.2.2.2.2.2.1 x.2.1.2.1.2.2.2.2.2.2.2.2.2.2.2.2.1 x.2.2.1 x.2.2.2.1
def yEN (x:(yjW).X):(ydI).X:=((((),()),((),()),(0,()),()),((x.2.1.1.1,x.2.1.1.2.1,x.2.1.1.2.2.1,()),(x.2.1.2.1.1,x.2.1.2.1.2.1,x.2.1.2.1.2.2.1,(),x.2.1.2.1.2.2.2.2.1,x.2.1.2.1.2.2.2.2.2.1,x.2.1.2.1.2.2.2.2.2.2.1,x.2.1.2.1.2.2.2.2.2.2.2.1,x.2.1.2.1.2.2.2.2.2.2.2.2.1,(),x.2.1.2.1.2.2.2.2.2.2.2.2.2.2.1,x.2.1.2.1.2.2.2.2.2.2.2.2.2.2.2.1,x.2.1.2.1.2.2.2.2.2.2.2.2.2.2.2.2.1,()),()),(x.2.2.1,x.2.2.2.1,()))
def yHe:Code:=(zdD yqN 64 52).getD .skip
theorem yWA:zdD yqN 64 13=some (.block 0 (.loop yHe)):=by kernel_rfl
theorem yZP (x:(ydI).X):zg0 ⟨ywB,24,yIQ⟩ 0 yHe 52 ydI yjH yp6 x=yem x:=by kernel_rfl
def yE3 (x:(yjW).X):Nat:=18446744073709551616
def ywQ (x:(yjW).X):Option ((yjH).X ⊕ (yp6).X):=zz yem (yE3 x) (yEN x)
def yFO:Seg:=⟨yjW,yjH,yp6,ywQ⟩
def yIR:Nat→Option Seg:=fun q=>bif Nat.beq q 13 then some yFO else yIQ q
theorem yX0:FrOk Tryz.prog ⟨ywB,24,yIR⟩ yqN:=(yXZ).loop (sg:=yFO) ydI yEN (by decide) yWA yem yE3 (by decide) (fun _=>rfl) (fun x r _ h=>h) yZP
abbrev yl7:List Par:= [.pt tA (.pr .fz (.pr (.pr .fz .fz) (.pr (.ow (.pr (.ow .fz) (.pr (.ow (.pr .fz .fz)) (.pr .fz (.ow .fz))))) (.pr .fz (.pr .fz (.pr .fz (.pr .fz (.pr .fz (.pr (.ow (.pr .fz .fz)) (.pr .fz (.pr .fz .fz))))))))))),.rd tN]
abbrev yxj:List OT:= []
def ysR (a0:dA) (a1:dN):Option (ResD yxj×MutD yl7) :=
 zjZ (ywQ ((((),()),((),()),((),()),()),((a1.1,a1.2.1,a1.2.2,()),(a0.1,a0.2.1.1,a0.2.1.2,(),a0.2.2.2.1,a0.2.2.2.2.1,a0.2.2.2.2.2.1,a0.2.2.2.2.2.2.1,a0.2.2.2.2.2.2.2.1,(),a0.2.2.2.2.2.2.2.2.2.1,a0.2.2.2.2.2.2.2.2.2.2.1,a0.2.2.2.2.2.2.2.2.2.2.2,()),()),(a0.2.2.1,a0.2.2.2.2.2.2.2.2.1,()))) (fun y6 =>
 let r8:=yex (y6.2.1.1.1,(y6.2.1.1.2.1,y6.2.1.1.2.2.1),y6.2.2.1,y6.2.1.1.2.2.2.2.1,y6.2.1.1.2.2.2.2.2.1,y6.2.1.1.2.2.2.2.2.2.1,y6.2.1.1.2.2.2.2.2.2.2.1,y6.2.1.1.2.2.2.2.2.2.2.2.1,y6.2.2.2.1,y6.2.1.1.2.2.2.2.2.2.2.2.2.2.1,y6.2.1.1.2.2.2.2.2.2.2.2.2.2.2.1,y6.2.1.1.2.2.2.2.2.2.2.2.2.2.2.2.1)
 some ((),(r8,()))) (fun y6 =>
 none)
theorem y4Q (x:InD yl7):zjx ⟨ywB,24,yIR⟩ Tryz.f229.results.toList yqN yl7 yxj x=ysR x.1 x.2.1:=by kernel_rfl
theorem y1Q:ConOk Tryz.prog 229 ⟨yl7,yxj,fun x=>ysR x.1 x.2.1⟩:=zj2 (yX0) Tryz.func229 (by kernel_rfl) (by kernel_rfl) Tryz.ntmps229.symm (by decide) (fun x r h=>(y4Q x).trans h)
def ymI (a0:dA) (a1:dN):dA:=yam a0 a1
theorem y3X (a0:dA) (a1:dN) (hk:zi2 yl7 (a0,a1,())):ysR a0 a1=(fun n=>some ((),(n,()))) (ymI a0 a1):=by
 have hb:a0.2.2.1.length * 80≤2 ^ 47:=hk.1.2.2.1.1
 have h1:ywQ (yUi a1 a0)=some (.inl (yFc ((List.range a0.2.2.1.length).foldl (yeS a1) a0))) :=
  zj9 (step:=yem) a0.2.2.1.length (fun i s=>yvA i a1 s) (yeS a1) (fun _ s=>s.2.2.1.length=a0.2.2.1.length) (fun s=> .inl (yFc s)) (fun i s hi hs=>⟨by
   simp only [yem,yvA,yvZ,hs,zj5 (show (i:Int) < a0.2.2.1.length by omega),cond_true,wr (show -9223372036854775808≤(i:Int)+1 by omega) (by omega),Int.natCast_add,Int.natCast_one,Int.toNat_natCast,zks,yoJ]
   rw [yoP s i (yew a1.1) (yBg a1) (zkm (by rw [hs]; exact hi))]
   rfl,(ysV a1 s i).trans hs⟩) (fun s hs=>by simp only [yem,yvA,yvZ,hs,zky (Int.le_refl _),cond_false]) a0 rfl _ (by show _ < 18446744073709551616; omega)
 unfold ysR ymI yam
 exact (congrArg (fun z=>zjZ z _ _) h1).trans rfl
def yJs:Con:=⟨yl7,yxj,fun x=>(fun n=>some ((),(n,()))) (ymI x.1 x.2.1)⟩
theorem y4e:ConOk Tryz.prog 229 yJs:=(y1Q).mono (fun x r hk h=>(y3X x.1 x.2.1 hk).trans h)
end
end
end Go.Tf
