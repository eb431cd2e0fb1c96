/- Functions of the program, and what they come to. -/
import Derived.Test.YtgmadfpnljibhaaGreatExactFlushAllF14
import Derived.Deep.RegionLaw
import Derived.Laws.Externs
import Derived.Laws.IdiomCopy
import Derived.Laws.NewBlocks
import Derived.Lib.AppendZerosOnto
import Derived.Lib.Overlaps
import Derived.Lib.SliceRun
import Derived.Lib.Walk
import Derived.Shelf.RegionOpenPlain
import Derived.Shelf.Spec.SlicesInsert
import Derived.WalkKit
namespace Go.Tf
noncomputable section
open Go.Proofs
set_option synthInstance.maxHeartbeats 400000
set_option synthInstance.maxSize 10000
set_option linter.unusedVariables false
set_option linter.unusedSimpArgs false
set_option maxRecDepth 100000
abbrev yhe:List Par:= [.kp tWs (.ow (.pr .fz (.ow .fz))),.rd tI,.rd tI]
abbrev yhk:List OT:= [⟨false,tWs,(.ow (.pr .fz (.ow .fz)))⟩]
end
end Go.Tf
namespace Go.Proofs
noncomputable section
open Go.Tf Go.RowKit Go.Lib
set_option synthInstance.maxHeartbeats 400000
set_option synthInstance.maxSize 10000
set_option linter.unusedVariables false
set_option linter.unusedSimpArgs false
set_option maxRecDepth 100000
set_option maxHeartbeats 4000000 in
set_option maxRecDepth 1000000 in
theorem y4i (w:World) (b off n c i j:Nat) (hij:i < j) (hj:j≤n) (hn:n≤c) (i0:TypeInfo) (hi0:Tryz.prog.info? 129=some i0) (hz1:i0.size=2) (hund:Tryz.prog.underlying 27=some (.slice 129))
  (news zs:List Value) (z:Value) (hz:Hdd (∀ w,(zeroValue 129).run Tryz.prog w= .ok z w)) (hzs:Hdd ((Builtin.zeroCells z.cells (n - (i+(n - j)))).toList=zs)) (hzl:Hdd (zs.length=(j - i) * 2)) (hz1c:Hdd (∀ v∈zs,v.oneCell'=true))
  (hnl:Hdd (news.length=(n - j) * 2)) (hn1:Hdd (∀ v∈news,v.oneCell'=true)) (hnews:Hdd (∀ t u,news[t]? =some u→w.drew.cell? ⟨b,off+j * 2+t,none⟩=some u))
  (hcell:Hdd (∀ t,t < n * 2→(w.drew.cell? ⟨b,off+t,none⟩).isSome=true)) (hfr:Hdd (∀ t,t < n * 2→w.drew.frozen? ⟨b,off+t,none⟩=false)) :
  Calls Tryz.prog 184 #[.slice (some ⟨b,off,none⟩) n c,.int .i64 i,.int .i64 j] w fun e w'=>e= .returned (.slice (some ⟨b,off,none⟩) (i+(n - j)) c) ∧
   w'=(w.drew.setCells b (off+i * 2) news).setCells b (off+(i+(n - j)) * 2) zs:=by
 have hne: ¬ ((i:Int)=(j:Int)):=by omega
 have yb:Tryz.prog.follows .mixedOrders=true:=by kernel_rfl
 obtain ⟨A,hA,hsrc⟩: ∃ A:Addr,(if c=j then (some ⟨b,off,none⟩:Option Addr) else some ⟨b,off+j * 2,none⟩)=some A∧Hdd (∀ t u,news[t]? =some u→w.drew.cell? (A.add t)=some u):=by
  by_cases h:c=j
  ·refine ⟨⟨b,off,none⟩,by simp [h],fun t u hu=> ?_⟩
   have h0:news.length=0:=by rw [hnl.out,show n - j=0 by omega]
   rw [List.length_eq_zero_iff.1 h0]at hu
   simp at hu
  ·exact ⟨⟨b,off+j * 2,none⟩,by simp [h],fun t u hu=>by rw [zay]; exact hnews.out t u hu⟩
 have s3:Hdd (∀ t,t < news.length→(w.drew.cell? ⟨b,off+i * 2+t,none⟩).isSome=true∧w.drew.frozen? ⟨b,off+i * 2+t,none⟩=false):=by
  intro t ht
  rw [hnl.out]at ht
  rw [Nat.add_assoc]
  exact ⟨hcell.out _ (by omega),hfr.out _ (by omega)⟩
 obtain ⟨W1,hW1⟩: ∃ W1,W1=w.drew.setCells b (off+i * 2) news:=⟨_,rfl⟩
 have hW:Hdd (W1=w.drew.setCells b (off+i * 2) news):=hW1
 have hic:i≤c:=by omega
 have hjc:j≤c:=by omega
 have hcl: ∀ ty,(Builtin.clear_ #[27] ty #[.slice (some ⟨b,off+(i+(n - j)) * 2,none⟩) (n - (i+(n - j))) (c - (i+(n - j)))]).run Tryz.prog W1= .ok (.tuple #[]) (W1.setCells b (off+(i+(n - j)) * 2) zs):=fun ty=>by
  refine y3k W1 27 129 ty z hund hz.out zs b _ _ _ (by omega) hzs.out hz1c.out (fun t ht=> ?_) (fun t ht=> ?_)
  ·rw [hzl.out]at ht
   rw [hW1,show off+(i+(n - j)) * 2+t=off+((i+(n - j)) * 2+t) by omega]
   exact Tf.isSome_setCells b _ _ _ (fun q hq=>(s3.out q hq).1) _ (hcell.out _ (by omega))
  ·rw [hzl.out]at ht
   rw [hW1,World.frozen?_setCells,show off+(i+(n - j)) * 2+t=off+((i+(n - j)) * 2+t) by omega]
   exact hfr.out _ (by omega)
 rw [← hW1]
 clear hW1
 go_enter Tryz.func184,Tryz.ntmps184
 go_wp2_with fail
 go_region_law_o (refine step_append_room rfl (.tmp 22) (.tmp 25) 27 rfl 129 i0 2 hund hi0 hz1 b off i c (by simp [Act.eval,Act.put]) A (n - j) (c - j) news (by simp [Act.eval,Act.put]) hnl.out hsrc.out hn1.out (by omega) s3.out ?_; rw [← hW.out])
 go_wp2
 go_ret
 exact ⟨rfl,rfl⟩
end
end Go.Proofs
namespace Go.Tf
noncomputable section
open Go.Proofs
set_option synthInstance.maxHeartbeats 400000
set_option synthInstance.maxSize 10000
set_option linter.unusedVariables false
set_option linter.unusedSimpArgs false
set_option maxRecDepth 100000
def yaA (l:List dW) (i j:Int):Bool:=leb 0 i&&(ltb i j&&leb j (l.length:Int))
def ydW (l:List dW) (i j:Int):List dW:=l.take i.toNat++l.drop j.toNat
def yXu:Con:=⟨yhe,yhk,fun x=>bif yaA x.1 x.2.1 x.2.2.1 then some ((ydW x.1 x.2.1 x.2.2.1,()),()) else none⟩
theorem y4I (w:World) (Z R:Nat→Prop) (l:List dW) (i j:Nat) (a0:Value) (f0:List Nat) (o0:Own (hp w) Z (.sl tW) (.ow aW) l [a0] f0) (hij:i < j) (hj:j≤l.length)
  (hlow: ∀ b,Z b∨R b→b < w.heap.size) (hnd:f0.Nodup) (hfr: ∀ b∈f0,b < w.heap.size∧ ¬ Z b∧ ¬ R b):Calls Tryz.prog 184 #[a0,.int .i64 (i:Int),.int .i64 (j:Int)] w (DoneOk yXu [a0,.int .i64 (i:Int),.int .i64 (j:Int)] [f0,[],[]] Z w ((l.take i++l.drop j,()),())):=by
 have hund:Tryz.prog.underlying 27=some (.slice 129):=by kernel_rfl
 have hinf:(Tryz.prog.info? 129).map (fun f=>(f.zero,f.size,f.bytes))=some (some (zeroVal tW),tW.size,tW.bytes):=by kernel_rfl
 obtain ⟨i0,hi0,hz0,hsz,hbz⟩: ∃ i0,Tryz.prog.info? 129=some i0∧i0.zero=some (zeroVal tW)∧i0.size=2∧i0.bytes=32:=by
  cases hq:Tryz.prog.info? 129 with
  | none=>rw [hq]at hinf; cases hinf
  | some f =>
   rw [hq]at hinf
   simp only [Option.map_some,Option.some.injEq,Prod.mk.injEq]at hinf
   exact ⟨f,rfl,hinf.1,hinf.2.1,hinf.2.2⟩
 have hzc:(zeroVal tW).cells.size=2:=rfl
 have hfl:([f0,[],[]]:List (List Nat)).flatten=f0:=by simp
 obtain ⟨hd,cap,hv0,hbnd,hlc,hc0⟩:=Own.elems o0
 subst hv0
 have hszt:tW.size=2:=rfl
 rcases hc0 with ⟨rfl,rfl,rfl,rfl⟩ | ⟨b,o,c,T,vs0,fp0,rfl,hB,hcap,hf0,hcs0,e0⟩
 ·simp at hj; omega
 ·have e0':=e0
  have hfle:=e0.fl
  have hsub:(fp0.take i++fp0.drop j).flatten.Sublist fp0.flatten:=by
   have h1:fp0.flatten=(fp0.take i).flatten++(((fp0.drop i).take (j - i)).flatten++(fp0.drop j).flatten):=by
    have:fp0.drop j=(fp0.drop i).drop (j - i):=by rw [List.drop_drop,show i+(j - i)=j by omega]
    rw [this,← List.flatten_append,List.take_append_drop,← List.flatten_append,List.take_append_drop]
   rw [h1,List.flatten_append]
   exact List.Sublist.append (List.Sublist.refl _) (List.sublist_append_right _ _)
  have hnd3:(b::fp0.flatten).Nodup:=by rw [← hf0]; exact hnd
  have hgb: ∀ x∈fp0.flatten,x≠b:=fun x hx e=>(List.nodup_cons.1 hnd3).1 (e ▸ hx)
  have hl0:=e0.len
  rw [hszt]at hcs0 hcap hl0
  have h1c:=fun v hv=>zif (e0.isCells (by decide) v hv)
  have hbf:b∈f0:=by rw [hf0]; exact List.mem_cons_self
  obtain ⟨hblt,hbZ,_⟩:=hfr b hbf
  have hdl:(vs0.drop (j * 2)).length=(l.length - j) * 2:=by rw [List.length_drop]; omega
  obtain ⟨zs,hzs⟩: ∃ zs,(Builtin.zeroCells (zeroVal tW).cells (l.length - (i+(l.length - j)))).toList=zs:=⟨_,rfl⟩
  have hzl:zs.length=(j - i) * 2:=by
   rw [← hzs,Array.length_toList,size_zeroCells,hzc]
   omega
  have hz1: ∀ v∈zs,v.oneCell'=true:=fun v hv=>by
   rw [← hzs]at hv
   have hzc2:(zeroVal tW).cells= #[.int .i64 0,.slice none 0 0]:=rfl
   simp only [Builtin.zeroCells,hzc2,Array.toList_map,List.mem_map]at hv
   obtain ⟨i,_,rfl⟩:=hv
   have h2:i % 2 < 2:=Nat.mod_lt _ (by decide)
   generalize i % 2=r at h2
   show (#[Value.int .i64 0,.slice none 0 0][r]!).oneCell'=true
   match r,h2 with
   | 0,_=>rfl
   | 1,_=>rfl
  have hin: ∀ t,t < l.length * 2→(w.drew.cell? ⟨b,o+t,none⟩).isSome=true∧w.drew.frozen? ⟨b,o+t,none⟩=false:=fun t ht=>y3r (w:=w.drew) hB (by omega)
  refine (y4i w b o l.length cap i j hij hj hlc i0 hi0 hsz hund (vs0.drop (j * 2)) zs (zeroVal tW) (fun w=>by simp [zeroValue,typeInfo,hi0,hz0]) hzs hzl hz1 hdl (fun v hv=>h1c v (List.mem_of_mem_drop hv)) (fun t u ht=>by
   rw [List.getElem?_drop]at ht
   rw [Nat.add_assoc]
   exact yzn (w:=w.drew) hcs0 _ u ht) (fun t ht=>(hin t ht).1) (fun t ht=>(hin t ht).2)).mono fun e w2 ⟨he,hw2⟩=> ?_
  subst he
  have e1:w.drew.setCells b (o+i * 2) (vs0.drop (j * 2))=World.setBlk w.drew b (ze c (o+i * 2) (vs0.drop (j * 2))) T:=yhc _ _ w.drew c hB (by omega)
  have hb1:hp (World.setBlk w.drew b (ze c (o+i * 2) (vs0.drop (j * 2))) T) b=some (.cells (ze c (o+i * 2) (vs0.drop (j * 2))) T (0,0)):=za5 (w:=w.drew) hblt
  rw [e1,yhc zs _ _ _ hb1 (by rw [zaN]; omega)] at hw2
  subst hw2
  have hsz1:b < (World.setBlk w.drew b (ze c (o+i * 2) (vs0.drop (j * 2))) T).heap.size:=by simp [World.setBlk]<;>exact hblt
  have hBn:=za5 (c:=ze (ze c (o+i * 2) (vs0.drop (j * 2))) (o+(i+(l.length - j)) * 2) zs) (T:=T) hsz1
  have oth: ∀ b',b'≠b→hp (World.setBlk (World.setBlk w.drew b (ze c (o+i * 2) (vs0.drop (j * 2))) T) b (ze (ze c (o+i * 2) (vs0.drop (j * 2))) (o+(i+(l.length - j)) * 2) zs) T) b'=hp w b':=fun b' h=>(zaI h).trans (zaI (w:=w.drew) h)
  have s1:=Elems.sub e0' 0 i (by omega)
  have s2:=Elems.sub e0' j (l.length - j) (by omega)
  rw [hszt]at s1 s2
  rw [Nat.zero_mul,List.drop_zero,List.drop_zero,List.drop_zero]at s1
  rw [List.take_of_length_le (l:=l.drop j) (by rw [List.length_drop]; omega),List.take_of_length_le (l:=vs0.drop (j * 2)) (by rw [List.length_drop]; omega),List.take_of_length_le (l:=fp0.drop j) (by rw [List.length_drop]; omega)] at s2
  have es:=s1.append s2
  have hkZ: ∀ b',Z b'→hp (World.setBlk (World.setBlk w.drew b (ze c (o+i * 2) (vs0.drop (j * 2))) T) b (ze (ze c (o+i * 2) (vs0.drop (j * 2))) (o+(i+(l.length - j)) * 2) zs) T) b'=hp w b':=fun b' hb'=>oth b' (fun e=>hbZ (e ▸ hb'))
  have es':=es.keep hkZ (fun _ h=>h) (fun b' hb'=>oth b' (hgb b' (hsub.mem hb')))
  have hL:(l.take i++l.drop j).length=i+(l.length - j):=by simp; omega
  have hcells:zd (hp (World.setBlk (World.setBlk w.drew b (ze c (o+i * 2) (vs0.drop (j * 2))) T) b (ze (ze c (o+i * 2) (vs0.drop (j * 2))) (o+(i+(l.length - j)) * 2) zs) T)) b o ((i+(l.length - j)) * 2)=some (vs0.take (i * 2)++vs0.drop (j * 2)):=by
   have hL2:(vs0.take (i * 2)++vs0.drop (j * 2)).length=(i+(l.length - j)) * 2:=by rw [List.length_append,List.length_take,List.length_drop]; omega
   have:=zac (h:=hp (World.setBlk (World.setBlk w.drew b (ze c (o+i * 2) (vs0.drop (j * 2))) T) b (ze (ze c (o+i * 2) (vs0.drop (j * 2))) (o+(i+(l.length - j)) * 2) zs) T)) (b:=b) (vs0.take (i * 2)++vs0.drop (j * 2)) o (fun t ht=>by
    rw [hL2]at ht
    unfold zF
    rw [hBn]
    show (ze (ze c (o+i * 2) (vs0.drop (j * 2))) (o+(i+(l.length - j)) * 2) zs)[o+t]? =_
    rw [z3 _ _ _ _ (by rw [zaN]; omega),if_neg (by omega),z3 _ _ _ _ (by omega)]
    by_cases g1:t < i * 2
    ·rw [if_neg (by omega),List.getElem?_append_left (by rw [List.length_take]; omega),List.getElem?_take,if_pos g1,zX hcs0 t (by omega)]
     unfold zF; rw [hB]
    ·rw [if_pos (by omega),List.getElem?_append_right (by rw [List.length_take]; omega),List.length_take]
     exact yMt (by omega))
   rw [hL2]at this; exact this
  have hown:=es'.own (b:=b) (o:=o) (cap:=cap) hBn (by rw [hL]; exact hcells) (by rw [zaN,zaN]; exact hcap) (by rw [hL]; omega) (by rw [hL]; have:tW.bytes=32:=rfl; rw [this]at hbnd ⊢; omega)
  rw [hL]at hown
  refine ⟨[_],Z,[b::(fp0.take i++fp0.drop j).flatten],[[],[],[]],rfl,rfl,by simp [World.setBlk]<;>exact Nat.le_refl _,fun b' _ hb'=>oth b' (fun e=>hb' (by rw [hfl,e]; exact hbf)),fun _ h=>h,fun _ h=> .inl h,⟨⟨_,rfl,hown⟩,trivial⟩,⟨rfl,rfl,rfl,trivial⟩,?_,fun b' hb'=> ?_⟩
  ·simp only [List.flatten_cons,List.flatten_nil,List.append_nil,List.nodup_cons]
   exact ⟨fun h=>hgb b (hsub.mem h) rfl,(List.nodup_cons.1 hnd3).2.sublist hsub⟩
  ·simp only [List.flatten_cons,List.flatten_nil,List.append_nil,List.mem_cons]at hb'
   rcases hb' with rfl | hb'
   ·exact ⟨.inr (by rw [hfl]; exact hbf),hbZ⟩
   ·have hm:b'∈f0:=by rw [hf0]; exact List.mem_cons_of_mem _ (hsub.mem hb')
    exact ⟨.inr (by rw [hfl]; exact hm),(hfr b' hm).2.1⟩
theorem y44:ConOk Tryz.prog 184 yXu where
 fn:=⟨_,Tryz.func184,by kernel_rfl,by kernel_rfl⟩
 run:=fun w Z R xs args fs r ha hF hz hnd hfr=>by
  obtain ⟨l,i,v,_⟩:=xs
  rcases args with _ | ⟨a0,_ | ⟨a1,_ | ⟨a2,_ | ⟨a3,t⟩⟩⟩⟩<;>rcases fs with _ | ⟨f0,_ | ⟨f1,_ | ⟨f2,_ | ⟨f3,u⟩⟩⟩⟩<;>try (simp [ArgsOk,yXu]at ha; done)
  obtain ⟨⟨cs0,rfl,o0⟩,⟨cs1,rfl,hi1⟩,rfl,⟨cs2,rfl,hj1⟩,rfl,_⟩:=ha
  obtain ⟨rfl,hif⟩:=hi1
  obtain ⟨rfl,hjf⟩:=hj1
  have hF':(bif yaA l i v then some (((ydW l i v,()),()):ResD yhk×MutD yhe) else none)=some r:=hF
  cases hq:yaA l i v with
  | false=>rw [hq]at hF'; cases hF'
  | true =>
   rw [hq]at hF'
   obtain rfl:=Option.some.inj hF'
   simp only [yaA,Bool.and_eq_true]at hq
   obtain ⟨i0,i1,hv1⟩:=hq
   have i0:=zjQ.1 i0
   have i1:=zjT.1 i1
   have hv1:=zjQ.1 hv1
   obtain ⟨k,hk⟩: ∃ k:Nat,i=(k:Int):=⟨Int.toNat i,(Int.toNat_of_nonneg i0).symm⟩
   subst hk
   obtain ⟨m,hm⟩: ∃ m:Nat,v=(m:Int):=⟨Int.toNat v,(Int.toNat_of_nonneg (by have:=i0; have:=i1; omega)).symm⟩
   subst hm
   have hl1:=Own.len o0
   obtain ⟨a0,rfl⟩:=List.length_eq_one_iff.1 hl1
   have hfe:([f0,[],[]]:List (List Nat)).flatten=f0:=by simp
   rw [hfe]at hnd hfr
   exact y4I w Z R l k m a0 f0 o0 (by have:=i1; omega) (by have:=hv1; omega) hz hnd hfr
def yht (a0:List dW) (a1 a2:Int):Option (ResD yhk×MutD yhe):=bif yaA a0 a1 a2 then (fun n=>some ((n,()),())) (ydW a0 a1 a2) else none
theorem yI2 (a0:List dW) (a1 a2:Int) (h:yaA a0 a1 a2=true):yht a0 a1 a2=(fun n=>some ((n,()),())) (ydW a0 a1 a2):=by unfold yht; rw [h]; rfl
def yuS:Con:=⟨yhe,yhk,fun x=>yht x.1 x.2.1 x.2.2.1⟩
theorem yI0:ConOk Tryz.prog 184 yuS:=y44
section
def yyO:Code:=(Tryz.f83.body).getD .skip
def yy0:Env:=zki TT [(45,yrm),(53,yv3),(98,ymn),(116,yct),(183,yHQ),(184,yuS)] []
theorem yIf:FrOk Tryz.prog ⟨yy0,58,fun _=>none⟩ yyO:=zkp yb yc ⟨yAs,yKF,ywA,yf7,y1x,yI0,trivial⟩
def yIz:Nat→Option Seg:=fun _=>none
abbrev ych:List Par:= [.rd tA,.rd tI]
abbrev yiT:List OT:= [⟨false,tA,(.pr .fz (.pr (.pr .fz .fz) (.pr (.ow (.pr (.ow (.ow .fz)) (.pr (.ow (.pr .fz (.ow .fz))) (.pr .fz (.ow .fz))))) (.pr .fz (.pr .fz (.pr .fz (.pr .fz (.pr .fz (.pr (.ow (.pr .fz (.ow .fz))) (.pr .fz (.pr .fz .fz)))))))))))⟩,⟨false,tI,.fz⟩]
def ygf (a0:dA) (a1:Int):Option (ResD yiT×MutD ych) :=
 let r1:=yc9 a0
 bif (!r1) then
 let r2:=yx a0
 some ((r2,1,()),())
 else
 bif a0.2.2.2.2.2.2.2.2.2.2.1 then
 let r3:=yx a0
 some ((r3,6,()),())
 else
 let r4:=yS a0.2.1 a1
 bif (!r4) then
 let r5:=yx a0
 some ((r5,2,()),())
 else
 let r6:=ywr a0 a1
 bif (ltb r6 0) then
 let r7:=yx a0
 some ((r7,0,()),())
 else
 bif (inb r6 a0.2.2.2.2.2.2.2.2.1.length) then
 let r8:=yeM a0 a1 ((nth a0.2.2.2.2.2.2.2.2.1 r6 (0,[])).2)
 bif (r8.2==0) then
 bnd (yht r8.1.2.2.2.2.2.2.2.2.1 r6 (IntKind.i64.wrap (r6+1))) fun r9 =>
 some (((r8.1.1,r8.1.2.1,r8.1.2.2.1,r8.1.2.2.2.1,r8.1.2.2.2.2.1,r8.1.2.2.2.2.2.1,r8.1.2.2.2.2.2.2.1,r8.1.2.2.2.2.2.2.2.1,r9.1.1,r8.1.2.2.2.2.2.2.2.2.2),r8.2,()),())
 else
 some ((r8.1,r8.2,()),())
 else none
theorem yLN (x:InD ych):zjH ⟨yy0,58,yIz⟩ Tryz.f83.results.toList yyO ych yiT x=ygf x.1 x.2.1:=by kernel_rfl
theorem yIW:ConOk Tryz.prog 83 ⟨ych,yiT,fun x=>ygf x.1 x.2.1⟩:=zkh (yIf) Tryz.func83 (by kernel_rfl) (by kernel_rfl) Tryz.ntmps83.symm (by decide) (fun x r h=>(yLN x).trans h)
def yad (a0:dA) (a1:Int):dA×Int:=ylj a0 a1
theorem yKw (a0:dA) (a1:Int) (hk:zi9 ych (a0,a1,())):ygf a0 a1=(fun n=>some ((n.1,n.2,()),())) (yad a0 a1):=by
 unfold ygf yad ylj
 simp only [yx,yc9,ywr,yeM,yyM]
 cases ha:yp a0
 ·rfl
 rcases Bool.eq_false_or_eq_true (yd a0) with hd | hd
 ·rw [show a0.2.2.2.2.2.2.2.2.2.2.1=true from hd,hd]; rfl
 rw [show a0.2.2.2.2.2.2.2.2.2.2.1=false from hd,hd]
 cases yK a0.2.1 a1
 ·rfl
 unfold yac
 cases h0:ltb (ym a0.2.2.2.2.2.2.2.2.1 a1) 0
 ·have h1:=zkU h0
  have hi:inb (ym a0.2.2.2.2.2.2.2.2.1 a1) a0.2.2.2.2.2.2.2.2.1.length=true:=(yua (d:=((0:Int),([]:List Int))) (zk0 h1)).1
  have hk:=zjP.1 hi
  have hl8:=yGB (yuO ha) (yaZ ha)
  simp only [hi,cond_true,cond_false,Bool.not_true]
  generalize (nth a0.2.2.2.2.2.2.2.2.1 (ym a0.2.2.2.2.2.2.2.2.1 a1) (0,[])).2=D
  unfold yTc
  cases hc:(yk a0 a1 D !=0)
  ·simp only [cond_false]
   cases hr:((ya5 a0 a1 D).1==0)
   ·rfl
   ·simp only [cond_true,yPR]
    generalize ym a0.2.2.2.2.2.2.2.2.1 a1=K at hk h1 ⊢
    rw [wr (show -9223372036854775808≤K+1 by omega) (by omega),yI2 _ K (K+1) (by
     unfold yaA
     rw [zk0 hk.1,zjI (show K < K+1 by omega),zk0 (show K+1≤(a0.2.2.2.2.2.2.2.2.1.length:Int) by omega)]; rfl),beq_iff_eq.1 hr]
    simp only [zky]
    unfold ydW yyL yI5
    rw [show (K+1).toNat=K.toNat+1 by omega]
  ·have hc2:(yk a0 a1 D==0)=false:=beq_eq_false_iff_ne.2 (bne_iff_ne.1 hc)
   simp only [cond_true,hc2,cond_false]
 ·rfl
def ymm:Con:=⟨ych,yiT,fun x=>(fun n=>some ((n.1,n.2,()),())) (yad x.1 x.2.1)⟩
theorem yxE:ConOk Tryz.prog 83 ymm:=(yIW).mono (fun x r hk h=>(yKw x.1 x.2.1 hk).trans h)
end
section
def ydJ:Code:=(Tryz.f103.body).getD .skip
def yhy:Env:=zki TT [(152,yo5)] [(8192,(.pr (.ow .fz) (.pr (.ow (.pr .fz .fz)) (.pr .fz (.ow .fz))))),(25088,(.pr (.ow .fz) (.pr (.ow (.pr .fz .fz)) (.pr .fz (.ow .fz))))),(28672,(.pr .fz .fz)),(46144,(.pr .fz .fz))]
theorem yQ5:FrOk Tryz.prog ⟨yhy,57,fun _=>none⟩ ydJ:=zkp yb yc ⟨yx9,trivial⟩
def yFy:Nat→Option Seg:=fun _=>none
def yb9:Shape:=⟨[(1,false,[.ptr 0 0]),(2,false,[.ptr 64 0]),(3,false,[.ptr 4160 0]),(4,false,[.int .i64])],[(0,[.int .i64,.int .i64,.int .i64,.br tM,.int .i64,.int .i64,.int .i64,.int .i64,.int .i64,.br tW,.int .i64,.bool,.bool]),(64,[.int .i64,.int .i64,.int .i64,.nil,.int .i64,.int .i64,.int .i64,.int .i64,.int .i64,.nil,.int .i64,.bool,.bool]),(4160,[.int .i64,.int .i64,.int .i64,.at 800000000,.int .i64,.int .i64,.int .i64,.int .i64,.int .i64,.br tW,.int .i64,.bool,.bool])],[(800000000,tM,(.pr (.ow .fz) (.pr (.ow (.pr .fz .fz)) (.pr .fz (.ow .fz)))))]⟩
def ygS:Shape:=⟨[(1,false,[.ptr 0 0]),(2,false,[.ptr 64 0]),(3,false,[.ptr 4160 0]),(4,false,[.ci .i64 0])],[(0,[.int .i64,.int .i64,.int .i64,.br tM,.int .i64,.int .i64,.int .i64,.int .i64,.int .i64,.br tW,.int .i64,.bool,.bool]),(64,[.int .i64,.int .i64,.int .i64,.nil,.int .i64,.int .i64,.int .i64,.int .i64,.int .i64,.nil,.int .i64,.bool,.bool]),(4160,[.int .i64,.int .i64,.int .i64,.at 800000000,.int .i64,.int .i64,.int .i64,.int .i64,.int .i64,.br tW,.int .i64,.bool,.bool])],[(800000000,tM,(.pr (.ow .fz) (.pr (.ow (.pr .fz .fz)) (.pr .fz (.ow .fz)))))]⟩
def ygL:Shape:=⟨[(1,false,[.ptr 0 0]),(2,false,[.ptr 64 0]),(3,false,[.ptr 4160 0])],[(0,[.int .i64,.int .i64,.int .i64,.br tM,.int .i64,.int .i64,.int .i64,.int .i64,.int .i64,.br tW,.int .i64,.bool,.bool]),(64,[.int .i64,.int .i64,.int .i64,.nil,.int .i64,.int .i64,.int .i64,.int .i64,.int .i64,.nil,.int .i64,.bool,.bool]),(4160,[.int .i64,.int .i64,.int .i64,.at 800000000,.int .i64,.int .i64,.int .i64,.int .i64,.int .i64,.br tW,.int .i64,.bool,.bool])],[(800000000,tM,(.pr (.ow .fz) (.pr (.ow (.pr .fz .fz)) (.pr .fz (.ow .fz)))))]⟩
def ymj:Shape:=⟨[],[],[]⟩
abbrev ysd (v0:Int) (v1 v2 v3:dA):(yb9).X:=((((),()),((),()),((),()),(v0,()),()),((v1.1,v1.2.1.1,v1.2.1.2,v1.2.2.1,v1.2.2.2.1,v1.2.2.2.2.1,v1.2.2.2.2.2.1,v1.2.2.2.2.2.2.1,v1.2.2.2.2.2.2.2.1,v1.2.2.2.2.2.2.2.2.1,v1.2.2.2.2.2.2.2.2.2.1,v1.2.2.2.2.2.2.2.2.2.2.1,v1.2.2.2.2.2.2.2.2.2.2.2,()),(v2.1,v2.2.1.1,v2.2.1.2,(),v2.2.2.2.1,v2.2.2.2.2.1,v2.2.2.2.2.2.1,v2.2.2.2.2.2.2.1,v2.2.2.2.2.2.2.2.1,(),v2.2.2.2.2.2.2.2.2.2.1,v2.2.2.2.2.2.2.2.2.2.2.1,v2.2.2.2.2.2.2.2.2.2.2.2,()),(v3.1,v3.2.1.1,v3.2.1.2,(),v3.2.2.2.1,v3.2.2.2.2.1,v3.2.2.2.2.2.1,v3.2.2.2.2.2.2.1,v3.2.2.2.2.2.2.2.1,v3.2.2.2.2.2.2.2.2.1,v3.2.2.2.2.2.2.2.2.2.1,v3.2.2.2.2.2.2.2.2.2.2.1,v3.2.2.2.2.2.2.2.2.2.2.2,()),()),(v3.2.2.1,()))
abbrev yOH (v0 v1 v2:dA):(ygS).X:=((((),()),((),()),((),()),((),()),()),((v0.1,v0.2.1.1,v0.2.1.2,v0.2.2.1,v0.2.2.2.1,v0.2.2.2.2.1,v0.2.2.2.2.2.1,v0.2.2.2.2.2.2.1,v0.2.2.2.2.2.2.2.1,v0.2.2.2.2.2.2.2.2.1,v0.2.2.2.2.2.2.2.2.2.1,v0.2.2.2.2.2.2.2.2.2.2.1,v0.2.2.2.2.2.2.2.2.2.2.2,()),(v1.1,v1.2.1.1,v1.2.1.2,(),v1.2.2.2.1,v1.2.2.2.2.1,v1.2.2.2.2.2.1,v1.2.2.2.2.2.2.1,v1.2.2.2.2.2.2.2.1,(),v1.2.2.2.2.2.2.2.2.2.1,v1.2.2.2.2.2.2.2.2.2.2.1,v1.2.2.2.2.2.2.2.2.2.2.2,()),(v2.1,v2.2.1.1,v2.2.1.2,(),v2.2.2.2.1,v2.2.2.2.2.1,v2.2.2.2.2.2.1,v2.2.2.2.2.2.2.1,v2.2.2.2.2.2.2.2.1,v2.2.2.2.2.2.2.2.2.1,v2.2.2.2.2.2.2.2.2.2.1,v2.2.2.2.2.2.2.2.2.2.2.1,v2.2.2.2.2.2.2.2.2.2.2.2,()),()),(v2.2.2.1,()))
abbrev yOC (v0 v1 v2:dA):(ygL).X:=((((),()),((),()),((),()),()),((v0.1,v0.2.1.1,v0.2.1.2,v0.2.2.1,v0.2.2.2.1,v0.2.2.2.2.1,v0.2.2.2.2.2.1,v0.2.2.2.2.2.2.1,v0.2.2.2.2.2.2.2.1,v0.2.2.2.2.2.2.2.2.1,v0.2.2.2.2.2.2.2.2.2.1,v0.2.2.2.2.2.2.2.2.2.2.1,v0.2.2.2.2.2.2.2.2.2.2.2,()),(v1.1,v1.2.1.1,v1.2.1.2,(),v1.2.2.2.1,v1.2.2.2.2.1,v1.2.2.2.2.2.1,v1.2.2.2.2.2.2.1,v1.2.2.2.2.2.2.2.1,(),v1.2.2.2.2.2.2.2.2.2.1,v1.2.2.2.2.2.2.2.2.2.2.1,v1.2.2.2.2.2.2.2.2.2.2.2,()),(v2.1,v2.2.1.1,v2.2.1.2,(),v2.2.2.2.1,v2.2.2.2.2.1,v2.2.2.2.2.2.1,v2.2.2.2.2.2.2.1,v2.2.2.2.2.2.2.2.1,v2.2.2.2.2.2.2.2.2.1,v2.2.2.2.2.2.2.2.2.2.1,v2.2.2.2.2.2.2.2.2.2.2.1,v2.2.2.2.2.2.2.2.2.2.2.2,()),()),(v2.2.2.1,()))
def ysx (v0 v1 v2 v3:Int) (v4:List dM) (v5 v6 v7 v8 v9:Int) (v10:List dW) (v11:Int) (v12 v13:Bool) (v14 v15 v16 v17 v18 v19 v20 v21 v22:Int) (v23 v24:Bool) (v25 v26 v27 v28 v29 v30 v31 v32:Int) (v33:List dW) (v34:Int) (v35 v36:Bool) (v37:List dM):Option ((yb9).X ⊕ ((ygL).X ⊕ (ymj).X)) :=
 bif (ltb v0 (v4.length:Int)) then
 bif (inb v0 v4.length) then
 let r2:=yb2 ((nth v4 v0 ([],[],false,[])).1,((nth v4 v0 ([],[],false,[])).2).1,(((nth v4 v0 ([],[],false,[])).2).2))
 bif (zj4 v37.length ([r2]:List dM).length 80) then
 some (.inl ((((),()),((),()),((),()),((IntKind.i64.wrap (v0+1)),()),()),((v1,v2,v3,v4,v5,v6,v7,v8,v9,v10,v11,v12,v13,()),(v14,v15,v16,(),v17,v18,v19,v20,v21,(),v22,v23,v24,()),(v25,v26,v27,(),v28,v29,v30,v31,v32,v33,v34,v35,v36,()),()),((v37++([r2]:List dM)),())))
 else none
 else none
 else
 some (.inr (.inl ((((),()),((),()),((),()),()),((v1,v2,v3,v4,v5,v6,v7,v8,v9,v10,v11,v12,v13,()),(v14,v15,v16,(),v17,v18,v19,v20,v21,(),v22,v23,v24,()),(v25,v26,v27,(),v28,v29,v30,v31,v32,v33,v34,v35,v36,()),()),(v37,()))))
def ycH (x:(yb9).X):=ysx x.1.2.2.2.1.1 x.2.1.1.1 x.2.1.1.2.1 x.2.1.1.2.2.1 x.2.1.1.2.2.2.1 x.2.1.1.2.2.2.2.1 x.2.1.1.2.2.2.2.2.1 x.2.1.1.2.2.2.2.2.2.1 x.2.1.1.2.2.2.2.2.2.2.1 x.2.1.1.2.2.2.2.2.2.2.2.1 x.2.1.1.2.2.2.2.2.2.2.2.2.1 x.2.1.1.2.2.2.2.2.2.2.2.2.2.1 x.2.1.1.2.2.2.2.2.2.2.2.2.2.2.1 x.2.1.1.2.2.2.2.2.2.2.2.2.2.2.2.1 x.2.1.2.1.1 x.2.1.2.1.2.1 x.2.1.2.1.2.2.1 x.2.1.2.1.2.2.2.2.1 x.2.1.2.1.2.2.2.2.2.1 x.2.1.2.1.2.2.2.2.2.2.1 x.2.1.2.1.2.2.2.2.2.2.2.1 x.2.1.2.1.2.2.2.2.2.2.2.2.1 x.2.1.2.1.2.2.2.2.2.2.2.2.2.2.1 x.2.1.2.1.2.2.2.2.2.2.2.2.2.2.2.1 x.2.1.2.1.2.2.2.2.2.2.2.2.2.2.2.2.1 x.2.1.2.2.1.1 x.2.1.2.2.1.2.1 x.2.1.2.2.1.2.2.1 x.2.1.2.2.1.2.2.2.2.1 x.2.1.2.2.1.2.2.2.2.2.1 x.2.1.2.2.1.2.2.2.2.2.2.1 x.2.1.2.2.1.2.2.2.2.2.2.2.1 x.2.1.2.2.1.2.2.2.2.2.2.2.2.1 x.2.1.2.2.1.2.2.2.2.2.2.2.2.2.1 x.2.1.2.2.1.2.2.2.2.2.2.2.2.2.2.1 x.2.1.2.2.1.2.2.2.2.2.2.2.2.2.2.2.1 x.2.1.2.2.1.2.2.2.2.2.2.2.2.2.2.2.2.1 x.2.2.1
def yBQ (x:(ygS).X):(yb9).X:=((((),()),((),()),((),()),(0,()),()),((x.2.1.1.1,x.2.1.1.2.1,x.2.1.1.2.2.1,x.2.1.1.2.2.2.1,x.2.1.1.2.2.2.2.1,x.2.1.1.2.2.2.2.2.1,x.2.1.1.2.2.2.2.2.2.1,x.2.1.1.2.2.2.2.2.2.2.1,x.2.1.1.2.2.2.2.2.2.2.2.1,x.2.1.1.2.2.2.2.2.2.2.2.2.1,x.2.1.1.2.2.2.2.2.2.2.2.2.2.1,x.2.1.1.2.2.2.2.2.2.2.2.2.2.2.1,x.2.1.1.2.2.2.2.2.2.2.2.2.2.2.2.1,()),(x.2.1.2.1.1,x.2.1.2.1.2.1,x.2.1.2.1.2.2.1,(),x.2.1.2.1.2.2.2.2.1,x.2.1.2.1.2.2.2.2.2.1,x.2.1.2.1.2.2.2.2.2.2.1,x.2.1.2.1.2.2.2.2.2.2.2.1,x.2.1.2.1.2.2.2.2.2.2.2.2.1,(),x.2.1.2.1.2.2.2.2.2.2.2.2.2.2.1,x.2.1.2.1.2.2.2.2.2.2.2.2.2.2.2.1,x.2.1.2.1.2.2.2.2.2.2.2.2.2.2.2.2.1,()),(x.2.1.2.2.1.1,x.2.1.2.2.1.2.1,x.2.1.2.2.1.2.2.1,(),x.2.1.2.2.1.2.2.2.2.1,x.2.1.2.2.1.2.2.2.2.2.1,x.2.1.2.2.1.2.2.2.2.2.2.1,x.2.1.2.2.1.2.2.2.2.2.2.2.1,x.2.1.2.2.1.2.2.2.2.2.2.2.2.1,x.2.1.2.2.1.2.2.2.2.2.2.2.2.2.1,x.2.1.2.2.1.2.2.2.2.2.2.2.2.2.2.1,x.2.1.2.2.1.2.2.2.2.2.2.2.2.2.2.2.1,x.2.1.2.2.1.2.2.2.2.2.2.2.2.2.2.2.2.1,()),()),(x.2.2.1,()))
def yDs:Code:=(zdI ydJ 64 244).getD .skip
theorem yQf:zdI ydJ 64 61=some (.block 0 (.loop yDs)):=by kernel_rfl
theorem yS5 (x:(yb9).X):zg7 ⟨yhy,57,yFy⟩ 0 yDs 244 yb9 ygL ymj x=ycH x:=by kernel_rfl
def yB5 (x:(ygS).X):Nat:=18446744073709551616
def yt1 (x:(ygS).X):Option ((ygL).X ⊕ (ymj).X):=zr ycH (yB5 x) (yBQ x)
def yCo:Seg:=⟨ygS,ygL,ymj,yt1⟩
def yu4:Nat→Option Seg:=fun q=>bif Nat.beq q 61 then some yCo else yFy q
theorem yQ6:FrOk Tryz.prog ⟨yhy,57,yu4⟩ ydJ:=(yQ5).loop (sg:=yCo) yb9 yBQ (by decide) yQf ycH yB5 (by decide) (fun _=>rfl) (fun x r _ h=>h) yS5
def ybt:Shape:=⟨[(1,false,[.ptr 0 0]),(2,false,[.ptr 64 0]),(3,false,[.ptr 4160 0]),(5,false,[.int .i64])],[(0,[.int .i64,.int .i64,.int .i64,.br tM,.int .i64,.int .i64,.int .i64,.int .i64,.int .i64,.br tW,.int .i64,.bool,.bool]),(64,[.int .i64,.int .i64,.int .i64,.nil,.int .i64,.int .i64,.int .i64,.int .i64,.int .i64,.nil,.int .i64,.bool,.bool]),(4160,[.int .i64,.int .i64,.int .i64,.at 800000000,.int .i64,.int .i64,.int .i64,.int .i64,.int .i64,.at 800000001,.int .i64,.bool,.bool])],[(800000000,tM,(.pr (.ow .fz) (.pr (.ow (.pr .fz .fz)) (.pr .fz (.ow .fz))))),(800000001,tW,(.pr .fz .fz))]⟩
def yfT:Shape:=⟨[(1,false,[.ptr 0 0]),(2,false,[.ptr 64 0]),(3,false,[.ptr 4160 0]),(5,false,[.ci .i64 0])],[(0,[.int .i64,.int .i64,.int .i64,.br tM,.int .i64,.int .i64,.int .i64,.int .i64,.int .i64,.br tW,.int .i64,.bool,.bool]),(64,[.int .i64,.int .i64,.int .i64,.nil,.int .i64,.int .i64,.int .i64,.int .i64,.int .i64,.nil,.int .i64,.bool,.bool]),(4160,[.int .i64,.int .i64,.int .i64,.at 800000000,.int .i64,.int .i64,.int .i64,.int .i64,.int .i64,.at 800000001,.int .i64,.bool,.bool])],[(800000000,tM,(.pr (.ow .fz) (.pr (.ow (.pr .fz .fz)) (.pr .fz (.ow .fz))))),(800000001,tW,(.pr .fz .fz))]⟩
def yfL:Shape:=⟨[(2,false,[.ptr 64 0]),(3,false,[.ptr 4160 0])],[(64,[.int .i64,.int .i64,.int .i64,.nil,.int .i64,.int .i64,.int .i64,.int .i64,.int .i64,.nil,.int .i64,.bool,.bool]),(4160,[.int .i64,.int .i64,.int .i64,.at 800000000,.int .i64,.int .i64,.int .i64,.int .i64,.int .i64,.at 800000001,.int .i64,.bool,.bool])],[(800000000,tM,(.pr (.ow .fz) (.pr (.ow (.pr .fz .fz)) (.pr .fz (.ow .fz))))),(800000001,tW,(.pr .fz .fz))]⟩
def yj8:Shape:=⟨[],[],[]⟩
abbrev yqu (v0:Int) (v1 v2 v3:dA):(ybt).X:=((((),()),((),()),((),()),(v0,()),()),((v1.1,v1.2.1.1,v1.2.1.2,v1.2.2.1,v1.2.2.2.1,v1.2.2.2.2.1,v1.2.2.2.2.2.1,v1.2.2.2.2.2.2.1,v1.2.2.2.2.2.2.2.1,v1.2.2.2.2.2.2.2.2.1,v1.2.2.2.2.2.2.2.2.2.1,v1.2.2.2.2.2.2.2.2.2.2.1,v1.2.2.2.2.2.2.2.2.2.2.2,()),(v2.1,v2.2.1.1,v2.2.1.2,(),v2.2.2.2.1,v2.2.2.2.2.1,v2.2.2.2.2.2.1,v2.2.2.2.2.2.2.1,v2.2.2.2.2.2.2.2.1,(),v2.2.2.2.2.2.2.2.2.2.1,v2.2.2.2.2.2.2.2.2.2.2.1,v2.2.2.2.2.2.2.2.2.2.2.2,()),(v3.1,v3.2.1.1,v3.2.1.2,(),v3.2.2.2.1,v3.2.2.2.2.1,v3.2.2.2.2.2.1,v3.2.2.2.2.2.2.1,v3.2.2.2.2.2.2.2.1,(),v3.2.2.2.2.2.2.2.2.2.1,v3.2.2.2.2.2.2.2.2.2.2.1,v3.2.2.2.2.2.2.2.2.2.2.2,()),()),(v3.2.2.1,v3.2.2.2.2.2.2.2.2.1,()))
abbrev yMI (v0 v1 v2:dA):(yfT).X:=((((),()),((),()),((),()),((),()),()),((v0.1,v0.2.1.1,v0.2.1.2,v0.2.2.1,v0.2.2.2.1,v0.2.2.2.2.1,v0.2.2.2.2.2.1,v0.2.2.2.2.2.2.1,v0.2.2.2.2.2.2.2.1,v0.2.2.2.2.2.2.2.2.1,v0.2.2.2.2.2.2.2.2.2.1,v0.2.2.2.2.2.2.2.2.2.2.1,v0.2.2.2.2.2.2.2.2.2.2.2,()),(v1.1,v1.2.1.1,v1.2.1.2,(),v1.2.2.2.1,v1.2.2.2.2.1,v1.2.2.2.2.2.1,v1.2.2.2.2.2.2.1,v1.2.2.2.2.2.2.2.1,(),v1.2.2.2.2.2.2.2.2.2.1,v1.2.2.2.2.2.2.2.2.2.2.1,v1.2.2.2.2.2.2.2.2.2.2.2,()),(v2.1,v2.2.1.1,v2.2.1.2,(),v2.2.2.2.1,v2.2.2.2.2.1,v2.2.2.2.2.2.1,v2.2.2.2.2.2.2.1,v2.2.2.2.2.2.2.2.1,(),v2.2.2.2.2.2.2.2.2.2.1,v2.2.2.2.2.2.2.2.2.2.2.1,v2.2.2.2.2.2.2.2.2.2.2.2,()),()),(v2.2.2.1,v2.2.2.2.2.2.2.2.2.1,()))
abbrev yMA (v0 v1:dA):(yfL).X:=((((),()),((),()),()),((v0.1,v0.2.1.1,v0.2.1.2,(),v0.2.2.2.1,v0.2.2.2.2.1,v0.2.2.2.2.2.1,v0.2.2.2.2.2.2.1,v0.2.2.2.2.2.2.2.1,(),v0.2.2.2.2.2.2.2.2.2.1,v0.2.2.2.2.2.2.2.2.2.2.1,v0.2.2.2.2.2.2.2.2.2.2.2,()),(v1.1,v1.2.1.1,v1.2.1.2,(),v1.2.2.2.1,v1.2.2.2.2.1,v1.2.2.2.2.2.1,v1.2.2.2.2.2.2.1,v1.2.2.2.2.2.2.2.1,(),v1.2.2.2.2.2.2.2.2.2.1,v1.2.2.2.2.2.2.2.2.2.2.1,v1.2.2.2.2.2.2.2.2.2.2.2,()),()),(v1.2.2.1,v1.2.2.2.2.2.2.2.2.1,()))
def yqO (v0 v1 v2 v3:Int) (v4:List dM) (v5 v6 v7 v8 v9:Int) (v10:List dW) (v11:Int) (v12 v13:Bool) (v14 v15 v16 v17 v18 v19 v20 v21 v22:Int) (v23 v24:Bool) (v25 v26 v27 v28 v29 v30 v31 v32 v33:Int) (v34 v35:Bool) (v36:List dM) (v37:List dW):Option ((ybt).X ⊕ ((yfL).X ⊕ (yj8).X)) :=
 bif (ltb v0 (v10.length:Int)) then
 bif (inb v0 v10.length) then
 bif (inb v0 v10.length) then
 bif (zj4 ([]:List Int).length ((nth v10 v0 (0,[])).2).length 8) then
 bif (zj4 v37.length ([((nth v10 v0 (0,[])).1,(([]:List Int)++((nth v10 v0 (0,[])).2)))]:List dW).length 32) then
 some (.inl ((((),()),((),()),((),()),((IntKind.i64.wrap (v0+1)),()),()),((v1,v2,v3,v4,v5,v6,v7,v8,v9,v10,v11,v12,v13,()),(v14,v15,v16,(),v17,v18,v19,v20,v21,(),v22,v23,v24,()),(v25,v26,v27,(),v28,v29,v30,v31,v32,(),v33,v34,v35,()),()),(v36,(v37++([((nth v10 v0 (0,[])).1,(([]:List Int)++((nth v10 v0 (0,[])).2)))]:List dW)),())))
 else none
 else none
 else none
 else none
 else
 some (.inr (.inl ((((),()),((),()),()),((v14,v15,v16,(),v17,v18,v19,v20,v21,(),v22,v23,v24,()),(v25,v26,v27,(),v28,v29,v30,v31,v32,(),v33,v34,v35,()),()),(v36,v37,()))))
def ybQ (x:(ybt).X):=yqO x.1.2.2.2.1.1 x.2.1.1.1 x.2.1.1.2.1 x.2.1.1.2.2.1 x.2.1.1.2.2.2.1 x.2.1.1.2.2.2.2.1 x.2.1.1.2.2.2.2.2.1 x.2.1.1.2.2.2.2.2.2.1 x.2.1.1.2.2.2.2.2.2.2.1 x.2.1.1.2.2.2.2.2.2.2.2.1 x.2.1.1.2.2.2.2.2.2.2.2.2.1 x.2.1.1.2.2.2.2.2.2.2.2.2.2.1 x.2.1.1.2.2.2.2.2.2.2.2.2.2.2.1 x.2.1.1.2.2.2.2.2.2.2.2.2.2.2.2.1 x.2.1.2.1.1 x.2.1.2.1.2.1 x.2.1.2.1.2.2.1 x.2.1.2.1.2.2.2.2.1 x.2.1.2.1.2.2.2.2.2.1 x.2.1.2.1.2.2.2.2.2.2.1 x.2.1.2.1.2.2.2.2.2.2.2.1 x.2.1.2.1.2.2.2.2.2.2.2.2.1 x.2.1.2.1.2.2.2.2.2.2.2.2.2.2.1 x.2.1.2.1.2.2.2.2.2.2.2.2.2.2.2.1 x.2.1.2.1.2.2.2.2.2.2.2.2.2.2.2.2.1 x.2.1.2.2.1.1 x.2.1.2.2.1.2.1 x.2.1.2.2.1.2.2.1 x.2.1.2.2.1.2.2.2.2.1 x.2.1.2.2.1.2.2.2.2.2.1 x.2.1.2.2.1.2.2.2.2.2.2.1 x.2.1.2.2.1.2.2.2.2.2.2.2.1 x.2.1.2.2.1.2.2.2.2.2.2.2.2.1 x.2.1.2.2.1.2.2.2.2.2.2.2.2.2.2.1 x.2.1.2.2.1.2.2.2.2.2.2.2.2.2.2.2.1 x.2.1.2.2.1.2.2.2.2.2.2.2.2.2.2.2.2.1 x.2.2.1 x.2.2.2.1
def yzA (x:(yfT).X):(ybt).X:=((((),()),((),()),((),()),(0,()),()),((x.2.1.1.1,x.2.1.1.2.1,x.2.1.1.2.2.1,x.2.1.1.2.2.2.1,x.2.1.1.2.2.2.2.1,x.2.1.1.2.2.2.2.2.1,x.2.1.1.2.2.2.2.2.2.1,x.2.1.1.2.2.2.2.2.2.2.1,x.2.1.1.2.2.2.2.2.2.2.2.1,x.2.1.1.2.2.2.2.2.2.2.2.2.1,x.2.1.1.2.2.2.2.2.2.2.2.2.2.1,x.2.1.1.2.2.2.2.2.2.2.2.2.2.2.1,x.2.1.1.2.2.2.2.2.2.2.2.2.2.2.2.1,()),(x.2.1.2.1.1,x.2.1.2.1.2.1,x.2.1.2.1.2.2.1,(),x.2.1.2.1.2.2.2.2.1,x.2.1.2.1.2.2.2.2.2.1,x.2.1.2.1.2.2.2.2.2.2.1,x.2.1.2.1.2.2.2.2.2.2.2.1,x.2.1.2.1.2.2.2.2.2.2.2.2.1,(),x.2.1.2.1.2.2.2.2.2.2.2.2.2.2.1,x.2.1.2.1.2.2.2.2.2.2.2.2.2.2.2.1,x.2.1.2.1.2.2.2.2.2.2.2.2.2.2.2.2.1,()),(x.2.1.2.2.1.1,x.2.1.2.2.1.2.1,x.2.1.2.2.1.2.2.1,(),x.2.1.2.2.1.2.2.2.2.1,x.2.1.2.2.1.2.2.2.2.2.1,x.2.1.2.2.1.2.2.2.2.2.2.1,x.2.1.2.2.1.2.2.2.2.2.2.2.1,x.2.1.2.2.1.2.2.2.2.2.2.2.2.1,(),x.2.1.2.2.1.2.2.2.2.2.2.2.2.2.2.1,x.2.1.2.2.1.2.2.2.2.2.2.2.2.2.2.2.1,x.2.1.2.2.1.2.2.2.2.2.2.2.2.2.2.2.2.1,()),()),(x.2.2.1,x.2.2.2.1,()))
def yBm:Code:=(zdI ydJ 64 1012).getD .skip
theorem yNR:zdI ydJ 64 253=some (.block 2 (.loop yBm)):=by kernel_rfl
theorem yPz (x:(ybt).X):zg7 ⟨yhy,57,yu4⟩ 2 yBm 1012 ybt yfL yj8 x=ybQ x:=by kernel_rfl
def yzQ (x:(yfT).X):Nat:=18446744073709551616
def yr3 (x:(yfT).X):Option ((yfL).X ⊕ (yj8).X):=zr ybQ (yzQ x) (yzA x)
def yAf:Seg:=⟨yfT,yfL,yj8,yr3⟩
def yFz:Nat→Option Seg:=fun q=>bif Nat.beq q 253 then some yAf else yu4 q
theorem yQ7:FrOk Tryz.prog ⟨yhy,57,yFz⟩ ydJ:=(yQ6).loop (sg:=yAf) ybt yzA (by decide) yNR ybQ yzQ (by decide) (fun _=>rfl) (fun x r _ h=>h) yPz
abbrev yhO:List Par:= [.rd tA]
abbrev ytw:List OT:= [⟨false,tA,(.pr .fz (.pr (.pr .fz .fz) (.pr (.ow (.pr (.ow .fz) (.pr (.ow (.pr .fz .fz)) (.pr .fz (.ow .fz))))) (.pr .fz (.pr .fz (.pr .fz (.pr .fz (.pr .fz (.pr (.ow (.pr .fz .fz)) (.pr .fz (.pr .fz .fz)))))))))))⟩]
def yps (a0:dA):Option (ResD ytw×MutD yhO) :=
 zjw (yt1 ((((),()),((),()),((),()),((),()),()),((a0.1,a0.2.1.1,a0.2.1.2,a0.2.2.1,a0.2.2.2.1,a0.2.2.2.2.1,a0.2.2.2.2.2.1,a0.2.2.2.2.2.2.1,a0.2.2.2.2.2.2.2.1,a0.2.2.2.2.2.2.2.2.1,a0.2.2.2.2.2.2.2.2.2.1,a0.2.2.2.2.2.2.2.2.2.2.1,a0.2.2.2.2.2.2.2.2.2.2.2,()),(0,0,0,(),0,0,0,0,0,(),0,false,false,()),(a0.1,a0.2.1.1,a0.2.1.2,(),a0.2.2.2.1,a0.2.2.2.2.1,a0.2.2.2.2.2.1,a0.2.2.2.2.2.2.1,a0.2.2.2.2.2.2.2.1,a0.2.2.2.2.2.2.2.2.1,a0.2.2.2.2.2.2.2.2.2.1,a0.2.2.2.2.2.2.2.2.2.2.1,a0.2.2.2.2.2.2.2.2.2.2.2,()),()),(([]:List dM),()))) (fun y2 =>
 zjw (yr3 ((((),()),((),()),((),()),((),()),()),((y2.2.1.1.1,y2.2.1.1.2.1,y2.2.1.1.2.2.1,y2.2.1.1.2.2.2.1,y2.2.1.1.2.2.2.2.1,y2.2.1.1.2.2.2.2.2.1,y2.2.1.1.2.2.2.2.2.2.1,y2.2.1.1.2.2.2.2.2.2.2.1,y2.2.1.1.2.2.2.2.2.2.2.2.1,y2.2.1.1.2.2.2.2.2.2.2.2.2.1,y2.2.1.1.2.2.2.2.2.2.2.2.2.2.1,y2.2.1.1.2.2.2.2.2.2.2.2.2.2.2.1,y2.2.1.1.2.2.2.2.2.2.2.2.2.2.2.2.1,()),(y2.2.1.2.1.1,y2.2.1.2.1.2.1,y2.2.1.2.1.2.2.1,(),y2.2.1.2.1.2.2.2.2.1,y2.2.1.2.1.2.2.2.2.2.1,y2.2.1.2.1.2.2.2.2.2.2.1,y2.2.1.2.1.2.2.2.2.2.2.2.1,y2.2.1.2.1.2.2.2.2.2.2.2.2.1,(),y2.2.1.2.1.2.2.2.2.2.2.2.2.2.2.1,y2.2.1.2.1.2.2.2.2.2.2.2.2.2.2.2.1,y2.2.1.2.1.2.2.2.2.2.2.2.2.2.2.2.2.1,()),(y2.2.1.2.2.1.1,y2.2.1.2.2.1.2.1,y2.2.1.2.2.1.2.2.1,(),y2.2.1.2.2.1.2.2.2.2.1,y2.2.1.2.2.1.2.2.2.2.2.1,y2.2.1.2.2.1.2.2.2.2.2.2.1,y2.2.1.2.2.1.2.2.2.2.2.2.2.1,y2.2.1.2.2.1.2.2.2.2.2.2.2.2.1,(),y2.2.1.2.2.1.2.2.2.2.2.2.2.2.2.2.1,y2.2.1.2.2.1.2.2.2.2.2.2.2.2.2.2.2.1,y2.2.1.2.2.1.2.2.2.2.2.2.2.2.2.2.2.2.1,()),()),(y2.2.2.1,([]:List dW),()))) (fun y3 =>
 some (((y3.2.1.2.1.1,(y3.2.1.2.1.2.1,y3.2.1.2.1.2.2.1),y3.2.2.1,y3.2.1.2.1.2.2.2.2.1,y3.2.1.2.1.2.2.2.2.2.1,y3.2.1.2.1.2.2.2.2.2.2.1,y3.2.1.2.1.2.2.2.2.2.2.2.1,y3.2.1.2.1.2.2.2.2.2.2.2.2.1,y3.2.2.2.1,y3.2.1.2.1.2.2.2.2.2.2.2.2.2.2.1,y3.2.1.2.1.2.2.2.2.2.2.2.2.2.2.2.1,y3.2.1.2.1.2.2.2.2.2.2.2.2.2.2.2.2.1),()),())) (fun y3 =>
 none)) (fun y2 =>
 none)
theorem y0F (x:InD yhO):zjH ⟨yhy,57,yFz⟩ Tryz.f103.results.toList ydJ yhO ytw x=yps x.1:=by kernel_rfl
theorem yWd:ConOk Tryz.prog 103 ⟨yhO,ytw,fun x=>yps x.1⟩:=zkh (yQ7) Tryz.func103 (by kernel_rfl) (by kernel_rfl) Tryz.ntmps103.symm (by decide) (fun x r h=>(y0F x).trans h)
def yfy (a0:dA):dA:=a0
theorem yYz (a0:dA) (hk:zi9 yhO (a0,())):yps a0=(fun n=>some ((n,()),())) (yfy a0):=by
 have hb:a0.2.2.1.length * 80≤2 ^ 47:=hk.1.2.2.1.1
 have hb2:a0.2.2.2.2.2.2.2.2.1.length * 32≤2 ^ 47:=hk.1.2.2.2.2.2.2.2.2.1.1
 have hc: ∀ i,i < a0.2.2.2.2.2.2.2.2.1.length→(a0.2.2.2.2.2.2.2.2.1.getD i (0,[])).2.length * 8≤2 ^ 47:=fun i hi=>by rw [zcq hi]; exact (hk.1.2.2.2.2.2.2.2.2.1.2 _ (List.getElem_mem hi)).2.1
 have h1:=zkk (step:=ycH) a0.2.2.1 yh (fun i s=>ysd i a0 ypa (a0.1,a0.2.1,s,a0.2.2.2)) (fun s x=>s++ [x]) (fun i s=>s.length=i) (fun s=> .inl (yOC a0 ypa (a0.1,a0.2.1,s,a0.2.2.2))) (fun i s hi hs=>⟨by
   simp only [ycH,ysd,ysx,zjI (show (i:Int) < a0.2.2.1.length by omega),cond_true,wr (show -9223372036854775808≤(i:Int)+1 by omega) (by omega),Int.natCast_add,Int.natCast_one,Int.toNat_natCast,zkO hi,zjW,yb2,zkV]
   rw [zkw.2 (show (s.length+ [a0.2.2.1.getD i ([],[],false,[])].length) * 80≤140737488355328 by simp only [List.length_cons,List.length_nil]; omega)]; rfl,by simp [hs]⟩) (fun s hs=>by simp only [ycH,ysd,ysx,zkm (Int.le_refl _),cond_false]) [] rfl 18446744073709551616 (by omega)
 have h2:=zkk (step:=ybQ) a0.2.2.2.2.2.2.2.2.1 (0,[]) (fun i s=>yqu i a0 ypa (a0.1,a0.2.1,a0.2.2.1,a0.2.2.2.1,a0.2.2.2.2.1,a0.2.2.2.2.2.1,a0.2.2.2.2.2.2.1,a0.2.2.2.2.2.2.2.1,s,a0.2.2.2.2.2.2.2.2.2)) (fun s x=>s++ [x]) (fun i s=>s.length=i) (fun s=> .inl (yMA ypa (a0.1,a0.2.1,a0.2.2.1,a0.2.2.2.1,a0.2.2.2.2.1,a0.2.2.2.2.2.1,a0.2.2.2.2.2.2.1,a0.2.2.2.2.2.2.2.1,s,a0.2.2.2.2.2.2.2.2.2))) (fun i s hi hs=>⟨by
   have:=hc i hi
   simp only [ybQ,yqu,yqO,zjI (show (i:Int) < a0.2.2.2.2.2.2.2.2.1.length by omega),cond_true,wr (show -9223372036854775808≤(i:Int)+1 by omega) (by omega),Int.natCast_add,Int.natCast_one,Int.toNat_natCast,zkO hi,zjW,List.nil_append,zkV]
   rw [zkw.2 (show (([]:List Int).length+(a0.2.2.2.2.2.2.2.2.1.getD i (0,[])).2.length) * 8≤140737488355328 by rw [List.length_nil]; omega),zkw.2 (show (s.length+ [a0.2.2.2.2.2.2.2.2.1.getD i (0,[])].length) * 32≤140737488355328 by simp only [List.length_cons,List.length_nil]; omega)]; rfl,by simp [hs]⟩) (fun s hs=>by simp only [ybQ,yqu,yqO,zkm (Int.le_refl _),cond_false]) [] rfl 18446744073709551616 (by omega)
 rw [yt9]at h1 h2
 unfold yps yfy
 rw [show yt1 (yOH a0 ypa (a0.1,a0.2.1,[],a0.2.2.2))=_ from h1,zkJ]
 refine (congrArg (fun z=>zjw z _ _) (show yr3 (yMI a0 ypa (a0.1,a0.2.1,a0.2.2.1,a0.2.2.2.1,a0.2.2.2.2.1,a0.2.2.2.2.2.1,a0.2.2.2.2.2.2.1,a0.2.2.2.2.2.2.2.1,[],a0.2.2.2.2.2.2.2.2.2))=_ from h2)).trans rfl
def ywc:Con:=⟨yhO,ytw,fun x=>(fun n=>some ((n,()),())) (yfy x.1)⟩
theorem yIv:ConOk Tryz.prog 103 ywc:=(yWd).mono (fun x r hk h=>(yYz x.1 hk).trans h)
end
section
def yG9:Code:=(Tryz.f208.body).getD .skip
def yHI:Env:=zki TT [(203,yGA),(261,yo6)] []
theorem yOy:FrOk Tryz.prog ⟨yHI,17,fun _=>none⟩ yG9:=zkp yb yc ⟨yZF,yya,trivial⟩
def yP0:Nat→Option Seg:=fun _=>none
abbrev yk3:List Par:= [.pt tA (.pr .fz (.pr (.pr .fz .fz) (.pr (.ow (.pr (.ow .fz) (.pr (.ow (.pr .fz .fz)) (.pr .fz (.ow .fz))))) (.pr .fz (.pr .fz (.pr .fz (.pr .fz (.pr .fz (.pr (.ow (.pr .fz .fz)) (.pr .fz (.pr .fz .fz)))))))))))]
abbrev yrl:List OT:= []
def yux (a0:dA):Option (ResD yrl×MutD yk3) :=
 let r1:=ydO a0
 bif r1.2.2.2.2.2.2.2.2.2.2.1 then
 some ((),(r1,()))
 else
 let r2:=yhW (r1.1,r1.2.1,r1.2.2.1,r1.2.2.2.1,r1.2.2.2.2.1,r1.2.2.2.2.2.1,r1.2.2.2.2.2.1,r1.2.2.2.2.2.2.2)
 some ((),(r2,()))
theorem yXR (x:InD yk3):zjH ⟨yHI,17,yP0⟩ Tryz.f208.results.toList yG9 yk3 yrl x=yux x.1:=by kernel_rfl
theorem ySx:ConOk Tryz.prog 208 ⟨yk3,yrl,fun x=>yux x.1⟩:=zkh (yOy) Tryz.func208 (by kernel_rfl) (by kernel_rfl) Tryz.ntmps208.symm (by decide) (fun x r h=>(yXR x).trans h)
def yly (a0:dA):dA :=
 let r1:=ydO a0
 bif r1.2.2.2.2.2.2.2.2.2.2.1 then
 r1
 else
 let r2:=yhW (r1.1,r1.2.1,r1.2.2.1,r1.2.2.2.1,r1.2.2.2.2.1,r1.2.2.2.2.2.1,r1.2.2.2.2.2.1,r1.2.2.2.2.2.2.2)
 r2
def yDM:Con:=⟨yk3,yrl,fun x=>(fun n=>some ((),(n,()))) (yly x.1)⟩
theorem yVH (a0:dA):yux a0=(fun n=>some ((),(n,()))) (yly a0):=zkS (p:=fun (n:dA)=>((),(n,()))) (zkx (p:=fun (n:dA)=>((),(n,()))) rfl rfl)
theorem yWC:ConOk Tryz.prog 208 yDM:=(ySx).mono (fun x r _ h=>(yVH x.1).trans h)
theorem y1S (a:dA):yly a=yv a:=by
 unfold yly yv ydO yhW
 show (bif yd (yz a) then yz a else ygd (ynG (yz a)))=_
 rfl
end
section
def yJo:Code:=(Tryz.f271.body).getD .skip
def yJN:Env:=zki TT [(239,yH3)] []
theorem yQZ:FrOk Tryz.prog ⟨yJN,18,fun _=>none⟩ yJo:=zkp yb yc ⟨y1K,trivial⟩
def yTu:Nat→Option Seg:=fun _=>none
abbrev yhM:List Par:= [.rd tN]
abbrev yts:List OT:= [⟨false,tL,(.ow .fz)⟩]
def ypq (a0:dN):Option (ResD yts×MutD yhM) :=
 let r1:=ya3 a0
 bif (!r1) then
 some ((([]:List Int),()),())
 else
 bif (zj4 ([21322,a0.1,a0.2.1,(a0.2.2.length:Int)]:List Int).length a0.2.2.length 8) then
 some (((([21322,a0.1,a0.2.1,(a0.2.2.length:Int)]:List Int)++a0.2.2),()),())
 else none
theorem y0B (x:InD yhM):zjH ⟨yJN,18,yTu⟩ Tryz.f271.results.toList yJo yhM yts x=ypq x.1:=by kernel_rfl
theorem yV9:ConOk Tryz.prog 271 ⟨yhM,yts,fun x=>ypq x.1⟩:=zkh (yQZ) Tryz.func271 (by kernel_rfl) (by kernel_rfl) Tryz.ntmps271.symm (by decide) (fun x r h=>(y0B x).trans h)
def ynA (a0:dN):List Int:=yz1 a0
theorem yYv (a0:dN) (hk:zi9 yhM (a0,())):ypq a0=(fun n=>some ((n,()),())) (ynA a0):=by
 unfold ypq ynA yz1
 cases hr:ya3 a0
 ·rfl
 ·have:=(yZ4.1 hr).2.2.1
  rw [zkw.2 (show (([21322,a0.1,a0.2.1,(a0.2.2.length:Int)]:List Int).length+a0.2.2.length) * 8≤140737488355328 by simp only [List.length_cons,List.length_nil]; omega)]; rfl
def yGr:Con:=⟨yhM,yts,fun x=>(fun n=>some ((n,()),())) (ynA x.1)⟩
theorem yZw:ConOk Tryz.prog 271 yGr:=(yV9).mono (fun x r hk h=>(yYv x.1 hk).trans h)
end
section
def ypG:Code:=(Tryz.f229.body).getD .skip
def yvc:Env:=zki TT [(160,yGs),(207,yrp),(261,yo6),(271,yGr)] []
theorem yU1:FrOk Tryz.prog ⟨yvc,24,fun _=>none⟩ ypG:=zkp yb yc ⟨yZx,yAv,yya,yZw,trivial⟩
def yHu:Nat→Option Seg:=fun _=>none
def yc0:Shape:=⟨[(0,false,[.ptr 1000000000 0]),(3,false,[.ptr 0 0]),(4,false,[.int .i64])],[(0,[.int .i64,.int .i64,.br tI]),(1000000000,[.int .i64,.int .i64,.int .i64,.at 800000000,.int .i64,.int .i64,.int .i64,.int .i64,.int .i64,.at 800000001,.int .i64,.bool,.bool])],[(800000000,tM,(.pr (.ow .fz) (.pr (.ow (.pr .fz .fz)) (.pr .fz (.ow .fz))))),(800000001,tW,(.pr .fz .fz))]⟩
def yiO:Shape:=⟨[(0,false,[.ptr 1000000000 0]),(3,false,[.ptr 0 0]),(4,false,[.ci .i64 0])],[(0,[.int .i64,.int .i64,.br tI]),(1000000000,[.int .i64,.int .i64,.int .i64,.at 800000000,.int .i64,.int .i64,.int .i64,.int .i64,.int .i64,.at 800000001,.int .i64,.bool,.bool])],[(800000000,tM,(.pr (.ow .fz) (.pr (.ow (.pr .fz .fz)) (.pr .fz (.ow .fz))))),(800000001,tW,(.pr .fz .fz))]⟩
def yiv:Shape:=⟨[(0,false,[.ptr 1000000000 0])],[(1000000000,[.int .i64,.int .i64,.int .i64,.at 800000000,.int .i64,.int .i64,.int .i64,.int .i64,.int .i64,.at 800000001,.int .i64,.bool,.bool])],[(800000000,tM,(.pr (.ow .fz) (.pr (.ow (.pr .fz .fz)) (.pr .fz (.ow .fz))))),(800000001,tW,(.pr .fz .fz))]⟩
def yoZ:Shape:=⟨[],[],[]⟩
abbrev yul (v0:Int) (v1:dN) (v2:dA):(yc0).X:=((((),()),((),()),(v0,()),()),((v1.1,v1.2.1,v1.2.2,()),(v2.1,v2.2.1.1,v2.2.1.2,(),v2.2.2.2.1,v2.2.2.2.2.1,v2.2.2.2.2.2.1,v2.2.2.2.2.2.2.1,v2.2.2.2.2.2.2.2.1,(),v2.2.2.2.2.2.2.2.2.2.1,v2.2.2.2.2.2.2.2.2.2.2.1,v2.2.2.2.2.2.2.2.2.2.2.2,()),()),(v2.2.2.1,v2.2.2.2.2.2.2.2.2.1,()))
abbrev yRF (v0:dN) (v1:dA):(yiO).X:=((((),()),((),()),((),()),()),((v0.1,v0.2.1,v0.2.2,()),(v1.1,v1.2.1.1,v1.2.1.2,(),v1.2.2.2.1,v1.2.2.2.2.1,v1.2.2.2.2.2.1,v1.2.2.2.2.2.2.1,v1.2.2.2.2.2.2.2.1,(),v1.2.2.2.2.2.2.2.2.2.1,v1.2.2.2.2.2.2.2.2.2.2.1,v1.2.2.2.2.2.2.2.2.2.2.2,()),()),(v1.2.2.1,v1.2.2.2.2.2.2.2.2.1,()))
abbrev yEs (v0:dA):(yiv).X:=((((),()),()),((v0.1,v0.2.1.1,v0.2.1.2,(),v0.2.2.2.1,v0.2.2.2.2.1,v0.2.2.2.2.2.1,v0.2.2.2.2.2.2.1,v0.2.2.2.2.2.2.2.1,(),v0.2.2.2.2.2.2.2.2.2.1,v0.2.2.2.2.2.2.2.2.2.2.1,v0.2.2.2.2.2.2.2.2.2.2.2,()),()),(v0.2.2.1,v0.2.2.2.2.2.2.2.2.1,()))
def yuL (v0 v1 v2:Int) (v3:List Int) (v4 v5 v6 v7 v8 v9 v10 v11 v12:Int) (v13 v14:Bool) (v15:List dM) (v16:List dW):Option ((yc0).X ⊕ ((yiv).X ⊕ (yoZ).X)) :=
 bif (ltb v0 (v15.length:Int)) then
 let r4:=ydN v1
 let r5:=ynA (v1,v2,v3)
 bnd (yg9 (v4,(v5,v6),v15,v7,v8,v9,v10,v11,v16,v12,v13,v14) v0 r4 r5) fun r6 =>
 some (.inl ((((),()),((),()),((IntKind.i64.wrap (v0+1)),()),()),((v1,v2,v3,()),(r6.2.1.1,r6.2.1.2.1.1,r6.2.1.2.1.2,(),r6.2.1.2.2.2.1,r6.2.1.2.2.2.2.1,r6.2.1.2.2.2.2.2.1,r6.2.1.2.2.2.2.2.2.1,r6.2.1.2.2.2.2.2.2.2.1,(),r6.2.1.2.2.2.2.2.2.2.2.2.1,r6.2.1.2.2.2.2.2.2.2.2.2.2.1,r6.2.1.2.2.2.2.2.2.2.2.2.2.2,()),()),(r6.2.1.2.2.1,r6.2.1.2.2.2.2.2.2.2.2.1,())))
 else
 some (.inr (.inl ((((),()),()),((v4,v5,v6,(),v7,v8,v9,v10,v11,(),v12,v13,v14,()),()),(v15,v16,()))))
def ydF (x:(yc0).X):=yuL x.1.2.2.1.1 x.2.1.1.1 x.2.1.1.2.1 x.2.1.1.2.2.1 x.2.1.2.1.1 x.2.1.2.1.2.1 x.2.1.2.1.2.2.1 x.2.1.2.1.2.2.2.2.1 x.2.1.2.1.2.2.2.2.2.1 x.2.1.2.1.2.2.2.2.2.2.1 x.2.1.2.1.2.2.2.2.2.2.2.1 x.2.1.2.1.2.2.2.2.2.2.2.2.1 x.2.1.2.1.2.2.2.2.2.2.2.2.2.2.1 x.2.1.2.1.2.2.2.2.2.2.2.2.2.2.2.1 x.2.1.2.1.2.2.2.2.2.2.2.2.2.2.2.2.1 x.2.2.1 x.2.2.2.1
def yD1 (x:(yiO).X):(yc0).X:=((((),()),((),()),(0,()),()),((x.2.1.1.1,x.2.1.1.2.1,x.2.1.1.2.2.1,()),(x.2.1.2.1.1,x.2.1.2.1.2.1,x.2.1.2.1.2.2.1,(),x.2.1.2.1.2.2.2.2.1,x.2.1.2.1.2.2.2.2.2.1,x.2.1.2.1.2.2.2.2.2.2.1,x.2.1.2.1.2.2.2.2.2.2.2.1,x.2.1.2.1.2.2.2.2.2.2.2.2.1,(),x.2.1.2.1.2.2.2.2.2.2.2.2.2.2.1,x.2.1.2.1.2.2.2.2.2.2.2.2.2.2.2.1,x.2.1.2.1.2.2.2.2.2.2.2.2.2.2.2.2.1,()),()),(x.2.2.1,x.2.2.2.1,()))
def yGa:Code:=(zdI ypG 64 52).getD .skip
theorem yTN:zdI ypG 64 13=some (.block 0 (.loop yGa)):=by kernel_rfl
theorem yWV (x:(yc0).X):zg7 ⟨yvc,24,yHu⟩ 0 yGa 52 yc0 yiv yoZ x=ydF x:=by kernel_rfl
def yEi (x:(yiO).X):Nat:=18446744073709551616
def yvs (x:(yiO).X):Option ((yiv).X ⊕ (yoZ).X):=zr ydF (yEi x) (yD1 x)
def yET:Seg:=⟨yiO,yiv,yoZ,yvs⟩
def yHv:Nat→Option Seg:=fun q=>bif Nat.beq q 13 then some yET else yHu q
theorem yU2:FrOk Tryz.prog ⟨yvc,24,yHv⟩ ypG:=(yU1).loop (sg:=yET) yc0 yD1 (by decide) yTN ydF yEi (by decide) (fun _=>rfl) (fun x r _ h=>h) yWV
abbrev yk4:List Par:= [.pt tA (.pr .fz (.pr (.pr .fz .fz) (.pr (.ow (.pr (.ow .fz) (.pr (.ow (.pr .fz .fz)) (.pr .fz (.ow .fz))))) (.pr .fz (.pr .fz (.pr .fz (.pr .fz (.pr .fz (.pr (.ow (.pr .fz .fz)) (.pr .fz (.pr .fz .fz))))))))))),.rd tN]
abbrev yvX:List OT:= []
def yrM (a0:dA) (a1:dN):Option (ResD yvX×MutD yk4) :=
 zjw (yvs ((((),()),((),()),((),()),()),((a1.1,a1.2.1,a1.2.2,()),(a0.1,a0.2.1.1,a0.2.1.2,(),a0.2.2.2.1,a0.2.2.2.2.1,a0.2.2.2.2.2.1,a0.2.2.2.2.2.2.1,a0.2.2.2.2.2.2.2.1,(),a0.2.2.2.2.2.2.2.2.2.1,a0.2.2.2.2.2.2.2.2.2.2.1,a0.2.2.2.2.2.2.2.2.2.2.2,()),()),(a0.2.2.1,a0.2.2.2.2.2.2.2.2.1,()))) (fun y6 =>
 let r8:=ydO (y6.2.1.1.1,(y6.2.1.1.2.1,y6.2.1.1.2.2.1),y6.2.2.1,y6.2.1.1.2.2.2.2.1,y6.2.1.1.2.2.2.2.2.1,y6.2.1.1.2.2.2.2.2.2.1,y6.2.1.1.2.2.2.2.2.2.2.1,y6.2.1.1.2.2.2.2.2.2.2.2.1,y6.2.2.2.1,y6.2.1.1.2.2.2.2.2.2.2.2.2.2.1,y6.2.1.1.2.2.2.2.2.2.2.2.2.2.2.1,y6.2.1.1.2.2.2.2.2.2.2.2.2.2.2.2.1)
 some ((),(r8,()))) (fun y6 =>
 none)
theorem y2z (x:InD yk4):zjH ⟨yvc,24,yHv⟩ Tryz.f229.results.toList ypG yk4 yvX x=yrM x.1 x.2.1:=by kernel_rfl
theorem yZd:ConOk Tryz.prog 229 ⟨yk4,yvX,fun x=>yrM x.1 x.2.1⟩:=zkh (yU2) Tryz.func229 (by kernel_rfl) (by kernel_rfl) Tryz.ntmps229.symm (by decide) (fun x r h=>(y2z x).trans h)
def ylz (a0:dA) (a1:dN):dA:=yao a0 a1
theorem y1k (a0:dA) (a1:dN) (hk:zi9 yk4 (a0,a1,())):yrM a0 a1=(fun n=>some ((),(n,()))) (ylz a0 a1):=by
 have hb:a0.2.2.1.length * 80≤2 ^ 47:=hk.1.2.2.1.1
 have h1:yvs (yRF a1 a0)=some (.inl (yEs ((List.range a0.2.2.1.length).foldl (yga a1) a0))) :=
  zks (step:=ydF) a0.2.2.1.length (fun i s=>yul i a1 s) (yga a1) (fun _ s=>s.2.2.1.length=a0.2.2.1.length) (fun s=> .inl (yEs s)) (fun i s hi hs=>⟨by
   simp only [ydF,yul,yuL,hs,zjI (show (i:Int) < a0.2.2.1.length by omega),cond_true,wr (show -9223372036854775808≤(i:Int)+1 by omega) (by omega),Int.natCast_add,Int.natCast_one,Int.toNat_natCast,zkV,ynA]
   rw [ytN s i (ydN a1.1) (yz1 a1) (zkO (by rw [hs]; exact hi))]
   rfl,(yCE a1 s i).trans hs⟩) (fun s hs=>by simp only [ydF,yul,yuL,hs,zkm (Int.le_refl _),cond_false]) a0 rfl _ (by show _ < 18446744073709551616; omega)
 unfold yrM ylz yao
 exact (congrArg (fun z=>zjw z _ _) h1).trans rfl
def yH6:Con:=⟨yk4,yvX,fun x=>(fun n=>some ((),(n,()))) (ylz x.1 x.2.1)⟩
theorem y1N:ConOk Tryz.prog 229 yH6:=(yZd).mono (fun x r hk h=>(y1k x.1 x.2.1 hk).trans h)
end
end
end Go.Tf
