/- Functions of the program, and what they come to. -/
import Derived.Test.YtolmneojjjpnjaaGreatBuiltF3
namespace Go.Tf
noncomputable section
open Go.Proofs Go.Proofs.Tryz IntKind
set_option synthInstance.maxHeartbeats 400000
set_option synthInstance.maxSize 10000
set_option linter.unusedVariables false
set_option linter.unusedSimpArgs false
set_option maxRecDepth 100000
def yR6:Code:=(f184.body).getD .skip
def ySz:Env:=zkw TT [(81,yO)] []
theorem yIV:FrOk prog ⟨ySz,10,fun _=>none⟩ yR6:=zkA mixed ye ⟨yX,trivial⟩
abbrev ynE:List Par:= [.rd tI]
abbrev yvk:List OT:= [⟨false,tM,(.pr (.ow (.ow .fz)) (.pr (.ow (.pr .fz (.ow .fz))) (.pr .fz (.ow .fz))))⟩]
def yq8 (a0:Int):Option (zaY yvk×zak ynE) :=let r1:=yg a0 1 20;bif(!r1)then some ((([],[],false,[]),()),()) else bif(zks a0 24)then some ((((List.replicate (a0).toNat ([]:List Int)),[],false,[]),()),()) else none
theorem yNL:ConOk prog 184 ⟨ynE,yvk,fun x=>yq8 x.1⟩:=zkI (yIV) func184 ntmps184.symm fun x=>by kernel_rfl
def yjm (a0:Int):dM:=ybd a0
theorem yP7 (a0:Int) (hk:zjx ynE (a0,())):yq8 a0=(fun n=>some ((n,()),())) (yjm a0):=by
 unfold yq8 yjm ybd;simp only[yan,ycN];cases hc:(leb 1 a0&&leb a0 20)
 ·rfl
 ·rw[Bool.and_eq_true,zj7,zj7]at hc
  rw[zkM.2 (show 0≤a0∧a0*((24:Nat):Int)≤140737488355328 by omega)]; rfl
def yAM:Con:=⟨ynE,yvk,fun x=>(fun n=>some ((n,()),())) (yjm x.1)⟩
theorem yQ1:ConOk prog 184 yAM:=(yNL).mono (fun x r hk h=>(yP7 x.1 hk).trans h)
def yTR:Code:=(f121.body).getD .skip
def yT4:Env:=zkw TT [(55,ycj),(95,yft),(107,yeP),(128,yoi),(131,yqC),(184,yAM)] []
theorem yMo:FrOk prog ⟨yT4,55,fun _=>none⟩ yTR:=zkA mixed ye ⟨yer,ykH,yiT,yBg,yCQ,yQ1,trivial⟩
abbrev ypV:List Par:= [.rd tA]
abbrev yx5:List OT:= [⟨false,tA,(.pr .fz (.pr (.pr .fz .fz) (.pr (.ow (.pr (.ow (.ow .fz)) (.pr (.ow (.pr .fz (.ow .fz))) (.pr .fz (.ow .fz))))) (.pr .fz (.pr .fz (.pr .fz (.pr .fz (.pr .fz (.pr (.ow (.pr .fz (.ow .fz))) (.pr .fz (.pr .fz .fz)))))))))))⟩,⟨false,tI,.fz⟩]
def ytf (a0:dA):Option (zaY yx5×zak ypV) :=let r1:=yaD a0;let r2:=yT a0;bif(!r2)then some ((r1,1,()),()) else bif a0.2.2.2.2.2.2.2.2.2.2.1 then some ((r1,6,()),()) else bif(!(a0.2.2.2.1==(-1)))then bif(inb a0.2.2.2.1 a0.2.2.1.length)then bif(!((((nth a0.2.2.1 a0.2.2.2.1 ([],[],false,[])).2).2).1))then some ((r1,2,()),()) else bif a0.2.2.2.2.2.2.2.2.2.2.2 then some ((r1,5,()),()) else bif(leb 59990 a0.2.2.2.2.2.2.2.1)then some ((r1,7,()),()) else let r3:=ye2 a0.2.1;let r4:=yjm r3;bif(inb a0.2.2.2.1 r1.2.2.1.length)then bnd (yV (r1.1,r1.2.1,(r1.2.2.1.set (a0.2.2.2.1).toNat r4),r1.2.2.2.1,0,r1.2.2.2.2.2)) fun r5 =>let r6:=yeo r5.1.1;some ((r5.2.1,r6,()),()) else none else none else some ((r1,2,()),())
theorem yQE:ConOk prog 121 ⟨ypV,yx5,fun x=>ytf x.1⟩:=zkI (yMo) func121 ntmps121.symm fun x=>by kernel_rfl
def yll (a0:dA):dA×Int:=yas a0
theorem yS2 (a0:dA) (hk:zjx ypV (a0,())):ytf a0=(fun n=>some ((n.1,n.2,()),())) (yll a0):=by
 unfold ytf yll yas;simp only[yaD,yT];cases ha:yR a0
 ·rfl
 have hg:=yl.1 (yd1 ha);cases hd:ya a0
 ·rw[show a0.2.2.2.2.2.2.2.2.2.2.1=false from hd]
  cases hl:(a0.2.2.2.1== -1)
  ·have hi:=yPZ ha (beq_eq_false_iff_ne.1 hl)
   have hm:yV (ym a0)=some ((!(ya (yj (ym a0))),()),(yj (ym a0),())):=yiU (ym a0) (by unfold ybI; rw[show ya (ym a0)=ya a0 from rfl,hd]; rfl);simp only[ye2,wq (6+a0.2.1.2) (by omega) (by omega),hi,yjm];rw[show yV (a0.1,a0.2.1,a0.2.2.1.set a0.2.2.2.1.toNat (ybd (6+a0.2.1.2)),a0.2.2.2.1,0,a0.2.2.2.2.2)=_ from hm];simp only[zkH,yeo];cases(nth a0.2.2.1 a0.2.2.2.1 yf).2.2.1<;>cases a0.2.2.2.2.2.2.2.2.2.2.2<;>cases leb 59990 a0.2.2.2.2.2.2.2.1<;>first | rfl | (cases ya (yj (ym a0))<;>rfl)
  ·rfl
 ·rw[show a0.2.2.2.2.2.2.2.2.2.2.1=true from hd]; rfl
def yCp:Con:=⟨ypV,yx5,fun x=>(fun n=>some ((n.1,n.2,()),())) (yll x.1)⟩
theorem yTq:ConOk prog 121 yCp:=(yQE).mono (fun x r hk h=>(yS2 x.1 hk).trans h)
def yjW:Code:=(f46.body).getD .skip
def ypv:Env:=zkw TT [(63,ytX),(64,yCo),(121,yCp)] []
theorem yEM:FrOk prog ⟨ypv,34,fun _=>none⟩ yjW:=zkA mixed ye ⟨yHR,yTp,yTq,trivial⟩
def yv3:Nat→Option Seg:=fun _=>none
def ya6:Shape:=⟨[(2,false,[.ptr 64 0]),(4,false,[.ptr 4416 0]),(5,false,[.int .i64])],[(64,[.int .i64,.int .i64,.int .i64,.nil,.int .i64,.int .i64,.int .i64,.int .i64,.int .i64,.nil,.int .i64,.bool,.bool]),(4416,[.int .i64,.int .i64,.int .i64,.at 800000000,.int .i64,.int .i64,.int .i64,.int .i64,.int .i64,.at 800000001,.int .i64,.bool,.bool])],[(800000000,tM,(.pr (.ow (.ow .fz)) (.pr (.ow (.pr .fz (.ow .fz))) (.pr .fz (.ow .fz))))),(800000001,tW,(.pr .fz (.ow .fz)))]⟩
def ydR:Shape:=⟨[(2,false,[.ptr 64 0]),(4,false,[.ptr 4416 0]),(5,false,[.int .i64])],[(64,[.int .i64,.int .i64,.int .i64,.nil,.int .i64,.int .i64,.int .i64,.int .i64,.int .i64,.nil,.int .i64,.bool,.bool]),(4416,[.int .i64,.int .i64,.int .i64,.at 800000000,.int .i64,.int .i64,.int .i64,.int .i64,.int .i64,.at 800000001,.int .i64,.bool,.bool])],[(800000000,tM,(.pr (.ow (.ow .fz)) (.pr (.ow (.pr .fz (.ow .fz))) (.pr .fz (.ow .fz))))),(800000001,tW,(.pr .fz (.ow .fz)))]⟩
def ydJ:Shape:=⟨[(2,false,[.ptr 64 0]),(4,false,[.ptr 4416 0]),(5,false,[.int .i64])],[(64,[.int .i64,.int .i64,.int .i64,.nil,.int .i64,.int .i64,.int .i64,.int .i64,.int .i64,.nil,.int .i64,.bool,.bool]),(4416,[.int .i64,.int .i64,.int .i64,.at 800000000,.int .i64,.int .i64,.int .i64,.int .i64,.int .i64,.at 800000001,.int .i64,.bool,.bool])],[(800000000,tM,(.pr (.ow (.ow .fz)) (.pr (.ow (.pr .fz (.ow .fz))) (.pr .fz (.ow .fz))))),(800000001,tW,(.pr .fz (.ow .fz)))]⟩
def ygG:Shape:=⟨[],[],[]⟩
abbrev ybK (v0:Int) (v1 v2:dA):(ya6).X:=((((),()),((),()),(v0,()),()),((v1.1,v1.2.1.1,v1.2.1.2,(),v1.2.2.2.1,v1.2.2.2.2.1,v1.2.2.2.2.2.1,v1.2.2.2.2.2.2.1,v1.2.2.2.2.2.2.2.1,(),v1.2.2.2.2.2.2.2.2.2.1,v1.2.2.2.2.2.2.2.2.2.2.1,v1.2.2.2.2.2.2.2.2.2.2.2,()),(v2.1,v2.2.1.1,v2.2.1.2,(),v2.2.2.2.1,v2.2.2.2.2.1,v2.2.2.2.2.2.1,v2.2.2.2.2.2.2.1,v2.2.2.2.2.2.2.2.1,(),v2.2.2.2.2.2.2.2.2.2.1,v2.2.2.2.2.2.2.2.2.2.2.1,v2.2.2.2.2.2.2.2.2.2.2.2,()),()),(v2.2.2.1,v2.2.2.2.2.2.2.2.2.1,()))
abbrev yrR (v0:Int) (v1 v2:dA):(ydR).X:=((((),()),((),()),(v0,()),()),((v1.1,v1.2.1.1,v1.2.1.2,(),v1.2.2.2.1,v1.2.2.2.2.1,v1.2.2.2.2.2.1,v1.2.2.2.2.2.2.1,v1.2.2.2.2.2.2.2.1,(),v1.2.2.2.2.2.2.2.2.2.1,v1.2.2.2.2.2.2.2.2.2.2.1,v1.2.2.2.2.2.2.2.2.2.2.2,()),(v2.1,v2.2.1.1,v2.2.1.2,(),v2.2.2.2.1,v2.2.2.2.2.1,v2.2.2.2.2.2.1,v2.2.2.2.2.2.2.1,v2.2.2.2.2.2.2.2.1,(),v2.2.2.2.2.2.2.2.2.2.1,v2.2.2.2.2.2.2.2.2.2.2.1,v2.2.2.2.2.2.2.2.2.2.2.2,()),()),(v2.2.2.1,v2.2.2.2.2.2.2.2.2.1,()))
abbrev yrN (v0:Int) (v1 v2:dA):(ydJ).X:=((((),()),((),()),(v0,()),()),((v1.1,v1.2.1.1,v1.2.1.2,(),v1.2.2.2.1,v1.2.2.2.2.1,v1.2.2.2.2.2.1,v1.2.2.2.2.2.2.1,v1.2.2.2.2.2.2.2.1,(),v1.2.2.2.2.2.2.2.2.2.1,v1.2.2.2.2.2.2.2.2.2.2.1,v1.2.2.2.2.2.2.2.2.2.2.2,()),(v2.1,v2.2.1.1,v2.2.1.2,(),v2.2.2.2.1,v2.2.2.2.2.1,v2.2.2.2.2.2.1,v2.2.2.2.2.2.2.1,v2.2.2.2.2.2.2.2.1,(),v2.2.2.2.2.2.2.2.2.2.1,v2.2.2.2.2.2.2.2.2.2.2.1,v2.2.2.2.2.2.2.2.2.2.2.2,()),()),(v2.2.2.1,v2.2.2.2.2.2.2.2.2.1,()))
def ydl (v0 v1 v2 v3 v4 v5 v6 v7 v8 v9:Int) (v10 v11:Bool) (v12 v13 v14 v15 v16 v17 v18 v19 v20:Int) (v21 v22:Bool) (v23:List dM) (v24:List dW):Option ((ya6).X ⊕ ((ydJ).X ⊕ (ygG).X)) :=bif(v0==0)then bif(ltb v16 v14)then let r3:=yfy (v12,(v13,v14),v23,v15,v16,v17,v18,v19,v24,v20,v21,v22);some (.inl ((((),()),((),()),(r3.2,()),()),((v1,v2,v3,(),v4,v5,v6,v7,v8,(),v9,v10,v11,()),(r3.1.1,r3.1.2.1.1,r3.1.2.1.2,(),r3.1.2.2.2.1,r3.1.2.2.2.2.1,r3.1.2.2.2.2.2.1,r3.1.2.2.2.2.2.2.1,r3.1.2.2.2.2.2.2.2.1,(),r3.1.2.2.2.2.2.2.2.2.2.1,r3.1.2.2.2.2.2.2.2.2.2.2.1,r3.1.2.2.2.2.2.2.2.2.2.2.2,()),()),(r3.1.2.2.1,r3.1.2.2.2.2.2.2.2.2.1,()))) else some (.inr (.inl ((((),()),((),()),(v0,()),()),((v1,v2,v3,(),v4,v5,v6,v7,v8,(),v9,v10,v11,()),(v12,v13,v14,(),v15,v16,v17,v18,v19,(),v20,v21,v22,()),()),(v23,v24,())))) else some (.inr (.inl ((((),()),((),()),(v0,()),()),((v1,v2,v3,(),v4,v5,v6,v7,v8,(),v9,v10,v11,()),(v12,v13,v14,(),v15,v16,v17,v18,v19,(),v20,v21,v22,()),()),(v23,v24,()))))
def yah (x:(ya6).X):=ydl x.1.2.2.1.1 x.2.1.1.1 x.2.1.1.2.1 x.2.1.1.2.2.1 x.2.1.1.2.2.2.2.1 x.2.1.1.2.2.2.2.2.1 x.2.1.1.2.2.2.2.2.2.1 x.2.1.1.2.2.2.2.2.2.2.1 x.2.1.1.2.2.2.2.2.2.2.2.1 x.2.1.1.2.2.2.2.2.2.2.2.2.2.1 x.2.1.1.2.2.2.2.2.2.2.2.2.2.2.1 x.2.1.1.2.2.2.2.2.2.2.2.2.2.2.2.1 x.2.1.2.1.1 x.2.1.2.1.2.1 x.2.1.2.1.2.2.1 x.2.1.2.1.2.2.2.2.1 x.2.1.2.1.2.2.2.2.2.1 x.2.1.2.1.2.2.2.2.2.2.1 x.2.1.2.1.2.2.2.2.2.2.2.1 x.2.1.2.1.2.2.2.2.2.2.2.2.1 x.2.1.2.1.2.2.2.2.2.2.2.2.2.2.1 x.2.1.2.1.2.2.2.2.2.2.2.2.2.2.2.1 x.2.1.2.1.2.2.2.2.2.2.2.2.2.2.2.2.1 x.2.2.1 x.2.2.2.1
def yrx (x:(ydR).X):(ya6).X:=((((),()),((),()),(x.1.2.2.1.1,()),()),((x.2.1.1.1,x.2.1.1.2.1,x.2.1.1.2.2.1,(),x.2.1.1.2.2.2.2.1,x.2.1.1.2.2.2.2.2.1,x.2.1.1.2.2.2.2.2.2.1,x.2.1.1.2.2.2.2.2.2.2.1,x.2.1.1.2.2.2.2.2.2.2.2.1,(),x.2.1.1.2.2.2.2.2.2.2.2.2.2.1,x.2.1.1.2.2.2.2.2.2.2.2.2.2.2.1,x.2.1.1.2.2.2.2.2.2.2.2.2.2.2.2.1,()),(x.2.1.2.1.1,x.2.1.2.1.2.1,x.2.1.2.1.2.2.1,(),x.2.1.2.1.2.2.2.2.1,x.2.1.2.1.2.2.2.2.2.1,x.2.1.2.1.2.2.2.2.2.2.1,x.2.1.2.1.2.2.2.2.2.2.2.1,x.2.1.2.1.2.2.2.2.2.2.2.2.1,(),x.2.1.2.1.2.2.2.2.2.2.2.2.2.2.1,x.2.1.2.1.2.2.2.2.2.2.2.2.2.2.2.1,x.2.1.2.1.2.2.2.2.2.2.2.2.2.2.2.2.1,()),()),(x.2.2.1,x.2.2.2.1,()))
def ytN:Code:=(zd7 yjW 64 56).getD .skip
theorem yEs:zd7 yjW 64 14=some (.block 0 (.loop ytN)):=by kernel_rfl
theorem yFO (x:(ya6).X):zhu ⟨ypv,34,yv3⟩ 0 ytN 56 ya6 ydJ ygG x=yah x:=by kernel_rfl
def yrG (x:(ydR).X):Nat:=18446744073709551616
def yf4 (x:(ydR).X):Option ((ydJ).X ⊕ (ygG).X):=zF yah (yrG x) (yrx x)
def yrW:Seg:=⟨ydR,ydJ,ygG,yf4⟩
def yGe:Nat→Option Seg:=fun q=>bif Nat.beq q 14 then some yrW else yv3 q
theorem yEN:FrOk prog ⟨ypv,34,yGe⟩ yjW:=(yEM).loop (sg:=yrW) ya6 yrx (by decide) yEs yah yrG (by decide) (fun _=>rfl) (fun x r _ h=>h) yFO
abbrev yj4:List Par:= [.rd tA]
abbrev yqb:List OT:= [⟨false,tA,(.pr .fz (.pr (.pr .fz .fz) (.pr (.ow (.pr (.ow (.ow .fz)) (.pr (.ow (.pr .fz (.ow .fz))) (.pr .fz (.ow .fz))))) (.pr .fz (.pr .fz (.pr .fz (.pr .fz (.pr .fz (.pr (.ow (.pr .fz (.ow .fz))) (.pr .fz (.pr .fz .fz)))))))))))⟩,⟨false,tI,.fz⟩]
def ymW (a0:dA):Option (zaY yqb×zak yj4) :=let r1:=yll a0;zkt (yf4 ((((),()),((),()),(r1.2,()),()),((0,0,0,(),0,0,0,0,0,(),0,false,false,()),(r1.1.1,r1.1.2.1.1,r1.1.2.1.2,(),r1.1.2.2.2.1,r1.1.2.2.2.2.1,r1.1.2.2.2.2.2.1,r1.1.2.2.2.2.2.2.1,r1.1.2.2.2.2.2.2.2.1,(),r1.1.2.2.2.2.2.2.2.2.2.1,r1.1.2.2.2.2.2.2.2.2.2.2.1,r1.1.2.2.2.2.2.2.2.2.2.2.2,()),()),(r1.1.2.2.1,r1.1.2.2.2.2.2.2.2.2.1,()))) (fun y3 =>bif(y3.1.2.2.1.1 !=0)then some (((y3.2.1.2.1.1,(y3.2.1.2.1.2.1,y3.2.1.2.1.2.2.1),y3.2.2.1,y3.2.1.2.1.2.2.2.2.1,y3.2.1.2.1.2.2.2.2.2.1,y3.2.1.2.1.2.2.2.2.2.2.1,y3.2.1.2.1.2.2.2.2.2.2.2.1,y3.2.1.2.1.2.2.2.2.2.2.2.2.1,y3.2.2.2.1,y3.2.1.2.1.2.2.2.2.2.2.2.2.2.2.1,y3.2.1.2.1.2.2.2.2.2.2.2.2.2.2.2.1,y3.2.1.2.1.2.2.2.2.2.2.2.2.2.2.2.2.1),y3.1.2.2.1.1,()),()) else let r5:=ylk (y3.2.1.2.1.1,(y3.2.1.2.1.2.1,y3.2.1.2.1.2.2.1),y3.2.2.1,y3.2.1.2.1.2.2.2.2.1,y3.2.1.2.1.2.2.2.2.2.1,y3.2.1.2.1.2.2.2.2.2.2.1,y3.2.1.2.1.2.2.2.2.2.2.2.1,y3.2.1.2.1.2.2.2.2.2.2.2.2.1,y3.2.2.2.1,y3.2.1.2.1.2.2.2.2.2.2.2.2.2.2.1,y3.2.1.2.1.2.2.2.2.2.2.2.2.2.2.2.1,y3.2.1.2.1.2.2.2.2.2.2.2.2.2.2.2.2.1);some ((r5.1,r5.2,()),())) (fun y3 =>none)
theorem yHv:ConOk prog 46 ⟨yj4,yqb,fun x=>ymW x.1⟩:=zkI (yEN) func46 ntmps46.symm fun x=>by kernel_rfl
def ygX (a0:dA):dA×Int:=ycc a0
theorem yDJ (c:Int) (a:dA) (fuel:Nat) (hc:(c==0)=false) (hf:0<fuel):zF yah fuel (ybK c ydf a)=some (.inl (yrN c ydf a)):=by
 obtain⟨fuel,rfl⟩: ∃m,fuel=m+1:=⟨fuel-1,by omega⟩;simp only[zF,yah,ybK,ydl,hc,cond_false]
theorem ySV: ∀(n:Nat) (a:dA) (fuel:Nat),(a.2.1.2-a.2.2.2.2.1).toNat≤n→n+1<fuel→zF yah fuel (ybK 0 ydf a)=some (.inl (yrN (yee n a).2 ydf (yee n a).1)):=by
 intro n
 induction n with
 | zero =>
  intro a fuel h hf;obtain⟨fuel,rfl⟩: ∃m,fuel=m+1:=⟨fuel-1,by omega⟩;simp only[zF,yah,ybK,ydl,beq_self_eq_true,cond_true,zk3 (show a.2.1.2≤a.2.2.2.2.1 by omega),cond_false];rfl
 | succ n ih =>
  intro a fuel h hf;obtain⟨fuel,rfl⟩: ∃m,fuel=m+1:=⟨fuel-1,by omega⟩;cases hS:ltb a.2.2.2.2.1 a.2.1.2
  ·rw[yVa hS]
   simp only[zF,yah,ybK,ydl,beq_self_eq_true,cond_true,hS,cond_false]
  ·unfold yee
   rw[hS,cond_true];simp only[zF,yah,ybK,ydl,beq_self_eq_true,hS,cond_true,zkX,yfy];cases hc:((ybc a).2 !=0)
   ·have h0:=bne_eq_false_iff_eq.1 hc
    obtain⟨_,h1,h2,h3⟩:=yWj h0;rw[h0];exact ih (ybc a).1 fuel (by rw[h2,h3]; omega) (by omega)
   ·exact yDJ (ybc a).2 (ybc a).1 fuel (beq_eq_false_iff_ne.2 (bne_iff_ne.1 hc)) (by omega)
theorem yJ9 (a0:dA) (hk:zjx yj4 (a0,())):ymW a0=(fun n=>some ((n.1,n.2,()),())) (ygX a0):=by
 unfold ymW ygX ycc;simp only[yll];cases hc:((yas a0).2 !=0)
 ·have h0:=bne_eq_false_iff_eq.1 hc
  obtain⟨h1,h2,h3⟩:=yVR h0;have hg:=yl.1 h3;have hl:=ySV 8 (yas a0).1 18446744073709551616 (by rw[h1,h2]; omega) (by omega);rw[← h0]at hl;refine(congrArg (fun z=>zkt z _ _) (show yf4 (yrR (yas a0).2 ydf (yas a0).1)=_ from hl)).trans ?_;simp only[zkN,ylk,zkX,cond_false];cases((yee 8 (yas a0).1).2 !=0)<;>rfl
 ·have hl:=yDJ (yas a0).2 (yas a0).1 18446744073709551616 (beq_eq_false_iff_ne.2 (bne_iff_ne.1 hc)) (by omega)
  refine(congrArg (fun z=>zkt z _ _) (show yf4 (yrR (yas a0).2 ydf (yas a0).1)=_ from hl)).trans ?_;simp only[zkN,zkX,hc,cond_true]
def ywl:Con:=⟨yj4,yqb,fun x=>(fun n=>some ((n.1,n.2,()),())) (ygX x.1)⟩
theorem yKT:ConOk prog 46 ywl:=(yHv).mono (fun x r hk h=>(yJ9 x.1 hk).trans h)
def yph:Code:=(f122.body).getD .skip
def yxL:Env:=zkw TT [(141,yqE),(185,ysT)] []
theorem yMr:FrOk prog ⟨yxL,33,fun _=>none⟩ yph:=zkA mixed ye ⟨yCS,yDN,trivial⟩
def yB7:Nat→Option Seg:=fun _=>none
def ycB:Shape:=⟨[(1,false,[.int .i64]),(2,false,[.ptr 0 0]),(6,false,[.at 800000000]),(13,false,[.int .i64]),(14,false,[.int .i64])],[(0,[.int .i64,.int .i64,.int .i64,.br tM,.int .i64,.int .i64,.int .i64,.int .i64,.int .i64,.br tW,.int .i64,.bool,.bool])],[(800000000,tI,.fz)]⟩
def ygu:Shape:=⟨[(1,false,[.int .i64]),(2,false,[.ptr 0 0]),(6,false,[.at 800000000]),(13,false,[.int .i64]),(14,false,[.ci .i64 0])],[(0,[.int .i64,.int .i64,.int .i64,.br tM,.int .i64,.int .i64,.int .i64,.int .i64,.int .i64,.br tW,.int .i64,.bool,.bool])],[(800000000,tI,.fz)]⟩
def ygf:Shape:=⟨[(6,false,[.at 800000000])],[],[(800000000,tI,.fz)]⟩
def ygL:Shape:=⟨[(4,false,[.int .i64]),(5,false,[.bool])],[],[]⟩
abbrev yoq (v0 v1 v2:Int) (v3:dA) (v4:List Int):(ycB).X:=(((v0,()),((),()),((),()),(v1,()),(v2,()),()),((v3.1,v3.2.1.1,v3.2.1.2,v3.2.2.1,v3.2.2.2.1,v3.2.2.2.2.1,v3.2.2.2.2.2.1,v3.2.2.2.2.2.2.1,v3.2.2.2.2.2.2.2.1,v3.2.2.2.2.2.2.2.2.1,v3.2.2.2.2.2.2.2.2.2.1,v3.2.2.2.2.2.2.2.2.2.2.1,v3.2.2.2.2.2.2.2.2.2.2.2,()),()),(v4,()))
abbrev yJP (v0 v1:Int) (v2:dA) (v3:List Int):(ygu).X:=(((v0,()),((),()),((),()),(v1,()),((),()),()),((v2.1,v2.2.1.1,v2.2.1.2,v2.2.2.1,v2.2.2.2.1,v2.2.2.2.2.1,v2.2.2.2.2.2.1,v2.2.2.2.2.2.2.1,v2.2.2.2.2.2.2.2.1,v2.2.2.2.2.2.2.2.2.1,v2.2.2.2.2.2.2.2.2.2.1,v2.2.2.2.2.2.2.2.2.2.2.1,v2.2.2.2.2.2.2.2.2.2.2.2,()),()),(v3,()))
abbrev yzt (v0:List Int):(ygf).X:=((((),()),()),(),(v0,()))
abbrev yJ3 (v0:Int) (v1:Bool):(ygL).X:=(((v0,()),(v1,()),()),(),())
def yoV (v0 v1 v2 v3 v4 v5:Int) (v6:List dM) (v7 v8 v9 v10 v11:Int) (v12:List dW) (v13:Int) (v14 v15:Bool) (v16:List Int):Option ((ycB).X ⊕ ((ygf).X ⊕ (ygL).X)) :=bif(ltb v2 v1)then bnd (yjt (v3,(v4,v5),v6,v7,v8,v9,v10,v11,v12,v13,v14,v15) v2 v0) fun r2 =>bif(!r2.1.2.1)then some (.inr (.inr (((0,()),(false,()),()),(),()))) else bif(zkl v16.length ([r2.1.1]:List Int).length 8)then some (.inl (((v0,()),((),()),((),()),(v1,()),((i64.wrap (v2+1)),()),()),((v3,v4,v5,v6,v7,v8,v9,v10,v11,v12,v13,v14,v15,()),()),((v16++([r2.1.1]:List Int)),()))) else none else some (.inr (.inl ((((),()),()),(),(v16,()))))
def ycZ (x:(ycB).X):=yoV x.1.1.1 x.1.2.2.2.1.1 x.1.2.2.2.2.1.1 x.2.1.1.1 x.2.1.1.2.1 x.2.1.1.2.2.1 x.2.1.1.2.2.2.1 x.2.1.1.2.2.2.2.1 x.2.1.1.2.2.2.2.2.1 x.2.1.1.2.2.2.2.2.2.1 x.2.1.1.2.2.2.2.2.2.2.1 x.2.1.1.2.2.2.2.2.2.2.2.1 x.2.1.1.2.2.2.2.2.2.2.2.2.1 x.2.1.1.2.2.2.2.2.2.2.2.2.2.1 x.2.1.1.2.2.2.2.2.2.2.2.2.2.2.1 x.2.1.1.2.2.2.2.2.2.2.2.2.2.2.2.1 x.2.2.1
def yyZ (x:(ygu).X):(ycB).X:=(((x.1.1.1,()),((),()),((),()),(x.1.2.2.2.1.1,()),(0,()),()),((x.2.1.1.1,x.2.1.1.2.1,x.2.1.1.2.2.1,x.2.1.1.2.2.2.1,x.2.1.1.2.2.2.2.1,x.2.1.1.2.2.2.2.2.1,x.2.1.1.2.2.2.2.2.2.1,x.2.1.1.2.2.2.2.2.2.2.1,x.2.1.1.2.2.2.2.2.2.2.2.1,x.2.1.1.2.2.2.2.2.2.2.2.2.1,x.2.1.1.2.2.2.2.2.2.2.2.2.2.1,x.2.1.1.2.2.2.2.2.2.2.2.2.2.2.1,x.2.1.1.2.2.2.2.2.2.2.2.2.2.2.2.1,()),()),(x.2.2.1,()))
def yAy:Code:=(zd7 yph 64 116).getD .skip
theorem yL0:zd7 yph 64 29=some (.block 0 (.loop yAy)):=by kernel_rfl
theorem yOI (x:(ycB).X):zhu ⟨yxL,33,yB7⟩ 0 yAy 116 ycB ygf ygL x=ycZ x:=by kernel_rfl
def yzf (x:(ygu).X):Nat:=18446744073709551616
def ypG (x:(ygu).X):Option ((ygf).X ⊕ (ygL).X):=zF ycZ (yzf x) (yyZ x)
def yzZ:Seg:=⟨ygu,ygf,ygL,ypG⟩
def yPg:Nat→Option Seg:=fun q=>bif Nat.beq q 29 then some yzZ else yB7 q
theorem yMs:FrOk prog ⟨yxL,33,yPg⟩ yph:=(yMr).loop (sg:=yzZ) ycB yyZ (by decide) yL0 ycZ yzf (by decide) (fun _=>rfl) (fun x r _ h=>h) yOI
abbrev ypX:List Par:= [.rd tA,.rd tI]
abbrev yx7:List OT:= [⟨false,tI,.fz⟩,⟨false,tB,.fz⟩]
def yth (a0:dA) (a1:Int):Option (zaY yx7×zak ypX) :=zkt (ypG (((a1,()),((),()),((),()),((a0.2.2.1.length:Int),()),((),()),()),((a0.1,a0.2.1.1,a0.2.1.2,a0.2.2.1,a0.2.2.2.1,a0.2.2.2.2.1,a0.2.2.2.2.2.1,a0.2.2.2.2.2.2.1,a0.2.2.2.2.2.2.2.1,a0.2.2.2.2.2.2.2.2.1,a0.2.2.2.2.2.2.2.2.2.1,a0.2.2.2.2.2.2.2.2.2.2.1,a0.2.2.2.2.2.2.2.2.2.2.2,()),()),(([]:List Int),()))) (fun y2 =>let r4:=yfC y2.2.2.1;some ((r4,true,()),())) (fun y2 =>some ((y2.1.1.1,y2.1.2.1.1,()),()))
theorem yQG:ConOk prog 122 ⟨ypX,yx7,fun x=>yth x.1 x.2.1⟩:=zkI (yMs) func122 ntmps122.symm fun x=>by kernel_rfl
def yfB (a0:dA) (a1:Int):Int×Bool:=yeX a0 a1
theorem yS4 (a0:dA) (a1:Int) (hk:zjx ypX (a0,a1,())):yth a0 a1=(fun n=>some ((n.1,n.2,()),())) (yfB a0 a1):=by
 have hb:a0.2.2.1.length*80≤2^47:=hk.1.2.2.1.1
 have h1:ypG (yJP a1 a0.2.2.1.length a0 [])=some (bif yyo a0 a1 then .inl (yzt ((List.range a0.2.2.1.length).foldl (fun n (i:Nat)=>n++ [yhn a0 i a1]) []))else .inr (yJ3 0 false)) :=
  zhU (step:=ycZ) a0.2.2.1.length (fun i s=>yoq a1 a0.2.2.1.length i a0 s) (fun(i:Nat)=>yw a0 i a1) (fun n (i:Nat)=>n++ [yhn a0 i a1]) (fun i s=>s.length=i) (fun s=> .inl (yzt s)) _ (fun i s hi hs=>⟨by
   simp only[ycZ,yoq,yoV,zky (show(i:Int)<a0.2.2.1.length by omega),cond_true,wq ((i:Int)+1) (by omega) (by omega),Int.natCast_add,Int.natCast_one,Int.toNat_natCast,zkX,yCX a0 i a1 (zkR hi),yfY,zkH];rw[show zkl s.length ([yhn a0 i a1]:List Int).length 8=true from zkF.2 (by simp only[List.length_cons,List.length_nil]; omega)]
   cases yw a0 i a1<;>rfl,fun _=>by simp[hs]⟩) (fun s _=>by simp only[ycZ,yoq,yoV,zk3 (Int.le_refl _),cond_false]) [] rfl _ (by show _<18446744073709551616; omega)
 unfold yth yfB yeX yfC;rw[h1,yma,List.nil_append];cases yyo a0 a1<;>rfl
def ysS:Con:=⟨ypX,yx7,fun x=>(fun n=>some ((n.1,n.2,()),())) (yfB x.1 x.2.1)⟩
theorem yDM:ConOk prog 122 ysS:=(yQG).mono (fun x r hk h=>(yS4 x.1 x.2.1 hk).trans h)
def ytw:Code:=(f47.body).getD .skip
def yBE:Env:=zkw TT [(55,ycj),(122,ysS)] []
theorem yPO:FrOk prog ⟨yBE,29,fun _=>none⟩ ytw:=zkA mixed ye ⟨yer,yDM,trivial⟩
def yDD:Nat→Option Seg:=fun _=>none
def ydn:Shape:=⟨[(1,false,[.ptr 0 0]),(3,false,[.int .i64]),(13,false,[.int .i64]),(14,false,[.int .i64])],[(0,[.int .i64,.int .i64,.int .i64,.br tM,.int .i64,.int .i64,.int .i64,.int .i64,.int .i64,.br tW,.int .i64,.bool,.bool])],[]⟩
def yhS:Shape:=⟨[(1,false,[.ptr 0 0]),(3,false,[.ci .i64 0]),(13,false,[.int .i64]),(14,false,[.ci .i64 0])],[(0,[.int .i64,.int .i64,.int .i64,.br tM,.int .i64,.int .i64,.int .i64,.int .i64,.int .i64,.br tW,.int .i64,.bool,.bool])],[]⟩
def yhO:Shape:=⟨[(3,false,[.int .i64])],[],[]⟩
def yl8:Shape:=⟨[],[],[]⟩
abbrev yqS (v0 v1 v2:Int) (v3:dA):(ydn).X:=((((),()),(v0,()),(v1,()),(v2,()),()),((v3.1,v3.2.1.1,v3.2.1.2,v3.2.2.1,v3.2.2.2.1,v3.2.2.2.2.1,v3.2.2.2.2.2.1,v3.2.2.2.2.2.2.1,v3.2.2.2.2.2.2.2.1,v3.2.2.2.2.2.2.2.2.1,v3.2.2.2.2.2.2.2.2.2.1,v3.2.2.2.2.2.2.2.2.2.2.1,v3.2.2.2.2.2.2.2.2.2.2.2,()),()),())
abbrev yM8 (v0:Int) (v1:dA):(yhS).X:=((((),()),((),()),(v0,()),((),()),()),((v1.1,v1.2.1.1,v1.2.1.2,v1.2.2.1,v1.2.2.2.1,v1.2.2.2.2.1,v1.2.2.2.2.2.1,v1.2.2.2.2.2.2.1,v1.2.2.2.2.2.2.2.1,v1.2.2.2.2.2.2.2.2.1,v1.2.2.2.2.2.2.2.2.2.1,v1.2.2.2.2.2.2.2.2.2.2.1,v1.2.2.2.2.2.2.2.2.2.2.2,()),()),())
abbrev yM4 (v0:Int):(yhO).X:=(((v0,()),()),(),())
def yro (v0 v1 v2 v3 v4 v5:Int) (v6:List dM) (v7 v8 v9 v10 v11:Int) (v12:List dW) (v13:Int) (v14 v15:Bool):Option ((ydn).X ⊕ ((yhO).X ⊕ (yl8).X)) :=bif(ltb v2 v1)then let r3:=yfB (v3,(v4,v5),v6,v7,v8,v9,v10,v11,v12,v13,v14,v15) v2;bif(!r3.2)then some (.inl ((((),()),((i64.wrap (v0+1)),()),(v1,()),((i64.wrap (v2+1)),()),()),((v3,v4,v5,v6,v7,v8,v9,v10,v11,v12,v13,v14,v15,()),()),())) else some (.inl ((((),()),(v0,()),(v1,()),((i64.wrap (v2+1)),()),()),((v3,v4,v5,v6,v7,v8,v9,v10,v11,v12,v13,v14,v15,()),()),())) else some (.inr (.inl (((v0,()),()),(),())))
def ydw (x:(ydn).X):=yro x.1.2.1.1 x.1.2.2.1.1 x.1.2.2.2.1.1 x.2.1.1.1 x.2.1.1.2.1 x.2.1.1.2.2.1 x.2.1.1.2.2.2.1 x.2.1.1.2.2.2.2.1 x.2.1.1.2.2.2.2.2.1 x.2.1.1.2.2.2.2.2.2.1 x.2.1.1.2.2.2.2.2.2.2.1 x.2.1.1.2.2.2.2.2.2.2.2.1 x.2.1.1.2.2.2.2.2.2.2.2.2.1 x.2.1.1.2.2.2.2.2.2.2.2.2.2.1 x.2.1.1.2.2.2.2.2.2.2.2.2.2.2.1 x.2.1.1.2.2.2.2.2.2.2.2.2.2.2.2.1
def yA5 (x:(yhS).X):(ydn).X:=((((),()),(0,()),(x.1.2.2.1.1,()),(0,()),()),((x.2.1.1.1,x.2.1.1.2.1,x.2.1.1.2.2.1,x.2.1.1.2.2.2.1,x.2.1.1.2.2.2.2.1,x.2.1.1.2.2.2.2.2.1,x.2.1.1.2.2.2.2.2.2.1,x.2.1.1.2.2.2.2.2.2.2.1,x.2.1.1.2.2.2.2.2.2.2.2.1,x.2.1.1.2.2.2.2.2.2.2.2.2.1,x.2.1.1.2.2.2.2.2.2.2.2.2.2.1,x.2.1.1.2.2.2.2.2.2.2.2.2.2.2.1,x.2.1.1.2.2.2.2.2.2.2.2.2.2.2.2.1,()),()),())
def yCk:Code:=(zd7 ytw 64 244).getD .skip
theorem yPH:zd7 ytw 64 61=some (.block 0 (.loop yCk)):=by kernel_rfl
theorem yRm (x:(ydn).X):zhu ⟨yBE,29,yDD⟩ 0 yCk 244 ydn yhO yl8 x=ydw x:=by kernel_rfl
def yBa (x:(yhS).X):Nat:=18446744073709551616
def ysg (x:(yhS).X):Option ((yhO).X ⊕ (yl8).X):=zF ydw (yBa x) (yA5 x)
def yBA:Seg:=⟨yhS,yhO,yl8,ysg⟩
def ySr:Nat→Option Seg:=fun q=>bif Nat.beq q 61 then some yBA else yDD q
theorem yPP:FrOk prog ⟨yBE,29,ySr⟩ ytw:=(yPO).loop (sg:=yBA) ydn yA5 (by decide) yPH ydw yBa (by decide) (fun _=>rfl) (fun x r _ h=>h) yRm
abbrev ytz:List Par:= [.rd tA]
abbrev yBK:List OT:= [⟨false,tI,.fz⟩]
def yvX (a0:dA):Option (zaY yBK×zak ytz) :=let r1:=yT a0;bif(!r1)then some ((0,()),()) else zkt (ysg ((((),()),((),()),(a0.2.1.2,()),((),()),()),((a0.1,a0.2.1.1,a0.2.1.2,a0.2.2.1,a0.2.2.2.1,a0.2.2.2.2.1,a0.2.2.2.2.2.1,a0.2.2.2.2.2.2.1,a0.2.2.2.2.2.2.2.1,a0.2.2.2.2.2.2.2.2.1,a0.2.2.2.2.2.2.2.2.2.1,a0.2.2.2.2.2.2.2.2.2.2.1,a0.2.2.2.2.2.2.2.2.2.2.2,()),()),())) (fun y3 =>some ((y3.1.1.1,()),())) (fun y3 =>none)
theorem yTk:ConOk prog 47 ⟨ytz,yBK,fun x=>yvX x.1⟩:=zkI (yPP) func47 ntmps47.symm fun x=>by kernel_rfl
def ynp (a0:dA):Int:=yUf a0
theorem yUB (a0:dA) (hk:zjx ytz (a0,())):yvX a0=(fun n=>some ((n,()),())) (ynp a0):=by
 unfold yvX ynp yUf yT;cases ha:yR a0
 ·rfl
 have hg:=yl.1 (yd1 ha)
 have h1:ysg (yM8 a0.2.1.2 a0)=some (.inl (yM4 ((ycw (fun(s:Nat)=>(yeX a0 s).2) a0.2.1.2.toNat:Nat):Int))) :=
  zkL (step:=ydw) (fun i=>yqS ((ycw (fun(s:Nat)=>(yeX a0 s).2) i:Nat):Int) a0.2.1.2 i a0) a0.2.1.2.toNat _ (fun i hi=>by
   have:=yWK (fun(s:Nat)=>(yeX a0 s).2) i;simp only[ydw,yqS,yro,zky (show(i:Int)<a0.2.1.2 by omega),cond_true,wq ((i:Int)+1) (by omega) (by omega),Int.natCast_add,Int.natCast_one,Int.toNat_natCast,zkX,yfB,yiN,wq (((ycw (fun(s:Nat)=>(yeX a0 s).2) i:Nat):Int)+1) (by omega) (by omega)]
   cases(yeX a0 i).2<;>rfl) (by simp only[ydw,yqS,yro,zk3 (show a0.2.1.2≤(a0.2.1.2.toNat:Int)by omega),cond_false]) _ (by show _<18446744073709551616; omega)
 rw[h1]; rfl
def yDG:Con:=⟨ytz,yBK,fun x=>(fun n=>some ((n,()),())) (ynp x.1)⟩
theorem yUH:ConOk prog 47 yDG:=(yTk).mono (fun x r hk h=>(yUB x.1 hk).trans h)
def ytx:Code:=(f48.body).getD .skip
def yBF:Env:=zkw TT [(122,ysS)] []
theorem yPQ:FrOk prog ⟨yBF,28,fun _=>none⟩ ytx:=zkA mixed ye ⟨yDM,trivial⟩
def yDE:Nat→Option Seg:=fun _=>none
def ydo:Shape:=⟨[(1,false,[.ptr 0 0]),(3,false,[.int .i64])],[(0,[.int .i64,.int .i64,.int .i64,.br tM,.int .i64,.int .i64,.int .i64,.int .i64,.int .i64,.br tW,.int .i64,.bool,.bool])],[]⟩
def yhT:Shape:=⟨[(1,false,[.ptr 0 0]),(3,false,[.ci .i64 0])],[(0,[.int .i64,.int .i64,.int .i64,.br tM,.int .i64,.int .i64,.int .i64,.int .i64,.int .i64,.br tW,.int .i64,.bool,.bool])],[]⟩
def yhP:Shape:=⟨[],[],[]⟩
def yhX:Shape:=⟨[(2,false,[.bool])],[],[]⟩
abbrev yqT (v0:Int) (v1:dA):(ydo).X:=((((),()),(v0,()),()),((v1.1,v1.2.1.1,v1.2.1.2,v1.2.2.1,v1.2.2.2.1,v1.2.2.2.2.1,v1.2.2.2.2.2.1,v1.2.2.2.2.2.2.1,v1.2.2.2.2.2.2.2.1,v1.2.2.2.2.2.2.2.2.1,v1.2.2.2.2.2.2.2.2.2.1,v1.2.2.2.2.2.2.2.2.2.2.1,v1.2.2.2.2.2.2.2.2.2.2.2,()),()),())
abbrev yM9 (v0:dA):(yhT).X:=((((),()),((),()),()),((v0.1,v0.2.1.1,v0.2.1.2,v0.2.2.1,v0.2.2.2.1,v0.2.2.2.2.1,v0.2.2.2.2.2.1,v0.2.2.2.2.2.2.1,v0.2.2.2.2.2.2.2.1,v0.2.2.2.2.2.2.2.2.1,v0.2.2.2.2.2.2.2.2.2.1,v0.2.2.2.2.2.2.2.2.2.2.1,v0.2.2.2.2.2.2.2.2.2.2.2,()),()),())
abbrev yM5  :(yhP).X:=((),(),())
abbrev yNc (v0:Bool):(yhX).X:=(((v0,()),()),(),())
def yrp (v0 v1 v2 v3:Int) (v4:List dM) (v5 v6 v7 v8 v9:Int) (v10:List dW) (v11:Int) (v12 v13:Bool):Option ((ydo).X ⊕ ((yhP).X ⊕ (yhX).X)) :=bif(ltb v0 v3)then bif(ltb v0 20)then let r2:=yfB (v1,(v2,v3),v4,v5,v6,v7,v8,v9,v10,v11,v12,v13) v0;bif r2.2 then bif(r2.1 !=0)then some (.inr (.inr (((false,()),()),(),()))) else some (.inl ((((),()),((i64.wrap (v0+1)),()),()),((v1,v2,v3,v4,v5,v6,v7,v8,v9,v10,v11,v12,v13,()),()),())) else some (.inl ((((),()),((i64.wrap (v0+1)),()),()),((v1,v2,v3,v4,v5,v6,v7,v8,v9,v10,v11,v12,v13,()),()),())) else some (.inr (.inl ((),(),()))) else some (.inr (.inl ((),(),())))
def ydx (x:(ydo).X):=yrp x.1.2.1.1 x.2.1.1.1 x.2.1.1.2.1 x.2.1.1.2.2.1 x.2.1.1.2.2.2.1 x.2.1.1.2.2.2.2.1 x.2.1.1.2.2.2.2.2.1 x.2.1.1.2.2.2.2.2.2.1 x.2.1.1.2.2.2.2.2.2.2.1 x.2.1.1.2.2.2.2.2.2.2.2.1 x.2.1.1.2.2.2.2.2.2.2.2.2.1 x.2.1.1.2.2.2.2.2.2.2.2.2.2.1 x.2.1.1.2.2.2.2.2.2.2.2.2.2.2.1 x.2.1.1.2.2.2.2.2.2.2.2.2.2.2.2.1
def yA6 (x:(yhT).X):(ydo).X:=((((),()),(0,()),()),((x.2.1.1.1,x.2.1.1.2.1,x.2.1.1.2.2.1,x.2.1.1.2.2.2.1,x.2.1.1.2.2.2.2.1,x.2.1.1.2.2.2.2.2.1,x.2.1.1.2.2.2.2.2.2.1,x.2.1.1.2.2.2.2.2.2.2.1,x.2.1.1.2.2.2.2.2.2.2.2.1,x.2.1.1.2.2.2.2.2.2.2.2.2.1,x.2.1.1.2.2.2.2.2.2.2.2.2.2.1,x.2.1.1.2.2.2.2.2.2.2.2.2.2.2.1,x.2.1.1.2.2.2.2.2.2.2.2.2.2.2.2.1,()),()),())
def yCl:Code:=(zd7 ytx 64 52).getD .skip
theorem yPI:zd7 ytx 64 13=some (.block 0 (.loop yCl)):=by kernel_rfl
theorem yRn (x:(ydo).X):zhu ⟨yBF,28,yDE⟩ 0 yCl 52 ydo yhP yhX x=ydx x:=by kernel_rfl
def yBb (x:(yhT).X):Nat:=18446744073709551616
def ysh (x:(yhT).X):Option ((yhP).X ⊕ (yhX).X):=zF ydx (yBb x) (yA6 x)
def yBB:Seg:=⟨yhT,yhP,yhX,ysh⟩
def ySs:Nat→Option Seg:=fun q=>bif Nat.beq q 13 then some yBB else yDE q
theorem yPR:FrOk prog ⟨yBF,28,ySs⟩ ytx:=(yPQ).loop (sg:=yBB) ydo yA6 (by decide) yPI ydx yBb (by decide) (fun _=>rfl) (fun x r _ h=>h) yRn
abbrev ytA:List Par:= [.rd tA]
abbrev yBL:List OT:= [⟨false,tB,.fz⟩]
def yvY (a0:dA):Option (zaY yBL×zak ytA) :=zkt (ysh ((((),()),((),()),()),((a0.1,a0.2.1.1,a0.2.1.2,a0.2.2.1,a0.2.2.2.1,a0.2.2.2.2.1,a0.2.2.2.2.2.1,a0.2.2.2.2.2.2.1,a0.2.2.2.2.2.2.2.1,a0.2.2.2.2.2.2.2.2.1,a0.2.2.2.2.2.2.2.2.2.1,a0.2.2.2.2.2.2.2.2.2.2.1,a0.2.2.2.2.2.2.2.2.2.2.2,()),()),())) (fun y2 =>some ((true,()),())) (fun y2 =>some ((y2.1.1.1,()),()))
theorem yTl:ConOk prog 48 ⟨ytA,yBL,fun x=>yvY x.1⟩:=zkI (yPR) func48 ntmps48.symm fun x=>by kernel_rfl
def ynq (a0:dA):Bool:=yTK a0
theorem yUC (a0:dA) (hk:zjx ytA (a0,())):yvY a0=(fun n=>some ((n,()),())) (ynq a0):=by
 have h1:ysh (yM9 a0)=some (bif(List.range (min a0.2.1.2.toNat 20)).any (fun(s:Nat)=>(yeX a0 s).2&&(yeX a0 s).1 !=0)then .inr (yNc false)else .inl yM5) :=
  zji (step:=ydx) (fun i=>yqT i a0) (min a0.2.1.2.toNat 20) _ _ _ (fun i hi=>by
   simp only[ydx,yqT,yrp,zky (show(i:Int)<a0.2.1.2 by omega),cond_true,wq ((i:Int)+1) (by omega) (by omega),Int.natCast_add,Int.natCast_one,Int.toNat_natCast,zky (show(i:Int)<20 by omega),zkX,yfB]
   cases(yeX a0 i).2<;>cases((yeX a0 i).1 !=0)<;>rfl) (by
   simp only[ydx,yqT,yrp];by_cases h:a0.2.1.2≤((min a0.2.1.2.toNat 20:Nat):Int)
   ·rw[zk3 h]; rfl
   ·rw[zky (by omega),zk3 (show(20:Int)≤((min a0.2.1.2.toNat 20:Nat):Int)by omega)]; rfl) _ (by show _<18446744073709551616; omega)
 unfold yvY ynq yTK;rw[h1,List.all_eq_not_any_not]; simp only[Bool.not_not];cases(List.range (min a0.2.1.2.toNat 20)).any (fun(s:Nat)=>(yeX a0 s).2&&(yeX a0 s).1 !=0)<;>rfl
def yDH:Con:=⟨ytA,yBL,fun x=>(fun n=>some ((n,()),())) (ynq x.1)⟩
theorem yUI:ConOk prog 48 yDH:=(yTl).mono (fun x r hk h=>(yUC x.1 hk).trans h)
def yj0:Code:=(f49.body).getD .skip
def ypz:Env:=zkw TT [] []
theorem yE2:FrOk prog ⟨ypz,26,fun _=>none⟩ yj0:=zkA mixed ye trivial
def yv7:Nat→Option Seg:=fun _=>none
def ycd:Shape:=⟨[(0,false,[.br tI]),(1,false,[.br tI]),(5,false,[.int .i64])],[],[]⟩
def ygw:Shape:=⟨[(0,false,[.br tI]),(1,false,[.br tI]),(5,false,[.ci .i64 0])],[],[]⟩
def ygh:Shape:=⟨[],[],[]⟩
def ygN:Shape:=⟨[(4,false,[.bool])],[],[]⟩
def yjS (v0 v1:List Int) (v2:Int):Option ((ycd).X ⊕ ((ygh).X ⊕ (ygN).X)) :=bif(ltb v2 (v0.length:Int))then bif(inb v2 v0.length)then bif(inb v2 v1.length)then bif((nth v0 v2 0) !=(nth v1 v2 0))then some (.inr (.inr (((false,()),()),(),()))) else some (.inl (((v0,()),(v1,()),((i64.wrap (v2+1)),()),()),(),())) else none else none else some (.inr (.inl ((),(),())))
def ybq (x:(ycd).X):=yjS x.1.1.1 x.1.2.1.1 x.1.2.2.1.1
def yrB (x:(ygw).X):(ycd).X:=(((x.1.1.1,()),(x.1.2.1.1,()),(0,()),()),(),())
def ytR:Code:=(zd7 yj0 64 116).getD .skip
theorem yEw:zd7 yj0 64 29=some (.block 0 (.loop ytR)):=by kernel_rfl
theorem yFS (x:(ycd).X):zhu ⟨ypz,26,yv7⟩ 0 ytR 116 ycd ygh ygN x=ybq x:=by kernel_rfl
def yrK (x:(ygw).X):Nat:=18446744073709551616
def ykT (x:(ygw).X):Option ((ygh).X ⊕ (ygN).X):=zF ybq (yrK x) (yrB x)
def yr0:Seg:=⟨ygw,ygh,ygN,ykT⟩
def yGi:Nat→Option Seg:=fun q=>bif Nat.beq q 29 then some yr0 else yv7 q
theorem yE3:FrOk prog ⟨ypz,26,yGi⟩ yj0:=(yE2).loop (sg:=yr0) ycd yrB (by decide) yEw ybq yrK (by decide) (fun _=>rfl) (fun x r _ h=>h) yFS
abbrev yke:List Par:= [.rd tL,.rd tL]
abbrev yqn:List OT:= [⟨false,tB,.fz⟩]
def ym6 (a0 a1:List Int):Option (zaY yqn×zak yke) :=bif((a0.length:Int) !=(a1.length:Int))then some ((false,()),()) else zkt (ykT (((a0,()),(a1,()),((),()),()),(),())) (fun y0 =>some ((true,()),())) (fun y0 =>some ((y0.1.1.1,()),()))
theorem yHH:ConOk prog 49 ⟨yke,yqn,fun x=>ym6 x.1 x.2.1⟩:=zkI (yE3) func49 ntmps49.symm fun x=>by kernel_rfl
def ycO (a0 a1:List Int):Bool:=decide (a0=a1)
theorem yKl (a0 a1:List Int) (hk:zjx yke (a0,a1,())):ym6 a0 a1=(fun n=>some ((n,()),())) (ycO a0 a1):=by
 have hb:a0.length*8≤2^47:=hk.1.1
 have hl:a0.length=a1.length→ykT (((a0,()),(a1,()),((),()),()),(),())=some (bif(List.range a0.length).any (fun i=>a0.getD i 0 !=a1.getD i 0)then .inr (((false,()),()),(),())else .inl ((),(),())):=fun hL =>
  zji (step:=ybq) (fun i=>(((a0,()),(a1,()),((i:Int),()),()),(),())) a0.length (fun i=>a0.getD i 0 !=a1.getD i 0) _ _ (fun i hi=>by
   simp only[ybq,yjS,zkR hi,zkR (hL ▸ hi),zkS,zky (show(i:Int)<a0.length by omega),cond_true,wq ((i:Int)+1) (by omega) (by omega),Int.natCast_add,Int.natCast_one]
   cases(a0.getD i 0 !=a1.getD i 0)<;>rfl) (by simp only[ybq,yjS,zk3 (Int.le_refl _),cond_false]) _ (by show _<18446744073709551616; omega)
 unfold ym6 ycO;by_cases h:a0.length=a1.length
 ·rw[show((a0.length:Int) !=(a1.length:Int))=false by simp[h],zkZ,hl h]
  by_cases e:a0=a1
  ·subst e
   have:(List.range a0.length).any (fun i=>a0.getD i 0 !=a0.getD i 0)=false:=by simp
   rw[this,decide_eq_true rfl];rfl
  ·have:(List.range a0.length).any (fun i=>a0.getD i 0 !=a1.getD i 0)=true:=by
    rcases Bool.eq_false_or_eq_true ((List.range a0.length).any (fun i=>a0.getD i 0 !=a1.getD i 0))with h2 | h2
    ·exact h2
    ·refine absurd (List.ext_getElem h fun i h3 h4=> ?_) e
     rw[List.any_eq_false]at h2;have:=h2 i (List.mem_range.2 h3);simpa [h3,h4]using this
   rw[this,decide_eq_false e];rfl
 ·rw[show((a0.length:Int) !=(a1.length:Int))=true from bne_iff_ne.2 (by omega),zk0,decide_eq_false (fun e=>h (congrArg _ e))]
theorem yTG (a:List Int):ycO a a=true:=by unfold ycO; simp
def ywv:Con:=⟨yke,yqn,fun x=>(fun n=>some ((n,()),())) (ycO x.1 x.2.1)⟩
theorem yK3:ConOk prog 49 ywv:=(yHH).mono (fun x r hk h=>(yKl x.1 x.2.1 hk).trans h)
def yR2:Code:=(f51.body).getD .skip
def ySv:Env:=zkw TT [(123,yh1)] []
theorem yIP:FrOk prog ⟨ySv,12,fun _=>none⟩ yR2:=zkA mixed ye ⟨ynX,trivial⟩
abbrev yuX:List Par:= [.rd tG]
abbrev yvf:List OT:= [⟨false,tI,.fz⟩]
def yBj (a0:dG):Option (zaY yvf×zak yuX) :=let r1:=ybY a0;bif(!r1)then some ((0,()),()) else some (((i64.wrap (a0.2*(i64.wrap (a0.1-1)))),()),())
theorem yNG:ConOk prog 51 ⟨yuX,yvf,fun x=>yBj x.1⟩:=zkI (yIP) func51 ntmps51.symm fun x=>by kernel_rfl
def yen (a0:dG):Int :=let r1:=ybY a0;bif(!r1)then 0 else (i64.wrap (a0.2*(i64.wrap (a0.1-1))))
def ykx:Con:=⟨yuX,yvf,fun x=>(fun n=>some ((n,()),())) (yen x.1)⟩
theorem yP2 (a0:dG):yBj a0=(fun n=>some ((n,()),())) (yen a0):=zkV (p:=fun(n:Int)=>((n,()),())) (zkG (p:=fun(n:Int)=>((n,()),())) rfl rfl)
theorem ys0:ConOk prog 51 ykx:=(yNG).mono (fun x r _ h=>(yP2 x.1).trans h)
theorem ysX (a:Int×Int):yen a=yn a:=by kernel_rfl
def yLs:Code:=(f132.body).getD .skip
def yLP:Env:=zkw TT [(51,ykx),(81,yO)] []
theorem yE1:FrOk prog ⟨yLP,10,fun _=>none⟩ yLs:=zkA mixed ye ⟨ys0,yX,trivial⟩
abbrev yp0:List Par:= [.rd tG,.rd tI]
abbrev yqm:List OT:= [⟨false,tB,.fz⟩]
def yw1 (a0:dG) (a1:Int):Option (zaY yqm×zak yp0) :=let r1:=yen a0;let r2:=yg a1 0 (i64.wrap (r1-1));some ((r2,()),())
theorem yHG:ConOk prog 132 ⟨yp0,yqm,fun x=>yw1 x.1 x.2.1⟩:=zkI (yE1) func132 ntmps132.symm fun x=>by kernel_rfl
def ybH (a0:dG) (a1:Int):Bool :=let r1:=yen a0;let r2:=yg a1 0 (i64.wrap (r1-1));r2
def yhA:Con:=⟨yp0,yqm,fun x=>(fun n=>some ((n,()),())) (ybH x.1 x.2.1)⟩
theorem yKk (a0:dG) (a1:Int):yw1 a0 a1=(fun n=>some ((n,()),())) (ybH a0 a1):=zkV (p:=fun(n:Bool)=>((n,()),())) rfl
theorem yoA:ConOk prog 132 yhA:=(yHG).mono (fun x r _ h=>(yKk x.1 x.2.1).trans h)
theorem yBR (g:dG) (b:Int):ybH g b=ybj g b:=by
 unfold ybH;simp only[ysX,yan,yUg]
def yLp:Code:=(f59.body).getD .skip
def yLM:Env:=zkw TT [(132,yhA)] []
theorem yEW:FrOk prog ⟨yLM,14,fun _=>none⟩ yLp:=zkA mixed ye ⟨yoA,trivial⟩
abbrev yka:List Par:= [.rd tG,.rd tI]
abbrev yqi:List OT:= [⟨false,tI,.fz⟩]
def ym2 (a0:dG) (a1:Int):Option (zaY yqi×zak yka) :=let r1:=ybH a0 a1;bif(!r1)then some (((-1),()),()) else bif((i64.wrap (a0.1-1)) !=0)then some (((i64.wrap (a1.tdiv (i64.wrap (a0.1-1)))),()),()) else none
theorem yHC:ConOk prog 59 ⟨yka,yqi,fun x=>ym2 x.1 x.2.1⟩:=zkI (yEW) func59 ntmps59.symm fun x=>by kernel_rfl
def yg3 (a0:dG) (a1:Int):Int:=yag a0 a1
theorem yKg (a0:dG) (a1:Int) (hk:zjx yka (a0,a1,())):ym2 a0 a1=(fun n=>some ((n,()),())) (yg3 a0 a1):=by
 unfold ym2 yg3 yag;rw[yBR];cases hb:ybj a0 a1
 ·rfl
 ·obtain⟨h1,h2,h3⟩:=yk3 hb
  have h4:=yl.1 h1;rw[wq (a0.1-1) (by omega) (by omega),show(a0.1-1 !=0)=true from bne_iff_ne.2 (by omega),wr (by omega) (by omega)]; rfl
def yws:Con:=⟨yka,yqi,fun x=>(fun n=>some ((n,()),())) (yg3 x.1 x.2.1)⟩
theorem yK0:ConOk prog 59 yws:=(yHC).mono (fun x r hk h=>(yKg x.1 x.2.1 hk).trans h)
def yOX:Code:=(f60.body).getD .skip
def yPq:Env:=zkw TT [(132,yhA)] []
theorem yGz:FrOk prog ⟨yPq,14,fun _=>none⟩ yOX:=zkA mixed ye ⟨yoA,trivial⟩
abbrev ylS:List Par:= [.rd tG,.rd tI]
abbrev ysv:List OT:= [⟨false,tI,.fz⟩]
def yoB (a0:dG) (a1:Int):Option (zaY ysv×zak ylS) :=let r1:=ybH a0 a1;bif(!r1)then some (((-1),()),()) else bif((i64.wrap (a0.1-1)) !=0)then some (((a1.tmod (i64.wrap (a0.1-1))),()),()) else none
theorem yKu:ConOk prog 60 ⟨ylS,ysv,fun x=>yoB x.1 x.2.1⟩:=zkI (yGz) func60 ntmps60.symm fun x=>by kernel_rfl
def yh6 (a0:dG) (a1:Int):Int:=yef a0 a1
theorem yNg (a0:dG) (a1:Int) (hk:zjx ylS (a0,a1,())):yoB a0 a1=(fun n=>some ((n,()),())) (yh6 a0 a1):=by
 unfold yoB yh6 yef;rw[yBR];cases hb:ybj a0 a1
 ·rfl
 ·obtain⟨h1,h2,h3⟩:=yk3 hb
  have h4:=yl.1 h1;rw[wq (a0.1-1) (by omega) (by omega),show(a0.1-1 !=0)=true from bne_iff_ne.2 (by omega)]; rfl
def yyB:Con:=⟨ylS,ysv,fun x=>(fun n=>some ((n,()),())) (yh6 x.1 x.2.1)⟩
theorem yOf:ConOk prog 60 yyB:=(yKu).mono (fun x r hk h=>(yNg x.1 x.2.1 hk).trans h)
def yIl:Code:=(f134.body).getD .skip
def yIz:Env:=zkw TT [(55,ycj),(132,yhA)] []
theorem yDX:FrOk prog ⟨yIz,18,fun _=>none⟩ yIl:=zkA mixed ye ⟨yer,yoA,trivial⟩
abbrev yoc:List Par:= [.rd tA,.rd tI]
abbrev yof:List OT:= [⟨false,tI,.fz⟩]
def yuA (a0:dA) (a1:Int):Option (zaY yof×zak yoc) :=let r1:=yT a0;bif(!r1)then some ((1,()),()) else bif a0.2.2.2.2.2.2.2.2.2.2.1 then some ((6,()),()) else let r2:=ybH a0.2.1 a1;bif(!r2)then some ((2,()),()) else some ((0,()),())
theorem yFE:ConOk prog 134 ⟨yoc,yof,fun x=>yuA x.1 x.2.1⟩:=zkI (yDX) func134 ntmps134.symm fun x=>by kernel_rfl
def yfD (a0:dA) (a1:Int):Int :=let r1:=yT a0;bif(!r1)then 1 else bif a0.2.2.2.2.2.2.2.2.2.2.1 then 6 else let r2:=ybH a0.2.1 a1;bif(!r2)then 2 else 0
def ytY:Con:=⟨yoc,yof,fun x=>(fun n=>some ((n,()),())) (yfD x.1 x.2.1)⟩
theorem yHq (a0:dA) (a1:Int):yuA a0 a1=(fun n=>some ((n,()),())) (yfD a0 a1):=zkV (p:=fun(n:Int)=>((n,()),())) (zkG (p:=fun(n:Int)=>((n,()),())) rfl (zkG (p:=fun(n:Int)=>((n,()),())) rfl (zkG (p:=fun(n:Int)=>((n,()),())) rfl rfl)))
theorem yHS:ConOk prog 134 ytY:=(yFE).mono (fun x r _ h=>(yHq x.1 x.2.1).trans h)
theorem yUn (a:dA) (b:Int):yfD a b=ygT a b:=by
 unfold yfD ygT yT;simp only[yBR];cases yR a<;>cases a.2.2.2.2.2.2.2.2.2.2.1<;>cases ybj a.2.1 b<;>rfl
def yLn:Code:=(f167.body).getD .skip
def yLK:Env:=zkw TT [(109,yd3)] []
theorem yEU:FrOk prog ⟨yLK,17,fun _=>none⟩ yLn:=zkA mixed ye ⟨yhD,trivial⟩
abbrev yj9:List Par:= [.rd tG,.rd tI]
abbrev yqg:List OT:= [⟨false,tI,.fz⟩]
def ym1 (a0:dG) (a1:Int):Option (zaY yqg×zak yj9) :=let r1:=yaK a0 a1;bif(!r1)then some (((-1),()),()) else bif(a0.1 !=0)then some (((i64.wrap ((i64.wrap (a0.1-1))-(a1.tmod a0.1))),()),()) else none
theorem yHA:ConOk prog 167 ⟨yj9,yqg,fun x=>ym1 x.1 x.2.1⟩:=zkI (yEU) func167 ntmps167.symm fun x=>by kernel_rfl
def yg1 (a0:dG) (a1:Int):Int:=yo a0 a1
theorem yKe (a0:dG) (a1:Int) (hk:zjx yj9 (a0,a1,())):ym1 a0 a1=(fun n=>some ((n,()),())) (yg1 a0 a1):=by
 unfold ym1 yg1;rw[yBT];cases hs:y5 a0 a1
 ·unfold yo; rw[hs]; rfl
 ·have h1:=yab.1 hs
  have h2:=yl.1 h1.1;have h3:=ylp hs;have h4:yo a0 a1=a0.1-1-a1.tmod a0.1:=by unfold yo; rw[hs]; rfl
  rw[show(a0.1 !=0)=true from bne_iff_ne.2 (by omega),wq (a0.1-1) (by omega) (by omega),wq (a0.1-1-a1.tmod a0.1) (by omega) (by omega),h4]; rfl
def ywq:Con:=⟨yj9,yqg,fun x=>(fun n=>some ((n,()),())) (yg1 x.1 x.2.1)⟩
theorem yKY:ConOk prog 167 ywq:=(yHA).mono (fun x r hk h=>(yKe x.1 x.2.1 hk).trans h)
def yR4:Code:=(f142.body).getD .skip
def ySx:Env:=zkw TT [(81,yO),(109,yd3),(167,ywq)] []
theorem yIT:FrOk prog ⟨ySx,28,fun _=>none⟩ yR4:=zkA mixed ye ⟨yX,yhD,yKY,trivial⟩
abbrev ynC:List Par:= [.rd tG,.rd tI,.rd tI]
abbrev yvi:List OT:= [⟨false,tI,.fz⟩]
def yq6 (a0:dG) (a1 a2:Int):Option (zaY yvi×zak ynC) :=let r1:=yaK a0 a1;bif(!(!r1))then let r2:=yg a2 0 (i64.wrap (a0.1-2));bif(!r2)then some (((-1),()),()) else let r3:=yg1 a0 a1;bif(a0.1 !=0)then some ((((i64.wrap ((i64.wrap (r3+1))+a2)).tmod a0.1),()),()) else none else some (((-1),()),())
theorem yNJ:ConOk prog 142 ⟨ynC,yvi,fun x=>yq6 x.1 x.2.1 x.2.2.1⟩:=zkI (yIT) func142 ntmps142.symm fun x=>by kernel_rfl
def yjk (a0:dG) (a1 a2:Int):Int:=ycM a0 a1 a2
theorem yP5 (a0:dG) (a1 a2:Int) (hk:zjx ynC (a0,a1,a2,())):yq6 a0 a1 a2=(fun n=>some ((n,()),())) (yjk a0 a1 a2):=by
 unfold yq6 yjk ycM yg1;rw[yBT];cases hs:y5 a0 a1
 ·rfl
 ·have h1:=yab.1 hs
  have h2:=yl.1 h1.1;have h3:=ylp hs;rw[yan,ycN,wq (a0.1-2) (by omega) (by omega)];cases hi:(leb 0 a2&&leb a2 (a0.1-2))
  ·rfl
  ·rw[Bool.and_eq_true,zj7,zj7]at hi
   rw[show(a0.1 !=0)=true from bne_iff_ne.2 (by omega)];show some (((i64.wrap (i64.wrap (yo a0 a1+1)+a2)).tmod a0.1,()),())=some (((yo a0 a1+1+a2).tmod a0.1,()),());rw[wq (yo a0 a1+1) (by omega) (by omega),wq (yo a0 a1+1+a2) (by omega) (by omega)]
def yAK:Con:=⟨ynC,yvi,fun x=>(fun n=>some ((n,()),())) (yjk x.1 x.2.1 x.2.2.1)⟩
theorem yQZ:ConOk prog 142 yAK:=(yNJ).mono (fun x r hk h=>(yP5 x.1 x.2.1 x.2.2.1 hk).trans h)
def ynu:Code:=(f68.body).getD .skip
def yuP:Env:=zkw TT [(138,ysR),(142,yAK)] []
theorem yIR:FrOk prog ⟨yuP,39,fun _=>none⟩ ynu:=zkA mixed ye ⟨yDL,yQZ,trivial⟩
def yAk:Nat→Option Seg:=fun _=>none
def ybu:Shape:=⟨[(1,false,[.int .i64]),(2,false,[.ptr 0 0]),(6,false,[.at 800000000]),(8,false,[.at 800000001]),(22,false,[.int .i64]),(23,false,[.int .i64])],[(0,[.int .i64,.int .i64,.int .i64,.br tM,.int .i64,.int .i64,.int .i64,.int .i64,.int .i64,.br tW,.int .i64,.bool,.bool])],[(800000000,tI,.fz),(800000001,tI,.fz)]⟩
def yeD:Shape:=⟨[(1,false,[.int .i64]),(2,false,[.ptr 0 0]),(6,false,[.at 800000000]),(8,false,[.at 800000001]),(22,false,[.int .i64]),(23,false,[.ci .i64 0])],[(0,[.int .i64,.int .i64,.int .i64,.br tM,.int .i64,.int .i64,.int .i64,.int .i64,.int .i64,.br tW,.int .i64,.bool,.bool])],[(800000000,tI,.fz),(800000001,tI,.fz)]⟩
def yeu:Shape:=⟨[(8,false,[.at 800000000])],[],[(800000000,tI,.fz)]⟩
def yhs:Shape:=⟨[],[],[]⟩
abbrev ylb (v0 v1 v2:Int) (v3:dA) (v4 v5:List Int):(ybu).X:=(((v0,()),((),()),((),()),((),()),(v1,()),(v2,()),()),((v3.1,v3.2.1.1,v3.2.1.2,v3.2.2.1,v3.2.2.2.1,v3.2.2.2.2.1,v3.2.2.2.2.2.1,v3.2.2.2.2.2.2.1,v3.2.2.2.2.2.2.2.1,v3.2.2.2.2.2.2.2.2.1,v3.2.2.2.2.2.2.2.2.2.1,v3.2.2.2.2.2.2.2.2.2.2.1,v3.2.2.2.2.2.2.2.2.2.2.2,()),()),(v4,v5,()))
abbrev yFn (v0 v1:Int) (v2:dA) (v3 v4:List Int):(yeD).X:=(((v0,()),((),()),((),()),((),()),(v1,()),((),()),()),((v2.1,v2.2.1.1,v2.2.1.2,v2.2.2.1,v2.2.2.2.1,v2.2.2.2.2.1,v2.2.2.2.2.2.1,v2.2.2.2.2.2.2.1,v2.2.2.2.2.2.2.2.1,v2.2.2.2.2.2.2.2.2.1,v2.2.2.2.2.2.2.2.2.2.1,v2.2.2.2.2.2.2.2.2.2.2.1,v2.2.2.2.2.2.2.2.2.2.2.2,()),()),(v3,v4,()))
abbrev yus (v0:List Int):(yeu).X:=((((),()),()),(),(v0,()))
def ylw (v0 v1 v2 v3 v4 v5:Int) (v6:List dM) (v7 v8 v9 v10 v11:Int) (v12:List dW) (v13:Int) (v14 v15:Bool) (v16 v17:List Int):Option ((ybu).X ⊕ ((yeu).X ⊕ (yhs).X)) :=bif(ltb v2 v1)then let r3:=yjk (v4,v5) v0 v2;bif(inb r3 v16.length)then bif(zkl v17.length ([(nth v16 r3 0)]:List Int).length 8)then some (.inl (((v0,()),((),()),((),()),((),()),(v1,()),((i64.wrap (v2+1)),()),()),((v3,v4,v5,v6,v7,v8,v9,v10,v11,v12,v13,v14,v15,()),()),(v16,(v17++([(nth v16 r3 0)]:List Int)),()))) else none else none else some (.inr (.inl ((((),()),()),(),(v17,()))))
def ybL (x:(ybu).X):=ylw x.1.1.1 x.1.2.2.2.2.1.1 x.1.2.2.2.2.2.1.1 x.2.1.1.1 x.2.1.1.2.1 x.2.1.1.2.2.1 x.2.1.1.2.2.2.1 x.2.1.1.2.2.2.2.1 x.2.1.1.2.2.2.2.2.1 x.2.1.1.2.2.2.2.2.2.1 x.2.1.1.2.2.2.2.2.2.2.1 x.2.1.1.2.2.2.2.2.2.2.2.1 x.2.1.1.2.2.2.2.2.2.2.2.2.1 x.2.1.1.2.2.2.2.2.2.2.2.2.2.1 x.2.1.1.2.2.2.2.2.2.2.2.2.2.2.1 x.2.1.1.2.2.2.2.2.2.2.2.2.2.2.2.1 x.2.2.1 x.2.2.2.1
def yt2 (x:(yeD).X):(ybu).X:=(((x.1.1.1,()),((),()),((),()),((),()),(x.1.2.2.2.2.1.1,()),(0,()),()),((x.2.1.1.1,x.2.1.1.2.1,x.2.1.1.2.2.1,x.2.1.1.2.2.2.1,x.2.1.1.2.2.2.2.1,x.2.1.1.2.2.2.2.2.1,x.2.1.1.2.2.2.2.2.2.1,x.2.1.1.2.2.2.2.2.2.2.1,x.2.1.1.2.2.2.2.2.2.2.2.1,x.2.1.1.2.2.2.2.2.2.2.2.2.1,x.2.1.1.2.2.2.2.2.2.2.2.2.2.1,x.2.1.1.2.2.2.2.2.2.2.2.2.2.2.1,x.2.1.1.2.2.2.2.2.2.2.2.2.2.2.2.1,()),()),(x.2.2.1,x.2.2.2.1,()))
def ywa:Code:=(zd7 ynu 64 500).getD .skip
theorem yGn:zd7 ynu 64 125=some (.block 0 (.loop ywa)):=by kernel_rfl
theorem yHV (x:(ybu).X):zhu ⟨yuP,39,yAk⟩ 0 ywa 500 ybu yeu yhs x=ybL x:=by kernel_rfl
def yuf (x:(yeD).X):Nat:=18446744073709551616
def ymt (x:(yeD).X):Option ((yeu).X ⊕ (yhs).X):=zF ybL (yuf x) (yt2 x)
def yuC:Seg:=⟨yeD,yeu,yhs,ymt⟩
def yLz:Nat→Option Seg:=fun q=>bif Nat.beq q 125 then some yuC else yAk q
theorem yIS:FrOk prog ⟨yuP,39,yLz⟩ ynu:=(yIR).loop (sg:=yuC) ybu yt2 (by decide) yGn ybL yuf (by decide) (fun _=>rfl) (fun x r _ h=>h) yHV
abbrev ynB:List Par:= [.rd tA,.rd tI]
abbrev yvh:List OT:= [⟨false,tL,(.ow .fz)⟩,⟨false,tB,.fz⟩]
def yq5 (a0:dA) (a1:Int):Option (zaY yvh×zak ynB) :=let r1:=yfA a0 a1;bif(!r1.2)then some (([],false,()),()) else zkt (ymt (((a1,()),((),()),((),()),((),()),((i64.wrap (a0.2.1.1-1)),()),((),()),()),((a0.1,a0.2.1.1,a0.2.1.2,a0.2.2.1,a0.2.2.2.1,a0.2.2.2.2.1,a0.2.2.2.2.2.1,a0.2.2.2.2.2.2.1,a0.2.2.2.2.2.2.2.1,a0.2.2.2.2.2.2.2.2.1,a0.2.2.2.2.2.2.2.2.2.1,a0.2.2.2.2.2.2.2.2.2.2.1,a0.2.2.2.2.2.2.2.2.2.2.2,()),()),(r1.1,([]:List Int),()))) (fun y3 =>some ((y3.2.2.1,true,()),())) (fun y3 =>none)
theorem yNI:ConOk prog 68 ⟨ynB,yvh,fun x=>yq5 x.1 x.2.1⟩:=zkI (yIS) func68 ntmps68.symm fun x=>by kernel_rfl
def yjj (a0:dA) (a1:Int):List Int×Bool:=yyU a0 a1
theorem yP4 (a0:dA) (a1:Int) (hk:zjx ynB (a0,a1,())):yq5 a0 a1=(fun n=>some ((n.1,n.2,()),())) (yjj a0 a1):=by
 unfold yq5 yjj yyU yfA;cases hc:(yR a0&&(!a0.2.2.2.2.2.2.2.2.2.2.2&&y5 a0.2.1 a1))
 ·rfl
 simp only[Bool.and_eq_true]at hc;have hg:=yl.1 (yd1 hc.1);have hs:=hc.2.2;unfold ytE;simp only[cond_true];cases hw:(yF a0 a1).2
 ·rfl
 ·have hL:=yF0 hw
  have h1:ymt (yFn a1 (a0.2.1.1-1) a0 (yF a0 a1).1 [])=some (.inl (yus ((List.range (a0.2.1.1-1).toNat).foldl (fun l (i:Nat)=>l++ [nth (yF a0 a1).1 (ycM a0.2.1 a1 i) 0]) []))) :=
   zkD (step:=ybL) (a0.2.1.1-1).toNat (fun i s=>ylb a1 (a0.2.1.1-1) i a0 (yF a0 a1).1 s) (fun l (i:Nat)=>l++ [nth (yF a0 a1).1 (ycM a0.2.1 a1 i) 0]) (fun i s=>s.length=i) (fun s=> .inl (yus s)) (fun i s hi hs2=>⟨by
    have hd:=yVc hs (show(0:Int)≤i by omega) (show(i:Int)≤a0.2.1.1-2 by omega);simp only[ybL,ylb,ylw,zky (show(i:Int)<a0.2.1.1-1 by omega),cond_true,wq ((i:Int)+1) (by omega) (by omega),Int.natCast_add,Int.natCast_one,Int.toNat_natCast,zkX,yjk,zj6.2 (show 0≤ycM a0.2.1 a1 i∧ycM a0.2.1 a1 i<(yF a0 a1).1.length by omega)]
    rw[zkF.2 (show(s.length+ [nth (yF a0 a1).1 (ycM a0.2.1 a1 i) 0].length)*8≤140737488355328 by simp only[List.length_cons,List.length_nil]; omega)]; rfl,by simp[hs2]⟩) (fun s hs2=>by simp only[ybL,ylb,ylw,zk3 (show a0.2.1.1-1≤((a0.2.1.1-1).toNat:Int)by omega),cond_false]) [] rfl _ (by show _<18446744073709551616; omega)
  simp only[wq (a0.2.1.1-1) (by omega) (by omega)];rw[h1,yma]; rfl
def yAJ:Con:=⟨ynB,yvh,fun x=>(fun n=>some ((n.1,n.2,()),())) (yjj x.1 x.2.1)⟩
theorem yQY:ConOk prog 68 yAJ:=(yNI).mono (fun x r hk h=>(yP4 x.1 x.2.1 hk).trans h)
def yO0:Code:=(f220.body).getD .skip
def yPt:Env:=zkw TT [] []
theorem yGL:FrOk prog ⟨yPt,8,fun _=>none⟩ yO0:=zkA mixed ye trivial
abbrev ysm:List Par:= [.rd tW,.rp tI]
abbrev ysB:List OT:= [⟨false,tB,.fz⟩]
def yzO (a0:dW) (a1:Int):Option (zaY ysB×zak ysm) :=some (((a0.1==a1),()),())
theorem yKB:ConOk prog 220 ⟨ysm,ysB,fun x=>yzO x.1 x.2.1⟩:=zkI (yGL) func220 ntmps220.symm fun x=>by kernel_rfl
def ymd (a0:dW) (a1:Int):Bool :=(a0.1==a1)
def yyG:Con:=⟨ysm,ysB,fun x=>(fun n=>some ((n,()),())) (ymd x.1 x.2.1)⟩
theorem yNn (a0:dW) (a1:Int):yzO a0 a1=(fun n=>some ((n,()),())) (ymd a0 a1):=zkV (p:=fun(n:Bool)=>((n,()),())) rfl
theorem yOk:ConOk prog 220 yyG:=(yKB).mono (fun x r _ h=>(yNn x.1 x.2.1).trans h)
def ydA:Code:=(f219.body).getD .skip
def yhd:Env:=zkw TT [(220,yyG)] []
theorem yxj:FrOk prog ⟨yhd,19,fun _=>none⟩ ydA:=zkA mixed ye ⟨yOk,trivial⟩
def ykK:Nat→Option Seg:=fun _=>none
def yae:Shape:=⟨[(0,false,[.br tW]),(1,false,[.fx 220 tI]),(7,false,[.int .i64]),(8,false,[.int .i64])],[],[]⟩
def yaV:Shape:=⟨[(0,false,[.br tW]),(1,false,[.fx 220 tI]),(7,false,[.int .i64]),(8,false,[.ci .i64 0])],[],[]⟩
def yaT:Shape:=⟨[],[],[]⟩
def yaX:Shape:=⟨[(4,false,[.int .i64])],[],[]⟩
abbrev yel (v0:List dW) (v1 v2 v3:Int):(yae).X:=(((v0,()),(v1,()),(v2,()),(v3,()),()),(),())
abbrev yvQ (v0:List dW) (v1 v2:Int):(yaV).X:=(((v0,()),(v1,()),(v2,()),((),()),()),(),())
abbrev yvO  :(yaT).X:=((),(),())
abbrev yjg (v0:Int):(yaX).X:=(((v0,()),()),(),())
def yes (v0:List dW) (v1 v2 v3:Int):Option ((yae).X ⊕ ((yaT).X ⊕ (yaX).X)) :=bif(ltb v3 v2)then bif(inb v3 v0.length)then let r2:=ymd (nth v0 v3 (0,[])) v1;bif r2 then some (.inr (.inr (((v3,()),()),(),()))) else some (.inl (((v0,()),(v1,()),(v2,()),((i64.wrap (v3+1)),()),()),(),())) else none else some (.inr (.inl ((),(),())))
def yaq (x:(yae).X):=yes x.1.1.1 x.1.2.1.1 x.1.2.2.1.1 x.1.2.2.2.1.1
def yja (x:(yaV).X):(yae).X:=(((x.1.1.1,()),(x.1.2.1.1,()),(x.1.2.2.1.1,()),(0,()),()),(),())
def ykv:Code:=(zd7 ydA 64 52).getD .skip
theorem yxe:zd7 ydA 64 13=some (.block 0 (.loop ykv)):=by kernel_rfl
theorem yxr (x:(yae).X):zhu ⟨yhd,19,ykK⟩ 0 ykv 52 yae yaT yaX x=yaq x:=by kernel_rfl
def yjc (x:(yaV).X):Nat:=18446744073709551616
def yeT (x:(yaV).X):Option ((yaT).X ⊕ (yaX).X):=zF yaq (yjc x) (yja x)
def yjx:Seg:=⟨yaV,yaT,yaX,yeT⟩
def yxD:Nat→Option Seg:=fun q=>bif Nat.beq q 13 then some yjx else ykK q
theorem yxk:FrOk prog ⟨yhd,19,yxD⟩ ydA:=(yxj).loop (sg:=yjx) yae yja (by decide) yxe yaq yjc (by decide) (fun _=>rfl) (fun x r _ h=>h) yxr
abbrev ydC:List Par:= [.rd tWs,.fn 220 tI]
abbrev yhf:List OT:= [⟨false,tI,.fz⟩]
def yfK (a0:List dW) (a1:Int):Option (zaY yhf×zak ydC) :=zkt (yeT (((a0,()),(a1,()),((a0.length:Int),()),((),()),()),(),())) (fun y2 =>some (((-1),()),())) (fun y2 =>some ((y2.1.1.1,()),()))
theorem yzB:ConOk prog 219 ⟨ydC,yhf,fun x=>yfK x.1 x.2.1⟩:=zkI (yxk) func219 ntmps219.symm fun x=>by kernel_rfl
def ydF (a0:List dW) (a1:Int):Int:=yL a0 a1
theorem yAf (a0:List dW) (a1:Int) (hk:zjx ydC (a0,a1,())):yfK a0 a1=(fun n=>some ((n,()),())) (ydF a0 a1):=by
 have hb:a0.length*32≤2^47:=hk.1.1
 have h1:yeT (yvQ a0 a1 a0.length)=some (bif leb 0 (yL a0 a1)then .inr (yjg (yL a0 a1))else .inl yvO) :=
  yFg (step:=yaq) a0 (0,[]) (fun i=>yel a0 a1 a0.length i) (fun e:dW=>e.1==a1) (fun i=> .inr (yjg i)) _ (fun i hi=>by
   simp only[yaq,yel,yes,zky (show(i:Int)<a0.length by omega),cond_true,wq ((i:Int)+1) (by omega) (by omega),Int.natCast_add,Int.natCast_one,Int.toNat_natCast,zkR hi,zkS,ymd]
   cases((a0.getD i (0,[])).1==a1)<;>rfl) (by simp only[yaq,yel,yes,zk3 (Int.le_refl _),cond_false]) _ (by show _<18446744073709551616; omega)
 unfold yfK ydF;rw[h1];cases h:leb 0 (yL a0 a1)
 ·rw[show yL a0 a1= -1 from yF5 h]; rfl
 ·rfl
def yk5:Con:=⟨ydC,yhf,fun x=>(fun n=>some ((n,()),())) (ydF x.1 x.2.1)⟩
theorem yAi:ConOk prog 219 yk5:=(yzB).mono (fun x r hk h=>(yAf x.1 x.2.1 hk).trans h)
def yTS:Code:=(f188.body).getD .skip
def yT5:Env:=zkw TT [(219,yk5)] []
theorem yMv:FrOk prog ⟨yT5,9,fun _=>none⟩ yTS:=zkA mixed ye ⟨yAi,trivial⟩
abbrev ypZ:List Par:= [.rd tA,.rd tI]
abbrev yx9:List OT:= [⟨false,tI,.fz⟩]
def yC2 (a0:dA) (a1:Int):Option (zaY yx9×zak ypZ) :=let r1:=ydF a0.2.2.2.2.2.2.2.2.1 a1;some ((r1,()),())
theorem yQI:ConOk prog 188 ⟨ypZ,yx9,fun x=>yC2 x.1 x.2.1⟩:=zkI (yMv) func188 ntmps188.symm fun x=>by kernel_rfl
def yqX (a0:dA) (a1:Int):Int:=yL a0.2.2.2.2.2.2.2.2.1 a1
theorem yS6 (a0:dA) (a1:Int) (hk:zjx ypZ (a0,a1,())):yC2 a0 a1=(fun n=>some ((n,()),())) (yqX a0 a1):=rfl
def yCq:Con:=⟨ypZ,yx9,fun x=>(fun n=>some ((n,()),())) (yqX x.1 x.2.1)⟩
theorem yTr:ConOk prog 188 yCq:=(yQI).mono (fun x r hk h=>(yS6 x.1 x.2.1 hk).trans h)
def yOZ:Code:=(f136.body).getD .skip
def yPs:Env:=zkw TT [(68,yAJ),(158,ybD),(188,yCq)] []
theorem yGI:FrOk prog ⟨yPs,24,fun _=>none⟩ yOZ:=zkA mixed ye ⟨yQY,ydu,yTr,trivial⟩
abbrev ylW:List Par:= [.rd tA,.rd tI]
abbrev ysA:List OT:= [⟨false,tL,(.ow .fz)⟩,⟨false,tB,.fz⟩]
def yoF (a0:dA) (a1:Int):Option (zaY ysA×zak ylW) :=let r1:=yqX a0 a1;bif(leb 0 r1)then bif(inb r1 a0.2.2.2.2.2.2.2.2.1.length)then let r2:=yC ((nth a0.2.2.2.2.2.2.2.2.1 r1 (0,[])).2);some ((r2,true,()),()) else none else let r3:=yjj a0 a1;some ((r3.1,r3.2,()),())
theorem yKz:ConOk prog 136 ⟨ylW,ysA,fun x=>yoF x.1 x.2.1⟩:=zkI (yGI) func136 ntmps136.symm fun x=>by kernel_rfl
def ye1 (a0:dA) (a1:Int):List Int×Bool:=bif leb 0 (yL a0.2.2.2.2.2.2.2.2.1 a1)then((nth a0.2.2.2.2.2.2.2.2.1 (yL a0.2.2.2.2.2.2.2.2.1 a1) (0,[])).2,true)else yyU a0 a1
theorem yNl (a0:dA) (a1:Int) (hk:zjx ylW (a0,a1,())):yoF a0 a1=(fun n=>some ((n.1,n.2,()),())) (ye1 a0 a1):=by
 unfold yoF ye1 yqX yjj yC;simp only[];cases h:leb 0 (yL a0.2.2.2.2.2.2.2.2.1 a1)
 ·rfl
 ·rw[show inb (yL a0.2.2.2.2.2.2.2.2.1 a1) a0.2.2.2.2.2.2.2.2.1.length=true from(yk9 (d:=((0,[]):dW)) h).1]; rfl
theorem yVz {a:dA} {s:Int} (h:yR a=true) (hs:y5 a.2.1 s=true):ye1 a s=yJ a s:=by
 unfold ye1 yJ yyU;rw[h,hs];cases a.2.2.2.2.2.2.2.2.2.2.2<;>rfl
def yyE:Con:=⟨ylW,ysA,fun x=>(fun n=>some ((n.1,n.2,()),())) (ye1 x.1 x.2.1)⟩
theorem yOi:ConOk prog 136 yyE:=(yKz).mono (fun x r hk h=>(yNl x.1 x.2.1 hk).trans h)
def yLm:Code:=(f65.body).getD .skip
def yLJ:Env:=zkw TT [(59,yws),(60,yyB),(134,ytY),(136,yyE)] []
theorem yET:FrOk prog ⟨yLJ,33,fun _=>none⟩ yLm:=zkA mixed ye ⟨yK0,yOf,yHS,yOi,trivial⟩
abbrev yj8:List Par:= [.rd tA,.rd tI]
abbrev yqf:List OT:= [⟨false,tI,.fz⟩,⟨false,tI,.fz⟩]
def ym0 (a0:dA) (a1:Int):Option (zaY yqf×zak yj8) :=let r1:=yfD a0 a1;bif(r1 !=0)then some ((0,r1,()),()) else let r2:=yg3 a0.2.1 a1;let r3:=ye1 a0 r2;bif(!r3.2)then some ((0,5,()),()) else let r4:=yh6 a0.2.1 a1;bif(inb r4 r3.1.length)then some (((nth r3.1 r4 0),0,()),()) else none
theorem yHz:ConOk prog 65 ⟨yj8,yqf,fun x=>ym0 x.1 x.2.1⟩:=zkI (yET) func65 ntmps65.symm fun x=>by kernel_rfl
def yg0 (a0:dA) (a1:Int):Int×Int:=ybF a0 a1
theorem yKd (a0:dA) (a1:Int) (hk:zjx yj8 (a0,a1,())):ym0 a0 a1=(fun n=>some ((n.1,n.2,()),())) (yg0 a0 a1):=by
 unfold ym0 yg0 ybF yg3 yh6;simp only[yUn];cases hc:(ygT a0 a1 !=0)
 ·obtain⟨h1,h2,_⟩:=yVX (bne_eq_false_iff_eq.1 hc)
  have hs:=yjz h2;rw[yVz h1 hs];simp only[cond_false];cases hn:(yJ a0 (yag a0.2.1 a1)).2
  ·rfl
  ·have hl:=yn1 h1 hs hn
   obtain⟨_,_,h5⟩:=yk3 h2;have h6:yef a0.2.1 a1=a1.tmod (a0.2.1.1-1):=by unfold yef; rw[h2]; rfl
   rw[zj6.2 (show 0≤yef a0.2.1 a1∧yef a0.2.1 a1<(yJ a0 (yag a0.2.1 a1)).1.length by omega)]; rfl
 ·rfl
def ywp:Con:=⟨yj8,yqf,fun x=>(fun n=>some ((n.1,n.2,()),())) (yg0 x.1 x.2.1)⟩
theorem yKX:ConOk prog 65 ywp:=(yHz).mono (fun x r hk h=>(yKd x.1 x.2.1 hk).trans h)
def yjX:Code:=(f50.body).getD .skip
def ypw:Env:=zkw TT [(51,ykx),(65,ywp)] []
theorem yEO:FrOk prog ⟨ypw,28,fun _=>none⟩ yjX:=zkA mixed ye ⟨ys0,yKX,trivial⟩
def yv4:Nat→Option Seg:=fun _=>none
def ya7:Shape:=⟨[(1,false,[.ptr 0 0]),(3,false,[.at 800000000]),(10,false,[.int .i64]),(11,false,[.int .i64])],[(0,[.int .i64,.int .i64,.int .i64,.br tM,.int .i64,.int .i64,.int .i64,.int .i64,.int .i64,.br tW,.int .i64,.bool,.bool])],[(800000000,tI,.fz)]⟩
def ydS:Shape:=⟨[(1,false,[.ptr 0 0]),(3,false,[.at 800000000]),(10,false,[.int .i64]),(11,false,[.ci .i64 0])],[(0,[.int .i64,.int .i64,.int .i64,.br tM,.int .i64,.int .i64,.int .i64,.int .i64,.int .i64,.br tW,.int .i64,.bool,.bool])],[(800000000,tI,.fz)]⟩
def ydK:Shape:=⟨[(3,false,[.at 800000000])],[],[(800000000,tI,.fz)]⟩
def ydZ:Shape:=⟨[(2,false,[.nil])],[],[]⟩
abbrev yjF (v0 v1:Int) (v2:dA) (v3:List Int):(ya7).X:=((((),()),((),()),(v0,()),(v1,()),()),((v2.1,v2.2.1.1,v2.2.1.2,v2.2.2.1,v2.2.2.2.1,v2.2.2.2.2.1,v2.2.2.2.2.2.1,v2.2.2.2.2.2.2.1,v2.2.2.2.2.2.2.2.1,v2.2.2.2.2.2.2.2.2.1,v2.2.2.2.2.2.2.2.2.2.1,v2.2.2.2.2.2.2.2.2.2.2.1,v2.2.2.2.2.2.2.2.2.2.2.2,()),()),(v3,()))
abbrev yD5 (v0:Int) (v1:dA) (v2:List Int):(ydS).X:=((((),()),((),()),(v0,()),((),()),()),((v1.1,v1.2.1.1,v1.2.1.2,v1.2.2.1,v1.2.2.2.1,v1.2.2.2.2.1,v1.2.2.2.2.2.1,v1.2.2.2.2.2.2.1,v1.2.2.2.2.2.2.2.1,v1.2.2.2.2.2.2.2.2.1,v1.2.2.2.2.2.2.2.2.2.1,v1.2.2.2.2.2.2.2.2.2.2.1,v1.2.2.2.2.2.2.2.2.2.2.2,()),()),(v2,()))
abbrev yrO (v0:List Int):(ydK).X:=((((),()),()),(),(v0,()))
abbrev yEa  :(ydZ).X:=((((),()),()),(),())
def yjP (v0 v1 v2 v3 v4:Int) (v5:List dM) (v6 v7 v8 v9 v10:Int) (v11:List dW) (v12:Int) (v13 v14:Bool) (v15:List Int):Option ((ya7).X ⊕ ((ydK).X ⊕ (ydZ).X)) :=bif(ltb v1 v0)then let r3:=yg0 (v2,(v3,v4),v5,v6,v7,v8,v9,v10,v11,v12,v13,v14) v1;bif(r3.2 !=0)then some (.inr (.inr ((((),()),()),(),()))) else bif(zkl v15.length ([r3.1]:List Int).length 8)then some (.inl ((((),()),((),()),(v0,()),((i64.wrap (v1+1)),()),()),((v2,v3,v4,v5,v6,v7,v8,v9,v10,v11,v12,v13,v14,()),()),((v15++([r3.1]:List Int)),()))) else none else some (.inr (.inl ((((),()),()),(),(v15,()))))
def ybn (x:(ya7).X):=yjP x.1.2.2.1.1 x.1.2.2.2.1.1 x.2.1.1.1 x.2.1.1.2.1 x.2.1.1.2.2.1 x.2.1.1.2.2.2.1 x.2.1.1.2.2.2.2.1 x.2.1.1.2.2.2.2.2.1 x.2.1.1.2.2.2.2.2.2.1 x.2.1.1.2.2.2.2.2.2.2.1 x.2.1.1.2.2.2.2.2.2.2.2.1 x.2.1.1.2.2.2.2.2.2.2.2.2.1 x.2.1.1.2.2.2.2.2.2.2.2.2.2.1 x.2.1.1.2.2.2.2.2.2.2.2.2.2.2.1 x.2.1.1.2.2.2.2.2.2.2.2.2.2.2.2.1 x.2.2.1
def yry (x:(ydS).X):(ya7).X:=((((),()),((),()),(x.1.2.2.1.1,()),(0,()),()),((x.2.1.1.1,x.2.1.1.2.1,x.2.1.1.2.2.1,x.2.1.1.2.2.2.1,x.2.1.1.2.2.2.2.1,x.2.1.1.2.2.2.2.2.1,x.2.1.1.2.2.2.2.2.2.1,x.2.1.1.2.2.2.2.2.2.2.1,x.2.1.1.2.2.2.2.2.2.2.2.1,x.2.1.1.2.2.2.2.2.2.2.2.2.1,x.2.1.1.2.2.2.2.2.2.2.2.2.2.1,x.2.1.1.2.2.2.2.2.2.2.2.2.2.2.1,x.2.1.1.2.2.2.2.2.2.2.2.2.2.2.2.1,()),()),(x.2.2.1,()))
def ytO:Code:=(zd7 yjX 64 116).getD .skip
theorem yEt:zd7 yjX 64 29=some (.block 0 (.loop ytO)):=by kernel_rfl
theorem yFP (x:(ya7).X):zhu ⟨ypw,28,yv4⟩ 0 ytO 116 ya7 ydK ydZ x=ybn x:=by kernel_rfl
def yrH (x:(ydS).X):Nat:=18446744073709551616
def ykQ (x:(ydS).X):Option ((ydK).X ⊕ (ydZ).X):=zF ybn (yrH x) (yry x)
def yrX:Seg:=⟨ydS,ydK,ydZ,ykQ⟩
def yGf:Nat→Option Seg:=fun q=>bif Nat.beq q 29 then some yrX else yv4 q
theorem yEP:FrOk prog ⟨ypw,28,yGf⟩ yjX:=(yEO).loop (sg:=yrX) ya7 yry (by decide) yEt ybn yrH (by decide) (fun _=>rfl) (fun x r _ h=>h) yFP
abbrev yj5:List Par:= [.rd tA]
abbrev yqc:List OT:= [⟨false,tL,(.ow .fz)⟩]
def ymX (a0:dA):Option (zaY yqc×zak yj5) :=let r1:=yen a0.2.1;zkt (ykQ ((((),()),((),()),(r1,()),((),()),()),((a0.1,a0.2.1.1,a0.2.1.2,a0.2.2.1,a0.2.2.2.1,a0.2.2.2.2.1,a0.2.2.2.2.2.1,a0.2.2.2.2.2.2.1,a0.2.2.2.2.2.2.2.1,a0.2.2.2.2.2.2.2.2.1,a0.2.2.2.2.2.2.2.2.2.1,a0.2.2.2.2.2.2.2.2.2.2.1,a0.2.2.2.2.2.2.2.2.2.2.2,()),()),(([]:List Int),()))) (fun y3 =>some ((y3.2.2.1,()),())) (fun y3 =>some (([],()),()))
theorem yHw:ConOk prog 50 ⟨yj5,yqc,fun x=>ymX x.1⟩:=zkI (yEP) func50 ntmps50.symm fun x=>by kernel_rfl
def yaZ (a0:dA):List Int:=yok a0
theorem yKa (a0:dA) (hk:zjx yj5 (a0,())):ymX a0=(fun n=>some ((n,()),())) (yaZ a0):=by
 have hB:=ytu a0.2.1
 have h1:ykQ (yD5 (yn a0.2.1) a0 [])=some (bif(List.range (yn a0.2.1).toNat).all (fun(b:Nat)=> !((ybF a0 b).2 !=0))then .inl (yrO ((List.range (yn a0.2.1).toNat).foldl (fun l (b:Nat)=>l++ [(ybF a0 b).1]) []))else .inr yEa) :=
  zhU (step:=ybn) (yn a0.2.1).toNat (fun i s=>yjF (yn a0.2.1) i a0 s) (fun(b:Nat)=> !((ybF a0 b).2 !=0)) (fun l (b:Nat)=>l++ [(ybF a0 b).1]) (fun i s=>s.length=i) (fun s=> .inl (yrO s)) _ (fun i s hi hs=>by
   refine⟨?_,fun _=>by simp[hs]⟩;simp only[ybn,yjF,yjP,zky (show(i:Int)<yn a0.2.1 by omega),cond_true,wq ((i:Int)+1) (by omega) (by omega),Int.natCast_add,Int.natCast_one,Int.toNat_natCast,zkX,yg0,zkF.2 (show(s.length+ [(ybF a0 i).1].length)*8≤140737488355328 by simp only[List.length_cons,List.length_nil]; omega)]
   cases((ybF a0 i).2 !=0)<;>rfl) (fun s hs=>by simp only[ybn,yjF,yjP,zk3 (show yn a0.2.1≤((yn a0.2.1).toNat:Int)by omega),cond_false]) [] rfl _ (by show _<18446744073709551616; omega)
 unfold ymX yaZ yok;simp only[ysX];rw[h1,yma];cases(List.range (yn a0.2.1).toNat).all (fun(b:Nat)=> !((ybF a0 b).2 !=0))<;>rfl
def ywm:Con:=⟨yj5,yqc,fun x=>(fun n=>some ((n,()),())) (yaZ x.1)⟩
theorem yKU:ConOk prog 50 ywm:=(yHw).mono (fun x r hk h=>(yKa x.1 hk).trans h)
def yO4:Code:=(f5.body).getD .skip
def yPx:Env:=zkw TT [(14,yEC),(39,ywn),(45,yww),(46,ywl),(47,yDG),(48,yDH),(49,ywv),(50,ywm),(51,ykx)] []
theorem yGR:FrOk prog ⟨yPx,71,fun _=>none⟩ yO4:=zkA mixed ye ⟨yU3,yKV,yK4,yKT,yUH,yUI,yK3,yKU,ys0,trivial⟩
abbrev ylY:List Par:= [.kp tYs .fz]
abbrev ysG:List OT:= [⟨false,tB,.fz⟩]
def yoI (a0:List Int):Option (zaY ysG×zak ylY) :=let r1:=yxp a0;bif r1 then some ((true,()),()) else bnd (yeR a0) fun r2 =>let r3:=ygX r2.1.1;bif(r2.1.1.2.1.1 !=0)then let r4:=ygY r3.1 (r2.1.2.1.tmod r2.1.1.2.1.1);bif(r3.2==0)then bif(r3.1.2.2.2.1==(-1))then let r5:=ynp r3.1;bif(r5==0)then let r6:=ynq r3.1;bif r6 then let r7:=yaZ r3.1;let r8:=yaZ r2.1.1;let r9:=ycO r7 r8;bif r9 then let r10:=yaZ r4;let r11:=yaZ r2.1.1;let r12:=ycO r10 r11;bif r12 then bif(!r4.2.2.2.2.2.2.2.2.2.2.2)then let r13:=yaZ r2.1.1;let r14:=yen r2.1.1.2.1;some ((((r13.length:Int)==r14),()),()) else some ((false,()),()) else some ((false,()),()) else some ((false,()),()) else some ((false,()),()) else some ((false,()),()) else some ((false,()),()) else some ((false,()),()) else none
theorem yKG:ConOk prog 5 ⟨ylY,ysG,fun x=>yoI x.1⟩:=zkI (yGR) func5 ntmps5.symm fun x=>by kernel_rfl
def ysZ (a0:List Int):Bool:=true
theorem yNs (a0:List Int) (hk:zjx ylY (a0,())):yoI a0=(fun n=>some ((n,()),())) (ysZ a0):=by
 have hb:a0.length≤140737488355328:=by have:a0.length*1≤2^47:=hk.1.1; omega
 obtain⟨a,n,V,e,hG,n0,n1⟩:=yUW a0 hb;have hg:=yl.1 hG.l.x.xc.1;obtain⟨x1,x2,x3,x4,x5,x6,_,x8⟩:=yVU hG.l hG.m hG.f hG.b (by omega);obtain⟨y1,y2,y3,hfu⟩:=x8 hG.w.2.2.1;have m0:0≤n.tmod a.2.1.1:=Int.tmod_nonneg _ n0;have m1:n.tmod a.2.1.1<a.2.1.1:=Int.tmod_lt_of_pos _ (by omega);obtain⟨m,hme⟩: ∃m,m=n.tmod a.2.1.1:=⟨_,rfl⟩;rw[← hme]at m0 m1;have hfa:=yV5 hG;have hxl:=y2.x.xk.1.2;have c1:=yH7 hG.l.x y2.x x2 x3 hfa (yVg y2);have cl:=yUh hG.l.x hfa;have bx:=yXh y2 (.inl y3);unfold yoI ysZ;simp only[e,zkH,ygX,← hme];generalize ycc a=X at x1 x2 x3 y1 y2 y3 hxl c1 bx hfu;have hmi:inb m X.1.2.2.1.length=true:=zj6.2 (by rw[x2]at hxl; omega);have hfm:(nth X.1.2.2.1 m yf).2.2.1=false:=y2.fd m m0 (by rw[x2]; exact m1)
 have hfd:yDh X.1 m=yap X.1 m:=by
  unfold yDh;rw[yqR y2.x,hmi,hfm]; rfl
 have hbr:(yap X.1 m).2.2.2.2.2.2.2.2.2.2.2=false:=by
  rw[ysV y2.x (.inl y3) (by omega)];exact(yDf (ycl (yA X.1 m))).trans y2.x.xb
 have hu:=yV3 y2.x hfu (.inl y3) (by omega) (m:=m);have hyi:=yXl y2.x (.inl y3) hmi (by omega) hu;obtain⟨f1,f2,f3⟩:=yEF y2.x (.inl y3) (by omega) (m:=m)
 have hfy:yEo (yap X.1 m):=fun s s0 s1=>yF7 m0 fun i i0 i1 hi2=>by
  rw[f1]at i1;exact yWD y2.x (.inl y3) hmi (by omega) i0 i1 hi2 s0 ⟨y2.fd i i0 i1,y2.nd i (s+6) i0 i1 (by omega)⟩
 have c2:=yH7 hG.l.x hyi (f1.trans x2) (f3.trans x3) hfa hfy;cases yxp a0
 ·rw[show(a.2.1.1 !=0)=true from bne_iff_ne.2 (by omega)]
  simp only[cond_false,cond_true,y1,y3,ynp,bx,ynq,yXk y2.x,yaZ,c1,ygY,hfd,c2,hbr,yTG,cl,ysX,beq_self_eq_true,Bool.not_false]
 ·rfl
def yIM:Con:=⟨ylY,ysG,fun x=>(fun n=>some ((n,()),())) (ysZ x.1)⟩
theorem yOn:ConOk prog 5 yIM:=(yKG).mono (fun x r hk h=>(yNs x.1 hk).trans h)
end
end Go.Tf
