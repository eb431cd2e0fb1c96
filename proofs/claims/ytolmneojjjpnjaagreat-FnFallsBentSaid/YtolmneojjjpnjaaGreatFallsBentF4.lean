/- Functions of the program, and what they come to. -/
import Derived.Test.YtolmneojjjpnjaaGreatFallsBentF3
namespace Go.Tf
noncomputable section
open Go.Proofs Go.Proofs.Tryz IntKind
set_option synthInstance.maxHeartbeats 400000
set_option synthInstance.maxSize 10000
set_option linter.unusedVariables false
set_option linter.unusedSimpArgs false
set_option maxRecDepth 100000
def y3q:Code:=(f88.body).getD .skip
def y3Y:Env:=zkw TT [] []
theorem yTa:FrOk prog ⟨y3Y,8,fun _=>none⟩ y3q:=zkA mixed yd trivial
abbrev yBD:List Par:= [.rd tI]
abbrev yB5:List OT:= [⟨false,tI,.fz⟩]
def yI5 (a0:Int):Option (zaY yB5×zak yBD) :=bif(ltb a0 0)then some (((-1),()),()) else some (((i64.wrap (2+(a0.tmod 4))),()),())
theorem yYR:ConOk prog 88 ⟨yBD,yB5,fun x=>yI5 x.1⟩:=zkI (yTa) func88 ntmps88.symm fun x=>by kernel_rfl
def ymr (a0:Int):Int :=bif(ltb a0 0)then (-1) else (i64.wrap (2+(a0.tmod 4)))
def yvN:Con:=⟨yBD,yB5,fun x=>(fun n=>some ((n,()),())) (ymr x.1)⟩
theorem y1i (a0:Int):yI5 a0=(fun n=>some ((n,()),())) (ymr a0):=zkV (p:=fun(n:Int)=>((n,()),())) (zkG (p:=fun(n:Int)=>((n,()),())) rfl rfl)
theorem yKu:ConOk prog 88 yvN:=(yYR).mono (fun x r _ h=>(y1i x.1).trans h)
theorem yOe (q:Int):ymr q=yl q:=rfl
def y44:Code:=(f159.body).getD .skip
def y5j:Env:=zkw TT [(81,yF),(187,ylG)] []
theorem yXt:FrOk prog ⟨y5j,22,fun _=>none⟩ y44:=zkA mixed yd ⟨yS,ywC,trivial⟩
abbrev yE6:List Par:= [.rd tN]
abbrev yFm:List OT:= [⟨false,tB,.fz⟩]
def yKK (a0:dN):Option (zaY yFm×zak yE6) :=let r1:=yg a0.1 0 60000;bif r1 then let r2:=yg a0.2.1 0 7;bif r2 then let r3:=yg (a0.2.2.length:Int) 2 4;bif r3 then let r4:=yaf a0.2.2;some ((r4,()),()) else some ((false,()),()) else some ((false,()),()) else some ((false,()),())
theorem y1O:ConOk prog 159 ⟨yE6,yFm,fun x=>yKK x.1⟩:=zkI (yXt) func159 ntmps159.symm fun x=>by kernel_rfl
def ykM (a0:dN):Bool :=let r1:=yg a0.1 0 60000;bif r1 then let r2:=yg a0.2.1 0 7;bif r2 then let r3:=yg (a0.2.2.length:Int) 2 4;bif r3 then let r4:=yaf a0.2.2;r4 else false else false else false
def yy9:Con:=⟨yE6,yFm,fun x=>(fun n=>some ((n,()),())) (ykM x.1)⟩
theorem y4u (a0:dN):yKK a0=(fun n=>some ((n,()),())) (ykM a0):=zkV (p:=fun(n:Bool)=>((n,()),())) (zkG (p:=fun(n:Bool)=>((n,()),())) (zkG (p:=fun(n:Bool)=>((n,()),())) (zkG (p:=fun(n:Bool)=>((n,()),())) rfl rfl) rfl) rfl)
theorem yLO:ConOk prog 159 yy9:=(y1O).mono (fun x r _ h=>(y4u x.1).trans h)
theorem ySj (r:dN):ykM r=yB r:=by
 unfold ykM yB;simp only[yai,yIG,ysz]
def y3n:Code:=(f89.body).getD .skip
def y3V:Env:=zkw TT [(158,yaX),(159,yy9)] []
theorem yS5:FrOk prog ⟨y3V,39,fun _=>none⟩ y3n:=zkA mixed yd ⟨ycY,yLO,trivial⟩
abbrev yr8:List Par:= [.rd tL]
abbrev yB1:List OT:= [⟨false,tN,(.pr .fz (.pr .fz (.ow .fz)))⟩,⟨false,tB,.fz⟩]
def ywI (a0:List Int):Option (zaY yB1×zak yr8) :=bif(!(ltb (a0.length:Int) 4))then bif(inb 0 a0.length)then bif(!((nth a0 0 0) !=21322))then bif(inb 3 a0.length)then bif((nth a0 3 0) !=(i64.wrap ((a0.length:Int)-4)))then some (((0,0,[]),false,()),()) else bif(inb 1 a0.length)then bif(inb 2 a0.length)then bif(zj0 4 (a0.length:Int) a0.length)then let r1:=yn ((a0.drop (4:Int).toNat).take ((a0.length:Int)-4).toNat);let r2:=ykM ((nth a0 1 0),(nth a0 2 0),r1);bif(!r2)then some (((0,0,[]),false,()),()) else some ((((nth a0 1 0),(nth a0 2 0),r1),true,()),()) else none else none else none else none else some (((0,0,[]),false,()),()) else none else some (((0,0,[]),false,()),())
theorem yYN:ConOk prog 89 ⟨yr8,yB1,fun x=>ywI x.1⟩:=zkI (yS5) func89 ntmps89.symm fun x=>by kernel_rfl
def ymo (a0:List Int):dN×Bool:=yba a0
theorem y1e (a0:List Int) (hk:zjx yr8 (a0,())):ywI a0=(fun n=>some ((n.1,n.2,()),())) (ymo a0):=by
 have hb:a0.length*8≤2^47:=hk.1.1;unfold ywI ymo yba yn;by_cases h:(a0.length:Int)<4
 ·rw[zky h,zk1 h]; rfl
 ·have ht:(a0.drop (4:Int).toNat).take ((a0.length:Int)-4).toNat=a0.drop 4:=List.take_of_length_le (by rw[List.length_drop]; show a0.length-4≤_; omega)
  rw[zk3 (Int.not_lt.1 h),zk2 (Int.not_lt.1 h)];simp only[bne,Bool.not_false,cond_true,zj6.2 (show(0:Int)≤0∧(0:Int)<a0.length by omega),zj6.2 (show(0:Int)≤1∧(1:Int)<a0.length by omega),zj6.2 (show(0:Int)≤2∧(2:Int)<a0.length by omega),zj6.2 (show(0:Int)≤3∧(3:Int)<a0.length by omega),zkz.2 (show(0:Int)≤4∧(4:Int)≤a0.length∧(a0.length:Int)≤a0.length by omega),ht,wq ((a0.length:Int)-4) (by omega) (by omega),ySj];rw[show yB (nth a0 1 0,nth a0 2 0,a0.drop 4)=yB (yJi a0)from rfl];cases(nth a0 0 0==21322)<;>cases(nth a0 3 0==(a0.length:Int)-4)<;>cases yB (yJi a0)<;>rfl
def yId:Con:=⟨yr8,yB1,fun x=>(fun n=>some ((n.1,n.2,()),())) (ymo x.1)⟩
theorem y2j:ConOk prog 89 yId:=(yYN).mono (fun x r hk h=>(y1e x.1 hk).trans h)
def ypy:Code:=(f23.body).getD .skip
def yyk:Env:=zkw TT [(87,ys0),(88,yvN),(89,yId)] []
theorem yP6:FrOk prog ⟨yyk,67,fun _=>none⟩ ypy:=zkA mixed yd ⟨yIP,yKu,y2j,trivial⟩
def yEG:Nat→Option Seg:=fun _=>none
def ybV:Shape:=⟨[(1,false,[.int .i64]),(2,false,[.ptr 0 0]),(4,false,[.ptr 64 0]),(13,false,[.br tM]),(14,false,[.int .i64]),(15,false,[.int .i64])],[(0,[.int .i64,.int .i64,.int .i64,.br tM,.int .i64,.int .i64,.int .i64,.int .i64,.int .i64,.br tW,.int .i64,.bool,.bool]),(64,[.int .i64,.int .i64,.nil])],[]⟩
def ygq:Shape:=⟨[(1,false,[.int .i64]),(2,false,[.ptr 0 0]),(4,false,[.ptr 64 0]),(13,false,[.br tM]),(14,false,[.int .i64]),(15,false,[.ci .i64 0])],[(0,[.int .i64,.int .i64,.int .i64,.br tM,.int .i64,.int .i64,.int .i64,.int .i64,.int .i64,.br tW,.int .i64,.bool,.bool]),(64,[.int .i64,.int .i64,.nil])],[]⟩
def ygb:Shape:=⟨[(4,false,[.ptr 64 0])],[(64,[.int .i64,.int .i64,.nil])],[]⟩
def ygF:Shape:=⟨[(4,false,[.ptr 64 0]),(5,false,[.bool])],[(64,[.int .i64,.int .i64,.at 800000000])],[(800000000,tI,.fz)]⟩
abbrev yoN (v0:Int) (v1:List dM) (v2 v3:Int) (v4:dA) (v5:dN):(ybV).X:=(((v0,()),((),()),((),()),(v1,()),(v2,()),(v3,()),()),((v4.1,v4.2.1.1,v4.2.1.2,v4.2.2.1,v4.2.2.2.1,v4.2.2.2.2.1,v4.2.2.2.2.2.1,v4.2.2.2.2.2.2.1,v4.2.2.2.2.2.2.2.1,v4.2.2.2.2.2.2.2.2.1,v4.2.2.2.2.2.2.2.2.2.1,v4.2.2.2.2.2.2.2.2.2.2.1,v4.2.2.2.2.2.2.2.2.2.2.2,()),(v5.1,v5.2.1,(),()),()),())
abbrev yOo (v0:Int) (v1:List dM) (v2:Int) (v3:dA) (v4:dN):(ygq).X:=(((v0,()),((),()),((),()),(v1,()),(v2,()),((),()),()),((v3.1,v3.2.1.1,v3.2.1.2,v3.2.2.1,v3.2.2.2.1,v3.2.2.2.2.1,v3.2.2.2.2.2.1,v3.2.2.2.2.2.2.1,v3.2.2.2.2.2.2.2.1,v3.2.2.2.2.2.2.2.2.1,v3.2.2.2.2.2.2.2.2.2.1,v3.2.2.2.2.2.2.2.2.2.2.1,v3.2.2.2.2.2.2.2.2.2.2.2,()),(v4.1,v4.2.1,(),()),()),())
abbrev yOf (v0:dN):(ygb).X:=((((),()),()),((v0.1,v0.2.1,(),()),()),())
abbrev yOD (v0:Bool) (v1:dN):(ygF).X:=((((),()),(v0,()),()),((v1.1,v1.2.1,(),()),()),(v1.2.2,()))
def ypg (v0:Int) (v1:List dM) (v2 v3 v4 v5 v6:Int) (v7:List dM) (v8 v9 v10 v11 v12:Int) (v13:List dW) (v14:Int) (v15 v16:Bool) (v17 v18:Int):Option ((ybV).X ⊕ ((ygb).X ⊕ (ygF).X)) :=bif(ltb v3 v2)then bif(inb v3 v1.length)then let r4:=ymr v0;let r5:=yeX ((nth v1 v3 ([],[],false,[])).1,((nth v1 v3 ([],[],false,[])).2).1,(((nth v1 v3 ([],[],false,[])).2).2)) r4;let r6:=ymo r5.1;bif r5.2 then bif r6.2 then bif(r6.1.1==v0)then bif(leb 0 r6.1.2.1)then bif(ltb r6.1.2.1 v6)then bif((i64.wrap ((r6.1.2.2.length:Int)+1))==v5)then some (.inr (.inr ((((),()),(true,()),()),((r6.1.1,r6.1.2.1,(),()),()),(r6.1.2.2,())))) else some (.inl (((v0,()),((),()),((),()),(v1,()),(v2,()),((i64.wrap (v3+1)),()),()),((v4,v5,v6,v7,v8,v9,v10,v11,v12,v13,v14,v15,v16,()),(v17,v18,(),()),()),())) else some (.inl (((v0,()),((),()),((),()),(v1,()),(v2,()),((i64.wrap (v3+1)),()),()),((v4,v5,v6,v7,v8,v9,v10,v11,v12,v13,v14,v15,v16,()),(v17,v18,(),()),()),())) else some (.inl (((v0,()),((),()),((),()),(v1,()),(v2,()),((i64.wrap (v3+1)),()),()),((v4,v5,v6,v7,v8,v9,v10,v11,v12,v13,v14,v15,v16,()),(v17,v18,(),()),()),())) else some (.inl (((v0,()),((),()),((),()),(v1,()),(v2,()),((i64.wrap (v3+1)),()),()),((v4,v5,v6,v7,v8,v9,v10,v11,v12,v13,v14,v15,v16,()),(v17,v18,(),()),()),())) else some (.inl (((v0,()),((),()),((),()),(v1,()),(v2,()),((i64.wrap (v3+1)),()),()),((v4,v5,v6,v7,v8,v9,v10,v11,v12,v13,v14,v15,v16,()),(v17,v18,(),()),()),())) else some (.inl (((v0,()),((),()),((),()),(v1,()),(v2,()),((i64.wrap (v3+1)),()),()),((v4,v5,v6,v7,v8,v9,v10,v11,v12,v13,v14,v15,v16,()),(v17,v18,(),()),()),())) else none else some (.inr (.inl ((((),()),()),((v17,v18,(),()),()),())))
def ych (x:(ybV).X):=ypg x.1.1.1 x.1.2.2.2.1.1 x.1.2.2.2.2.1.1 x.1.2.2.2.2.2.1.1 x.2.1.1.1 x.2.1.1.2.1 x.2.1.1.2.2.1 x.2.1.1.2.2.2.1 x.2.1.1.2.2.2.2.1 x.2.1.1.2.2.2.2.2.1 x.2.1.1.2.2.2.2.2.2.1 x.2.1.1.2.2.2.2.2.2.2.1 x.2.1.1.2.2.2.2.2.2.2.2.1 x.2.1.1.2.2.2.2.2.2.2.2.2.1 x.2.1.1.2.2.2.2.2.2.2.2.2.2.1 x.2.1.1.2.2.2.2.2.2.2.2.2.2.2.1 x.2.1.1.2.2.2.2.2.2.2.2.2.2.2.2.1 x.2.1.2.1.1 x.2.1.2.1.2.1
def yAn (x:(ygq).X):(ybV).X:=(((x.1.1.1,()),((),()),((),()),(x.1.2.2.2.1.1,()),(x.1.2.2.2.2.1.1,()),(0,()),()),((x.2.1.1.1,x.2.1.1.2.1,x.2.1.1.2.2.1,x.2.1.1.2.2.2.1,x.2.1.1.2.2.2.2.1,x.2.1.1.2.2.2.2.2.1,x.2.1.1.2.2.2.2.2.2.1,x.2.1.1.2.2.2.2.2.2.2.1,x.2.1.1.2.2.2.2.2.2.2.2.1,x.2.1.1.2.2.2.2.2.2.2.2.2.1,x.2.1.1.2.2.2.2.2.2.2.2.2.2.1,x.2.1.1.2.2.2.2.2.2.2.2.2.2.2.1,x.2.1.1.2.2.2.2.2.2.2.2.2.2.2.2.1,()),(x.2.1.2.1.1,x.2.1.2.1.2.1,(),()),()),())
def yDa:Code:=(zd7 ypy 64 52).getD .skip
theorem yPN:zd7 ypy 64 13=some (.block 0 (.loop yDa)):=by kernel_rfl
theorem yRX (x:(ybV).X):zhu ⟨yyk,67,yEG⟩ 0 yDa 52 ybV ygb ygF x=ych x:=by kernel_rfl
def yAF (x:(ygq).X):Nat:=18446744073709551616
def yqq (x:(ygq).X):Option ((ygb).X ⊕ (ygF).X):=zF ych (yAF x) (yAn x)
def yA9:Seg:=⟨ygq,ygb,ygF,yqq⟩
def ySu:Nat→Option Seg:=fun q=>bif Nat.beq q 13 then some yA9 else yEG q
theorem yP7:FrOk prog ⟨yyk,67,ySu⟩ ypy:=(yP6).loop (sg:=yA9) ybV yAn (by decide) yPN ych yAF (by decide) (fun _=>rfl) (fun x r _ h=>h) yRX
abbrev yki:List Par:= [.rd tA,.rd tI]
abbrev ypV:List OT:= [⟨false,tN,(.pr .fz (.pr .fz (.ow .fz)))⟩,⟨false,tB,.fz⟩]
def ytv (a0:dA) (a1:Int):Option (zaY ypV×zak yki) :=zkt (yqq (((a1,()),((),()),((),()),(a0.2.2.1,()),((a0.2.2.1.length:Int),()),((),()),()),((a0.1,a0.2.1.1,a0.2.1.2,a0.2.2.1,a0.2.2.2.1,a0.2.2.2.2.1,a0.2.2.2.2.2.1,a0.2.2.2.2.2.2.1,a0.2.2.2.2.2.2.2.1,a0.2.2.2.2.2.2.2.2.1,a0.2.2.2.2.2.2.2.2.2.1,a0.2.2.2.2.2.2.2.2.2.2.1,a0.2.2.2.2.2.2.2.2.2.2.2,()),(0,0,(),()),()),())) (fun y6 =>some (((0,0,[]),false,()),())) (fun y6 =>some (((y6.2.1.1.1,y6.2.1.1.2.1,y6.2.2.1),y6.1.2.1.1,()),()))
theorem yU0:ConOk prog 23 ⟨yki,ypV,fun x=>ytv x.1 x.2.1⟩:=zkI (yP7) func23 ntmps23.symm fun x=>by kernel_rfl
def yg0 (a0:dA) (a1:Int):dN×Bool:=yU a0 a1
def yk3 (a0:dA) (a1:Int):Bool:=yf a0.2.1||yX3 a0.2.1
theorem yYj (a0:dA) (a1:Int) (hk:zjx yki (a0,a1,())) (hq:yk3 a0 a1=true):ytv a0 a1=(fun n=>some ((n.1,n.2,()),())) (yg0 a0 a1):=by
 have hb:a0.2.2.1.length*80≤2^47:=hk.1.2.2.1.1;have hg:=y2Z hq
 have h1:=yII (step:=ych) (List.range a0.2.2.1.length) 0 (fun i=>yoN a1 a0.2.2.1 a0.2.2.1.length i a0 yIN) (ymC a0 a1) (fun k=> .inr (yOD true (yzV a0 a1 k.toNat))) (.inl (yOf yIN)) (fun i hi=>by
  rw[List.length_range]at hi;rw[yLD hi];simp only[ych,yoN,ypg,zky (show(i:Int)<a0.2.2.1.length by omega),cond_true,wq ((i:Int)+1) (by omega) (by omega),Int.natCast_add,Int.natCast_one,Int.toNat_natCast,zkR hi,zkX,yeX,ymo,yOe,ymC,yzV,yPj,yc];have e1:ltb (yba (yr (nth a0.2.2.1 i ([],[],false,[])) (yl a1)).1).1.2.1 a0.2.1.2=leb (yba (yr (nth a0.2.2.1 i ([],[],false,[])) (yl a1)).1).1.2.1 (a0.2.1.2-1):=by rw[Bool.eq_iff_iff,zka,zj7]; omega
  cases hr:(yr (nth a0.2.2.1 i ([],[],false,[])) (yl a1)).2
  ·rfl
  cases hg2:(yba (yr (nth a0.2.2.1 i ([],[],false,[])) (yl a1)).1).2
  ·rfl
  have hl:=(yPi.1 (y7r hg2).1).2.2.1;have e2:(i64.wrap (((yba (yr (nth a0.2.2.1 i ([],[],false,[])) (yl a1)).1).1.2.2.length:Int)+1)==a0.2.1.1)=(((yba (yr (nth a0.2.2.1 i ([],[],false,[])) (yl a1)).1).1.2.2.length:Int)==a0.2.1.1-1):=by rw[wr (by omega) (by omega),Bool.eq_iff_iff,beq_iff_eq,beq_iff_eq]; omega
  rw[e1,e2]
  cases((yba (yr (nth a0.2.2.1 i ([],[],false,[])) (yl a1)).1).1.1==a1)<;>cases leb 0 (yba (yr (nth a0.2.2.1 i ([],[],false,[])) (yl a1)).1).1.2.1<;>cases leb (yba (yr (nth a0.2.2.1 i ([],[],false,[])) (yl a1)).1).1.2.1 (a0.2.1.2-1)<;>cases(((yba (yr (nth a0.2.2.1 i ([],[],false,[])) (yl a1)).1).1.2.2.length:Int)==a0.2.1.1-1)<;>rfl) (by
   rw[List.length_range]; simp only[ych,yoN,ypg,zk3 (Int.le_refl _),cond_false]) 18446744073709551616 (by rw[List.length_range]; omega)
 unfold ytv yg0 yU;rw[show yqq (yOo a1 a0.2.2.1 a0.2.2.1.length a0 yIN)=_ from h1];cases leb 0 (yR (ymC a0 a1) (List.range a0.2.2.1.length))<;>rfl
def ykX (a0:dA) (a1:Int):Option (zaY ypV×zak yki):=bif yk3 a0 a1 then(fun n=>some ((n.1,n.2,()),())) (yg0 a0 a1)else none
theorem yIY (a0:dA) (a1:Int) (h:yk3 a0 a1=true):ykX a0 a1=(fun n=>some ((n.1,n.2,()),())) (yg0 a0 a1):=by unfold ykX; rw[h]; rfl
def ysZ:Con:=⟨yki,ypV,fun x=>ykX x.1 x.2.1⟩
theorem yIO:ConOk prog 23 ysZ:=(yU0).mono (fun x r hk h=>zkY h (fun hq=>yYj x.1 x.2.1 hk hq))
def ypA:Code:=(f95.body).getD .skip
def yym:Env:=zkw TT [(74,yqR),(158,yaX)] []
theorem yQc:FrOk prog ⟨yym,31,fun _=>none⟩ ypA:=zkA mixed yd ⟨yGZ,ycY,trivial⟩
def yEI:Nat→Option Seg:=fun _=>none
def ybX:Shape:=⟨[(1,false,[.ptr 0 0]),(2,false,[.ptr 64 0]),(3,false,[.at 800000000]),(8,false,[.br tW]),(9,false,[.int .i64]),(10,false,[.int .i64])],[(0,[.int .i64,.int .i64,.int .i64,.br tM,.int .i64,.int .i64,.int .i64,.int .i64,.int .i64,.br tW,.int .i64,.bool,.bool]),(64,[.int .i64,.int .i64,.int .i64,.nil,.int .i64,.int .i64,.int .i64,.int .i64,.int .i64,.nil,.int .i64,.bool,.bool])],[(800000000,tW,(.pr .fz (.ow .fz)))]⟩
def ygs:Shape:=⟨[(1,false,[.ptr 0 0]),(2,false,[.ptr 64 0]),(3,false,[.at 800000000]),(8,false,[.br tW]),(9,false,[.int .i64]),(10,false,[.ci .i64 0])],[(0,[.int .i64,.int .i64,.int .i64,.br tM,.int .i64,.int .i64,.int .i64,.int .i64,.int .i64,.br tW,.int .i64,.bool,.bool]),(64,[.int .i64,.int .i64,.int .i64,.nil,.int .i64,.int .i64,.int .i64,.int .i64,.int .i64,.nil,.int .i64,.bool,.bool])],[(800000000,tW,(.pr .fz (.ow .fz)))]⟩
def ygd:Shape:=⟨[(1,false,[.ptr 0 0]),(2,false,[.ptr 64 0]),(3,false,[.at 800000000])],[(0,[.int .i64,.int .i64,.int .i64,.br tM,.int .i64,.int .i64,.int .i64,.int .i64,.int .i64,.br tW,.int .i64,.bool,.bool]),(64,[.int .i64,.int .i64,.int .i64,.nil,.int .i64,.int .i64,.int .i64,.int .i64,.int .i64,.nil,.int .i64,.bool,.bool])],[(800000000,tW,(.pr .fz (.ow .fz)))]⟩
def yjV:Shape:=⟨[],[],[]⟩
abbrev yoP (v0:List dW) (v1 v2:Int) (v3 v4:dA) (v5:List dW):(ybX).X:=((((),()),((),()),((),()),(v0,()),(v1,()),(v2,()),()),((v3.1,v3.2.1.1,v3.2.1.2,v3.2.2.1,v3.2.2.2.1,v3.2.2.2.2.1,v3.2.2.2.2.2.1,v3.2.2.2.2.2.2.1,v3.2.2.2.2.2.2.2.1,v3.2.2.2.2.2.2.2.2.1,v3.2.2.2.2.2.2.2.2.2.1,v3.2.2.2.2.2.2.2.2.2.2.1,v3.2.2.2.2.2.2.2.2.2.2.2,()),(v4.1,v4.2.1.1,v4.2.1.2,(),v4.2.2.2.1,v4.2.2.2.2.1,v4.2.2.2.2.2.1,v4.2.2.2.2.2.2.1,v4.2.2.2.2.2.2.2.1,(),v4.2.2.2.2.2.2.2.2.2.1,v4.2.2.2.2.2.2.2.2.2.2.1,v4.2.2.2.2.2.2.2.2.2.2.2,()),()),(v5,()))
abbrev yOq (v0:List dW) (v1:Int) (v2 v3:dA) (v4:List dW):(ygs).X:=((((),()),((),()),((),()),(v0,()),(v1,()),((),()),()),((v2.1,v2.2.1.1,v2.2.1.2,v2.2.2.1,v2.2.2.2.1,v2.2.2.2.2.1,v2.2.2.2.2.2.1,v2.2.2.2.2.2.2.1,v2.2.2.2.2.2.2.2.1,v2.2.2.2.2.2.2.2.2.1,v2.2.2.2.2.2.2.2.2.2.1,v2.2.2.2.2.2.2.2.2.2.2.1,v2.2.2.2.2.2.2.2.2.2.2.2,()),(v3.1,v3.2.1.1,v3.2.1.2,(),v3.2.2.2.1,v3.2.2.2.2.1,v3.2.2.2.2.2.1,v3.2.2.2.2.2.2.1,v3.2.2.2.2.2.2.2.1,(),v3.2.2.2.2.2.2.2.2.2.1,v3.2.2.2.2.2.2.2.2.2.2.1,v3.2.2.2.2.2.2.2.2.2.2.2,()),()),(v4,()))
abbrev yOg (v0 v1:dA) (v2:List dW):(ygd).X:=((((),()),((),()),((),()),()),((v0.1,v0.2.1.1,v0.2.1.2,v0.2.2.1,v0.2.2.2.1,v0.2.2.2.2.1,v0.2.2.2.2.2.1,v0.2.2.2.2.2.2.1,v0.2.2.2.2.2.2.2.1,v0.2.2.2.2.2.2.2.2.1,v0.2.2.2.2.2.2.2.2.2.1,v0.2.2.2.2.2.2.2.2.2.2.1,v0.2.2.2.2.2.2.2.2.2.2.2,()),(v1.1,v1.2.1.1,v1.2.1.2,(),v1.2.2.2.1,v1.2.2.2.2.1,v1.2.2.2.2.2.1,v1.2.2.2.2.2.2.1,v1.2.2.2.2.2.2.2.1,(),v1.2.2.2.2.2.2.2.2.2.1,v1.2.2.2.2.2.2.2.2.2.2.1,v1.2.2.2.2.2.2.2.2.2.2.2,()),()),(v2,()))
def ypi (v0:List dW) (v1 v2 v3 v4 v5:Int) (v6:List dM) (v7 v8 v9 v10 v11:Int) (v12:List dW) (v13:Int) (v14 v15:Bool) (v16 v17 v18 v19 v20 v21 v22 v23 v24:Int) (v25 v26:Bool) (v27:List dW):Option ((ybX).X ⊕ ((ygd).X ⊕ (yjV).X)) :=bif(ltb v2 v1)then bif(inb v2 v0.length)then let r2:=yn ((nth v0 v2 (0,[])).2);bif(zkl v27.length ([((nth v0 v2 (0,[])).1,r2)]:List dW).length 32)then some (.inl ((((),()),((),()),((),()),(v0,()),(v1,()),((i64.wrap (v2+1)),()),()),((v3,v4,v5,v6,v7,v8,v9,v10,v11,v12,v13,v14,v15,()),(v16,v17,v18,(),v19,v20,v21,v22,v23,(),v24,v25,v26,()),()),((v27++([((nth v0 v2 (0,[])).1,r2)]:List dW)),()))) else none else none else some (.inr (.inl ((((),()),((),()),((),()),()),((v3,v4,v5,v6,v7,v8,v9,v10,v11,v12,v13,v14,v15,()),(v16,v17,v18,(),v19,v20,v21,v22,v23,(),v24,v25,v26,()),()),(v27,()))))
def ycj (x:(ybX).X):=ypi x.1.2.2.2.1.1 x.1.2.2.2.2.1.1 x.1.2.2.2.2.2.1.1 x.2.1.1.1 x.2.1.1.2.1 x.2.1.1.2.2.1 x.2.1.1.2.2.2.1 x.2.1.1.2.2.2.2.1 x.2.1.1.2.2.2.2.2.1 x.2.1.1.2.2.2.2.2.2.1 x.2.1.1.2.2.2.2.2.2.2.1 x.2.1.1.2.2.2.2.2.2.2.2.1 x.2.1.1.2.2.2.2.2.2.2.2.2.1 x.2.1.1.2.2.2.2.2.2.2.2.2.2.1 x.2.1.1.2.2.2.2.2.2.2.2.2.2.2.1 x.2.1.1.2.2.2.2.2.2.2.2.2.2.2.2.1 x.2.1.2.1.1 x.2.1.2.1.2.1 x.2.1.2.1.2.2.1 x.2.1.2.1.2.2.2.2.1 x.2.1.2.1.2.2.2.2.2.1 x.2.1.2.1.2.2.2.2.2.2.1 x.2.1.2.1.2.2.2.2.2.2.2.1 x.2.1.2.1.2.2.2.2.2.2.2.2.1 x.2.1.2.1.2.2.2.2.2.2.2.2.2.2.1 x.2.1.2.1.2.2.2.2.2.2.2.2.2.2.2.1 x.2.1.2.1.2.2.2.2.2.2.2.2.2.2.2.2.1 x.2.2.1
def yAp (x:(ygs).X):(ybX).X:=((((),()),((),()),((),()),(x.1.2.2.2.1.1,()),(x.1.2.2.2.2.1.1,()),(0,()),()),((x.2.1.1.1,x.2.1.1.2.1,x.2.1.1.2.2.1,x.2.1.1.2.2.2.1,x.2.1.1.2.2.2.2.1,x.2.1.1.2.2.2.2.2.1,x.2.1.1.2.2.2.2.2.2.1,x.2.1.1.2.2.2.2.2.2.2.1,x.2.1.1.2.2.2.2.2.2.2.2.1,x.2.1.1.2.2.2.2.2.2.2.2.2.1,x.2.1.1.2.2.2.2.2.2.2.2.2.2.1,x.2.1.1.2.2.2.2.2.2.2.2.2.2.2.1,x.2.1.1.2.2.2.2.2.2.2.2.2.2.2.2.1,()),(x.2.1.2.1.1,x.2.1.2.1.2.1,x.2.1.2.1.2.2.1,(),x.2.1.2.1.2.2.2.2.1,x.2.1.2.1.2.2.2.2.2.1,x.2.1.2.1.2.2.2.2.2.2.1,x.2.1.2.1.2.2.2.2.2.2.2.1,x.2.1.2.1.2.2.2.2.2.2.2.2.1,(),x.2.1.2.1.2.2.2.2.2.2.2.2.2.2.1,x.2.1.2.1.2.2.2.2.2.2.2.2.2.2.2.1,x.2.1.2.1.2.2.2.2.2.2.2.2.2.2.2.2.1,()),()),(x.2.2.1,()))
def yDc:Code:=(zd7 ypA 64 116).getD .skip
theorem yPP:zd7 ypA 64 29=some (.block 0 (.loop yDc)):=by kernel_rfl
theorem yRZ (x:(ybX).X):zhu ⟨yym,31,yEI⟩ 0 yDc 116 ybX ygd yjV x=ycj x:=by kernel_rfl
def yAH (x:(ygs).X):Nat:=18446744073709551616
def yqs (x:(ygs).X):Option ((ygd).X ⊕ (yjV).X):=zF ycj (yAH x) (yAp x)
def yBb:Seg:=⟨ygs,ygd,yjV,yqs⟩
def ySw:Nat→Option Seg:=fun q=>bif Nat.beq q 29 then some yBb else yEI q
theorem yQd:FrOk prog ⟨yym,31,ySw⟩ ypA:=(yQc).loop (sg:=yBb) ybX yAp (by decide) yPP ycj yAH (by decide) (fun _=>rfl) (fun x r _ h=>h) yRZ
abbrev ypN:List Par:= [.rd tA]
abbrev yyP:List OT:= [⟨false,tA,(.pr .fz (.pr (.pr .fz .fz) (.pr (.ow (.pr (.ow (.ow .fz)) (.pr (.ow (.pr .fz (.ow .fz))) (.pr .fz (.ow .fz))))) (.pr .fz (.pr .fz (.pr .fz (.pr .fz (.pr .fz (.pr (.ow (.pr .fz (.ow .fz))) (.pr .fz (.pr .fz .fz)))))))))))⟩]
def yty (a0:dA):Option (zaY yyP×zak ypN) :=zkt (yqs ((((),()),((),()),((),()),(a0.2.2.2.2.2.2.2.2.1,()),((a0.2.2.2.2.2.2.2.2.1.length:Int),()),((),()),()),((a0.1,a0.2.1.1,a0.2.1.2,a0.2.2.1,a0.2.2.2.1,a0.2.2.2.2.1,a0.2.2.2.2.2.1,a0.2.2.2.2.2.2.1,a0.2.2.2.2.2.2.2.1,a0.2.2.2.2.2.2.2.2.1,a0.2.2.2.2.2.2.2.2.2.1,a0.2.2.2.2.2.2.2.2.2.2.1,a0.2.2.2.2.2.2.2.2.2.2.2,()),(0,0,0,(),0,0,0,0,0,(),0,false,false,()),()),(([]:List dW),()))) (fun y2 =>let r4:=yfS y2.2.1.1.2.2.2.1;some (((y2.2.1.1.1,(y2.2.1.1.2.1,y2.2.1.1.2.2.1),r4,y2.2.1.1.2.2.2.2.1,y2.2.1.1.2.2.2.2.2.1,y2.2.1.1.2.2.2.2.2.2.1,y2.2.1.1.2.2.2.2.2.2.2.1,y2.2.1.1.2.2.2.2.2.2.2.2.1,y2.2.2.1,y2.2.1.1.2.2.2.2.2.2.2.2.2.2.1,y2.2.1.1.2.2.2.2.2.2.2.2.2.2.2.1,y2.2.1.1.2.2.2.2.2.2.2.2.2.2.2.2.1),()),())) (fun y2 =>none)
theorem yU4:ConOk prog 95 ⟨ypN,yyP,fun x=>yty x.1⟩:=zkI (yQd) func95 ntmps95.symm fun x=>by kernel_rfl
def yeZ (a0:dA):dA:=a0
theorem yYn (a0:dA) (hk:zjx ypN (a0,())):yty a0=(fun n=>some ((n,()),())) (yeZ a0):=by
 have hb:a0.2.2.2.2.2.2.2.2.1.length*32≤2^47:=hk.1.2.2.2.2.2.2.2.2.1.1
 have h1:=zkx (step:=ycj) a0.2.2.2.2.2.2.2.2.1 (0,[]) (fun i s=>yoP a0.2.2.2.2.2.2.2.2.1 a0.2.2.2.2.2.2.2.2.1.length i a0 yK s) (fun s x=>s++ [x]) (fun i s=>s.length=i) (fun s=> .inl (yOg a0 yK s)) (fun i s hi hs=>⟨by
   simp only[ycj,yoP,ypi,zky (show(i:Int)<a0.2.2.2.2.2.2.2.2.1.length by omega),cond_true,wq ((i:Int)+1) (by omega) (by omega),Int.natCast_add,Int.natCast_one,Int.toNat_natCast,zkR hi,zkS,yn,zkX]
   rw[zkF.2 (show(s.length+ [a0.2.2.2.2.2.2.2.2.1.getD i (0,[])].length)*32≤140737488355328 by simp only[List.length_cons,List.length_nil]; omega)]; rfl,by simp[hs]⟩) (fun s hs=>by simp only[ycj,yoP,ypi,zk3 (Int.le_refl _),cond_false]) [] rfl 18446744073709551616 (by omega)
 rw[ys9]at h1;unfold yty yeZ;rw[show yqs (yOq a0.2.2.2.2.2.2.2.2.1 a0.2.2.2.2.2.2.2.2.1.length a0 yK [])=_ from h1]; rfl
def ys2:Con:=⟨ypN,yyP,fun x=>(fun n=>some ((n,()),())) (yeZ x.1)⟩
theorem yIR:ConOk prog 95 ys2:=(yU4).mono (fun x r hk h=>(yYn x.1 hk).trans h)
def yWd:Code:=(f96.body).getD .skip
def yWK:Env:=zkw TT [(55,yp8)] []
theorem yNN:FrOk prog ⟨yWK,15,fun _=>none⟩ yWd:=zkA mixed yd ⟨yCM,trivial⟩
abbrev yu1:List Par:= [.rd tA]
abbrev yvn:List OT:= [⟨false,tB,.fz⟩]
def yEd (a0:dA):Option (zaY yvn×zak yu1) :=let r1:=ybA a0;bif r1 then bif(!a0.2.2.2.2.2.2.2.2.2.2.1)then some (((ltb a0.2.2.2.2.2.2.2.1 60000),()),()) else some ((false,()),()) else some ((false,()),())
theorem yRv:ConOk prog 96 ⟨yu1,yvn,fun x=>yEd x.1⟩:=zkI (yNN) func96 ntmps96.symm fun x=>by kernel_rfl
def ydR (a0:dA):Bool :=let r1:=ybA a0;bif r1 then bif(!a0.2.2.2.2.2.2.2.2.2.2.1)then (ltb a0.2.2.2.2.2.2.2.1 60000) else false else false
def yDx:Con:=⟨yu1,yvn,fun x=>(fun n=>some ((n,()),())) (ydR x.1)⟩
theorem yUJ (a0:dA):yEd a0=(fun n=>some ((n,()),())) (ydR a0):=zkV (p:=fun(n:Bool)=>((n,()),())) (zkG (p:=fun(n:Bool)=>((n,()),())) (zkG (p:=fun(n:Bool)=>((n,()),())) rfl rfl) rfl)
theorem yVB:ConOk prog 96 yDx:=(yRv).mono (fun x r _ h=>(yUJ x.1).trans h)
def y3k:Code:=(f192.body).getD .skip
def y3S:Env:=zkw TT [] []
theorem yS2:FrOk prog ⟨y3S,26,fun _=>none⟩ y3k:=zkA mixed yd trivial
abbrev yBB:List Par:= [.pt tA (.pr .fz (.pr (.pr .fz .fz) (.pr (.ow (.pr (.ow (.ow .fz)) (.pr (.ow (.pr .fz (.ow .fz))) (.pr .fz (.ow .fz))))) (.pr .fz (.pr .fz (.pr .fz (.pr .fz (.pr .fz (.pr (.ow (.pr .fz (.ow .fz))) (.pr .fz (.pr .fz .fz)))))))))))]
abbrev yBY:List OT:= [⟨false,tB,.fz⟩]
def yI3 (a0:dA):Option (zaY yBY×zak yBB) :=bif(a0.2.2.2.2.2.2.2.2.2.1==0)then some ((false,()),((a0.1,a0.2.1,a0.2.2.1,a0.2.2.2.1,a0.2.2.2.2.1,a0.2.2.2.2.2.1,a0.2.2.2.2.2.2.1,a0.2.2.2.2.2.2.2.1,a0.2.2.2.2.2.2.2.2.1,(-1),true,a0.2.2.2.2.2.2.2.2.2.2.2),())) else bif(ltb 0 a0.2.2.2.2.2.2.2.2.2.1)then some ((true,()),((a0.1,a0.2.1,a0.2.2.1,a0.2.2.2.1,a0.2.2.2.2.1,a0.2.2.2.2.2.1,a0.2.2.2.2.2.2.1,a0.2.2.2.2.2.2.2.1,a0.2.2.2.2.2.2.2.2.1,(i64.wrap (a0.2.2.2.2.2.2.2.2.2.1-1)),a0.2.2.2.2.2.2.2.2.2.2),())) else some ((true,()),(a0,()))
theorem yYK:ConOk prog 192 ⟨yBB,yBY,fun x=>yI3 x.1⟩:=zkI (yS2) func192 ntmps192.symm fun x=>by kernel_rfl
def yid (a0:dA):Bool×dA :=bif(a0.2.2.2.2.2.2.2.2.2.1==0)then (false,(a0.1,a0.2.1,a0.2.2.1,a0.2.2.2.1,a0.2.2.2.2.1,a0.2.2.2.2.2.1,a0.2.2.2.2.2.2.1,a0.2.2.2.2.2.2.2.1,a0.2.2.2.2.2.2.2.2.1,(-1),true,a0.2.2.2.2.2.2.2.2.2.2.2)) else bif(ltb 0 a0.2.2.2.2.2.2.2.2.2.1)then (true,(a0.1,a0.2.1,a0.2.2.1,a0.2.2.2.1,a0.2.2.2.2.1,a0.2.2.2.2.2.1,a0.2.2.2.2.2.2.1,a0.2.2.2.2.2.2.2.1,a0.2.2.2.2.2.2.2.2.1,(i64.wrap (a0.2.2.2.2.2.2.2.2.2.1-1)),a0.2.2.2.2.2.2.2.2.2.2)) else (true,a0)
def yvL:Con:=⟨yBB,yBY,fun x=>(fun n=>some ((n.1,()),(n.2,()))) (yid x.1)⟩
theorem y1b (a0:dA):yI3 a0=(fun n=>some ((n.1,()),(n.2,()))) (yid a0):=zkV (p:=fun(n:Bool×dA)=>((n.1,()),(n.2,()))) (zkG (p:=fun(n:Bool×dA)=>((n.1,()),(n.2,()))) rfl (zkG (p:=fun(n:Bool×dA)=>((n.1,()),(n.2,()))) rfl rfl))
theorem yKs:ConOk prog 192 yvL:=(yYK).mono (fun x r _ h=>(y1b x.1).trans h)
theorem yX5 {a:dA} (h:ye a=false):yid a=opA a:=by
 unfold yid opA;rw[h];cases(a.2.2.2.2.2.2.2.2.2.1==0)
 ·cases ltb 0 a.2.2.2.2.2.2.2.2.2.1
  ·rfl
  ·show(true,_)=(true,yw2 a _ false)
   unfold yw2;rw[show a.2.2.2.2.2.2.2.2.2.2=(ye a,a.2.2.2.2.2.2.2.2.2.2.2)from rfl,h]
 ·rfl
def yPu:Code:=(f223.body).getD .skip
def yPK:Env:=zkw TT [] []
theorem yK6:FrOk prog ⟨yPK,7,fun _=>none⟩ yPu:=zkA mixed yd trivial
abbrev yqI:List Par:= [.rd tI,.rp tI]
abbrev yqM:List OT:= [⟨false,tB,.fz⟩]
def yx1 (a0 a1:Int):Option (zaY yqM×zak yqI) :=some (((a0==a1),()),())
theorem yMK:ConOk prog 223 ⟨yqI,yqM,fun x=>yx1 x.1 x.2.1⟩:=zkI (yK6) func223 ntmps223.symm fun x=>by kernel_rfl
def yd3 (a0 a1:Int):Bool :=(a0==a1)
def ymV:Con:=⟨yqI,yqM,fun x=>(fun n=>some ((n,()),())) (yd3 x.1 x.2.1)⟩
theorem yOL (a0 a1:Int):yx1 a0 a1=(fun n=>some ((n,()),())) (yd3 a0 a1):=zkV (p:=fun(n:Bool)=>((n,()),())) rfl
theorem yA7:ConOk prog 223 ymV:=(yMK).mono (fun x r _ h=>(yOL x.1 x.2.1).trans h)
def yfd:Code:=(f244.body).getD .skip
def yjD:Env:=zkw TT [(223,ymV)] []
theorem yEv:FrOk prog ⟨yjD,19,fun _=>none⟩ yfd:=zkA mixed yd ⟨yA7,trivial⟩
def yoj:Nat→Option Seg:=fun _=>none
def yV:Shape:=⟨[(0,false,[.br tI]),(1,false,[.fx 223 tI]),(7,false,[.int .i64]),(8,false,[.int .i64])],[],[]⟩
def ya8:Shape:=⟨[(0,false,[.br tI]),(1,false,[.fx 223 tI]),(7,false,[.int .i64]),(8,false,[.ci .i64 0])],[],[]⟩
def ya7:Shape:=⟨[],[],[]⟩
def ya9:Shape:=⟨[(4,false,[.int .i64])],[],[]⟩
abbrev yf4 (v0:List Int) (v1 v2 v3:Int):(yV).X:=(((v0,()),(v1,()),(v2,()),(v3,()),()),(),())
abbrev yCL (v0:List Int) (v1 v2:Int):(ya8).X:=(((v0,()),(v1,()),(v2,()),((),()),()),(),())
abbrev yCK  :(ya7).X:=((),(),())
abbrev ymm (v0:Int):(ya9).X:=(((v0,()),()),(),())
def yf8 (v0:List Int) (v1 v2 v3:Int):Option ((yV).X ⊕ ((ya7).X ⊕ (ya9).X)) :=bif(ltb v3 v2)then bif(inb v3 v0.length)then let r2:=yd3 (nth v0 v3 0) v1;bif r2 then some (.inr (.inr (((v3,()),()),(),()))) else some (.inl (((v0,()),(v1,()),(v2,()),((i64.wrap (v3+1)),()),()),(),())) else none else some (.inr (.inl ((),(),())))
def yac (x:(yV).X):=yf8 x.1.1.1 x.1.2.1.1 x.1.2.2.1.1 x.1.2.2.2.1.1
def ymj (x:(ya8).X):(yV).X:=(((x.1.1.1,()),(x.1.2.1.1,()),(x.1.2.2.1.1,()),(0,()),()),(),())
def yn3:Code:=(zd7 yfd 64 52).getD .skip
theorem yEu:zd7 yfd 64 13=some (.block 0 (.loop yn3)):=by kernel_rfl
theorem yEA (x:(yV).X):zhu ⟨yjD,19,yoj⟩ 0 yn3 52 yV ya7 ya9 x=yac x:=by kernel_rfl
def ymk (x:(ya8).X):Nat:=18446744073709551616
def ygS (x:(ya8).X):Option ((ya7).X ⊕ (ya9).X):=zF yac (ymk x) (ymj x)
def ymF:Seg:=⟨ya8,ya7,ya9,ygS⟩
def yEN:Nat→Option Seg:=fun q=>bif Nat.beq q 13 then some ymF else yoj q
theorem yEw:FrOk prog ⟨yjD,19,yEN⟩ yfd:=(yEv).loop (sg:=ymF) yV ymj (by decide) yEu yac ymk (by decide) (fun _=>rfl) (fun x r _ h=>h) yEA
abbrev yfe:List Par:= [.rd tL,.fn 223 tI]
abbrev yjF:List OT:= [⟨false,tI,.fz⟩]
def yhV (a0:List Int) (a1:Int):Option (zaY yjF×zak yfe) :=zkt (ygS (((a0,()),(a1,()),((a0.length:Int),()),((),()),()),(),())) (fun y2 =>some (((-1),()),())) (fun y2 =>some ((y2.1.1.1,()),()))
theorem yGW:ConOk prog 244 ⟨yfe,yjF,fun x=>yhV x.1 x.2.1⟩:=zkI (yEw) func244 ntmps244.symm fun x=>by kernel_rfl
def ycC (a0:List Int) (a1:Int):Int:=yR (fun e:Int=>e==a1) a0
theorem yHC (a0:List Int) (a1:Int) (hk:zjx yfe (a0,a1,())):yhV a0 a1=(fun n=>some ((n,()),())) (ycC a0 a1):=by
 have hb:a0.length*8≤2^47:=hk.1.1
 have h1:ygS (yCL a0 a1 a0.length)=some (bif leb 0 (yR (fun e:Int=>e==a1) a0)then .inr (ymm (yR (fun e:Int=>e==a1) a0))else .inl yCK) :=
  yII (step:=yac) a0 0 (fun i=>yf4 a0 a1 a0.length i) (fun e:Int=>e==a1) (fun i=> .inr (ymm i)) _ (fun i hi=>by
   simp only[yac,yf4,yf8,zky (show(i:Int)<a0.length by omega),cond_true,wq ((i:Int)+1) (by omega) (by omega),Int.natCast_add,Int.natCast_one,Int.toNat_natCast,zkR hi,zkS,yd3]
   cases(a0.getD i 0==a1)<;>rfl) (by simp only[yac,yf4,yf8,zk3 (Int.le_refl _),cond_false]) _ (by show _<18446744073709551616; omega)
 unfold yhV ycC;rw[h1];cases h:leb 0 (yR (fun e:Int=>e==a1) a0)
 ·rw[y06 h]; rfl
 ·rfl
def yoJ:Con:=⟨yfe,yjF,fun x=>(fun n=>some ((n,()),())) (ycC x.1 x.2.1)⟩
theorem yHE:ConOk prog 244 yoJ:=(yGW).mono (fun x r hk h=>(yHC x.1 x.2.1 hk).trans h)
def yep:Code:=(f222.body).getD .skip
def yh8:Env:=zkw TT [(223,ymV),(244,yoJ)] []
theorem yCI:FrOk prog ⟨yh8,42,fun _=>none⟩ yep:=zkA mixed yd ⟨yA7,yHE,trivial⟩
def ynu:Nat→Option Seg:=fun _=>none
def yT:Shape:=⟨[(0,false,[.at 800000000]),(1,false,[.fx 223 tI]),(5,false,[.int .i64]),(6,false,[.int .i64])],[],[(800000000,tI,.fz)]⟩
def yaM:Shape:=⟨[(0,false,[.at 800000000]),(1,false,[.fx 223 tI]),(5,false,[.int .i64]),(6,false,[.int .i64])],[],[(800000000,tI,.fz)]⟩
def yaL:Shape:=⟨[(0,false,[.at 800000000]),(5,false,[.int .i64])],[],[(800000000,tI,.fz)]⟩
def ycF:Shape:=⟨[],[],[]⟩
abbrev yce (v0 v1 v2:Int) (v3:List Int):(yT).X:=((((),()),(v0,()),(v1,()),(v2,()),()),(),(v3,()))
abbrev yA5 (v0 v1 v2:Int) (v3:List Int):(yaM).X:=((((),()),(v0,()),(v1,()),(v2,()),()),(),(v3,()))
abbrev yA3 (v0:Int) (v1:List Int):(yaL).X:=((((),()),(v0,()),()),(),(v1,()))
def yfL (v0 v1 v2:Int) (v3:List Int):Option ((yT).X ⊕ ((yaL).X ⊕ (ycF).X)) :=bif(ltb v2 (v3.length:Int))then bif(inb v2 v3.length)then let r3:=yd3 (nth v3 v2 0) v0;bif(!r3)then bif(inb v1 v3.length)then some (.inl ((((),()),(v0,()),((i64.wrap (v1+1)),()),((i64.wrap (v2+1)),()),()),(),((v3.set (v1).toNat (nth v3 v2 0)),()))) else none else some (.inl ((((),()),(v0,()),(v1,()),((i64.wrap (v2+1)),()),()),(),(v3,()))) else none else some (.inr (.inl ((((),()),(v1,()),()),(),(v3,()))))
def yY (x:(yT).X):=yfL x.1.2.1.1 x.1.2.2.1.1 x.1.2.2.2.1.1 x.2.2.1
def yle (x:(yaM).X):(yT).X:=((((),()),(x.1.2.1.1,()),(x.1.2.2.1.1,()),(x.1.2.2.2.1.1,()),()),(),(x.2.2.1,()))
def ymi:Code:=(zd7 yep 64 244).getD .skip
theorem yCD:zd7 yep 64 61=some (.block 0 (.loop ymi)):=by kernel_rfl
theorem yCS (x:(yT).X):zhu ⟨yh8,42,ynu⟩ 0 ymi 244 yT yaL ycF x=yY x:=by kernel_rfl
def ylf (x:(yaM).X):Nat:=18446744073709551616
def yf3 (x:(yaM).X):Option ((yaL).X ⊕ (ycF).X):=zF yY (ylf x) (yle x)
def ylg:Seg:=⟨yaM,yaL,ycF,yf3⟩
def yEt:Nat→Option Seg:=fun q=>bif Nat.beq q 61 then some ylg else ynu q
theorem yCJ:FrOk prog ⟨yh8,42,yEt⟩ yep:=(yCI).loop (sg:=ylg) yT yle (by decide) yCD yY ylf (by decide) (fun _=>rfl) (fun x r _ h=>h) yCS
abbrev yeq:List Par:= [.kp tL (.ow .fz),.fn 223 tI]
abbrev yh9:List OT:= [⟨false,tL,(.ow .fz)⟩]
def ygV (a0:List Int) (a1:Int):Option (zaY yh9×zak yeq) :=let r1:=ycC a0 a1;bif(r1==(-1))then some ((a0,()),()) else zkt (yf3 ((((),()),(a1,()),(r1,()),((i64.wrap (r1+1)),()),()),(),(a0,()))) (fun y3 =>bif(zj0 y3.1.2.1.1 (y3.2.2.1.length:Int) y3.2.2.1.length)then bif(zj0 0 y3.1.2.1.1 (y3.2.2.1.take (y3.1.2.1.1).toNat++(List.replicate ((y3.2.2.1.length:Int)-y3.1.2.1.1).toNat (0:Int))++y3.2.2.1.drop ((y3.1.2.1.1).toNat+(List.replicate ((y3.2.2.1.length:Int)-y3.1.2.1.1).toNat (0:Int)).length)).length)then some (((((y3.2.2.1.take (y3.1.2.1.1).toNat++(List.replicate ((y3.2.2.1.length:Int)-y3.1.2.1.1).toNat (0:Int))++y3.2.2.1.drop ((y3.1.2.1.1).toNat+(List.replicate ((y3.2.2.1.length:Int)-y3.1.2.1.1).toNat (0:Int)).length)).drop (0:Int).toNat).take (y3.1.2.1.1-0).toNat),()),()) else none else none) (fun y3 =>none)
theorem yEz:ConOk prog 222 ⟨yeq,yh9,fun x=>ygV x.1 x.2.1⟩:=zkI (yCJ) func222 ntmps222.symm fun x=>by kernel_rfl
def ybU (a0:List Int) (a1:Int):List Int:=y2I a0 a1
theorem yGV (a0:List Int) (a1:Int) (hk:zjx yeq (a0,a1,())):ygV a0 a1=(fun n=>some ((n,()),())) (ybU a0 a1):=by
 have hb:a0.length*8≤2^47:=hk.1.1;have hs:y2I a0 a1=a0.filter (fun x=> !(x==a1)):=rfl;unfold ygV ybU ycC;simp only[];cases hi:leb 0 (yR (fun e:Int=>e==a1) a0)
 ·rw[y06 hi,hs,y7W hi]; rfl
 ·obtain⟨h1,h2⟩:=yoM (d:=(0:Int)) hi
  have h3:=zj6.1 h1;have h4:=y21 hi;generalize hk0:yR (fun e:Int=>e==a1) a0=k at *;obtain⟨k,rfl⟩: ∃m:Nat,k=m:=⟨k.toNat,by omega⟩;rw[Int.toNat_natCast]at h4;rw[show((k:Int)== -1)=false from beq_eq_false_iff_ne.2 (by omega),cond_false,wq ((k:Int)+1) (by omega) (by omega)]
  obtain⟨b,e,i,s,rfl,q1,q2,q3⟩:=zjj (step:=yY) (fun x=>(a0.length-Int.toNat x.1.2.2.2.1.1))
   (fun x=> ∃(i j:Nat) (s:List Int),x=yce a1 i j s∧i<j∧j≤a0.length∧s.length=a0.length∧s.take i=(a0.take j).filter (fun x=> !(x==a1))∧s.drop j=a0.drop j)
   (fun b=> ∃(i:Nat) (s:List Int),b= .inl (yA3 i s)∧i≤a0.length∧s.length=a0.length∧s.take i=a0.filter (fun x=> !(x==a1)))
   (fun x hx=>by
    obtain⟨i,j,s,rfl,p1,p2,p3,p4,p5⟩:=hx;by_cases hj:j<a0.length
    ·left
     have e1:nth s j 0=a0[j]:=by
      rw[zkS,zkJ (by omega)];have:=List.getElem_drop (xs:=s) (i:=j) (j:=0) (h:=by rw[List.length_drop]; omega);have h6:(s.drop j)[0]'(by rw[List.length_drop]; omega)=(a0.drop j)[0]'(by rw[List.length_drop]; omega):=by simp only[p5]
      simpa using h6
     have e2:a0.take (j+1)=a0.take j++ [a0[j]]:=(List.take_append_getElem hj).symm;simp only[yY,yce,yfL,p3,zky (show(j:Int)<a0.length by omega),zkR hj,zkR (show i<a0.length by omega),e1,yd3,wq ((j:Int)+1) (by omega) (by omega),wq ((i:Int)+1) (by omega) (by omega),cond_true,Int.toNat_natCast];cases hx:(a0[j]==a1)
     ·refine⟨_,rfl,⟨i+1,j+1,s.set i a0[j],rfl,by omega,by omega,by rw[List.length_set,p3],?_,?_⟩,by show a0.length-((j:Int)+1).toNat<a0.length-((j:Int)).toNat; omega⟩
      ·rw[List.take_set,← List.take_append_getElem (show i<s.length by omega),List.set_append_right _ _ (by rw[List.length_take]; omega),p4,e2,List.filter_append,List.filter_cons,hx]
       have:i-(List.filter (fun x=> !x==a1) (a0.take j)).length=0:=by rw[← p4,List.length_take]; omega
       rw[this]; rfl
      ·rw[List.drop_set_of_lt (by omega),← List.drop_drop,p5,List.drop_drop]
     ·refine⟨_,rfl,⟨i,j+1,s,rfl,by omega,by omega,p3,?_,?_⟩,by show a0.length-((j:Int)+1).toNat<a0.length-((j:Int)).toNat; omega⟩
      ·rw[p4,e2,List.filter_append,List.filter_cons,hx]; simp
      ·rw[← List.drop_drop,p5,List.drop_drop]
    ·right
     have:j=a0.length:=by omega
     subst this;rw[List.take_length]at p4;refine⟨_,?_,i,s,rfl,by omega,p3,p4⟩
     simp only[yY,yce,yfL,p3,zk3 (Int.le_refl _),cond_false]) 18446744073709551616 (yce a1 k (k+1:Nat) a0) ⟨k,k+1,a0,rfl,by omega,by omega,rfl,h4.symm,rfl⟩ (by show a0.length-((k+1:Nat):Int).toNat<18446744073709551616; omega)
  rw[show((k+1:Nat):Int)=(k:Int)+1 by omega]at e;rw[show yf3 (yA5 a1 k ((k:Int)+1) a0)=_ from e];rw[hs,← q3]
  have hL:(s.take i++List.replicate ((s.length:Int)-i).toNat (0:Int)++s.drop ((i:Int).toNat+(List.replicate ((s.length:Int)-i).toNat (0:Int)).length)).length=s.length:=by
   simp only[List.length_append,List.length_take,List.length_replicate,List.length_drop]; omega
  show(bif zj0 i s.length s.length then bif zj0 0 i (s.take i++List.replicate ((s.length:Int)-i).toNat (0:Int)++s.drop ((i:Int).toNat+(List.replicate ((s.length:Int)-i).toNat (0:Int)).length)).length then some ((((s.take i++List.replicate ((s.length:Int)-i).toNat (0:Int)++s.drop ((i:Int).toNat+(List.replicate ((s.length:Int)-i).toNat (0:Int)).length)).drop 0).take ((i:Int)-0).toNat,()),())else none else none)=some ((s.take i,()),());rw[hL,zkz.2 (show 0≤(i:Int)∧(i:Int)≤s.length∧(s.length:Int)≤s.length by omega),zkz.2 (show(0:Int)≤0∧(0:Int)≤i∧(i:Int)≤s.length by omega),List.drop_zero,show((i:Int)-0).toNat=i by omega,List.append_assoc,List.take_append_of_le_length (by rw[List.length_take]; omega),List.take_take,Nat.min_self]; rfl
def yn5:Con:=⟨yeq,yh9,fun x=>(fun n=>some ((n,()),())) (ybU x.1 x.2.1)⟩
theorem yG1:ConOk prog 222 yn5:=(yEz).mono (fun x r hk h=>(yGV x.1 x.2.1 hk).trans h)
def yWb:Code:=(f193.body).getD .skip
def yWI:Env:=zkw TT [(127,yeU),(133,yhJ),(156,yn4),(158,yaX),(186,yza),(222,yn5)] []
theorem yNJ:FrOk prog ⟨yWI,51,fun _=>none⟩ yWb:=zkA mixed yd ⟨yie,yog,yzm,ycY,yLP,yG1,trivial⟩
abbrev ynA:List Par:= [.rd tM,.rd tI,.rd tL]
abbrev yvk:List OT:= [⟨false,tM,(.pr (.ow (.ow .fz)) (.pr (.ow (.pr .fz (.ow .fz))) (.pr .fz (.ow .fz))))⟩,⟨false,tB,.fz⟩]
def yrl (a0:dM) (a1:Int) (a2:List Int):Option (zaY yvk×zak ynA) :=let r1:=yaw a0;let r2:=yaa a0;bif(!(!r2))then bif(!a0.2.2.1)then let r3:=ybF a0 a1;bif(!(!r3))then let r4:=yhN a2;bif(!(!r4))then bif((a0.2.1.length:Int)==60)then some ((r1,false,()),()) else let r5:=yn a2;bif(zkl r1.2.1.length ([(a1,r5)]:List dW).length 32)then let r6:=ybU r1.2.2.2 a1;some (((r1.1,(r1.2.1++([(a1,r5)]:List dW)),r1.2.2.1,r6),true,()),()) else none else some ((r1,false,()),()) else some ((r1,false,()),()) else some ((r1,false,()),()) else some ((r1,false,()),())
theorem yRs:ConOk prog 193 ⟨ynA,yvk,fun x=>yrl x.1 x.2.1 x.2.2.1⟩:=zkI (yNJ) func193 ntmps193.symm fun x=>by kernel_rfl
def yjp (a0:dM) (a1:Int) (a2:List Int):dM×Bool:=yf9 a0 a1 a2
theorem yUG (a0:dM) (a1:Int) (a2:List Int) (hk:zjx ynA (a0,a1,a2,())):yrl a0 a1 a2=(fun n=>some ((n.1,n.2,()),())) (yjp a0 a1 a2):=by
 have hb1:a0.1.length*24≤2^47:=hk.1.1.1;unfold yrl yjp yf9 yy8;simp only[yaw,yaa,ybF,yai,yrR (show a0.1.length≤1152921504606846976 by omega),yJB,yn,ybU];cases hm:yu a0
 ·rfl
 have hc:=(yay hm).2.2.2.2.2;cases a0.2.2.1
 ·cases inb a1 a0.1.length
  ·rfl
  cases yam a2
  ·rfl
  by_cases h:(a0.2.1.length:Int)<60
  ·rw[zky h,show((a0.2.1.length:Int)==60)=false from beq_eq_false_iff_ne.2 (by omega),zkF.2 (show(a0.2.1.length+ [(a1,a2)].length)*32≤140737488355328 by simp only[List.length_cons,List.length_nil]; omega)]; rfl
  ·rw[zk3 (by omega),show((a0.2.1.length:Int)==60)=true from beq_iff_eq.2 (by omega)]; rfl
 ·rfl
def yDw:Con:=⟨ynA,yvk,fun x=>(fun n=>some ((n.1,n.2,()),())) (yjp x.1 x.2.1 x.2.2.1)⟩
theorem yVA:ConOk prog 193 yDw:=(yRs).mono (fun x r hk h=>(yUG x.1 x.2.1 x.2.2.1 hk).trans h)
def ySr:Code:=(f139.body).getD .skip
def ySJ:Env:=zkw TT [(192,yvL),(193,yDw)] []
theorem yMh:FrOk prog ⟨ySJ,39,fun _=>none⟩ ySr:=zkA mixed yd ⟨yKs,yVA,trivial⟩
abbrev yhe:List Par:= [.pt tA (.pr .fz (.pr (.pr .fz .fz) (.pr (.ow (.pr (.ow (.ow .fz)) (.pr (.ow (.pr .fz (.ow .fz))) (.pr .fz (.ow .fz))))) (.pr .fz (.pr .fz (.pr .fz (.pr .fz (.pr .fz (.pr (.ow (.pr .fz (.ow .fz))) (.pr .fz (.pr .fz .fz))))))))))),.rd tI,.rd tI,.rd tL]
abbrev ylu:List OT:= [⟨false,tB,.fz⟩]
def ypa (a0:dA) (a1 a2:Int) (a3:List Int):Option (zaY ylu×zak yhe) :=bif(inb a1 a0.2.2.1.length)then bif(((nth a0.2.2.1 a1 ([],[],false,[])).2).2).1 then some ((true,()),(a0,())) else let r1:=yid a0;bif(!r1.1)then some ((false,()),(r1.2,())) else bif(inb a1 r1.2.2.2.1.length)then let r2:=yjp ((nth r1.2.2.2.1 a1 ([],[],false,[])).1,((nth r1.2.2.2.1 a1 ([],[],false,[])).2).1,(((nth r1.2.2.2.1 a1 ([],[],false,[])).2).2)) a2 a3;bif(inb a1 r1.2.2.2.1.length)then some ((true,()),((r1.2.1,r1.2.2.1,(r1.2.2.2.1.set (a1).toNat r2.1),r1.2.2.2.2),())) else none else none else none
theorem yOP:ConOk prog 139 ⟨yhe,ylu,fun x=>ypa x.1 x.2.1 x.2.2.1 x.2.2.2.1⟩:=zkI (yMh) func139 ntmps139.symm fun x=>by kernel_rfl
def ycX (a0:dA) (a1 a2:Int) (a3:List Int):Bool×dA:=(!(ye (ydq a0 a1 a2 a3)),ydq a0 a1 a2 a3)
def ycZ (a0:dA) (a1 a2:Int) (a3:List Int):Bool:=inb a1 a0.2.2.1.length&& !(ye a0)
theorem yRf (a0:dA) (a1 a2:Int) (a3:List Int) (hk:zjx yhe (a0,a1,a2,a3,())) (hq:ycZ a0 a1 a2 a3=true):ypa a0 a1 a2 a3=(fun n=>some ((n.1,()),(n.2,()))) (ycX a0 a1 a2 a3):=by
 simp only[ycZ,Bool.and_eq_true,Bool.not_eq_true']at hq;unfold ypa ycX;simp only[y71 hq.2];unfold ydq yjC;simp only[yX5 hq.2,yaT,hq.1,zkX,yjp];cases(nth a0.2.2.1 a1 yc).2.2.1<;>cases(opA a0).1<;>rfl
def ye2 (a0:dA) (a1 a2:Int) (a3:List Int):Option (zaY ylu×zak yhe):=bif ycZ a0 a1 a2 a3 then(fun n=>some ((n.1,()),(n.2,()))) (ycX a0 a1 a2 a3)else none
theorem yrd (a0:dA) (a1 a2:Int) (a3:List Int) (h:ycZ a0 a1 a2 a3=true):ye2 a0 a1 a2 a3=(fun n=>some ((n.1,()),(n.2,()))) (ycX a0 a1 a2 a3):=by unfold ye2; rw[h]; rfl
def yjg:Con:=⟨yhe,ylu,fun x=>ye2 x.1 x.2.1 x.2.2.1 x.2.2.2.1⟩
theorem yrb:ConOk prog 139 yjg:=(yOP).mono (fun x r hk h=>zkY h (fun hq=>yRf x.1 x.2.1 x.2.2.1 x.2.2.2.1 hk hq))
def y3p:Code:=(f164.body).getD .skip
def y3X:Env:=zkw TT [(159,yy9)] []
theorem yS7:FrOk prog ⟨y3X,17,fun _=>none⟩ y3p:=zkA mixed yd ⟨yLO,trivial⟩
abbrev ysa:List Par:= [.rd tN]
abbrev yB3:List OT:= [⟨false,tL,(.ow .fz)⟩]
def ywK (a0:dN):Option (zaY yB3×zak ysa) :=let r1:=ykM a0;bif(!r1)then some (([],()),()) else bif(zkl ([21322,a0.1,a0.2.1,(a0.2.2.length:Int)]:List Int).length a0.2.2.length 8)then some (((([21322,a0.1,a0.2.1,(a0.2.2.length:Int)]:List Int)++a0.2.2),()),()) else none
theorem yYP:ConOk prog 164 ⟨ysa,yB3,fun x=>ywK x.1⟩:=zkI (yS7) func164 ntmps164.symm fun x=>by kernel_rfl
def ymq (a0:dN):List Int:=yo6 a0
theorem y1g (a0:dN) (hk:zjx ysa (a0,())):ywK a0=(fun n=>some ((n,()),())) (ymq a0):=by
 unfold ywK ymq yo6;simp only[ySj];cases hr:yB a0
 ·rfl
 ·have:=(yPi.1 hr).2.2.1
  rw[zkF.2 (show(([21322,a0.1,a0.2.1,(a0.2.2.length:Int)]:List Int).length+a0.2.2.length)*8≤140737488355328 by simp only[List.length_cons,List.length_nil]; omega)]; rfl
def yIf:Con:=⟨ysa,yB3,fun x=>(fun n=>some ((n,()),())) (ymq x.1)⟩
theorem y2l:ConOk prog 164 yIf:=(yYP).mono (fun x r hk h=>(y1g x.1 hk).trans h)
def ynl:Code:=(f205.body).getD .skip
def yuz:Env:=zkw TT [(127,yeU),(133,yhJ),(158,yaX)] []
theorem yND:FrOk prog ⟨yuz,34,fun _=>none⟩ ynl:=zkA mixed yd ⟨yie,yog,ycY,trivial⟩
def yC1:Nat→Option Seg:=fun _=>none
def ybr:Shape:=⟨[(2,false,[.ptr 64 0]),(3,false,[.ptr 4224 0]),(17,false,[.br tW]),(18,false,[.int .i64]),(19,false,[.int .i64])],[(64,[.nil,.nil,.bool,.nil]),(4224,[.at 800000000,.at 800000001,.bool,.at 800000002])],[(800000000,tL,(.ow .fz)),(800000001,tW,(.pr .fz (.ow .fz))),(800000002,tI,.fz)]⟩
def yfu:Shape:=⟨[(2,false,[.ptr 64 0]),(3,false,[.ptr 4224 0]),(17,false,[.br tW]),(18,false,[.int .i64]),(19,false,[.ci .i64 0])],[(64,[.nil,.nil,.bool,.nil]),(4224,[.at 800000000,.at 800000001,.bool,.at 800000002])],[(800000000,tL,(.ow .fz)),(800000001,tW,(.pr .fz (.ow .fz))),(800000002,tI,.fz)]⟩
def yfj:Shape:=⟨[(2,false,[.ptr 64 0]),(3,false,[.ptr 4224 0])],[(64,[.nil,.nil,.bool,.nil]),(4224,[.at 800000000,.at 800000001,.bool,.at 800000002])],[(800000000,tL,(.ow .fz)),(800000001,tW,(.pr .fz (.ow .fz))),(800000002,tI,.fz)]⟩
def yi1:Shape:=⟨[],[],[]⟩
abbrev ymZ (v0:List dW) (v1 v2:Int) (v3 v4:dM):(ybr).X:=((((),()),((),()),(v0,()),(v1,()),(v2,()),()),(((),(),v3.2.2.1,(),()),((),(),v4.2.2.1,(),()),()),(v4.1,v4.2.1,v4.2.2.2,()))
abbrev yMy (v0:List dW) (v1:Int) (v2 v3:dM):(yfu).X:=((((),()),((),()),(v0,()),(v1,()),((),()),()),(((),(),v2.2.2.1,(),()),((),(),v3.2.2.1,(),()),()),(v3.1,v3.2.1,v3.2.2.2,()))
abbrev yxW (v0 v1:dM):(yfj).X:=((((),()),((),()),()),(((),(),v0.2.2.1,(),()),((),(),v1.2.2.1,(),()),()),(v1.1,v1.2.1,v1.2.2.2,()))
def ynd (v0:List dW) (v1 v2:Int) (v3 v4:Bool) (v5:List (List Int)) (v6:List dW) (v7:List Int):Option ((ybr).X ⊕ ((yfj).X ⊕ (yi1).X)) :=bif(ltb v2 v1)then bif(inb v2 v0.length)then let r4:=yn ((nth v0 v2 (0,[])).2);bif(inb ((nth v0 v2 (0,[])).1) v5.length)then some (.inl ((((),()),((),()),(v0,()),(v1,()),((i64.wrap (v2+1)),()),()),(((),(),v3,(),()),((),(),v4,(),()),()),((v5.set ((nth v0 v2 (0,[])).1).toNat r4),v6,v7,()))) else none else none else some (.inr (.inl ((((),()),((),()),()),(((),(),v3,(),()),((),(),v4,(),()),()),(v5,v6,v7,()))))
def ybO (x:(ybr).X):=ynd x.1.2.2.1.1 x.1.2.2.2.1.1 x.1.2.2.2.2.1.1 x.2.1.1.2.2.1 x.2.1.2.1.2.2.1 x.2.2.1 x.2.2.2.1 x.2.2.2.2.1
def yxA (x:(yfu).X):(ybr).X:=((((),()),((),()),(x.1.2.2.1.1,()),(x.1.2.2.2.1.1,()),(0,()),()),(((),(),x.2.1.1.2.2.1,(),()),((),(),x.2.1.2.1.2.2.1,(),()),()),(x.2.2.1,x.2.2.2.1,x.2.2.2.2.1,()))
def yz8:Code:=(zd7 ynl 64 244).getD .skip
theorem yNg:zd7 ynl 64 61=some (.block 0 (.loop yz8)):=by kernel_rfl
theorem yO9 (x:(ybr).X):zhu ⟨yuz,34,yC1⟩ 0 yz8 244 ybr yfj yi1 x=ybO x:=by kernel_rfl
def yxM (x:(yfu).X):Nat:=18446744073709551616
def yop (x:(yfu).X):Option ((yfj).X ⊕ (yi1).X):=zF ybO (yxM x) (yxA x)
def yx7:Seg:=⟨yfu,yfj,yi1,yop⟩
def yPA:Nat→Option Seg:=fun q=>bif Nat.beq q 61 then some yx7 else yC1 q
theorem yNE:FrOk prog ⟨yuz,34,yPA⟩ ynl:=(yND).loop (sg:=yx7) ybr yxA (by decide) yNg ybO yxM (by decide) (fun _=>rfl) (fun x r _ h=>h) yO9
abbrev ynw:List Par:= [.rd tM]
abbrev yvf:List OT:= [⟨false,tM,(.pr (.ow (.ow .fz)) (.pr (.ow (.pr .fz (.ow .fz))) (.pr .fz (.ow .fz))))⟩]
def yrh (a0:dM):Option (zaY yvf×zak ynw) :=let r1:=yaw a0;let r2:=yaa a0;bif(!(!r2))then bif a0.2.2.1 then some ((r1,()),()) else zkt (yop ((((),()),((),()),(a0.2.1,()),((a0.2.1.length:Int),()),((),()),()),(((),(),false,(),()),((),(),r1.2.2.1,(),()),()),(r1.1,r1.2.1,r1.2.2.2,()))) (fun y4 =>some (((y4.2.2.1,[],y4.2.1.2.1.2.2.1,y4.2.2.2.2.1),()),())) (fun y4 =>none) else some ((r1,()),())
theorem yRn:ConOk prog 205 ⟨ynw,yvf,fun x=>yrh x.1⟩:=zkI (yNE) func205 ntmps205.symm fun x=>by kernel_rfl
def yjl (a0:dM):dM:=yeW a0
theorem yUB (a0:dM) (hk:zjx ynw (a0,())):yrh a0=(fun n=>some ((n,()),())) (yjl a0):=by
 have hb2:a0.2.1.length*32≤2^47:=hk.1.2.1.1;unfold yrh yjl yeW;simp only[yaw,yaa];cases hm:yu a0
 ·rfl
 have h1:yop (yMy a0.2.1 a0.2.1.length yc a0)=some (.inl (yxW yc (ybI (fun _=>true) a0.2.1 a0.1,a0.2))) :=
  zkD (step:=ybO) a0.2.1.length (fun i s=>ymZ a0.2.1 a0.2.1.length i yc (s,a0.2)) (ybz (fun _=>true) a0.2.1) (fun i s=>s.length=a0.1.length) (fun s=> .inl (yxW yc (s,a0.2))) (fun i s hi hs=>by
   have hw:=(yLb hm hi).1;refine⟨?_,ywn.trans hs⟩
   simp only[ybO,ymZ,ynd,zky (show(i:Int)<a0.2.1.length by omega),cond_true,wq ((i:Int)+1) (by omega) (by omega),Int.natCast_add,Int.natCast_one,Int.toNat_natCast,zkR hi,hs,hw,ybz,yn]) (fun s hs=>by simp only[ybO,ymZ,ynd,zk3 (Int.le_refl _),cond_false]) a0.1 rfl _ (by show _<18446744073709551616; omega)
 rw[h1];cases hf:a0.2.2.1
 ·exact congrArg (fun z=>some (((ybI (fun _=>true) a0.2.1 a0.1,([]:List dW),z,a0.2.2.2),()),())) hf
 ·rfl
def yDs:Con:=⟨ynw,yvf,fun x=>(fun n=>some ((n,()),())) (yjl x.1)⟩
theorem yVw:ConOk prog 205 yDs:=(yRn).mono (fun x r hk h=>(yUB x.1 hk).trans h)
def ynk:Code:=(f165.body).getD .skip
def yuy:Env:=zkw TT [(192,yvL),(205,yDs)] []
theorem yNy:FrOk prog ⟨yuy,38,fun _=>none⟩ ynk:=zkA mixed yd ⟨yKs,yVw,trivial⟩
def yCZ:Nat→Option Seg:=fun _=>none
def ybo:Shape:=⟨[(0,false,[.ptr 1000000000 0]),(8,false,[.int .i64]),(9,false,[.int .i64])],[(1000000000,[.int .i64,.int .i64,.int .i64,.at 800000000,.int .i64,.int .i64,.int .i64,.int .i64,.int .i64,.at 800000001,.int .i64,.bool,.bool])],[(800000000,tM,(.pr (.ow (.ow .fz)) (.pr (.ow (.pr .fz (.ow .fz))) (.pr .fz (.ow .fz))))),(800000001,tW,(.pr .fz (.ow .fz)))]⟩
def yfr:Shape:=⟨[(0,false,[.ptr 1000000000 0]),(8,false,[.int .i64]),(9,false,[.ci .i64 0])],[(1000000000,[.int .i64,.int .i64,.int .i64,.at 800000000,.int .i64,.int .i64,.int .i64,.int .i64,.int .i64,.at 800000001,.int .i64,.bool,.bool])],[(800000000,tM,(.pr (.ow (.ow .fz)) (.pr (.ow (.pr .fz (.ow .fz))) (.pr .fz (.ow .fz))))),(800000001,tW,(.pr .fz (.ow .fz)))]⟩
def yfg:Shape:=⟨[],[(1000000000,[.int .i64,.int .i64,.int .i64,.at 800000000,.int .i64,.int .i64,.int .i64,.int .i64,.int .i64,.at 800000001,.int .i64,.bool,.bool])],[(800000000,tM,(.pr (.ow (.ow .fz)) (.pr (.ow (.pr .fz (.ow .fz))) (.pr .fz (.ow .fz))))),(800000001,tW,(.pr .fz (.ow .fz)))]⟩
def yfC:Shape:=⟨[(2,false,[.bool])],[(1000000000,[.int .i64,.int .i64,.int .i64,.at 800000000,.int .i64,.int .i64,.int .i64,.int .i64,.int .i64,.at 800000001,.int .i64,.bool,.bool])],[(800000000,tM,(.pr (.ow (.ow .fz)) (.pr (.ow (.pr .fz (.ow .fz))) (.pr .fz (.ow .fz))))),(800000001,tW,(.pr .fz (.ow .fz)))]⟩
abbrev yh5 (v0 v1:Int) (v2:dA):(ybo).X:=((((),()),(v0,()),(v1,()),()),((v2.1,v2.2.1.1,v2.2.1.2,(),v2.2.2.2.1,v2.2.2.2.2.1,v2.2.2.2.2.2.1,v2.2.2.2.2.2.2.1,v2.2.2.2.2.2.2.2.1,(),v2.2.2.2.2.2.2.2.2.2.1,v2.2.2.2.2.2.2.2.2.2.2.1,v2.2.2.2.2.2.2.2.2.2.2.2,()),()),(v2.2.2.1,v2.2.2.2.2.2.2.2.2.1,()))
abbrev yMv (v0:Int) (v1:dA):(yfr).X:=((((),()),(v0,()),((),()),()),((v1.1,v1.2.1.1,v1.2.1.2,(),v1.2.2.2.1,v1.2.2.2.2.1,v1.2.2.2.2.2.1,v1.2.2.2.2.2.2.1,v1.2.2.2.2.2.2.2.1,(),v1.2.2.2.2.2.2.2.2.2.1,v1.2.2.2.2.2.2.2.2.2.2.1,v1.2.2.2.2.2.2.2.2.2.2.2,()),()),(v1.2.2.1,v1.2.2.2.2.2.2.2.2.1,()))
abbrev ym5 (v0:dA):(yfg).X:=((),((v0.1,v0.2.1.1,v0.2.1.2,(),v0.2.2.2.1,v0.2.2.2.2.1,v0.2.2.2.2.2.1,v0.2.2.2.2.2.2.1,v0.2.2.2.2.2.2.2.1,(),v0.2.2.2.2.2.2.2.2.2.1,v0.2.2.2.2.2.2.2.2.2.2.1,v0.2.2.2.2.2.2.2.2.2.2.2,()),()),(v0.2.2.1,v0.2.2.2.2.2.2.2.2.1,()))
abbrev ym7 (v0:Bool) (v1:dA):(yfC).X:=(((v0,()),()),((v1.1,v1.2.1.1,v1.2.1.2,(),v1.2.2.2.1,v1.2.2.2.2.1,v1.2.2.2.2.2.1,v1.2.2.2.2.2.2.1,v1.2.2.2.2.2.2.2.1,(),v1.2.2.2.2.2.2.2.2.2.1,v1.2.2.2.2.2.2.2.2.2.2.1,v1.2.2.2.2.2.2.2.2.2.2.2,()),()),(v1.2.2.1,v1.2.2.2.2.2.2.2.2.1,()))
def yna (v0 v1 v2 v3 v4 v5 v6 v7 v8 v9 v10:Int) (v11 v12:Bool) (v13:List dM) (v14:List dW):Option ((ybo).X ⊕ ((yfg).X ⊕ (yfC).X)) :=bif(ltb v1 v0)then bif(inb v1 v13.length)then bif(((nth v13 v1 ([],[],false,[])).2).2).1 then some (.inl ((((),()),(v0,()),((i64.wrap (v1+1)),()),()),((v2,v3,v4,(),v5,v6,v7,v8,v9,(),v10,v11,v12,()),()),(v13,v14,()))) else let r3:=yid (v2,(v3,v4),v13,v5,v6,v7,v8,v9,v14,v10,v11,v12);bif(!r3.1)then some (.inr (.inr (((false,()),()),((r3.2.1,r3.2.2.1.1,r3.2.2.1.2,(),r3.2.2.2.2.1,r3.2.2.2.2.2.1,r3.2.2.2.2.2.2.1,r3.2.2.2.2.2.2.2.1,r3.2.2.2.2.2.2.2.2.1,(),r3.2.2.2.2.2.2.2.2.2.2.1,r3.2.2.2.2.2.2.2.2.2.2.2.1,r3.2.2.2.2.2.2.2.2.2.2.2.2,()),()),(r3.2.2.2.1,r3.2.2.2.2.2.2.2.2.2.1,())))) else bif(inb v1 r3.2.2.2.1.length)then let r4:=yjl ((nth r3.2.2.2.1 v1 ([],[],false,[])).1,((nth r3.2.2.2.1 v1 ([],[],false,[])).2).1,(((nth r3.2.2.2.1 v1 ([],[],false,[])).2).2));bif(inb v1 r3.2.2.2.1.length)then some (.inl ((((),()),(v0,()),((i64.wrap (v1+1)),()),()),((r3.2.1,r3.2.2.1.1,r3.2.2.1.2,(),r3.2.2.2.2.1,r3.2.2.2.2.2.1,r3.2.2.2.2.2.2.1,r3.2.2.2.2.2.2.2.1,r3.2.2.2.2.2.2.2.2.1,(),r3.2.2.2.2.2.2.2.2.2.2.1,r3.2.2.2.2.2.2.2.2.2.2.2.1,r3.2.2.2.2.2.2.2.2.2.2.2.2,()),()),((r3.2.2.2.1.set (v1).toNat r4),r3.2.2.2.2.2.2.2.2.2.1,()))) else none else none else none else some (.inr (.inl ((),((v2,v3,v4,(),v5,v6,v7,v8,v9,(),v10,v11,v12,()),()),(v13,v14,()))))
def ybL (x:(ybo).X):=yna x.1.2.1.1 x.1.2.2.1.1 x.2.1.1.1 x.2.1.1.2.1 x.2.1.1.2.2.1 x.2.1.1.2.2.2.2.1 x.2.1.1.2.2.2.2.2.1 x.2.1.1.2.2.2.2.2.2.1 x.2.1.1.2.2.2.2.2.2.2.1 x.2.1.1.2.2.2.2.2.2.2.2.1 x.2.1.1.2.2.2.2.2.2.2.2.2.2.1 x.2.1.1.2.2.2.2.2.2.2.2.2.2.2.1 x.2.1.1.2.2.2.2.2.2.2.2.2.2.2.2.1 x.2.2.1 x.2.2.2.1
def yxx (x:(yfr).X):(ybo).X:=((((),()),(x.1.2.1.1,()),(0,()),()),((x.2.1.1.1,x.2.1.1.2.1,x.2.1.1.2.2.1,(),x.2.1.1.2.2.2.2.1,x.2.1.1.2.2.2.2.2.1,x.2.1.1.2.2.2.2.2.2.1,x.2.1.1.2.2.2.2.2.2.2.1,x.2.1.1.2.2.2.2.2.2.2.2.1,(),x.2.1.1.2.2.2.2.2.2.2.2.2.2.1,x.2.1.1.2.2.2.2.2.2.2.2.2.2.2.1,x.2.1.1.2.2.2.2.2.2.2.2.2.2.2.2.1,()),()),(x.2.2.1,x.2.2.2.1,()))
def yz5:Code:=(zd7 ynk 64 52).getD .skip
theorem yNd:zd7 ynk 64 13=some (.block 0 (.loop yz5)):=by kernel_rfl
theorem yO6 (x:(ybo).X):zhu ⟨yuy,38,yCZ⟩ 0 yz5 52 ybo yfg yfC x=ybL x:=by kernel_rfl
def yxJ (x:(yfr).X):Nat:=18446744073709551616
def yon (x:(yfr).X):Option ((yfg).X ⊕ (yfC).X):=zF ybL (yxJ x) (yxx x)
def yx4:Seg:=⟨yfr,yfg,yfC,yon⟩
def yPy:Nat→Option Seg:=fun q=>bif Nat.beq q 13 then some yx4 else yCZ q
theorem yNz:FrOk prog ⟨yuy,38,yPy⟩ ynk:=(yNy).loop (sg:=yx4) ybo yxx (by decide) yNd ybL yxJ (by decide) (fun _=>rfl) (fun x r _ h=>h) yO6
abbrev yin:List Par:= [.pt tA (.pr .fz (.pr (.pr .fz .fz) (.pr (.ow (.pr (.ow (.ow .fz)) (.pr (.ow (.pr .fz (.ow .fz))) (.pr .fz (.ow .fz))))) (.pr .fz (.pr .fz (.pr .fz (.pr .fz (.pr .fz (.pr (.ow (.pr .fz (.ow .fz))) (.pr .fz (.pr .fz .fz)))))))))))]
abbrev ynQ:List OT:= [⟨false,tB,.fz⟩]
def yrf (a0:dA):Option (zaY ynQ×zak yin) :=zkt (yon ((((),()),((a0.2.2.1.length:Int),()),((),()),()),((a0.1,a0.2.1.1,a0.2.1.2,(),a0.2.2.2.1,a0.2.2.2.2.1,a0.2.2.2.2.2.1,a0.2.2.2.2.2.2.1,a0.2.2.2.2.2.2.2.1,(),a0.2.2.2.2.2.2.2.2.2.1,a0.2.2.2.2.2.2.2.2.2.2.1,a0.2.2.2.2.2.2.2.2.2.2.2,()),()),(a0.2.2.1,a0.2.2.2.2.2.2.2.2.1,()))) (fun y4 =>some ((true,()),((y4.2.1.1.1,(y4.2.1.1.2.1,y4.2.1.1.2.2.1),y4.2.2.1,y4.2.1.1.2.2.2.2.1,y4.2.1.1.2.2.2.2.2.1,y4.2.1.1.2.2.2.2.2.2.1,y4.2.1.1.2.2.2.2.2.2.2.1,y4.2.1.1.2.2.2.2.2.2.2.2.1,y4.2.2.2.1,y4.2.1.1.2.2.2.2.2.2.2.2.2.2.1,y4.2.1.1.2.2.2.2.2.2.2.2.2.2.2.1,y4.2.1.1.2.2.2.2.2.2.2.2.2.2.2.2.1),()))) (fun y4 =>some ((y4.1.1.1,()),((y4.2.1.1.1,(y4.2.1.1.2.1,y4.2.1.1.2.2.1),y4.2.2.1,y4.2.1.1.2.2.2.2.1,y4.2.1.1.2.2.2.2.2.1,y4.2.1.1.2.2.2.2.2.2.1,y4.2.1.1.2.2.2.2.2.2.2.1,y4.2.1.1.2.2.2.2.2.2.2.2.1,y4.2.2.2.1,y4.2.1.1.2.2.2.2.2.2.2.2.2.2.1,y4.2.1.1.2.2.2.2.2.2.2.2.2.2.2.1,y4.2.1.1.2.2.2.2.2.2.2.2.2.2.2.2.1),())))
theorem yRl:ConOk prog 165 ⟨yin,ynQ,fun x=>yrf x.1⟩:=zkI (yNz) func165 ntmps165.symm fun x=>by kernel_rfl
def yjk (a0:dA):Bool×dA:=(!(ye (yz a0)),yz a0)
def yfW (a0:dA):Bool:= !(ye a0)
theorem yUz (a0:dA) (hk:zjx yin (a0,())) (hq:yfW a0=true):yrf a0=(fun n=>some ((n.1,()),(n.2,()))) (yjk a0):=by
 have hb:a0.2.2.1.length*80≤2^47:=hk.1.2.2.1.1
 have h1:yon (yMv a0.2.2.1.length a0)=some (bif ye (yz a0)then .inr (ym7 false (yz a0))else .inl (ym5 (yz a0))):=by
  have:=zkC (step:=ybL) a0.2.2.1.length (fun i s=>yh5 a0.2.2.1.length i s) (fun i s=>bif ye (yM s i)then(.inr (yM s i):dA ⊕ dA)else .inl (yM s i)) (fun _ s=>s.2.2.1.length=a0.2.2.1.length∧ye s=false) id
   (fun b=>bif ye b then .inr (ym7 false b)else .inl (ym5 b)) (fun i s hi hs=>by
    constructor
    ·rw[y56 hs.2]
     simp only[ybL,yh5,yna,hs.1,zky (show(i:Int)<a0.2.2.1.length by omega),cond_true,wq ((i:Int)+1) (by omega) (by omega),Int.natCast_add,Int.natCast_one,Int.toNat_natCast,zkR hi,zkX,yX5 hs.2,yaT,yjl];cases hf:(nth s.2.2.1 i yc).2.2.1
     ·cases ho:(opA s).1
      ·have e:yM s i=(opA s).2:=by unfold yM; rw[hf,ho]; rfl
       have d:ye (opA s).2=true:=by rw[y2B hs.2,ho]; rfl
       rw[e];simp only[Bool.not_false,Bool.and_self,cond_true,cond_false,d,yaT,ym7]
      ·have e:yM s i=yjC (opA s).2 i (yeW (nth s.2.2.1 i yc)):=by unfold yM; rw[hf,ho]; rfl
       rw[e];simp only[Bool.not_true,Bool.not_false,Bool.and_false,cond_true,cond_false,yh5,yjC,yaT,Int.toNat_natCast]
     ·have e:yM s i=s:=by unfold yM; rw[hf]; rfl
      rw[e]; rfl
    ·intro s' h
     cases hd:ye (yM s i)
     ·rw[hd]at h
      cases h;exact⟨(ymH s i).trans hs.1,hd⟩
     ·rw[hd]at h; cases h) (fun s hs=>by simp only[ybL,yh5,yna,hs.2,zk3 (Int.le_refl _),cond_false,id,ym5]) a0 ⟨rfl,by simpa [yfW]using hq⟩ 18446744073709551616 (by omega)
  rw[yGI (fun a i h=>yPl i h),← List.range_eq_range']at this;exact this
 unfold yrf yjk;rw[h1];cases hd:ye (yz a0)<;>rfl
def yfV (a0:dA):Option (zaY ynQ×zak yin):=bif yfW a0 then(fun n=>some ((n.1,()),(n.2,()))) (yjk a0)else none
theorem yts (a0:dA) (h:yfW a0=true):yfV a0=(fun n=>some ((n.1,()),(n.2,()))) (yjk a0):=by unfold yfV; rw[h]; rfl
def yj5:Con:=⟨yin,ynQ,fun x=>yfV x.1⟩
theorem yto:ConOk prog 165 yj5:=(yRl).mono (fun x r hk h=>zkY h (fun hq=>yUz x.1 hk hq))
def yjO:Code:=(f97.body).getD .skip
def yqp:Env:=zkw TT [(88,yvN),(139,yjg),(164,yIf),(165,yj5)] []
theorem yK3:FrOk prog ⟨yqp,26,fun _=>none⟩ yjO:=zkA mixed yd ⟨yKu,yrb,y2l,yto,trivial⟩
def yxi:Nat→Option Seg:=fun _=>none
def yaG:Shape:=⟨[(0,false,[.ptr 1000000000 0]),(3,false,[.ptr 0 0]),(10,false,[.int .i64]),(11,false,[.int .i64])],[(0,[.int .i64,.int .i64,.br tI]),(1000000000,[.int .i64,.int .i64,.int .i64,.at 800000000,.int .i64,.int .i64,.int .i64,.int .i64,.int .i64,.at 800000001,.int .i64,.bool,.bool])],[(800000000,tM,(.pr (.ow (.ow .fz)) (.pr (.ow (.pr .fz (.ow .fz))) (.pr .fz (.ow .fz))))),(800000001,tW,(.pr .fz (.ow .fz)))]⟩
def ydI:Shape:=⟨[(0,false,[.ptr 1000000000 0]),(3,false,[.ptr 0 0]),(10,false,[.int .i64]),(11,false,[.ci .i64 0])],[(0,[.int .i64,.int .i64,.br tI]),(1000000000,[.int .i64,.int .i64,.int .i64,.at 800000000,.int .i64,.int .i64,.int .i64,.int .i64,.int .i64,.at 800000001,.int .i64,.bool,.bool])],[(800000000,tM,(.pr (.ow (.ow .fz)) (.pr (.ow (.pr .fz (.ow .fz))) (.pr .fz (.ow .fz))))),(800000001,tW,(.pr .fz (.ow .fz)))]⟩
def ydG:Shape:=⟨[(0,false,[.ptr 1000000000 0])],[(1000000000,[.int .i64,.int .i64,.int .i64,.at 800000000,.int .i64,.int .i64,.int .i64,.int .i64,.int .i64,.at 800000001,.int .i64,.bool,.bool])],[(800000000,tM,(.pr (.ow (.ow .fz)) (.pr (.ow (.pr .fz (.ow .fz))) (.pr .fz (.ow .fz))))),(800000001,tW,(.pr .fz (.ow .fz)))]⟩
def ydL:Shape:=⟨[(4,false,[.bool])],[(1000000000,[.int .i64,.int .i64,.int .i64,.at 800000000,.int .i64,.int .i64,.int .i64,.int .i64,.int .i64,.at 800000001,.int .i64,.bool,.bool])],[(800000000,tM,(.pr (.ow (.ow .fz)) (.pr (.ow (.pr .fz (.ow .fz))) (.pr .fz (.ow .fz))))),(800000001,tW,(.pr .fz (.ow .fz)))]⟩
abbrev ykG (v0 v1:Int) (v2:dN) (v3:dA):(yaG).X:=((((),()),((),()),(v0,()),(v1,()),()),((v2.1,v2.2.1,v2.2.2,()),(v3.1,v3.2.1.1,v3.2.1.2,(),v3.2.2.2.1,v3.2.2.2.2.1,v3.2.2.2.2.2.1,v3.2.2.2.2.2.2.1,v3.2.2.2.2.2.2.2.1,(),v3.2.2.2.2.2.2.2.2.2.1,v3.2.2.2.2.2.2.2.2.2.2.1,v3.2.2.2.2.2.2.2.2.2.2.2,()),()),(v3.2.2.1,v3.2.2.2.2.2.2.2.2.1,()))
abbrev yKl (v0:Int) (v1:dN) (v2:dA):(ydI).X:=((((),()),((),()),(v0,()),((),()),()),((v1.1,v1.2.1,v1.2.2,()),(v2.1,v2.2.1.1,v2.2.1.2,(),v2.2.2.2.1,v2.2.2.2.2.1,v2.2.2.2.2.2.1,v2.2.2.2.2.2.2.1,v2.2.2.2.2.2.2.2.1,(),v2.2.2.2.2.2.2.2.2.2.1,v2.2.2.2.2.2.2.2.2.2.2.1,v2.2.2.2.2.2.2.2.2.2.2.2,()),()),(v2.2.2.1,v2.2.2.2.2.2.2.2.2.1,()))
abbrev ykI (v0:dA):(ydG).X:=((((),()),()),((v0.1,v0.2.1.1,v0.2.1.2,(),v0.2.2.2.1,v0.2.2.2.2.1,v0.2.2.2.2.2.1,v0.2.2.2.2.2.2.1,v0.2.2.2.2.2.2.2.1,(),v0.2.2.2.2.2.2.2.2.2.1,v0.2.2.2.2.2.2.2.2.2.2.1,v0.2.2.2.2.2.2.2.2.2.2.2,()),()),(v0.2.2.1,v0.2.2.2.2.2.2.2.2.1,()))
abbrev ykK (v0:Bool) (v1:dA):(ydL).X:=(((v0,()),()),((v1.1,v1.2.1.1,v1.2.1.2,(),v1.2.2.2.1,v1.2.2.2.2.1,v1.2.2.2.2.2.1,v1.2.2.2.2.2.2.1,v1.2.2.2.2.2.2.2.1,(),v1.2.2.2.2.2.2.2.2.2.1,v1.2.2.2.2.2.2.2.2.2.2.1,v1.2.2.2.2.2.2.2.2.2.2.2,()),()),(v1.2.2.1,v1.2.2.2.2.2.2.2.2.1,()))
def yla (v0 v1 v2 v3:Int) (v4:List Int) (v5 v6 v7 v8 v9 v10 v11 v12 v13:Int) (v14 v15:Bool) (v16:List dM) (v17:List dW):Option ((yaG).X ⊕ ((ydG).X ⊕ (ydL).X)) :=bif(ltb v1 v0)then let r4:=ymr v2;let r5:=ymq (v2,v3,v4);bnd (ye2 (v5,(v6,v7),v16,v8,v9,v10,v11,v12,v17,v13,v14,v15) v1 r4 r5) fun r6 =>bif(!r6.1.1)then some (.inr (.inr (((false,()),()),((r6.2.1.1,r6.2.1.2.1.1,r6.2.1.2.1.2,(),r6.2.1.2.2.2.1,r6.2.1.2.2.2.2.1,r6.2.1.2.2.2.2.2.1,r6.2.1.2.2.2.2.2.2.1,r6.2.1.2.2.2.2.2.2.2.1,(),r6.2.1.2.2.2.2.2.2.2.2.2.1,r6.2.1.2.2.2.2.2.2.2.2.2.2.1,r6.2.1.2.2.2.2.2.2.2.2.2.2.2,()),()),(r6.2.1.2.2.1,r6.2.1.2.2.2.2.2.2.2.2.1,())))) else some (.inl ((((),()),((),()),(v0,()),((i64.wrap (v1+1)),()),()),((v2,v3,v4,()),(r6.2.1.1,r6.2.1.2.1.1,r6.2.1.2.1.2,(),r6.2.1.2.2.2.1,r6.2.1.2.2.2.2.1,r6.2.1.2.2.2.2.2.1,r6.2.1.2.2.2.2.2.2.1,r6.2.1.2.2.2.2.2.2.2.1,(),r6.2.1.2.2.2.2.2.2.2.2.2.1,r6.2.1.2.2.2.2.2.2.2.2.2.2.1,r6.2.1.2.2.2.2.2.2.2.2.2.2.2,()),()),(r6.2.1.2.2.1,r6.2.1.2.2.2.2.2.2.2.2.1,()))) else some (.inr (.inl ((((),()),()),((v5,v6,v7,(),v8,v9,v10,v11,v12,(),v13,v14,v15,()),()),(v16,v17,()))))
def yaU (x:(yaG).X):=yla x.1.2.2.1.1 x.1.2.2.2.1.1 x.2.1.1.1 x.2.1.1.2.1 x.2.1.1.2.2.1 x.2.1.2.1.1 x.2.1.2.1.2.1 x.2.1.2.1.2.2.1 x.2.1.2.1.2.2.2.2.1 x.2.1.2.1.2.2.2.2.2.1 x.2.1.2.1.2.2.2.2.2.2.1 x.2.1.2.1.2.2.2.2.2.2.2.1 x.2.1.2.1.2.2.2.2.2.2.2.2.1 x.2.1.2.1.2.2.2.2.2.2.2.2.2.2.1 x.2.1.2.1.2.2.2.2.2.2.2.2.2.2.2.1 x.2.1.2.1.2.2.2.2.2.2.2.2.2.2.2.2.1 x.2.2.1 x.2.2.2.1
def yt9 (x:(ydI).X):(yaG).X:=((((),()),((),()),(x.1.2.2.1.1,()),(0,()),()),((x.2.1.1.1,x.2.1.1.2.1,x.2.1.1.2.2.1,()),(x.2.1.2.1.1,x.2.1.2.1.2.1,x.2.1.2.1.2.2.1,(),x.2.1.2.1.2.2.2.2.1,x.2.1.2.1.2.2.2.2.2.1,x.2.1.2.1.2.2.2.2.2.2.1,x.2.1.2.1.2.2.2.2.2.2.2.1,x.2.1.2.1.2.2.2.2.2.2.2.2.1,(),x.2.1.2.1.2.2.2.2.2.2.2.2.2.2.1,x.2.1.2.1.2.2.2.2.2.2.2.2.2.2.2.1,x.2.1.2.1.2.2.2.2.2.2.2.2.2.2.2.2.1,()),()),(x.2.2.1,x.2.2.2.1,()))
def yvI:Code:=(zd7 yjO 64 52).getD .skip
theorem yKV:zd7 yjO 64 13=some (.block 0 (.loop yvI)):=by kernel_rfl
theorem yLA (x:(yaG).X):zhu ⟨yqp,26,yxi⟩ 0 yvI 52 yaG ydG ydL x=yaU x:=by kernel_rfl
def yuc (x:(ydI).X):Nat:=18446744073709551616
def ylm (x:(ydI).X):Option ((ydG).X ⊕ (ydL).X):=zF yaU (yuc x) (yt9 x)
def yuf:Seg:=⟨ydI,ydG,ydL,ylm⟩
def yL1:Nat→Option Seg:=fun q=>bif Nat.beq q 13 then some yuf else yxi q
theorem yK4:FrOk prog ⟨yqp,26,yL1⟩ yjO:=(yK3).loop (sg:=yuf) yaG yt9 (by decide) yKV yaU yuc (by decide) (fun _=>rfl) (fun x r _ h=>h) yLA
abbrev yga:List Par:= [.pt tA (.pr .fz (.pr (.pr .fz .fz) (.pr (.ow (.pr (.ow (.ow .fz)) (.pr (.ow (.pr .fz (.ow .fz))) (.pr .fz (.ow .fz))))) (.pr .fz (.pr .fz (.pr .fz (.pr .fz (.pr .fz (.pr (.ow (.pr .fz (.ow .fz))) (.pr .fz (.pr .fz .fz))))))))))),.rd tN]
abbrev yjT:List OT:= [⟨false,tB,.fz⟩]
def ym8 (a0:dA) (a1:dN):Option (zaY yjT×zak yga) :=zkt (ylm ((((),()),((),()),((a0.2.2.1.length:Int),()),((),()),()),((a1.1,a1.2.1,a1.2.2,()),(a0.1,a0.2.1.1,a0.2.1.2,(),a0.2.2.2.1,a0.2.2.2.2.1,a0.2.2.2.2.2.1,a0.2.2.2.2.2.2.1,a0.2.2.2.2.2.2.2.1,(),a0.2.2.2.2.2.2.2.2.2.1,a0.2.2.2.2.2.2.2.2.2.2.1,a0.2.2.2.2.2.2.2.2.2.2.2,()),()),(a0.2.2.1,a0.2.2.2.2.2.2.2.2.1,()))) (fun y6 =>bnd (yfV (y6.2.1.1.1,(y6.2.1.1.2.1,y6.2.1.1.2.2.1),y6.2.2.1,y6.2.1.1.2.2.2.2.1,y6.2.1.1.2.2.2.2.2.1,y6.2.1.1.2.2.2.2.2.2.1,y6.2.1.1.2.2.2.2.2.2.2.1,y6.2.1.1.2.2.2.2.2.2.2.2.1,y6.2.2.2.1,y6.2.1.1.2.2.2.2.2.2.2.2.2.2.1,y6.2.1.1.2.2.2.2.2.2.2.2.2.2.2.1,y6.2.1.1.2.2.2.2.2.2.2.2.2.2.2.2.1)) fun r8 =>some ((r8.1.1,()),(r8.2.1,()))) (fun y6 =>some ((y6.1.1.1,()),((y6.2.1.1.1,(y6.2.1.1.2.1,y6.2.1.1.2.2.1),y6.2.2.1,y6.2.1.1.2.2.2.2.1,y6.2.1.1.2.2.2.2.2.1,y6.2.1.1.2.2.2.2.2.2.1,y6.2.1.1.2.2.2.2.2.2.2.1,y6.2.1.1.2.2.2.2.2.2.2.2.1,y6.2.2.2.1,y6.2.1.1.2.2.2.2.2.2.2.2.2.2.1,y6.2.1.1.2.2.2.2.2.2.2.2.2.2.2.1,y6.2.1.1.2.2.2.2.2.2.2.2.2.2.2.2.1),())))
theorem yMI:ConOk prog 97 ⟨yga,yjT,fun x=>ym8 x.1 x.2.1⟩:=zkI (yK4) func97 ntmps97.symm fun x=>by kernel_rfl
def yka (a0:dA) (a1:dN):Bool×dA:=(!(ye (yc0 a0 a1)),yc0 a0 a1)
def ygO (a0:dA) (a1:dN):Bool:= !(ye a0)
theorem yOJ (a0:dA) (a1:dN) (hk:zjx yga (a0,a1,())) (hq:ygO a0 a1=true):ym8 a0 a1=(fun n=>some ((n.1,()),(n.2,()))) (yka a0 a1):=by
 have hb:a0.2.2.1.length*80≤2^47:=hk.1.2.2.1.1;have hd0:ye a0=false:=by simpa [ygO]using hq
 have h1:ylm (yKl a0.2.2.1.length a1 a0)=some (bif ye ((List.range a0.2.2.1.length).foldl (yeM a1) a0)then .inr (ykK false ((List.range a0.2.2.1.length).foldl (yeM a1) a0))else .inl (ykI ((List.range a0.2.2.1.length).foldl (yeM a1) a0))):=by
  have:=zkC (step:=yaU) a0.2.2.1.length (fun i s=>ykG a0.2.2.1.length i a1 s) (fun i s=>bif ye (yeM a1 s i)then(.inr (yeM a1 s i):dA ⊕ dA)else .inl (yeM a1 s i)) (fun _ s=>s.2.2.1.length=a0.2.2.1.length∧ye s=false) id
   (fun b=>bif ye b then .inr (ykK false b)else .inl (ykI b)) (fun i s hi hs=>by
    constructor
    ·simp only[yaU,ykG,yla,zky (show(i:Int)<a0.2.2.1.length by omega),cond_true,wq ((i:Int)+1) (by omega) (by omega),Int.natCast_add,Int.natCast_one,Int.toNat_natCast,zkX,yOe,ymq]
     rw[yrd s i (yl a1.1) (yo6 a1) (by unfold ycZ; rw[zkR (by rw[hs.1]; exact hi),hs.2]; rfl)];simp only[zkH,ycX];rw[show ydq s i (yl a1.1) (yo6 a1)=yeM a1 s i from rfl];cases hd:ye (yeM a1 s i)
     ·rfl
     ·simp only[hd,Bool.not_true,Bool.not_false,cond_true,ykK]
    ·intro s' h
     cases hd:ye (yeM a1 s i)
     ·rw[hd]at h
      cases h;exact⟨(yql a1 s i).trans hs.1,hd⟩
     ·rw[hd]at h; cases h) (fun s hs=>by simp only[yaU,ykG,yla,hs.2,zk3 (Int.le_refl _),cond_false,id,ykI]) a0 ⟨rfl,hd0⟩ 18446744073709551616 (by omega)
  rw[yGI (fun a i h=>y6s a1 i h),← List.range_eq_range']at this;exact this
 unfold ym8 yka yc0;refine(congrArg (fun z=>zkt z _ _) h1).trans ?_;cases hd:ye ((List.range a0.2.2.1.length).foldl (yeM a1) a0)
 ·simp only[cond_false,zkN,zkX]
  rw[yts _ (by unfold yfW; rw[hd]; rfl)]; rfl
 ·rw[y3d hd]
  simp only[cond_true,zkO,zkX];rw[hd]; rfl
def ygN (a0:dA) (a1:dN):Option (zaY yjT×zak yga):=bif ygO a0 a1 then(fun n=>some ((n.1,()),(n.2,()))) (yka a0 a1)else none
theorem yO4 (a0:dA) (a1:dN) (h:ygO a0 a1=true):ygN a0 a1=(fun n=>some ((n.1,()),(n.2,()))) (yka a0 a1):=by unfold ygN; rw[h]; rfl
def yxs:Con:=⟨yga,yjT,fun x=>ygN x.1 x.2.1⟩
theorem yOW:ConOk prog 97 yxs:=(yMI).mono (fun x r hk h=>zkY h (fun hq=>yOJ x.1 x.2.1 hk hq))
def y3l:Code:=(f111.body).getD .skip
def y3T:Env:=zkw TT [(81,yF)] []
theorem yS3:FrOk prog ⟨y3T,9,fun _=>none⟩ y3l:=zkA mixed yd ⟨yS,trivial⟩
abbrev yBC:List Par:= [.rd tI]
abbrev yBZ:List OT:= [⟨false,tI,.fz⟩]
def yI4 (a0:Int):Option (zaY yBZ×zak yBC) :=let r1:=yg a0 0 1099511627776;bif(!r1)then some (((-1),()),()) else some (((i64.wrap ((i64.wrap (a0+2))+4)),()),())
theorem yYL:ConOk prog 111 ⟨yBC,yBZ,fun x=>yI4 x.1⟩:=zkI (yS3) func111 ntmps111.symm fun x=>by kernel_rfl
def yss (a0:Int):Int :=let r1:=yg a0 0 1099511627776;bif(!r1)then (-1) else (i64.wrap ((i64.wrap (a0+2))+4))
def yIb:Con:=⟨yBC,yBZ,fun x=>(fun n=>some ((n,()),())) (yss x.1)⟩
theorem y1c (a0:Int):yI4 a0=(fun n=>some ((n,()),())) (yss a0):=zkV (p:=fun(n:Int)=>((n,()),())) (zkG (p:=fun(n:Int)=>((n,()),())) rfl rfl)
theorem y2h:ConOk prog 111 yIb:=(yYL).mono (fun x r _ h=>(y1c x.1).trans h)
theorem y07 (s:Int):yss s=ycA s:=ye8 s
def yV8:Code:=(f167.body).getD .skip
def yWF:Env:=zkw TT [(109,yjh)] []
theorem yNG:FrOk prog ⟨yWF,17,fun _=>none⟩ yV8:=zkA mixed yd ⟨yrc,trivial⟩
abbrev yny:List Par:= [.rd tG,.rd tI]
abbrev yvh:List OT:= [⟨false,tI,.fz⟩]
def yrj (a0:dG) (a1:Int):Option (zaY yvh×zak yny) :=let r1:=ybB a0 a1;bif(!r1)then some (((-1),()),()) else bif(a0.1 !=0)then some (((i64.wrap ((i64.wrap (a0.1-1))-(a1.tmod a0.1))),()),()) else none
theorem yRp:ConOk prog 167 ⟨yny,yvh,fun x=>yrj x.1 x.2.1⟩:=zkI (yNG) func167 ntmps167.symm fun x=>by kernel_rfl
def ydQ (a0:dG) (a1:Int):Int:=yh a0 a1
theorem yUD (a0:dG) (a1:Int) (hk:zjx yny (a0,a1,())):yrj a0 a1=(fun n=>some ((n,()),())) (ydQ a0 a1):=by
 unfold yrj ydQ;rw[ySk];cases hs:ycH a0 a1
 ·unfold yh; rw[hs]; rfl
 ·have h1:=ybD.1 hs
  have h2:=yk.1 h1.1;have h3:=yo5 hs;have h4:yh a0 a1=a0.1-1-a1.tmod a0.1:=by unfold yh; rw[hs]; rfl
  rw[show(a0.1 !=0)=true from bne_iff_ne.2 (by omega),wq (a0.1-1) (by omega) (by omega),wq (a0.1-1-a1.tmod a0.1) (by omega) (by omega),h4]; rfl
def yqQ:Con:=⟨yny,yvh,fun x=>(fun n=>some ((n,()),())) (ydQ x.1 x.2.1)⟩
theorem yGY:ConOk prog 167 yqQ:=(yRp).mono (fun x r hk h=>(yUD x.1 x.2.1 hk).trans h)
def y3m:Code:=(f142.body).getD .skip
def y3U:Env:=zkw TT [(81,yF),(109,yjh),(167,yqQ)] []
theorem yS4:FrOk prog ⟨y3U,28,fun _=>none⟩ y3m:=zkA mixed yd ⟨yS,yrc,yGY,trivial⟩
abbrev yr7:List Par:= [.rd tG,.rd tI,.rd tI]
abbrev yB0:List OT:= [⟨false,tI,.fz⟩]
def ywH (a0:dG) (a1 a2:Int):Option (zaY yB0×zak yr7) :=let r1:=ybB a0 a1;bif(!(!r1))then let r2:=yg a2 0 (i64.wrap (a0.1-2));bif(!r2)then some (((-1),()),()) else let r3:=ydQ a0 a1;bif(a0.1 !=0)then some ((((i64.wrap ((i64.wrap (r3+1))+a2)).tmod a0.1),()),()) else none else some (((-1),()),())
theorem yYM:ConOk prog 142 ⟨yr7,yB0,fun x=>ywH x.1 x.2.1 x.2.2.1⟩:=zkI (yS4) func142 ntmps142.symm fun x=>by kernel_rfl
def ymn (a0:dG) (a1 a2:Int):Int:=yfD a0 a1 a2
theorem y1d (a0:dG) (a1 a2:Int) (hk:zjx yr7 (a0,a1,a2,())):ywH a0 a1 a2=(fun n=>some ((n,()),())) (ymn a0 a1 a2):=by
 unfold ywH ymn yfD ydQ;rw[ySk];cases hs:ycH a0 a1
 ·rfl
 ·have h1:=ybD.1 hs
  have h2:=yk.1 h1.1;have h3:=yo5 hs;rw[yai,ybm,wq (a0.1-2) (by omega) (by omega)];cases hi:(leb 0 a2&&leb a2 (a0.1-2))
  ·rfl
  ·rw[Bool.and_eq_true,zj7,zj7]at hi
   rw[show(a0.1 !=0)=true from bne_iff_ne.2 (by omega)];show some (((i64.wrap (i64.wrap (yh a0 a1+1)+a2)).tmod a0.1,()),())=some (((yh a0 a1+1+a2).tmod a0.1,()),());rw[wq (yh a0 a1+1) (by omega) (by omega),wq (yh a0 a1+1+a2) (by omega) (by omega)]
def yIc:Con:=⟨yr7,yB0,fun x=>(fun n=>some ((n,()),())) (ymn x.1 x.2.1 x.2.2.1)⟩
theorem y2i:ConOk prog 142 yIc:=(yYM).mono (fun x r hk h=>(y1d x.1 x.2.1 x.2.2.1 hk).trans h)
def yuj:Code:=(f185.body).getD .skip
def yEW:Env:=zkw TT [] []
theorem yXv:FrOk prog ⟨yEW,17,fun _=>none⟩ yuj:=zkA mixed yd trivial
def yJN:Nat→Option Seg:=fun _=>none
def ydw:Shape:=⟨[(3,false,[.int .i64]),(6,false,[.br tI]),(7,false,[.int .i64]),(8,false,[.int .i64])],[],[]⟩
def yiN:Shape:=⟨[(3,false,[.ci .i64 0]),(6,false,[.br tI]),(7,false,[.int .i64]),(8,false,[.ci .i64 0])],[],[]⟩
def yiy:Shape:=⟨[(3,false,[.int .i64])],[],[]⟩
def ynU:Shape:=⟨[],[],[]⟩
abbrev yte (v0:Int) (v1:List Int) (v2 v3:Int):(ydw).X:=(((v0,()),(v1,()),(v2,()),(v3,()),()),(),())
abbrev yUf (v0:List Int) (v1:Int):(yiN).X:=((((),()),(v0,()),(v1,()),((),()),()),(),())
abbrev yGO (v0:Int):(yiy).X:=(((v0,()),()),(),())
def ytU (v0:Int) (v1:List Int) (v2 v3:Int):Option ((ydw).X ⊕ ((yiy).X ⊕ (ynU).X)) :=bif(ltb v3 v2)then bif(inb v3 v1.length)then some (.inl ((((i64.wrap ((BitVec.ofInt IntKind.i64.bits v0 ^^^ BitVec.ofInt IntKind.i64.bits (nth v1 v3 0)).toNat:Int)),()),(v1,()),(v2,()),((i64.wrap (v3+1)),()),()),(),())) else none else some (.inr (.inl (((v0,()),()),(),())))
def yd9 (x:(ydw).X):=ytU x.1.1.1 x.1.2.1.1 x.1.2.2.1.1 x.1.2.2.2.1.1
def yGh (x:(yiN).X):(ydw).X:=(((0,()),(x.1.2.1.1,()),(x.1.2.2.1.1,()),(0,()),()),(),())
def yHZ:Code:=(zd7 yuj 64 116).getD .skip
theorem yW1:zd7 yuj 64 29=some (.block 0 (.loop yHZ)):=by kernel_rfl
theorem yZR (x:(ydw).X):zhu ⟨yEW,17,yJN⟩ 0 yHZ 116 ydw yiy ynU x=yd9 x:=by kernel_rfl
def yGx (x:(yiN).X):Nat:=18446744073709551616
def yuM (x:(yiN).X):Option ((yiy).X ⊕ (ynU).X):=zF yd9 (yGx x) (yGh x)
def yHo:Seg:=⟨yiN,yiy,ynU,yuM⟩
def y0o:Nat→Option Seg:=fun q=>bif Nat.beq q 29 then some yHo else yJN q
theorem yXw:FrOk prog ⟨yEW,17,y0o⟩ yuj:=(yXv).loop (sg:=yHo) ydw yGh (by decide) yW1 yd9 yGx (by decide) (fun _=>rfl) (fun x r _ h=>h) yZR
abbrev yu0:List Par:= [.rd tL]
abbrev yFo:List OT:= [⟨false,tI,.fz⟩]
def yzB (a0:List Int):Option (zaY yFo×zak yu0) :=zkt (yuM ((((),()),(a0,()),((a0.length:Int),()),((),()),()),(),())) (fun y0 =>some ((y0.1.1.1,()),())) (fun y0 =>none)
theorem y1Q:ConOk prog 185 ⟨yu0,yFo,fun x=>yzB x.1⟩:=zkI (yXw) func185 ntmps185.symm fun x=>by kernel_rfl
def ykO (a0:List Int):Int:=yfZ a0
theorem y4w (a0:List Int) (hk:zjx yu0 (a0,())):yzB a0=(fun n=>some ((n,()),())) (ykO a0):=by
 have hb:a0.length*8≤2^47:=hk.1.1
 have h1:yuM (yUf a0 a0.length)=some (.inl (yGO (yfZ a0))) :=
  zkx (step:=yd9) a0 0 (fun i s=>yte s a0 a0.length i) xw (fun _ _=>True) (fun s=> .inl (yGO s)) (fun i s hi _=>⟨by
   simp only[yd9,yte,ytU,zky (show(i:Int)<a0.length by omega),cond_true,wq ((i:Int)+1) (by omega) (by omega),Int.natCast_add,Int.natCast_one,Int.toNat_natCast,zkR hi,zkS]; rfl,trivial⟩) (fun s _=>by simp only[yd9,yte,ytU,zk3 (Int.le_refl _),cond_false]) 0 trivial _ (by show _<18446744073709551616; omega)
 unfold yzB ykO;rw[h1]; rfl
def yJ5:Con:=⟨yu0,yFo,fun x=>(fun n=>some ((n,()),())) (ykO x.1)⟩
theorem y4P:ConOk prog 185 yJ5:=(y1Q).mono (fun x r hk h=>(y4w x.1 hk).trans h)
def yPt:Code:=(f166.body).getD .skip
def yPJ:Env:=zkw TT [(185,yJ5)] []
theorem yK5:FrOk prog ⟨yPJ,5,fun _=>none⟩ yPt:=zkA mixed yd ⟨y4P,trivial⟩
abbrev yqH:List Par:= [.rd tL]
abbrev yqL:List OT:= [⟨false,tI,.fz⟩]
def yx0 (a0:List Int):Option (zaY yqL×zak yqH) :=let r1:=ykO a0;some ((r1,()),())
theorem yMJ:ConOk prog 166 ⟨yqH,yqL,fun x=>yx0 x.1⟩:=zkI (yK5) func166 ntmps166.symm fun x=>by kernel_rfl
def ykb (a0:List Int):Int :=let r1:=ykO a0;r1
def yxt:Con:=⟨yqH,yqL,fun x=>(fun n=>some ((n,()),())) (ykb x.1)⟩
theorem yOK (a0:List Int):yx0 a0=(fun n=>some ((n,()),())) (ykb a0):=zkV (p:=fun(n:Int)=>((n,()),())) rfl
theorem yOY:ConOk prog 166 yxt:=(yMJ).mono (fun x r _ h=>(yOK x.1).trans h)
def y3o:Code:=(f168.body).getD .skip
def y3W:Env:=zkw TT [(81,yF)] []
theorem yS6:FrOk prog ⟨y3W,34,fun _=>none⟩ y3o:=zkA mixed yd ⟨yS,trivial⟩
abbrev yr9:List Par:= [.rd tA,.rd tI,.rd tI]
abbrev yB2:List OT:= [⟨false,tB,.fz⟩]
def ywJ (a0:dA) (a1 a2:Int):Option (zaY yB2×zak yr9) :=let r1:=yg a1 0 (i64.wrap ((a0.2.2.1.length:Int)-1));bif r1 then bif(inb a1 a0.2.2.1.length)then bif(!((((nth a0.2.2.1 a1 ([],[],false,[])).2).2).1))then bif(!(a0.2.2.2.1 !=a1))then some (((ltb a2 a0.2.2.2.2.1),()),()) else some ((true,()),()) else some ((false,()),()) else none else some ((false,()),())
theorem yYO:ConOk prog 168 ⟨yr9,yB2,fun x=>ywJ x.1 x.2.1 x.2.2.1⟩:=zkI (yS6) func168 ntmps168.symm fun x=>by kernel_rfl
def ymp (a0:dA) (a1 a2:Int):Bool:=yeK a0 a1 a2
theorem y1f (a0:dA) (a1 a2:Int) (hk:zjx yr9 (a0,a1,a2,())):ywJ a0 a1 a2=(fun n=>some ((n,()),())) (ymp a0 a1 a2):=by
 have hb:a0.2.2.1.length*80≤2^47:=hk.1.2.2.1.1;unfold ywJ ymp yeK yc;rw[yai,yrR (show a0.2.2.1.length≤1152921504606846976 by omega),bne_comm];cases inb a1 a0.2.2.1.length
 ·rfl
 ·cases(nth a0.2.2.1 a1 ([],[],false,[])).2.2.1<;>cases(a1 !=a0.2.2.2.1)<;>rfl
def yIe:Con:=⟨yr9,yB2,fun x=>(fun n=>some ((n,()),())) (ymp x.1 x.2.1 x.2.2.1)⟩
theorem y2k:ConOk prog 168 yIe:=(yYO).mono (fun x r hk h=>(y1f x.1 x.2.1 x.2.2.1 hk).trans h)
def ycI:Code:=(f98.body).getD .skip
def yg9:Env:=zkw TT [(111,yIb),(139,yjg),(142,yIc),(166,yxt),(167,yqQ),(168,yIe)] []
theorem yMe:FrOk prog ⟨yg9,70,fun _=>none⟩ ycI:=zkA mixed yd ⟨y2h,yrb,y2i,yOY,yGY,y2k,trivial⟩
def yzW:Nat→Option Seg:=fun _=>none
def yaY:Shape:=⟨[(0,false,[.ptr 1000000000 0]),(1,false,[.int .i64]),(7,false,[.at 800000000]),(28,false,[.br tI]),(29,false,[.int .i64]),(30,false,[.int .i64])],[(1000000000,[.int .i64,.int .i64,.int .i64,.at 800000001,.int .i64,.int .i64,.int .i64,.int .i64,.int .i64,.at 800000002,.int .i64,.bool,.bool])],[(800000000,tI,.fz),(800000001,tM,(.pr (.ow (.ow .fz)) (.pr (.ow (.pr .fz (.ow .fz))) (.pr .fz (.ow .fz))))),(800000002,tW,(.pr .fz (.ow .fz)))]⟩
def yeA:Shape:=⟨[(0,false,[.ptr 1000000000 0]),(1,false,[.int .i64]),(7,false,[.at 800000000]),(28,false,[.br tI]),(29,false,[.int .i64]),(30,false,[.ci .i64 0])],[(1000000000,[.int .i64,.int .i64,.int .i64,.at 800000001,.int .i64,.int .i64,.int .i64,.int .i64,.int .i64,.at 800000002,.int .i64,.bool,.bool])],[(800000000,tI,.fz),(800000001,tM,(.pr (.ow (.ow .fz)) (.pr (.ow (.pr .fz (.ow .fz))) (.pr .fz (.ow .fz))))),(800000002,tW,(.pr .fz (.ow .fz)))]⟩
def yer:Shape:=⟨[(0,false,[.ptr 1000000000 0]),(1,false,[.int .i64]),(7,false,[.at 800000000])],[(1000000000,[.int .i64,.int .i64,.int .i64,.at 800000001,.int .i64,.int .i64,.int .i64,.int .i64,.int .i64,.at 800000002,.int .i64,.bool,.bool])],[(800000000,tI,.fz),(800000001,tM,(.pr (.ow (.ow .fz)) (.pr (.ow (.pr .fz (.ow .fz))) (.pr .fz (.ow .fz))))),(800000002,tW,(.pr .fz (.ow .fz)))]⟩
def yhW:Shape:=⟨[],[],[]⟩
abbrev ylL (v0:Int) (v1:List Int) (v2 v3:Int) (v4:dA) (v5:List Int):(yaY).X:=((((),()),(v0,()),((),()),(v1,()),(v2,()),(v3,()),()),((v4.1,v4.2.1.1,v4.2.1.2,(),v4.2.2.2.1,v4.2.2.2.2.1,v4.2.2.2.2.2.1,v4.2.2.2.2.2.2.1,v4.2.2.2.2.2.2.2.1,(),v4.2.2.2.2.2.2.2.2.2.1,v4.2.2.2.2.2.2.2.2.2.2.1,v4.2.2.2.2.2.2.2.2.2.2.2,()),()),(v5,v4.2.2.1,v4.2.2.2.2.2.2.2.2.1,()))
abbrev yLh (v0:Int) (v1:List Int) (v2:Int) (v3:dA) (v4:List Int):(yeA).X:=((((),()),(v0,()),((),()),(v1,()),(v2,()),((),()),()),((v3.1,v3.2.1.1,v3.2.1.2,(),v3.2.2.2.1,v3.2.2.2.2.1,v3.2.2.2.2.2.1,v3.2.2.2.2.2.2.1,v3.2.2.2.2.2.2.2.1,(),v3.2.2.2.2.2.2.2.2.2.1,v3.2.2.2.2.2.2.2.2.2.2.1,v3.2.2.2.2.2.2.2.2.2.2.2,()),()),(v4,v3.2.2.1,v3.2.2.2.2.2.2.2.2.1,()))
abbrev yws (v0:Int) (v1:dA) (v2:List Int):(yer).X:=((((),()),(v0,()),((),()),()),((v1.1,v1.2.1.1,v1.2.1.2,(),v1.2.2.2.1,v1.2.2.2.2.1,v1.2.2.2.2.2.1,v1.2.2.2.2.2.2.1,v1.2.2.2.2.2.2.2.1,(),v1.2.2.2.2.2.2.2.2.2.1,v1.2.2.2.2.2.2.2.2.2.2.1,v1.2.2.2.2.2.2.2.2.2.2.2,()),()),(v2,v1.2.2.1,v1.2.2.2.2.2.2.2.2.1,()))
def yl2 (v0:Int) (v1:List Int) (v2 v3 v4 v5 v6 v7 v8 v9 v10 v11 v12:Int) (v13 v14:Bool) (v15:List Int) (v16:List dM) (v17:List dW):Option ((yaY).X ⊕ ((yer).X ⊕ (yhW).X)) :=bif(ltb v3 v2)then bif(inb v3 v1.length)then let r5:=ymn (v5,v6) v0 v3;bif(inb r5 v15.length)then some (.inl ((((),()),(v0,()),((),()),(v1,()),(v2,()),((i64.wrap (v3+1)),()),()),((v4,v5,v6,(),v7,v8,v9,v10,v11,(),v12,v13,v14,()),()),((v15.set (r5).toNat (nth v1 v3 0)),v16,v17,()))) else none else none else some (.inr (.inl ((((),()),(v0,()),((),()),()),((v4,v5,v6,(),v7,v8,v9,v10,v11,(),v12,v13,v14,()),()),(v15,v16,v17,()))))
def ybd (x:(yaY).X):=yl2 x.1.2.1.1 x.1.2.2.2.1.1 x.1.2.2.2.2.1.1 x.1.2.2.2.2.2.1.1 x.2.1.1.1 x.2.1.1.2.1 x.2.1.1.2.2.1 x.2.1.1.2.2.2.2.1 x.2.1.1.2.2.2.2.2.1 x.2.1.1.2.2.2.2.2.2.1 x.2.1.1.2.2.2.2.2.2.2.1 x.2.1.1.2.2.2.2.2.2.2.2.1 x.2.1.1.2.2.2.2.2.2.2.2.2.2.1 x.2.1.1.2.2.2.2.2.2.2.2.2.2.2.1 x.2.1.1.2.2.2.2.2.2.2.2.2.2.2.2.1 x.2.2.1 x.2.2.2.1 x.2.2.2.2.1
def yv2 (x:(yeA).X):(yaY).X:=((((),()),(x.1.2.1.1,()),((),()),(x.1.2.2.2.1.1,()),(x.1.2.2.2.2.1.1,()),(0,()),()),((x.2.1.1.1,x.2.1.1.2.1,x.2.1.1.2.2.1,(),x.2.1.1.2.2.2.2.1,x.2.1.1.2.2.2.2.2.1,x.2.1.1.2.2.2.2.2.2.1,x.2.1.1.2.2.2.2.2.2.2.1,x.2.1.1.2.2.2.2.2.2.2.2.1,(),x.2.1.1.2.2.2.2.2.2.2.2.2.2.1,x.2.1.1.2.2.2.2.2.2.2.2.2.2.2.1,x.2.1.1.2.2.2.2.2.2.2.2.2.2.2.2.1,()),()),(x.2.2.1,x.2.2.2.1,x.2.2.2.2.1,()))
def yxj:Code:=(zd7 ycI 64 244).getD .skip
theorem yL4:zd7 ycI 64 61=some (.block 0 (.loop yxj)):=by kernel_rfl
theorem yMS (x:(yaY).X):zhu ⟨yg9,70,yzW⟩ 0 yxj 244 yaY yer yhW x=ybd x:=by kernel_rfl
def ywd (x:(yeA).X):Nat:=18446744073709551616
def ymI (x:(yeA).X):Option ((yer).X ⊕ (yhW).X):=zF ybd (ywd x) (yv2 x)
def yw3:Seg:=⟨yeA,yer,yhW,ymI⟩
def yoi:Nat→Option Seg:=fun q=>bif Nat.beq q 61 then some yw3 else yzW q
theorem yMf:FrOk prog ⟨yg9,70,yoi⟩ ycI:=(yMe).loop (sg:=yw3) yaY yv2 (by decide) yL4 ybd ywd (by decide) (fun _=>rfl) (fun x r _ h=>h) yMS
def yaH:Shape:=⟨[(0,false,[.ptr 1000000000 0]),(1,false,[.int .i64]),(46,false,[.at 800000000]),(47,false,[.int .i64]),(48,false,[.int .i64])],[(1000000000,[.int .i64,.int .i64,.int .i64,.at 800000001,.int .i64,.int .i64,.int .i64,.int .i64,.int .i64,.at 800000002,.int .i64,.bool,.bool])],[(800000000,tI,.fz),(800000001,tM,(.pr (.ow (.ow .fz)) (.pr (.ow (.pr .fz (.ow .fz))) (.pr .fz (.ow .fz))))),(800000002,tW,(.pr .fz (.ow .fz)))]⟩
def ydJ:Shape:=⟨[(0,false,[.ptr 1000000000 0]),(1,false,[.int .i64]),(46,false,[.at 800000000]),(47,false,[.int .i64]),(48,false,[.ci .i64 0])],[(1000000000,[.int .i64,.int .i64,.int .i64,.at 800000001,.int .i64,.int .i64,.int .i64,.int .i64,.int .i64,.at 800000002,.int .i64,.bool,.bool])],[(800000000,tI,.fz),(800000001,tM,(.pr (.ow (.ow .fz)) (.pr (.ow (.pr .fz (.ow .fz))) (.pr .fz (.ow .fz))))),(800000002,tW,(.pr .fz (.ow .fz)))]⟩
def ydH:Shape:=⟨[],[(1000000000,[.int .i64,.int .i64,.int .i64,.at 800000000,.int .i64,.int .i64,.int .i64,.int .i64,.int .i64,.at 800000001,.int .i64,.bool,.bool])],[(800000000,tM,(.pr (.ow (.ow .fz)) (.pr (.ow (.pr .fz (.ow .fz))) (.pr .fz (.ow .fz))))),(800000001,tW,(.pr .fz (.ow .fz)))]⟩
def ydM:Shape:=⟨[(6,false,[.bool])],[(1000000000,[.int .i64,.int .i64,.int .i64,.at 800000000,.int .i64,.int .i64,.int .i64,.int .i64,.int .i64,.at 800000001,.int .i64,.bool,.bool])],[(800000000,tM,(.pr (.ow (.ow .fz)) (.pr (.ow (.pr .fz (.ow .fz))) (.pr .fz (.ow .fz))))),(800000001,tW,(.pr .fz (.ow .fz)))]⟩
abbrev ykH (v0 v1 v2:Int) (v3:dA) (v4:List Int):(yaH).X:=((((),()),(v0,()),((),()),(v1,()),(v2,()),()),((v3.1,v3.2.1.1,v3.2.1.2,(),v3.2.2.2.1,v3.2.2.2.2.1,v3.2.2.2.2.2.1,v3.2.2.2.2.2.2.1,v3.2.2.2.2.2.2.2.1,(),v3.2.2.2.2.2.2.2.2.2.1,v3.2.2.2.2.2.2.2.2.2.2.1,v3.2.2.2.2.2.2.2.2.2.2.2,()),()),(v4,v3.2.2.1,v3.2.2.2.2.2.2.2.2.1,()))
abbrev yKm (v0 v1:Int) (v2:dA) (v3:List Int):(ydJ).X:=((((),()),(v0,()),((),()),(v1,()),((),()),()),((v2.1,v2.2.1.1,v2.2.1.2,(),v2.2.2.2.1,v2.2.2.2.2.1,v2.2.2.2.2.2.1,v2.2.2.2.2.2.2.1,v2.2.2.2.2.2.2.2.1,(),v2.2.2.2.2.2.2.2.2.2.1,v2.2.2.2.2.2.2.2.2.2.2.1,v2.2.2.2.2.2.2.2.2.2.2.2,()),()),(v3,v2.2.2.1,v2.2.2.2.2.2.2.2.2.1,()))
abbrev ykJ (v0:dA):(ydH).X:=((),((v0.1,v0.2.1.1,v0.2.1.2,(),v0.2.2.2.1,v0.2.2.2.2.1,v0.2.2.2.2.2.1,v0.2.2.2.2.2.2.1,v0.2.2.2.2.2.2.2.1,(),v0.2.2.2.2.2.2.2.2.2.1,v0.2.2.2.2.2.2.2.2.2.2.1,v0.2.2.2.2.2.2.2.2.2.2.2,()),()),(v0.2.2.1,v0.2.2.2.2.2.2.2.2.1,()))
abbrev ykL (v0:Bool) (v1:dA):(ydM).X:=(((v0,()),()),((v1.1,v1.2.1.1,v1.2.1.2,(),v1.2.2.2.1,v1.2.2.2.2.1,v1.2.2.2.2.2.1,v1.2.2.2.2.2.2.1,v1.2.2.2.2.2.2.2.1,(),v1.2.2.2.2.2.2.2.2.2.1,v1.2.2.2.2.2.2.2.2.2.2.1,v1.2.2.2.2.2.2.2.2.2.2.2,()),()),(v1.2.2.1,v1.2.2.2.2.2.2.2.2.1,()))
def ylb (v0 v1 v2 v3 v4 v5 v6 v7 v8 v9 v10 v11:Int) (v12 v13:Bool) (v14:List Int) (v15:List dM) (v16:List dW):Option ((yaH).X ⊕ ((ydH).X ⊕ (ydM).X)) :=bif(ltb v2 v1)then bif(inb v2 v14.length)then let r10:=ymp (v3,(v4,v5),v15,v6,v7,v8,v9,v10,v16,v11,v12,v13) v2 v0;bif r10 then let r11:=yss v0;bnd (ye2 (v3,(v4,v5),v15,v6,v7,v8,v9,v10,v16,v11,v12,v13) v2 r11 ([(nth v14 v2 0)]:List Int)) fun r12 =>bif(!r12.1.1)then some (.inr (.inr (((false,()),()),((r12.2.1.1,r12.2.1.2.1.1,r12.2.1.2.1.2,(),r12.2.1.2.2.2.1,r12.2.1.2.2.2.2.1,r12.2.1.2.2.2.2.2.1,r12.2.1.2.2.2.2.2.2.1,r12.2.1.2.2.2.2.2.2.2.1,(),r12.2.1.2.2.2.2.2.2.2.2.2.1,r12.2.1.2.2.2.2.2.2.2.2.2.2.1,r12.2.1.2.2.2.2.2.2.2.2.2.2.2,()),()),(r12.2.1.2.2.1,r12.2.1.2.2.2.2.2.2.2.2.1,())))) else some (.inl ((((),()),(v0,()),((),()),(v1,()),((i64.wrap (v2+1)),()),()),((r12.2.1.1,r12.2.1.2.1.1,r12.2.1.2.1.2,(),r12.2.1.2.2.2.1,r12.2.1.2.2.2.2.1,r12.2.1.2.2.2.2.2.1,r12.2.1.2.2.2.2.2.2.1,r12.2.1.2.2.2.2.2.2.2.1,(),r12.2.1.2.2.2.2.2.2.2.2.2.1,r12.2.1.2.2.2.2.2.2.2.2.2.2.1,r12.2.1.2.2.2.2.2.2.2.2.2.2.2,()),()),(v14,r12.2.1.2.2.1,r12.2.1.2.2.2.2.2.2.2.2.1,()))) else some (.inl ((((),()),(v0,()),((),()),(v1,()),((i64.wrap (v2+1)),()),()),((v3,v4,v5,(),v6,v7,v8,v9,v10,(),v11,v12,v13,()),()),(v14,v15,v16,()))) else none else some (.inr (.inl ((),((v3,v4,v5,(),v6,v7,v8,v9,v10,(),v11,v12,v13,()),()),(v15,v16,()))))
def yaV (x:(yaH).X):=ylb x.1.2.1.1 x.1.2.2.2.1.1 x.1.2.2.2.2.1.1 x.2.1.1.1 x.2.1.1.2.1 x.2.1.1.2.2.1 x.2.1.1.2.2.2.2.1 x.2.1.1.2.2.2.2.2.1 x.2.1.1.2.2.2.2.2.2.1 x.2.1.1.2.2.2.2.2.2.2.1 x.2.1.1.2.2.2.2.2.2.2.2.1 x.2.1.1.2.2.2.2.2.2.2.2.2.2.1 x.2.1.1.2.2.2.2.2.2.2.2.2.2.2.1 x.2.1.1.2.2.2.2.2.2.2.2.2.2.2.2.1 x.2.2.1 x.2.2.2.1 x.2.2.2.2.1
def yua (x:(ydJ).X):(yaH).X:=((((),()),(x.1.2.1.1,()),((),()),(x.1.2.2.2.1.1,()),(0,()),()),((x.2.1.1.1,x.2.1.1.2.1,x.2.1.1.2.2.1,(),x.2.1.1.2.2.2.2.1,x.2.1.1.2.2.2.2.2.1,x.2.1.1.2.2.2.2.2.2.1,x.2.1.1.2.2.2.2.2.2.2.1,x.2.1.1.2.2.2.2.2.2.2.2.1,(),x.2.1.1.2.2.2.2.2.2.2.2.2.2.1,x.2.1.1.2.2.2.2.2.2.2.2.2.2.2.1,x.2.1.1.2.2.2.2.2.2.2.2.2.2.2.2.1,()),()),(x.2.2.1,x.2.2.2.1,x.2.2.2.2.1,()))
def yvJ:Code:=(zd7 ycI 64 500).getD .skip
theorem yKW:zd7 ycI 64 125=some (.block 2 (.loop yvJ)):=by kernel_rfl
theorem yLB (x:(yaH).X):zhu ⟨yg9,70,yoi⟩ 2 yvJ 500 yaH ydH ydM x=yaV x:=by kernel_rfl
def yud (x:(ydJ).X):Nat:=18446744073709551616
def yln (x:(ydJ).X):Option ((ydH).X ⊕ (ydM).X):=zF yaV (yud x) (yua x)
def yug:Seg:=⟨ydJ,ydH,ydM,yln⟩
def yM4:Nat→Option Seg:=fun q=>bif Nat.beq q 125 then some yug else yoi q
theorem yMg:FrOk prog ⟨yg9,70,yM4⟩ ycI:=(yMf).loop (sg:=yug) yaH yua (by decide) yKW yaV yud (by decide) (fun _=>rfl) (fun x r _ h=>h) yLB
abbrev yhd:List Par:= [.pt tA (.pr .fz (.pr (.pr .fz .fz) (.pr (.ow (.pr (.ow (.ow .fz)) (.pr (.ow (.pr .fz (.ow .fz))) (.pr .fz (.ow .fz))))) (.pr .fz (.pr .fz (.pr .fz (.pr .fz (.pr .fz (.pr (.ow (.pr .fz (.ow .fz))) (.pr .fz (.pr .fz .fz))))))))))),.rd tI,.rd tL]
abbrev ylt:List OT:= [⟨false,tB,.fz⟩]
def yo9 (a0:dA) (a1:Int) (a2:List Int):Option (zaY ylt×zak yhd) :=bif(zks a0.2.1.1 8)then let r1:=ydQ a0.2.1 a1;let r2:=ykb a2;bif(inb r1 (List.replicate (a0.2.1.1).toNat (0:Int)).length)then let r3:=((List.replicate (a0.2.1.1).toNat (0:Int)).set (r1).toNat r2);zkt (ymI ((((),()),(a1,()),((),()),(a2,()),((a2.length:Int),()),((),()),()),((a0.1,a0.2.1.1,a0.2.1.2,(),a0.2.2.2.1,a0.2.2.2.2.1,a0.2.2.2.2.2.1,a0.2.2.2.2.2.2.1,a0.2.2.2.2.2.2.2.1,(),a0.2.2.2.2.2.2.2.2.2.1,a0.2.2.2.2.2.2.2.2.2.2.1,a0.2.2.2.2.2.2.2.2.2.2.2,()),()),(r3,a0.2.2.1,a0.2.2.2.2.2.2.2.2.1,()))) (fun y5 =>zkt (yln ((((),()),(y5.1.2.1.1,()),((),()),((y5.2.2.1.length:Int),()),((),()),()),((y5.2.1.1.1,y5.2.1.1.2.1,y5.2.1.1.2.2.1,(),y5.2.1.1.2.2.2.2.1,y5.2.1.1.2.2.2.2.2.1,y5.2.1.1.2.2.2.2.2.2.1,y5.2.1.1.2.2.2.2.2.2.2.1,y5.2.1.1.2.2.2.2.2.2.2.2.1,(),y5.2.1.1.2.2.2.2.2.2.2.2.2.2.1,y5.2.1.1.2.2.2.2.2.2.2.2.2.2.2.1,y5.2.1.1.2.2.2.2.2.2.2.2.2.2.2.2.1,()),()),(y5.2.2.1,y5.2.2.2.1,y5.2.2.2.2.1,()))) (fun y12 =>some ((true,()),((y12.2.1.1.1,(y12.2.1.1.2.1,y12.2.1.1.2.2.1),y12.2.2.1,y12.2.1.1.2.2.2.2.1,y12.2.1.1.2.2.2.2.2.1,y12.2.1.1.2.2.2.2.2.2.1,y12.2.1.1.2.2.2.2.2.2.2.1,y12.2.1.1.2.2.2.2.2.2.2.2.1,y12.2.2.2.1,y12.2.1.1.2.2.2.2.2.2.2.2.2.2.1,y12.2.1.1.2.2.2.2.2.2.2.2.2.2.2.1,y12.2.1.1.2.2.2.2.2.2.2.2.2.2.2.2.1),()))) (fun y12 =>some ((y12.1.1.1,()),((y12.2.1.1.1,(y12.2.1.1.2.1,y12.2.1.1.2.2.1),y12.2.2.1,y12.2.1.1.2.2.2.2.1,y12.2.1.1.2.2.2.2.2.1,y12.2.1.1.2.2.2.2.2.2.1,y12.2.1.1.2.2.2.2.2.2.2.1,y12.2.1.1.2.2.2.2.2.2.2.2.1,y12.2.2.2.1,y12.2.1.1.2.2.2.2.2.2.2.2.2.2.1,y12.2.1.1.2.2.2.2.2.2.2.2.2.2.2.1,y12.2.1.1.2.2.2.2.2.2.2.2.2.2.2.2.1),())))) (fun y5 =>none) else none else none
theorem yOO:ConOk prog 98 ⟨yhd,ylt,fun x=>yo9 x.1 x.2.1 x.2.2.1⟩:=zkI (yMg) func98 ntmps98.symm fun x=>by kernel_rfl
def ylV (a0:dA) (a1:Int) (a2:List Int):Bool×dA:=(!(ye (yL a0 a1 a2)),yL a0 a1 a2)
def yhT (a0:dA) (a1:Int) (a2:List Int):Bool:= !(ye a0)&&(ycH a0.2.1 a1&&((a2.length:Int)==a0.2.1.1-1&&(a0.2.2.1.length:Int)==a0.2.1.1))
theorem yRe (a0:dA) (a1:Int) (a2:List Int) (hk:zjx yhd (a0,a1,a2,())) (hq:yhT a0 a1 a2=true):yo9 a0 a1 a2=(fun n=>some ((n.1,()),(n.2,()))) (ylV a0 a1 a2):=by
 simp only[yhT,Bool.and_eq_true,beq_iff_eq,Bool.not_eq_true']at hq;obtain⟨hd0,hs0,hl0,hm0⟩:=hq;have hg:=yk.1 (ybD.1 hs0).1;have hp:=yo5 hs0;have hL:=y7b (N:=a0.2.1.1) (p:=yh a0.2.1 a1) (x:=yfZ a2) (data:=a2) ⟨by omega,by omega⟩ hp hl0;generalize hw:(List.range a0.2.1.1.toNat).map (fun(i:Nat)=>yzS (yh a0.2.1 a1) a0.2.1.1 (yfZ a2) a2 i)=W at hL;have hWl:W.length=a0.2.2.1.length:=by rw[← hw,List.length_map,List.length_range]; omega
 have hWat: ∀i:Nat,i<a0.2.2.1.length→nth W i 0=yzS (yh a0.2.1 a1) a0.2.1.1 (yfZ a2) a2 i:=fun i hi=>by
  rw[← hw,zkS,zkJ (by rw[List.length_map,List.length_range]; omega)]; simp
 have h1:ymI (yLh a1 a2 a2.length a0 ((List.replicate a0.2.1.1.toNat 0).set (yh a0.2.1 a1).toNat (yfZ a2)))=some (.inl (yws a1 a0 W)):=by
  have:=zkD (step:=ybd) a2.length (fun i s=>ylL a1 a2 a2.length i a0 s) (fun l (i:Nat)=>l.set ((yh a0.2.1 a1+1+i).tmod a0.2.1.1).toNat (nth a2 i 0)) (fun _ s=>s.length=a0.2.1.1.toNat) (fun s=> .inl (yws a1 a0 s)) (fun i s hi hs=>⟨by
   have hd:=y6A hs0 (show(0:Int)≤i by omega) (show(i:Int)≤a0.2.1.1-2 by omega);have he:yfD a0.2.1 a1 i=(yh a0.2.1 a1+1+i).tmod a0.2.1.1:=by unfold yfD; rw[hs0,zk2 (show(0:Int)≤i by omega),zk2 (show(i:Int)≤a0.2.1.1-2 by omega)]; rfl
   simp only[ybd,ylL,yl2,zky (show(i:Int)<a2.length by omega),cond_true,wq ((i:Int)+1) (by omega) (by omega),Int.natCast_add,Int.natCast_one,Int.toNat_natCast,zkR hi,zkX,ymn,zj6.2 (show 0≤yfD a0.2.1 a1 i∧yfD a0.2.1 a1 i<s.length by omega)]
   rw[he],by rw[List.length_set]; exact hs⟩) (fun s hs=>by simp only[ybd,ylL,yl2,zk3 (Int.le_refl _),cond_false]) ((List.replicate a0.2.1.1.toNat 0).set (yh a0.2.1 a1).toNat (yfZ a2)) (by rw[List.length_set,List.length_replicate]) 18446744073709551616 (by omega)
  rw[hL]at this;exact this
 have h2:yln (yKm a1 W.length a0 W)=some (bif ye (yL a0 a1 a2)then .inr (ykL false (yL a0 a1 a2))else .inl (ykJ (yL a0 a1 a2))):=by
  have:=zkC (step:=yaV) a0.2.2.1.length (fun i s=>ykH a1 W.length i s W) (fun i s=>bif ye (ybH (yh a0.2.1 a1) a0.2.1.1 a1 a2 s i)then(.inr (ybH (yh a0.2.1 a1) a0.2.1.1 a1 a2 s i):dA ⊕ dA)else .inl (ybH (yh a0.2.1 a1) a0.2.1.1 a1 a2 s i)) (fun _ s=>s.2.2.1.length=a0.2.2.1.length∧ye s=false) id
   (fun b=>bif ye b then .inr (ykL false b)else .inl (ykJ b)) (fun i s hi hs=>by
    constructor
    ·simp only[yaV,ykH,ylb,zky (show(i:Int)<W.length by omega),cond_true,wq ((i:Int)+1) (by omega) (by omega),Int.natCast_add,Int.natCast_one,Int.toNat_natCast,zkR (show i<W.length by omega),zkX,ymp,y07,hWat i hi,ybH]
     rw[yrd s i (ycA a1) [yzS (yh a0.2.1 a1) a0.2.1.1 (yfZ a2) a2 i] (by unfold ycZ; rw[zkR (by rw[hs.1]; exact hi),hs.2]; rfl)];cases hlv:yeK s i a1
     ·simp only[cond_false,hs.2]
     ·simp only[zkH,ycX,cond_true]
      cases hd:ye (ydq s i (ycA a1) [yzS (yh a0.2.1 a1) a0.2.1.1 (yfZ a2) a2 i])
      ·rfl
      ·simp only[hd,Bool.not_true,Bool.not_false,cond_true,ykL]
    ·intro s' h
     cases hd:ye (ybH (yh a0.2.1 a1) a0.2.1.1 a1 a2 s i)
     ·rw[hd]at h
      cases h;exact⟨(ymG _ _ _ _ s i).trans hs.1,hd⟩
     ·rw[hd]at h; cases h) (fun s hs=>by simp only[yaV,ykH,ylb,hs.2,hWl,zk3 (Int.le_refl _),cond_false,id,ykJ]) a0 ⟨rfl,hd0⟩ 18446744073709551616 (by omega)
  rw[yGI (fun a i h=>y5D _ _ _ _ i h),← List.range_eq_range']at this;exact this
 unfold yo9 ylV ydQ ykb ykO;rw[zkM.2 (show 0≤a0.2.1.1∧a0.2.1.1*((8:Nat):Int)≤140737488355328 by omega)];simp only[cond_true];rw[zj6.2 (show 0≤yh a0.2.1 a1∧yh a0.2.1 a1<((List.replicate a0.2.1.1.toNat (0:Int)).length:Int)by rw[List.length_replicate]; omega),cond_true];refine(congrArg (fun z=>zkt z _ _) h1).trans ?_;rw[zkN];refine(congrArg (fun z=>zkt z _ _) h2).trans ?_;cases hd:ye (yL a0 a1 a2)
 ·rfl
 ·simp only[cond_true,zkO,zkX]; rfl
def yhS (a0:dA) (a1:Int) (a2:List Int):Option (zaY ylt×zak yhd):=bif yhT a0 a1 a2 then(fun n=>some ((n.1,()),(n.2,()))) (ylV a0 a1 a2)else none
theorem yRW (a0:dA) (a1:Int) (a2:List Int) (h:yhT a0 a1 a2=true):yhS a0 a1 a2=(fun n=>some ((n.1,()),(n.2,()))) (ylV a0 a1 a2):=by unfold yhS; rw[h]; rfl
def yAh:Con:=⟨yhd,ylt,fun x=>yhS x.1 x.2.1 x.2.2.1⟩
theorem yRQ:ConOk prog 98 yAh:=(yOO).mono (fun x r hk h=>zkY h (fun hq=>yRe x.1 x.2.1 x.2.2.1 hk hq))
def yWa:Code:=(f172.body).getD .skip
def yWH:Env:=zkw TT [(212,ys1)] []
theorem yNI:FrOk prog ⟨yWH,24,fun _=>none⟩ yWa:=zkA mixed yd ⟨yIQ,trivial⟩
abbrev yuZ:List Par:= [.rd tS]
abbrev yvj:List OT:= [⟨false,tL,(.ow .fz)⟩]
def yEc (a0:dS):Option (zaY yvj×zak yuZ) :=let r1:=yeY a0;bif(!r1)then some (([],()),()) else some ((([21317,a0.1,a0.2.1,a0.2.2.1,a0.2.2.2.1,a0.2.2.2.2.1,a0.2.2.2.2.2.1,(i64.wrap (a0.2.2.2.2.2.2.1+1)),a0.2.2.2.2.2.2.2]:List Int),()),())
theorem yRr:ConOk prog 172 ⟨yuZ,yvj,fun x=>yEc x.1⟩:=zkI (yNI) func172 ntmps172.symm fun x=>by kernel_rfl
def yjo (a0:dS):(List Int) :=let r1:=yeY a0;bif(!r1)then [] else ([21317,a0.1,a0.2.1,a0.2.2.1,a0.2.2.2.1,a0.2.2.2.2.1,a0.2.2.2.2.2.1,(i64.wrap (a0.2.2.2.2.2.2.1+1)),a0.2.2.2.2.2.2.2]:List Int)
def yDv:Con:=⟨yuZ,yvj,fun x=>(fun n=>some ((n,()),())) (yjo x.1)⟩
theorem yUF (a0:dS):yEc a0=(fun n=>some ((n,()),())) (yjo a0):=zkV (p:=fun(n:(List Int))=>((n,()),())) (zkG (p:=fun(n:(List Int))=>((n,()),())) rfl rfl)
theorem yVz:ConOk prog 172 yDv:=(yRr).mono (fun x r _ h=>(yUF x.1).trans h)
theorem y6j (s:dS):yjo s=yJ s:=by
 unfold yjo yJ;rw[yLN]
def yZ8:Code:=(f173.body).getD .skip
def y0B:Env:=zkw TT [] []
theorem yQk:FrOk prog ⟨y0B,23,fun _=>none⟩ yZ8:=zkA mixed yd trivial
abbrev yyC:List Par:= [.rd tA,.rd tI]
abbrev yyS:List OT:= [⟨false,tS,(.pr .fz (.pr .fz (.pr .fz (.pr .fz (.pr .fz (.pr .fz (.pr .fz .fz)))))))⟩]
def yHe (a0:dA) (a1:Int):Option (zaY yyS×zak yyC) :=some (((a0.1,a0.2.2.2.2.2.2.2.1,a1,a0.2.1.1,a0.2.1.2,a0.2.2.2.2.2.2.1,a0.2.2.2.1,a0.2.2.2.2.1),()),())
theorem yU8:ConOk prog 173 ⟨yyC,yyS,fun x=>yHe x.1 x.2.1⟩:=zkI (yQk) func173 ntmps173.symm fun x=>by kernel_rfl
def yqd (a0:dA) (a1:Int):dS :=(a0.1,a0.2.2.2.2.2.2.2.1,a1,a0.2.1.1,a0.2.1.2,a0.2.2.2.2.2.2.1,a0.2.2.2.1,a0.2.2.2.2.1)
def yF0:Con:=⟨yyC,yyS,fun x=>(fun n=>some ((n,()),())) (yqd x.1 x.2.1)⟩
theorem yYr (a0:dA) (a1:Int):yHe a0 a1=(fun n=>some ((n,()),())) (yqd a0 a1):=zkV (p:=fun(n:dS)=>((n,()),())) rfl
theorem yZx:ConOk prog 173 yF0:=(yU8).mono (fun x r _ h=>(yYr x.1 x.2.1).trans h)
def ynj:Code:=(f107.body).getD .skip
def yux:Env:=zkw TT [(139,yjg),(165,yj5),(172,yDv),(173,yF0)] []
theorem yNw:FrOk prog ⟨yux,37,fun _=>none⟩ ynj:=zkA mixed yd ⟨yrb,yto,yVz,yZx,trivial⟩
def yCY:Nat→Option Seg:=fun _=>none
def ybn:Shape:=⟨[(0,false,[.ptr 1000000000 0]),(15,false,[.int .i64]),(16,false,[.int .i64])],[(1000000000,[.int .i64,.int .i64,.int .i64,.at 800000000,.int .i64,.int .i64,.int .i64,.int .i64,.int .i64,.at 800000001,.int .i64,.bool,.bool])],[(800000000,tM,(.pr (.ow (.ow .fz)) (.pr (.ow (.pr .fz (.ow .fz))) (.pr .fz (.ow .fz))))),(800000001,tW,(.pr .fz (.ow .fz)))]⟩
def yfq:Shape:=⟨[(0,false,[.ptr 1000000000 0]),(15,false,[.int .i64]),(16,false,[.ci .i64 0])],[(1000000000,[.int .i64,.int .i64,.int .i64,.at 800000000,.int .i64,.int .i64,.int .i64,.int .i64,.int .i64,.at 800000001,.int .i64,.bool,.bool])],[(800000000,tM,(.pr (.ow (.ow .fz)) (.pr (.ow (.pr .fz (.ow .fz))) (.pr .fz (.ow .fz))))),(800000001,tW,(.pr .fz (.ow .fz)))]⟩
def yff:Shape:=⟨[(0,false,[.ptr 1000000000 0])],[(1000000000,[.int .i64,.int .i64,.int .i64,.at 800000000,.int .i64,.int .i64,.int .i64,.int .i64,.int .i64,.at 800000001,.int .i64,.bool,.bool])],[(800000000,tM,(.pr (.ow (.ow .fz)) (.pr (.ow (.pr .fz (.ow .fz))) (.pr .fz (.ow .fz))))),(800000001,tW,(.pr .fz (.ow .fz)))]⟩
def yfB:Shape:=⟨[(2,false,[.bool])],[(1000000000,[.int .i64,.int .i64,.int .i64,.at 800000000,.int .i64,.int .i64,.int .i64,.int .i64,.int .i64,.at 800000001,.int .i64,.bool,.bool])],[(800000000,tM,(.pr (.ow (.ow .fz)) (.pr (.ow (.pr .fz (.ow .fz))) (.pr .fz (.ow .fz))))),(800000001,tW,(.pr .fz (.ow .fz)))]⟩
abbrev ymW (v0 v1:Int) (v2:dA):(ybn).X:=((((),()),(v0,()),(v1,()),()),((v2.1,v2.2.1.1,v2.2.1.2,(),v2.2.2.2.1,v2.2.2.2.2.1,v2.2.2.2.2.2.1,v2.2.2.2.2.2.2.1,v2.2.2.2.2.2.2.2.1,(),v2.2.2.2.2.2.2.2.2.2.1,v2.2.2.2.2.2.2.2.2.2.2.1,v2.2.2.2.2.2.2.2.2.2.2.2,()),()),(v2.2.2.1,v2.2.2.2.2.2.2.2.2.1,()))
abbrev yMu (v0:Int) (v1:dA):(yfq).X:=((((),()),(v0,()),((),()),()),((v1.1,v1.2.1.1,v1.2.1.2,(),v1.2.2.2.1,v1.2.2.2.2.1,v1.2.2.2.2.2.1,v1.2.2.2.2.2.2.1,v1.2.2.2.2.2.2.2.1,(),v1.2.2.2.2.2.2.2.2.2.1,v1.2.2.2.2.2.2.2.2.2.2.1,v1.2.2.2.2.2.2.2.2.2.2.2,()),()),(v1.2.2.1,v1.2.2.2.2.2.2.2.2.1,()))
abbrev ym4 (v0:dA):(yff).X:=((((),()),()),((v0.1,v0.2.1.1,v0.2.1.2,(),v0.2.2.2.1,v0.2.2.2.2.1,v0.2.2.2.2.2.1,v0.2.2.2.2.2.2.1,v0.2.2.2.2.2.2.2.1,(),v0.2.2.2.2.2.2.2.2.2.1,v0.2.2.2.2.2.2.2.2.2.2.1,v0.2.2.2.2.2.2.2.2.2.2.2,()),()),(v0.2.2.1,v0.2.2.2.2.2.2.2.2.1,()))
abbrev ym6 (v0:Bool) (v1:dA):(yfB).X:=(((v0,()),()),((v1.1,v1.2.1.1,v1.2.1.2,(),v1.2.2.2.1,v1.2.2.2.2.1,v1.2.2.2.2.2.1,v1.2.2.2.2.2.2.1,v1.2.2.2.2.2.2.2.1,(),v1.2.2.2.2.2.2.2.2.2.1,v1.2.2.2.2.2.2.2.2.2.2.1,v1.2.2.2.2.2.2.2.2.2.2.2,()),()),(v1.2.2.1,v1.2.2.2.2.2.2.2.2.1,()))
def ym9 (v0 v1 v2 v3 v4 v5 v6 v7 v8 v9 v10:Int) (v11 v12:Bool) (v13:List dM) (v14:List dW):Option ((ybn).X ⊕ ((yff).X ⊕ (yfB).X)) :=bif(ltb v1 v0)then let r4:=yqd (v2,(v3,v4),v13,v5,v6,v7,v8,v9,v14,v10,v11,v12) v1;let r5:=yjo r4;bnd (ye2 (v2,(v3,v4),v13,v5,v6,v7,v8,v9,v14,v10,v11,v12) v1 (v9.tmod 2) r5) fun r6 =>bif(!r6.1.1)then some (.inr (.inr (((false,()),()),((r6.2.1.1,r6.2.1.2.1.1,r6.2.1.2.1.2,(),r6.2.1.2.2.2.1,r6.2.1.2.2.2.2.1,r6.2.1.2.2.2.2.2.1,r6.2.1.2.2.2.2.2.2.1,r6.2.1.2.2.2.2.2.2.2.1,(),r6.2.1.2.2.2.2.2.2.2.2.2.1,r6.2.1.2.2.2.2.2.2.2.2.2.2.1,r6.2.1.2.2.2.2.2.2.2.2.2.2.2,()),()),(r6.2.1.2.2.1,r6.2.1.2.2.2.2.2.2.2.2.1,())))) else some (.inl ((((),()),(v0,()),((i64.wrap (v1+1)),()),()),((r6.2.1.1,r6.2.1.2.1.1,r6.2.1.2.1.2,(),r6.2.1.2.2.2.1,r6.2.1.2.2.2.2.1,r6.2.1.2.2.2.2.2.1,r6.2.1.2.2.2.2.2.2.1,r6.2.1.2.2.2.2.2.2.2.1,(),r6.2.1.2.2.2.2.2.2.2.2.2.1,r6.2.1.2.2.2.2.2.2.2.2.2.2.1,r6.2.1.2.2.2.2.2.2.2.2.2.2.2,()),()),(r6.2.1.2.2.1,r6.2.1.2.2.2.2.2.2.2.2.1,()))) else some (.inr (.inl ((((),()),()),((v2,v3,v4,(),v5,v6,v7,v8,v9,(),v10,v11,v12,()),()),(v13,v14,()))))
def ybK (x:(ybn).X):=ym9 x.1.2.1.1 x.1.2.2.1.1 x.2.1.1.1 x.2.1.1.2.1 x.2.1.1.2.2.1 x.2.1.1.2.2.2.2.1 x.2.1.1.2.2.2.2.2.1 x.2.1.1.2.2.2.2.2.2.1 x.2.1.1.2.2.2.2.2.2.2.1 x.2.1.1.2.2.2.2.2.2.2.2.1 x.2.1.1.2.2.2.2.2.2.2.2.2.2.1 x.2.1.1.2.2.2.2.2.2.2.2.2.2.2.1 x.2.1.1.2.2.2.2.2.2.2.2.2.2.2.2.1 x.2.2.1 x.2.2.2.1
def yxw (x:(yfq).X):(ybn).X:=((((),()),(x.1.2.1.1,()),(0,()),()),((x.2.1.1.1,x.2.1.1.2.1,x.2.1.1.2.2.1,(),x.2.1.1.2.2.2.2.1,x.2.1.1.2.2.2.2.2.1,x.2.1.1.2.2.2.2.2.2.1,x.2.1.1.2.2.2.2.2.2.2.1,x.2.1.1.2.2.2.2.2.2.2.2.1,(),x.2.1.1.2.2.2.2.2.2.2.2.2.2.1,x.2.1.1.2.2.2.2.2.2.2.2.2.2.2.1,x.2.1.1.2.2.2.2.2.2.2.2.2.2.2.2.1,()),()),(x.2.2.1,x.2.2.2.1,()))
def yz4:Code:=(zd7 ynj 64 116).getD .skip
theorem yNc:zd7 ynj 64 29=some (.block 0 (.loop yz4)):=by kernel_rfl
theorem yO5 (x:(ybn).X):zhu ⟨yux,37,yCY⟩ 0 yz4 116 ybn yff yfB x=ybK x:=by kernel_rfl
def yxI (x:(yfq).X):Nat:=18446744073709551616
def yom (x:(yfq).X):Option ((yff).X ⊕ (yfB).X):=zF ybK (yxI x) (yxw x)
def yx3:Seg:=⟨yfq,yff,yfB,yom⟩
def yPx:Nat→Option Seg:=fun q=>bif Nat.beq q 29 then some yx3 else yCY q
theorem yNx:FrOk prog ⟨yux,37,yPx⟩ ynj:=(yNw).loop (sg:=yx3) ybn yxw (by decide) yNc ybK yxI (by decide) (fun _=>rfl) (fun x r _ h=>h) yO5
abbrev yim:List Par:= [.pt tA (.pr .fz (.pr (.pr .fz .fz) (.pr (.ow (.pr (.ow (.ow .fz)) (.pr (.ow (.pr .fz (.ow .fz))) (.pr .fz (.ow .fz))))) (.pr .fz (.pr .fz (.pr .fz (.pr .fz (.pr .fz (.pr (.ow (.pr .fz (.ow .fz))) (.pr .fz (.pr .fz .fz)))))))))))]
abbrev ynP:List OT:= [⟨false,tB,.fz⟩]
def yre (a0:dA):Option (zaY ynP×zak yim) :=zkt (yom ((((),()),((a0.2.2.1.length:Int),()),((),()),()),((a0.1,a0.2.1.1,a0.2.1.2,(),a0.2.2.2.1,a0.2.2.2.2.1,a0.2.2.2.2.2.1,a0.2.2.2.2.2.2.1,(i64.wrap (a0.2.2.2.2.2.2.2.1+1)),(),a0.2.2.2.2.2.2.2.2.2.1,a0.2.2.2.2.2.2.2.2.2.2.1,a0.2.2.2.2.2.2.2.2.2.2.2,()),()),(a0.2.2.1,a0.2.2.2.2.2.2.2.2.1,()))) (fun y6 =>bnd (yfV (y6.2.1.1.1,(y6.2.1.1.2.1,y6.2.1.1.2.2.1),y6.2.2.1,y6.2.1.1.2.2.2.2.1,y6.2.1.1.2.2.2.2.2.1,y6.2.1.1.2.2.2.2.2.2.1,y6.2.1.1.2.2.2.2.2.2.2.1,y6.2.1.1.2.2.2.2.2.2.2.2.1,y6.2.2.2.1,y6.2.1.1.2.2.2.2.2.2.2.2.2.2.1,y6.2.1.1.2.2.2.2.2.2.2.2.2.2.2.1,y6.2.1.1.2.2.2.2.2.2.2.2.2.2.2.2.1)) fun r8 =>some ((r8.1.1,()),(r8.2.1,()))) (fun y6 =>some ((y6.1.1.1,()),((y6.2.1.1.1,(y6.2.1.1.2.1,y6.2.1.1.2.2.1),y6.2.2.1,y6.2.1.1.2.2.2.2.1,y6.2.1.1.2.2.2.2.2.1,y6.2.1.1.2.2.2.2.2.2.1,y6.2.1.1.2.2.2.2.2.2.2.1,y6.2.1.1.2.2.2.2.2.2.2.2.1,y6.2.2.2.1,y6.2.1.1.2.2.2.2.2.2.2.2.2.2.1,y6.2.1.1.2.2.2.2.2.2.2.2.2.2.2.1,y6.2.1.1.2.2.2.2.2.2.2.2.2.2.2.2.1),())))
theorem yRk:ConOk prog 107 ⟨yim,ynP,fun x=>yre x.1⟩:=zkI (yNx) func107 ntmps107.symm fun x=>by kernel_rfl
def yoc (a0:dA):Bool×dA:=(!(ye (yao a0)),yao a0)
def yjx (a0:dA):Bool:= !(ye a0)
theorem y5O {a:dA} (i:Nat) (h:ye a=true):yaS a i=a:=yVP h _ _ _
theorem yUy (a0:dA) (hk:zjx yim (a0,())) (hq:yjx a0=true):yre a0=(fun n=>some ((n.1,()),(n.2,()))) (yoc a0):=by
 have hb:a0.2.2.1.length*80≤2^47:=hk.1.2.2.1.1;have hd0:ye a0=false:=by simpa [yjx]using hq
 have h1:yom (yMu a0.2.2.1.length (yfR a0))=some (bif ye ((List.range a0.2.2.1.length).foldl yaS (yfR a0))then .inr (ym6 false ((List.range a0.2.2.1.length).foldl yaS (yfR a0)))else .inl (ym4 ((List.range a0.2.2.1.length).foldl yaS (yfR a0)))):=by
  have:=zkC (step:=ybK) a0.2.2.1.length (fun i s=>ymW a0.2.2.1.length i s) (fun i s=>bif ye (yaS s i)then(.inr (yaS s i):dA ⊕ dA)else .inl (yaS s i)) (fun _ s=>s.2.2.1.length=a0.2.2.1.length∧ye s=false) id
   (fun b=>bif ye b then .inr (ym6 false b)else .inl (ym4 b)) (fun i s hi hs=>by
    constructor
    ·simp only[ybK,ymW,ym9,zky (show(i:Int)<a0.2.2.1.length by omega),cond_true,wq ((i:Int)+1) (by omega) (by omega),Int.natCast_add,Int.natCast_one,Int.toNat_natCast,zkX,y6j,yqd]
     rw[yrd s i (s.2.2.2.2.2.2.2.1.tmod 2) (yJ (s.1,s.2.2.2.2.2.2.2.1,(i:Int),s.2.1.1,s.2.1.2,s.2.2.2.2.2.2.1,s.2.2.2.1,s.2.2.2.2.1)) (by unfold ycZ; rw[zkR (by rw[hs.1]; exact hi),hs.2]; rfl)];simp only[zkH,ycX];rw[show ydq s i (s.2.2.2.2.2.2.2.1.tmod 2) (yJ (s.1,s.2.2.2.2.2.2.2.1,(i:Int),s.2.1.1,s.2.1.2,s.2.2.2.2.2.2.1,s.2.2.2.1,s.2.2.2.2.1))=yaS s i from rfl];cases hd:ye (yaS s i)
     ·rfl
     ·simp only[hd,Bool.not_true,Bool.not_false,cond_true,ym6]
    ·intro s' h
     cases hd:ye (yaS s i)
     ·rw[hd]at h
      cases h;exact⟨(ySm s i).trans hs.1,hd⟩
     ·rw[hd]at h; cases h) (fun s hs=>by simp only[ybK,ymW,ym9,hs.2,zk3 (Int.le_refl _),cond_false,id,ym4]) (yfR a0) ⟨rfl,hd0⟩ 18446744073709551616 (by omega)
  rw[yGI (fun a i h=>y5O i h),← List.range_eq_range']at this;exact this
 unfold yre yoc yao;refine(congrArg (fun z=>zkt z _ _) h1).trans ?_;cases hd:ye ((List.range a0.2.2.1.length).foldl yaS (yfR a0))
 ·simp only[cond_false,zkN,zkX]
  rw[yts _ (by unfold yfW; rw[hd]; rfl)]; rfl
 ·rw[y3d hd]
  simp only[cond_true,zkO,zkX];rw[hd]; rfl
def yjv (a0:dA):Option (zaY ynP×zak yim):=bif yjx a0 then(fun n=>some ((n.1,()),(n.2,()))) (yoc a0)else none
theorem yVL (a0:dA) (h:yjx a0=true):yjv a0=(fun n=>some ((n.1,()),(n.2,()))) (yoc a0):=by unfold yjv; rw[h]; rfl
def yDr:Con:=⟨yim,ynP,fun x=>yjv x.1⟩
theorem yVv:ConOk prog 107 yDr:=(yRk).mono (fun x r hk h=>zkY h (fun hq=>yUy x.1 hk hq))
def ySq:Code:=(f99.body).getD .skip
def ySI:Env:=zkw TT [(107,yDr),(165,yj5)] []
theorem yMd:FrOk prog ⟨ySI,15,fun _=>none⟩ ySq:=zkA mixed yd ⟨yVv,yto,trivial⟩
abbrev yhc:List Par:= [.pt tA (.pr .fz (.pr (.pr .fz .fz) (.pr (.ow (.pr (.ow (.ow .fz)) (.pr (.ow (.pr .fz (.ow .fz))) (.pr .fz (.ow .fz))))) (.pr .fz (.pr .fz (.pr .fz (.pr .fz (.pr .fz (.pr (.ow (.pr .fz (.ow .fz))) (.pr .fz (.pr .fz .fz)))))))))))]
abbrev yls:List OT:= [⟨false,tB,.fz⟩]
def yo8 (a0:dA):Option (zaY yls×zak yhc) :=bnd (yfV a0) fun r1 =>bif(!r1.1.1)then some ((false,()),(r1.2.1,())) else bnd (yjv (r1.2.1.1,r1.2.1.2.1,r1.2.1.2.2.1,r1.2.1.2.2.2.1,r1.2.1.2.2.2.2.1,r1.2.1.2.2.2.2.2.1,r1.2.1.2.2.2.2.2.1,r1.2.1.2.2.2.2.2.2.2)) fun r2 =>some ((r2.1.1,()),(r2.2.1,()))
theorem yON:ConOk prog 99 ⟨yhc,yls,fun x=>yo8 x.1⟩:=zkI (yMd) func99 ntmps99.symm fun x=>by kernel_rfl
def ylU (a0:dA):Bool×dA:=(!(ye (yZ a0)),yZ a0)
def ylY (a0:dA):Bool:= !(ye a0)
theorem yRd (a0:dA) (hk:zjx yhc (a0,())) (hq:ylY a0=true):yo8 a0=(fun n=>some ((n.1,()),(n.2,()))) (ylU a0):=by
 unfold yo8 ylU yZ;rw[yts a0 hq];simp only[zkH,yjk];cases hd:ye (yz a0)
 ·have hm:yjv (ycE (yz a0))=some ((!(ye (yao (ycE (yz a0)))),()),(yao (ycE (yz a0)),())):=yVL (ycE (yz a0)) (by unfold yjx; rw[show ye (ycE (yz a0))=ye (yz a0)from rfl,hd]; rfl)
  exact(congrArg (fun z=>bnd z _) hm).trans rfl
 ·simp only[Bool.not_true,Bool.not_false,cond_true]
  rw[hd]; rfl
def ylW (a0:dA):Option (zaY yls×zak yhc):=bif ylY a0 then(fun n=>some ((n.1,()),(n.2,()))) (ylU a0)else none
theorem yRV (a0:dA) (h:ylY a0=true):ylW a0=(fun n=>some ((n.1,()),(n.2,()))) (ylU a0):=by unfold ylW; rw[h]; rfl
def yAg:Con:=⟨yhc,yls,fun x=>ylW x.1⟩
theorem yRP:ConOk prog 99 yAg:=(yON).mono (fun x r hk h=>zkY h (fun hq=>yRd x.1 hk hq))
end
end Go.Tf
