/- Functions of the program, and what they come to. -/
import Derived.Test.YtolmneojjjpnjaaGreatBuiltTornF3
namespace Go.Tf
noncomputable section
open Go.Proofs Go.Proofs.Tryz IntKind
set_option synthInstance.maxHeartbeats 400000
set_option synthInstance.maxSize 10000
set_option linter.unusedVariables false
set_option linter.unusedSimpArgs false
set_option maxRecDepth 100000
def yic:Code:=(f247.body).getD .skip
def ynH:Env:=zkw TT [] []
theorem yIq:FrOk prog ⟨ynH,23,fun _=>none⟩ yic:=zkA mixed yf trivial
def ytx:Nat→Option Seg:=fun _=>none
def yaU:Shape:=⟨[(0,false,[.br tI]),(1,false,[ii]),(5,false,[ii]),(6,false,[ii])],[],[]⟩
def ydf:Shape:=⟨[(0,false,[.br tI]),(1,false,[ii]),(5,false,[.ci .i64 0]),(6,false,[.ci .i64 0])],[],[]⟩
def ydd:Shape:=⟨[(5,false,[ii])],[],[]⟩
def yfK:Shape:=⟨[],[],[]⟩
abbrev yjz (v0:List Int) (v1 v2 v3:Int):(yaU).X:=(((v0,()),(v1,()),(v2,()),(v3,()),()),(),())
abbrev yHL (v0:List Int) (v1:Int):(ydf).X:=(((v0,()),(v1,()),((),()),((),()),()),(),())
abbrev yHJ (v0:Int):(ydd).X:=(((v0,()),()),(),())
def yjD (v0:List Int) (v1 v2 v3:Int):Option ((yaU).X ⊕ ((ydd).X ⊕ (yfK).X)) :=bif(ltb v3 (v0.length:Int))then bif(v3 !=v1)then bif(inb v3 v0.length)then some (.inl (((v0,()),(v1,()),((i64.wrap ((BitVec.ofInt IntKind.i64.bits v2 ^^^ BitVec.ofInt IntKind.i64.bits (nth v0 v3 0)).toNat:Int)),()),((i64.wrap (v3+1)),()),()),(),())) else none else some (.inl (((v0,()),(v1,()),(v2,()),((i64.wrap (v3+1)),()),()),(),())) else some (.inr (.inl (((v2,()),()),(),())))
def ya4 (x:(yaU).X):=yjD x.1.1.1 x.1.2.1.1 x.1.2.2.1.1 x.1.2.2.2.1.1
def yqW (x:(ydf).X):(yaU).X:=(((x.1.1.1,()),(x.1.2.1.1,()),(0,()),(0,()),()),(),())
def ys3:Code:=(zd7 yic 64 116).getD .skip
theorem yH5:zd7 yic 64 29=some (.block 0 (.loop ys3)):=by kernel_rfl
theorem yIN (x:(yaU).X):zhu ⟨ynH,23,ytx⟩ 0 ys3 116 yaU ydd yfK x=ya4 x:=by kernel_rfl
def yqY (x:(ydf).X):Nat:=18446744073709551616
def yj6 (x:(ydf).X):Option ((ydd).X ⊕ (yfK).X):=zF ya4 (yqY x) (yqW x)
def yq6:Seg:=⟨ydf,ydd,yfK,yj6⟩
def yIY:Nat→Option Seg:=fun q=>bif Nat.beq q 29 then some yq6 else ytx q
theorem yIr:FrOk prog ⟨ynH,23,yIY⟩ yic:=(yIq).loop (sg:=yq6) yaU yqW (by decide) yH5 ya4 yqY (by decide) (fun _=>rfl) (fun x r _ h=>h) yIN
abbrev yil:List Par:= [.rd tL,.rd tI]
abbrev ynZ:List OT:= [⟨false,tI,.fz⟩]
def ylH (a0:List Int) (a1:Int):Option (zaY ynZ×zak yil) :=zkt (yj6 (((a0,()),(a1,()),((),()),((),()),()),(),())) (fun y0 =>some ((y0.1.1.1,()),())) (fun y0 =>none)
theorem yJt:ConOk prog 247 ⟨yil,ynZ,fun x=>ylH x.1 x.2.1⟩:=zkI (yIr) func247 ntmps247.symm fun x=>by kernel_rfl
def yfC (a0:List Int) (a1:Int):Int:=yod a0 a1
theorem yKE (a0:List Int) (a1:Int) (hk:zjx yil (a0,a1,())):ylH a0 a1=(fun n=>some ((n,()),())) (yfC a0 a1):=by
 have hb:a0.length*8≤2^47:=hk.1.1
 have h1:=zkD (step:=ya4) a0.length (fun i s=>yjz a0 a1 s i) (fun n (i:Nat)=>bif(i:Int) !=a1 then xw n (nth a0 i 0)else n) (fun _ _=>True) (fun s=> .inl (yHJ s)) (fun i s hi _=>⟨by
  simp only[ya4,yjz,yjD,zky (show(i:Int)<a0.length by omega),cond_true,wq ((i:Int)+1) (by omega) (by omega),Int.natCast_add,Int.natCast_one,Int.toNat_natCast,zkR hi]
  cases((i:Int) !=a1)<;>rfl,trivial⟩) (fun s _=>by simp only[ya4,yjz,yjD,zk3 (Int.le_refl _),cond_false]) 0 trivial 18446744073709551616 (by omega)
 rw[y46]at h1;unfold ylH yfC;rw[show yj6 (yHL a0 a1)=_ from h1]; rfl
def yuZ:Con:=⟨yil,ynZ,fun x=>(fun n=>some ((n,()),())) (yfC x.1 x.2.1)⟩
theorem yKM:ConOk prog 247 yuZ:=(yJt).mono (fun x r hk h=>(yKE x.1 x.2.1 hk).trans h)
def yo5:Code:=(f227.body).getD .skip
def yw9:Env:=zkw TT [(246,yGy),(247,yuZ)] []
theorem yOl:FrOk prog ⟨yw9,45,fun _=>none⟩ yo5:=zkA mixed yf ⟨yZn,yKM,trivial⟩
def yDg:Nat→Option Seg:=fun _=>none
def yck:Shape:=⟨[(1,false,[ii]),(2,false,[.ptr 0 0]),(6,false,[.at 800000000]),(7,false,[ii]),(8,false,[ii])],[(0,oJ)],[(800000000,tI,.fz)]⟩
def ygt:Shape:=⟨[(1,false,[ii]),(2,false,[.ptr 0 0]),(6,false,[.at 800000000]),(7,false,[.ci .i64 (-1)]),(8,false,[.ci .i64 0])],[(0,oJ)],[(800000000,tI,.fz)]⟩
def ygh:Shape:=⟨[(6,false,[.at 800000000]),(7,false,[ii])],[],[(800000000,tI,.fz)]⟩
def ygz:Shape:=⟨[(4,false,[.at 800000000]),(5,false,[.bool])],[],[(800000000,tI,.fz)]⟩
abbrev yoo (v0 v1 v2:Int) (v3:dA) (v4:List Int):(yck).X:=(((v0,()),((),()),((),()),(v1,()),(v2,()),()),((v3.1,v3.2.1.1,v3.2.1.2,v3.2.2.1,v3.2.2.2.1,v3.2.2.2.2.1,v3.2.2.2.2.2.1,v3.2.2.2.2.2.2.1,v3.2.2.2.2.2.2.2.1,v3.2.2.2.2.2.2.2.2.1,v3.2.2.2.2.2.2.2.2.2.1,v3.2.2.2.2.2.2.2.2.2.2.1,v3.2.2.2.2.2.2.2.2.2.2.2,()),()),(v4,()))
abbrev yMk (v0:Int) (v1:dA) (v2:List Int):(ygt).X:=(((v0,()),((),()),((),()),((),()),((),()),()),((v1.1,v1.2.1.1,v1.2.1.2,v1.2.2.1,v1.2.2.2.1,v1.2.2.2.2.1,v1.2.2.2.2.2.1,v1.2.2.2.2.2.2.1,v1.2.2.2.2.2.2.2.1,v1.2.2.2.2.2.2.2.2.1,v1.2.2.2.2.2.2.2.2.2.1,v1.2.2.2.2.2.2.2.2.2.2.1,v1.2.2.2.2.2.2.2.2.2.2.2,()),()),(v2,()))
abbrev yL8 (v0:Int) (v1:List Int):(ygh).X:=((((),()),(v0,()),()),(),(v1,()))
abbrev yMq (v0:Bool) (v1:List Int):(ygz).X:=((((),()),(v0,()),()),(),(v1,()))
def yoS (v0 v1 v2 v3 v4 v5:Int) (v6:List dM) (v7 v8 v9 v10 v11:Int) (v12:List dW) (v13:Int) (v14 v15:Bool) (v16:List Int):Option ((yck).X ⊕ ((ygh).X ⊕ (ygz).X)) :=bif(ltb v2 v4)then let r2:=ymb (v3,(v4,v5),v6,v7,v8,v9,v10,v11,v12,v13,v14,v15) v2 v0;bif(!r2.2)then bif(leb 0 v1)then some (.inr (.inr ((((),()),(false,()),()),(),(([]:List Int),())))) else bif(zkl v16.length ([r2.1]:List Int).length 8)then some (.inl (((v0,()),((),()),((),()),(v2,()),((i64.wrap (v2+1)),()),()),((v3,v4,v5,v6,v7,v8,v9,v10,v11,v12,v13,v14,v15,()),()),((v16++([r2.1]:List Int)),()))) else none else bif(zkl v16.length ([r2.1]:List Int).length 8)then some (.inl (((v0,()),((),()),((),()),(v1,()),((i64.wrap (v2+1)),()),()),((v3,v4,v5,v6,v7,v8,v9,v10,v11,v12,v13,v14,v15,()),()),((v16++([r2.1]:List Int)),()))) else none else some (.inr (.inl ((((),()),(v1,()),()),(),(v16,()))))
def ycG (x:(yck).X):=yoS x.1.1.1 x.1.2.2.2.1.1 x.1.2.2.2.2.1.1 x.2.1.1.1 x.2.1.1.2.1 x.2.1.1.2.2.1 x.2.1.1.2.2.2.1 x.2.1.1.2.2.2.2.1 x.2.1.1.2.2.2.2.2.1 x.2.1.1.2.2.2.2.2.2.1 x.2.1.1.2.2.2.2.2.2.2.1 x.2.1.1.2.2.2.2.2.2.2.2.1 x.2.1.1.2.2.2.2.2.2.2.2.2.1 x.2.1.1.2.2.2.2.2.2.2.2.2.2.1 x.2.1.1.2.2.2.2.2.2.2.2.2.2.2.1 x.2.1.1.2.2.2.2.2.2.2.2.2.2.2.2.1 x.2.2.1
def yzi (x:(ygt).X):(yck).X:=(((x.1.1.1,()),((),()),((),()),((-1),()),(0,()),()),((x.2.1.1.1,x.2.1.1.2.1,x.2.1.1.2.2.1,x.2.1.1.2.2.2.1,x.2.1.1.2.2.2.2.1,x.2.1.1.2.2.2.2.2.1,x.2.1.1.2.2.2.2.2.2.1,x.2.1.1.2.2.2.2.2.2.2.1,x.2.1.1.2.2.2.2.2.2.2.2.1,x.2.1.1.2.2.2.2.2.2.2.2.2.1,x.2.1.1.2.2.2.2.2.2.2.2.2.2.1,x.2.1.1.2.2.2.2.2.2.2.2.2.2.2.1,x.2.1.1.2.2.2.2.2.2.2.2.2.2.2.2.1,()),()),(x.2.2.1,()))
def yBK:Code:=(zd7 yo5 64 244).getD .skip
theorem yNM:zd7 yo5 64 61=some (.block 0 (.loop yBK)):=by kernel_rfl
theorem yPz (x:(yck).X):zhu ⟨yw9,45,yDg⟩ 0 yBK 244 yck ygh ygz x=ycG x:=by kernel_rfl
def yzx (x:(ygt).X):Nat:=18446744073709551616
def ypZ (x:(ygt).X):Option ((ygh).X ⊕ (ygz).X):=zF ycG (yzx x) (yzi x)
def yzX:Seg:=⟨ygt,ygh,ygz,ypZ⟩
def yP5:Nat→Option Seg:=fun q=>bif Nat.beq q 61 then some yzX else yDg q
theorem yOm:FrOk prog ⟨yw9,45,yP5⟩ yo5:=(yOl).loop (sg:=yzX) yck yzi (by decide) yNM ycG yzx (by decide) (fun _=>rfl) (fun x r _ h=>h) yPz
abbrev ykc:List Par:= [.rd tA,.rd tI]
abbrev ypm:List OT:= [⟨false,tL,oG⟩,⟨false,tB,.fz⟩]
def ysI (a0:dA) (a1:Int):Option (zaY ypm×zak ykc) :=zkt (ypZ (((a1,()),((),()),((),()),((),()),((),()),()),((a0.1,a0.2.1.1,a0.2.1.2,a0.2.2.1,a0.2.2.2.1,a0.2.2.2.2.1,a0.2.2.2.2.2.1,a0.2.2.2.2.2.2.1,a0.2.2.2.2.2.2.2.1,a0.2.2.2.2.2.2.2.2.1,a0.2.2.2.2.2.2.2.2.2.1,a0.2.2.2.2.2.2.2.2.2.2.1,a0.2.2.2.2.2.2.2.2.2.2.2,()),()),(([]:List Int),()))) (fun y2 =>bif(leb 0 y2.1.2.1.1)then let r4:=yfC y2.2.2.1 y2.1.2.1.1;bif(inb y2.1.2.1.1 y2.2.2.1.length)then some (((y2.2.2.1.set (y2.1.2.1.1).toNat r4),true,()),()) else none else some ((y2.2.2.1,true,()),())) (fun y2 =>some ((y2.2.2.1,y2.1.2.1.1,()),()))
theorem ySC:ConOk prog 227 ⟨ykc,ypm,fun x=>ysI x.1 x.2.1⟩:=zkI (yOm) func227 ntmps227.symm fun x=>by kernel_rfl
def ygR (a0:dA) (a1:Int):List Int×Bool:=yK a0 a1
def yx9 (a0:dA) (a1:Int):Bool:=ye a0.2.1
theorem yVE (a0:dA) (a1:Int) (hk:zjx ykc (a0,a1,())) (hq:yx9 a0 a1=true):ysI a0 a1=(fun n=>some ((n.1,n.2,()),())) (ygR a0 a1):=by
 have hg:=yj.1 hq
 have h1:ypZ (yMk a1 a0 [])=some (bif ye8 (fun(i:Nat)=>yD a0 i a1) a0.2.1.1.toNat then .inr (yMq false [])else .inl (yL8 (yJ (fun(i:Nat)=>yD a0 i a1) a0.2.1.1.toNat) (yal a0 a1 a0.2.1.1.toNat))) :=
  zji (step:=ycG) (fun i=>yoo a1 (yJ (fun(i:Nat)=>yD a0 i a1) i) i a0 (yal a0 a1 i)) a0.2.1.1.toNat (fun i=> !yD a0 i a1&&leb 0 (yJ (fun(i:Nat)=>yD a0 i a1) i)) _ _ (fun i hi=>by
   simp only[ycG,yoo,yoS,zky (show(i:Int)<a0.2.1.1 by omega),cond_true,wq ((i:Int)+1) (by omega) (by omega),Int.natCast_add,Int.natCast_one,Int.toNat_natCast,zkX,ymb,yJ];rw[zkF.2 (show((yal a0 a1 i).length+ [yjE a0 i a1].length)*8≤140737488355328 by simp only[List.length_cons,List.length_nil,yfG]; omega),yJ6]
   cases yD a0 i a1<;>cases leb 0 (yJ (fun(i:Nat)=>yD a0 i a1) i)<;>rfl) (by simp only[ycG,yoo,yoS,zk3 (show a0.2.1.1≤(a0.2.1.1.toNat:Int)by omega),cond_false]) _ (by show _<18446744073709551616; omega)
 unfold ysI ygR yK;rw[h1];cases ye8 (fun(i:Nat)=>yD a0 i a1) a0.2.1.1.toNat
 ·simp only[cond_false,zkN,yfC]
  cases hm:leb 0 (yJ (fun(i:Nat)=>yD a0 i a1) a0.2.1.1.toNat)
  ·rfl
  ·obtain⟨h2,h3⟩:=yZ3 a0 a1 a0.2.1.1.toNat hm
   rw[h2,h3]; rfl
 ·rfl
def ykQ (a0:dA) (a1:Int):Option (zaY ypm×zak ykc):=bif yx9 a0 a1 then(fun n=>some ((n.1,n.2,()),())) (ygR a0 a1)else none
theorem yGZ (a0:dA) (a1:Int) (h:yx9 a0 a1=true):ykQ a0 a1=(fun n=>some ((n.1,n.2,()),())) (ygR a0 a1):=by unfold ykQ; rw[h]; rfl
def yr4:Con:=⟨ykc,ypm,fun x=>ykQ x.1 x.2.1⟩
theorem yGV:ConOk prog 227 yr4:=(ySC).mono (fun x r hk h=>zkY h (fun hq=>yVE x.1 x.2.1 hk hq))
def y0w:Code:=(f242.body).getD .skip
def y04:Env:=zkw TT [(82,yP),(209,yp9),(229,yqb)] []
theorem yQP:FrOk prog ⟨y04,28,fun _=>none⟩ y0w:=zkA mixed yf ⟨yaa,yFf,yFh,trivial⟩
abbrev yro:List Par:= [.rd tG,.rd tI,.rd tI]
abbrev yAM:List OT:= [⟨false,tI,.fz⟩]
def yvJ (a0:dG) (a1 a2:Int):Option (zaY yAM×zak yro) :=let r1:=yfP a0 a1;bif(!(!r1))then let r2:=yb a2 0 (i64.wrap (a0.1-2));bif(!r2)then some (((-1),()),()) else let r3:=yd0 a0 a1;bif(a0.1 !=0)then some ((((i64.wrap ((i64.wrap (r3+1))+a2)).tmod a0.1),()),()) else none else some (((-1),()),())
theorem yV3:ConOk prog 242 ⟨yro,yAM,fun x=>yvJ x.1 x.2.1 x.2.2.1⟩:=zkI (yQP) func242 ntmps242.symm fun x=>by kernel_rfl
def yl8 (a0:dG) (a1 a2:Int):Int:=ybP a0 a1 a2
theorem yYr (a0:dG) (a1 a2:Int) (hk:zjx yro (a0,a1,a2,())):yvJ a0 a1 a2=(fun n=>some ((n,()),())) (yl8 a0 a1 a2):=by
 unfold yvJ yl8 ybP yd0;rw[yPN];cases hs:yaj a0 a1
 ·rfl
 ·have h1:=yad.1 hs
  have h2:=yj.1 h1.1;have h3:=yk6 hs;rw[ybX,wq (a0.1-2) (by omega) (by omega)];cases hi:(leb 0 a2&&leb a2 (a0.1-2))
  ·rfl
  ·rw[Bool.and_eq_true,zj7,zj7]at hi
   rw[show(a0.1 !=0)=true from bne_iff_ne.2 (by omega)];show some (((i64.wrap (i64.wrap (yk a0 a1+1)+a2)).tmod a0.1,()),())=some (((yk a0 a1+1+a2).tmod a0.1,()),());rw[wq (yk a0 a1+1) (by omega) (by omega),wq (yk a0 a1+1+a2) (by omega) (by omega)]
def yGp:Con:=⟨yro,yAM,fun x=>(fun n=>some ((n,()),())) (yl8 x.1 x.2.1 x.2.2.1)⟩
theorem yZe:ConOk prog 242 yGp:=(yV3).mono (fun x r hk h=>(yYr x.1 x.2.1 x.2.2.1 hk).trans h)
def yra:Code:=(f218.body).getD .skip
def yz3:Env:=zkw TT [(227,yr4),(242,yGp)] []
theorem yQ3:FrOk prog ⟨yz3,41,fun _=>none⟩ yra:=zkA mixed yf ⟨yGV,yZe,trivial⟩
def yFU:Nat→Option Seg:=fun _=>none
def yc3:Shape:=⟨[(1,false,[ii]),(2,false,[.ptr 0 0]),(6,false,[.at 800000000]),(7,false,[.bool]),(8,false,[.at 800000001]),(9,false,[ii])],[(0,oJ)],[(800000000,tI,.fz),(800000001,tI,.fz)]⟩
def yhk:Shape:=⟨[(1,false,[ii]),(2,false,[.ptr 0 0]),(6,false,[.at 800000000]),(7,false,[.bool]),(8,false,[.at 800000001]),(9,false,[.ci .i64 0])],[(0,oJ)],[(800000000,tI,.fz),(800000001,tI,.fz)]⟩
def yg9:Shape:=⟨[(7,false,[.bool]),(8,false,[.at 800000000])],[],[(800000000,tI,.fz)]⟩
def ylo:Shape:=⟨[],[],[]⟩
abbrev ygA (v0:Int) (v1:Bool) (v2:Int) (v3:dA) (v4 v5:List Int):(yc3).X:=(((v0,()),((),()),((),()),(v1,()),((),()),(v2,()),()),((v3.1,v3.2.1.1,v3.2.1.2,v3.2.2.1,v3.2.2.2.1,v3.2.2.2.2.1,v3.2.2.2.2.2.1,v3.2.2.2.2.2.2.1,v3.2.2.2.2.2.2.2.1,v3.2.2.2.2.2.2.2.2.1,v3.2.2.2.2.2.2.2.2.2.1,v3.2.2.2.2.2.2.2.2.2.2.1,v3.2.2.2.2.2.2.2.2.2.2.2,()),()),(v4,v5,()))
abbrev yCv (v0:Int) (v1:Bool) (v2:dA) (v3 v4:List Int):(yhk).X:=(((v0,()),((),()),((),()),(v1,()),((),()),((),()),()),((v2.1,v2.2.1.1,v2.2.1.2,v2.2.2.1,v2.2.2.2.1,v2.2.2.2.2.1,v2.2.2.2.2.2.1,v2.2.2.2.2.2.2.1,v2.2.2.2.2.2.2.2.1,v2.2.2.2.2.2.2.2.2.1,v2.2.2.2.2.2.2.2.2.2.1,v2.2.2.2.2.2.2.2.2.2.2.1,v2.2.2.2.2.2.2.2.2.2.2.2,()),()),(v3,v4,()))
abbrev yql (v0:Bool) (v1:List Int):(yg9).X:=(((v0,()),((),()),()),(),(v1,()))
def yj3 (v0:Int) (v1:Bool) (v2 v3 v4 v5:Int) (v6:List dM) (v7 v8 v9 v10 v11:Int) (v12:List dW) (v13:Int) (v14 v15:Bool) (v16 v17:List Int):Option ((yc3).X ⊕ ((yg9).X ⊕ (ylo).X)) :=bif(ltb v2 (i64.wrap (v4-1)))then bif v1 then let r3:=yl8 (v4,v5) v0 v2;bif(inb r3 v16.length)then bif(zkl v17.length ([(nth v16 r3 0)]:List Int).length 8)then some (.inl (((v0,()),((),()),((),()),(v1,()),((),()),((i64.wrap (v2+1)),()),()),((v3,v4,v5,v6,v7,v8,v9,v10,v11,v12,v13,v14,v15,()),()),(v16,(v17++([(nth v16 r3 0)]:List Int)),()))) else none else none else some (.inr (.inl (((v1,()),((),()),()),(),(v17,())))) else some (.inr (.inl (((v1,()),((),()),()),(),(v17,()))))
def ya1 (x:(yc3).X):=yj3 x.1.1.1 x.1.2.2.2.1.1 x.1.2.2.2.2.2.1.1 x.2.1.1.1 x.2.1.1.2.1 x.2.1.1.2.2.1 x.2.1.1.2.2.2.1 x.2.1.1.2.2.2.2.1 x.2.1.1.2.2.2.2.2.1 x.2.1.1.2.2.2.2.2.2.1 x.2.1.1.2.2.2.2.2.2.2.1 x.2.1.1.2.2.2.2.2.2.2.2.1 x.2.1.1.2.2.2.2.2.2.2.2.2.1 x.2.1.1.2.2.2.2.2.2.2.2.2.2.1 x.2.1.1.2.2.2.2.2.2.2.2.2.2.2.1 x.2.1.1.2.2.2.2.2.2.2.2.2.2.2.2.1 x.2.2.1 x.2.2.2.1
def yCc (x:(yhk).X):(yc3).X:=(((x.1.1.1,()),((),()),((),()),(x.1.2.2.2.1.1,()),((),()),(0,()),()),((x.2.1.1.1,x.2.1.1.2.1,x.2.1.1.2.2.1,x.2.1.1.2.2.2.1,x.2.1.1.2.2.2.2.1,x.2.1.1.2.2.2.2.2.1,x.2.1.1.2.2.2.2.2.2.1,x.2.1.1.2.2.2.2.2.2.2.1,x.2.1.1.2.2.2.2.2.2.2.2.1,x.2.1.1.2.2.2.2.2.2.2.2.2.1,x.2.1.1.2.2.2.2.2.2.2.2.2.2.1,x.2.1.1.2.2.2.2.2.2.2.2.2.2.2.1,x.2.1.1.2.2.2.2.2.2.2.2.2.2.2.2.1,()),()),(x.2.2.1,x.2.2.2.1,()))
def yD9:Code:=(zd7 yra 64 244).getD .skip
theorem yQi:zd7 yra 64 61=some (.block 0 (.loop yD9)):=by kernel_rfl
theorem yTa (x:(yc3).X):zhu ⟨yz3,41,yFU⟩ 0 yD9 244 yc3 yg9 ylo x=ya1 x:=by kernel_rfl
def yCn (x:(yhk).X):Nat:=18446744073709551616
def yld (x:(yhk).X):Option ((yg9).X ⊕ (ylo).X):=zF ya1 (yCn x) (yCc x)
def yCK:Seg:=⟨yhk,yg9,ylo,yld⟩
def yTE:Nat→Option Seg:=fun q=>bif Nat.beq q 61 then some yCK else yFU q
theorem yQ4:FrOk prog ⟨yz3,41,yTE⟩ yra:=(yQ3).loop (sg:=yCK) yc3 yCc (by decide) yQi ya1 yCn (by decide) (fun _=>rfl) (fun x r _ h=>h) yTa
abbrev ylT:List Par:= [.rd tA,.rd tI]
abbrev yrx:List OT:= [⟨false,tL,oG⟩,⟨false,tB,.fz⟩]
def yvO (a0:dA) (a1:Int):Option (zaY yrx×zak ylT) :=bnd (ykQ a0 a1) fun r1 =>zkt (yld (((a1,()),((),()),((),()),(r1.1.2.1,()),((),()),((),()),()),((a0.1,a0.2.1.1,a0.2.1.2,a0.2.2.1,a0.2.2.2.1,a0.2.2.2.2.1,a0.2.2.2.2.2.1,a0.2.2.2.2.2.2.1,a0.2.2.2.2.2.2.2.1,a0.2.2.2.2.2.2.2.2.1,a0.2.2.2.2.2.2.2.2.2.1,a0.2.2.2.2.2.2.2.2.2.2.1,a0.2.2.2.2.2.2.2.2.2.2.2,()),()),(r1.1.1,([]:List Int),()))) (fun y3 =>some ((y3.2.2.1,y3.1.1.1,()),())) (fun y3 =>none)
theorem yWe:ConOk prog 218 ⟨ylT,yrx,fun x=>yvO x.1 x.2.1⟩:=zkI (yQ4) func218 ntmps218.symm fun x=>by kernel_rfl
def yrB (a0:dA) (a1:Int):List Int×Bool:=yrA a0 a1
def yBe (a0:dA) (a1:Int):Bool:=yaj a0.2.1 a1
theorem yYz (a0:dA) (a1:Int) (hk:zjx ylT (a0,a1,())) (hq:yBe a0 a1=true):yvO a0 a1=(fun n=>some ((n.1,n.2,()),())) (yrB a0 a1):=by
 have hs:yaj a0.2.1 a1=true:=hq;have hg:=yj.1 (yad.1 hs).1;unfold yvO yrB yrA;rw[yGZ a0 a1 (yad.1 hs).1,ygR];simp only[zkH];cases hw:(yK a0 a1).2
 ·have h1:yld (yCv a1 false a0 (yK a0 a1).1 [])=some (.inl (yql false [])) :=
   zkL (step:=ya1) (fun i=>ygA a1 false i a0 (yK a0 a1).1 []) 0 _ (fun i hi=>absurd hi (Nat.not_lt_zero _)) (by
    simp only[ya1,ygA,yj3,cond_false]
    cases ltb ((0:Nat):Int) (i64.wrap (a0.2.1.1-1))<;>rfl) _ (by show _<18446744073709551616; omega)
  rw[h1]; rfl
 ·have hL:=yHm hw
  have h1:yld (yCv a1 true a0 (yK a0 a1).1 [])=some (.inl (yql true ((List.range (a0.2.1.1-1).toNat).foldl (fun l (i:Nat)=>l++ [nth (yK a0 a1).1 (ybP a0.2.1 a1 i) 0]) []))) :=
   zkD (step:=ya1) (a0.2.1.1-1).toNat (fun i s=>ygA a1 true i a0 (yK a0 a1).1 s) (fun l (i:Nat)=>l++ [nth (yK a0 a1).1 (ybP a0.2.1 a1 i) 0]) (fun i s=>s.length=i) (fun s=> .inl (yql true s)) (fun i s hi hs2=>⟨by
    have hd:=yXP hs (show(0:Int)≤i by omega) (show(i:Int)≤a0.2.1.1-2 by omega);simp only[ya1,ygA,yj3,wq (a0.2.1.1-1) (by omega) (by omega),zky (show(i:Int)<a0.2.1.1-1 by omega),cond_true,wq ((i:Int)+1) (by omega) (by omega),Int.natCast_add,Int.natCast_one,Int.toNat_natCast,zkX,yl8,zj6.2 (show 0≤ybP a0.2.1 a1 i∧ybP a0.2.1 a1 i<(yK a0 a1).1.length by omega)]
    rw[zkF.2 (show(s.length+ [nth (yK a0 a1).1 (ybP a0.2.1 a1 i) 0].length)*8≤140737488355328 by simp only[List.length_cons,List.length_nil]; omega)]; rfl,by simp[hs2]⟩) (fun s hs2=>by simp only[ya1,ygA,yj3,wq (a0.2.1.1-1) (by omega) (by omega),zk3 (show a0.2.1.1-1≤((a0.2.1.1-1).toNat:Int)by omega),cond_false]) [] rfl _ (by show _<18446744073709551616; omega)
  rw[h1,ypv]; rfl
def yrD (a0:dA) (a1:Int):Option (zaY yrx×zak ylT):=bif yBe a0 a1 then(fun n=>some ((n.1,n.2,()),())) (yrB a0 a1)else none
theorem yZr (a0:dA) (a1:Int) (h:yBe a0 a1=true):yrD a0 a1=(fun n=>some ((n.1,n.2,()),())) (yrB a0 a1):=by unfold yrD; rw[h]; rfl
def yGv:Con:=⟨ylT,yrx,fun x=>yrD x.1 x.2.1⟩
theorem yZk:ConOk prog 218 yGv:=(yWe).mono (fun x r hk h=>zkY h (fun hq=>yYz x.1 x.2.1 hk hq))
def yTy:Code:=(f181.body).getD .skip
def yTZ:Env:=zkw TT [(215,yA5),(218,yGv)] []
theorem yLT:FrOk prog ⟨yTZ,28,fun _=>none⟩ yTy:=zkA mixed yf ⟨yMG,yZk,trivial⟩
abbrev yin:List Par:= [.rd tA,.rd tI]
abbrev ynh:List OT:= [⟨false,tL,oG⟩,⟨false,tB,.fz⟩]
def yqG (a0:dA) (a1:Int):Option (zaY ynh×zak yin) :=let r1:=yjB a0 a1;bif(leb 0 r1)then bif(inb r1 a0.2.2.2.2.2.2.2.2.1.length)then bif(zkl ([]:List Int).length ((nth a0.2.2.2.2.2.2.2.2.1 r1 (0,[])).2).length 8)then some (((([]:List Int)++((nth a0.2.2.2.2.2.2.2.2.1 r1 (0,[])).2)),true,()),()) else none else none else bif a0.2.2.2.2.2.2.2.2.2.2.2 then some ((([]:List Int),false,()),()) else bnd (yrD a0 a1) fun r2 =>some ((r2.1.1,r2.1.2.1,()),())
theorem yPh:ConOk prog 181 ⟨yin,ynh,fun x=>yqG x.1 x.2.1⟩:=zkI (yLT) func181 ntmps181.symm fun x=>by kernel_rfl
def yjo (a0:dA) (a1:Int):List Int×Bool:=ybi a0 a1
def yvz (a0:dA) (a1:Int):Bool:=yaj a0.2.1 a1
theorem ySg (a0:dA) (a1:Int) (hk:zjx yin (a0,a1,())) (hq:yvz a0 a1=true):yqG a0 a1=(fun n=>some ((n.1,n.2,()),())) (yjo a0 a1):=by
 unfold yqG yjo ybi yjB;rw[yZr a0 a1 hq];simp only[List.nil_append];cases h:leb 0 (yam a0.2.2.2.2.2.2.2.2.1 a1)
 ·cases a0.2.2.2.2.2.2.2.2.2.2.2<;>rfl
 ·have h1:=(yn9 (d:=((0,[]):dW)) h).1
  have h2:(nth a0.2.2.2.2.2.2.2.2.1 (yam a0.2.2.2.2.2.2.2.2.1 a1) (0,[])).2.length*8≤2^47:=yIw (P:=fun x:dW=>x.2.length*8≤2^47) h1 (fun x hx=>(hk.1.2.2.2.2.2.2.2.2.1.2 x hx).2.1);rw[show inb (yam a0.2.2.2.2.2.2.2.2.1 a1) a0.2.2.2.2.2.2.2.2.1.length=true from h1,zkF.2 (show(([]:List Int).length+(nth a0.2.2.2.2.2.2.2.2.1 (yam a0.2.2.2.2.2.2.2.2.1 a1) (0,[])).2.length)*8≤140737488355328 by rw[List.length_nil]; omega)]; rfl
def ynA (a0:dA) (a1:Int):Option (zaY ynh×zak yin):=bif yvz a0 a1 then(fun n=>some ((n.1,n.2,()),())) (yjo a0 a1)else none
theorem yS1 (a0:dA) (a1:Int) (h:yvz a0 a1=true):ynA a0 a1=(fun n=>some ((n.1,n.2,()),())) (yjo a0 a1):=by unfold ynA; rw[h]; rfl
def yB3:Con:=⟨yin,ynh,fun x=>ynA x.1 x.2.1⟩
theorem ySY:ConOk prog 181 yB3:=(yPh).mono (fun x r hk h=>zkY h (fun hq=>ySg x.1 x.2.1 hk hq))
def yW9:Code:=(f182.body).getD .skip
def yXy:Env:=zkw TT [(82,yP),(119,yi9)] []
theorem yOa:FrOk prog ⟨yXy,16,fun _=>none⟩ yW9:=zkA mixed yf ⟨yaa,ypF,trivial⟩
abbrev ype:List Par:= [.rd tG,.rd tI]
abbrev yxA:List OT:= [⟨false,tI,.fz⟩]
def ysC (a0:dG) (a1:Int):Option (zaY yxA×zak ype) :=let r1:=yB a0;let r2:=yb a1 0 (i64.wrap (r1-1));bif(!r2)then some (((-1),()),()) else bif((i64.wrap (a0.1-1)) !=0)then some (((a1.tmod (i64.wrap (a0.1-1))),()),()) else none
theorem ySu:ConOk prog 182 ⟨ype,yxA,fun x=>ysC x.1 x.2.1⟩:=zkI (yOa) func182 ntmps182.symm fun x=>by kernel_rfl
def ykH (a0:dG) (a1:Int):Int:=yxY a0 a1
theorem yVx (a0:dG) (a1:Int) (hk:zjx ype (a0,a1,())):ysC a0 a1=(fun n=>some ((n,()),())) (ykH a0 a1):=by
 unfold ysC ykH yxY;simp only[y4H];cases hb:yhR a0 a1
 ·rfl
 ·obtain⟨h1,h2,h3⟩:=yF2 hb
  have h4:=yj.1 h1;rw[wq (a0.1-1) (by omega) (by omega),show(a0.1-1 !=0)=true from bne_iff_ne.2 (by omega)]; rfl
def yEl:Con:=⟨ype,yxA,fun x=>(fun n=>some ((n,()),())) (ykH x.1 x.2.1)⟩
theorem yWv:ConOk prog 182 yEl:=(ySu).mono (fun x r hk h=>(yVx x.1 x.2.1 hk).trans h)
def ytt:Code:=(f183.body).getD .skip
def yDr:Env:=zkw TT [] [(4096,(.pr .fz .fz)),(28800,(.pr .fz .fz)),(41472,(.pr .fz .fz)),(49280,(.pr .fz .fz))]
theorem yUY:FrOk prog ⟨yDr,67,fun _=>none⟩ ytt:=zkA mixed yf trivial
def yH2:Nat→Option Seg:=fun _=>none
def ydM:Shape:=⟨[(0,false,[.ptr 1000000000 0]),(3,false,[.ptr 0 0]),(4,false,[.at 800000000]),(5,false,[.bool]),(6,false,[ii])],[(0,[ii,.fz tI]),(1000000000,oM)],[(800000000,tW,oF),(800000001,tM,oC),(800000002,tW,oF)]⟩
def yiR:Shape:=⟨[(0,false,[.ptr 1000000000 0]),(3,false,[.ptr 0 0]),(4,false,[.at 800000000]),(5,false,[.cb false]),(6,false,[.ci .i64 0])],[(0,[ii,.fz tI]),(1000000000,oM)],[(800000000,tW,oF),(800000001,tM,oC),(800000002,tW,oF)]⟩
def yiC:Shape:=⟨[(0,false,[.ptr 1000000000 0]),(3,false,[.ptr 0 0]),(4,false,[.at 800000000]),(5,false,[.bool])],[(0,[ii,.fz tI]),(1000000000,oM)],[(800000000,tW,oF),(800000001,tM,oC),(800000002,tW,oF)]⟩
def yno:Shape:=⟨[],[],[]⟩
abbrev yso (v0:Bool) (v1:Int) (v2:dW) (v3:dA) (v4:List dW):(ydM).X:=((((),()),((),()),((),()),(v0,()),(v1,()),()),((v2.1,v2.2,()),(v3.1,v3.2.1.1,v3.2.1.2,(),v3.2.2.2.1,v3.2.2.2.2.1,v3.2.2.2.2.2.1,v3.2.2.2.2.2.2.1,v3.2.2.2.2.2.2.2.1,(),v3.2.2.2.2.2.2.2.2.2.1,v3.2.2.2.2.2.2.2.2.2.2.1,v3.2.2.2.2.2.2.2.2.2.2.2,()),()),(v4,v3.2.2.1,v3.2.2.2.2.2.2.2.2.1,()))
abbrev yRK (v0:dW) (v1:dA) (v2:List dW):(yiR).X:=((((),()),((),()),((),()),((),()),((),()),()),((v0.1,v0.2,()),(v1.1,v1.2.1.1,v1.2.1.2,(),v1.2.2.2.1,v1.2.2.2.2.1,v1.2.2.2.2.2.1,v1.2.2.2.2.2.2.1,v1.2.2.2.2.2.2.2.1,(),v1.2.2.2.2.2.2.2.2.2.1,v1.2.2.2.2.2.2.2.2.2.2.1,v1.2.2.2.2.2.2.2.2.2.2.2,()),()),(v2,v1.2.2.1,v1.2.2.2.2.2.2.2.2.1,()))
abbrev yRw (v0:Bool) (v1:dW) (v2:dA) (v3:List dW):(yiC).X:=((((),()),((),()),((),()),(v0,()),()),((v1.1,v1.2,()),(v2.1,v2.2.1.1,v2.2.1.2,(),v2.2.2.2.1,v2.2.2.2.2.1,v2.2.2.2.2.2.1,v2.2.2.2.2.2.2.1,v2.2.2.2.2.2.2.2.1,(),v2.2.2.2.2.2.2.2.2.2.1,v2.2.2.2.2.2.2.2.2.2.2.1,v2.2.2.2.2.2.2.2.2.2.2.2,()),()),(v3,v2.2.2.1,v2.2.2.2.2.2.2.2.2.1,()))
def ysY (v0:Bool) (v1 v2:Int) (v3:List Int) (v4 v5 v6 v7 v8 v9 v10 v11 v12:Int) (v13 v14:Bool) (v15:List dW) (v16:List dM) (v17:List dW):Option ((ydM).X ⊕ ((yiC).X ⊕ (yno).X)) :=bif(ltb v1 (v17.length:Int))then bif(!v0)then bif(inb v1 v17.length)then bif(leb v2 ((nth v17 v1 (0,[])).1))then bif(zkl v15.length ([(v2,v3)]:List dW).length 32)then bif(inb v1 v17.length)then bif((nth v17 v1 (0,[])).1 !=v2)then bif(inb v1 v17.length)then bif(zkl (v15++([(v2,v3)]:List dW)).length ([(nth v17 v1 (0,[]))]:List dW).length 32)then some (.inl ((((),()),((),()),((),()),(true,()),((i64.wrap (v1+1)),()),()),((v2,v3,()),(v4,v5,v6,(),v7,v8,v9,v10,v11,(),v12,v13,v14,()),()),(((v15++([(v2,v3)]:List dW))++([(nth v17 v1 (0,[]))]:List dW)),v16,v17,()))) else none else none else some (.inl ((((),()),((),()),((),()),(true,()),((i64.wrap (v1+1)),()),()),((v2,v3,()),(v4,v5,v6,(),v7,v8,v9,v10,v11,(),v12,v13,v14,()),()),((v15++([(v2,v3)]:List dW)),v16,v17,()))) else none else none else bif(inb v1 v17.length)then bif((nth v17 v1 (0,[])).1 !=v2)then bif(inb v1 v17.length)then bif(zkl v15.length ([(nth v17 v1 (0,[]))]:List dW).length 32)then some (.inl ((((),()),((),()),((),()),(v0,()),((i64.wrap (v1+1)),()),()),((v2,v3,()),(v4,v5,v6,(),v7,v8,v9,v10,v11,(),v12,v13,v14,()),()),((v15++([(nth v17 v1 (0,[]))]:List dW)),v16,v17,()))) else none else none else some (.inl ((((),()),((),()),((),()),(v0,()),((i64.wrap (v1+1)),()),()),((v2,v3,()),(v4,v5,v6,(),v7,v8,v9,v10,v11,(),v12,v13,v14,()),()),(v15,v16,v17,()))) else none else none else bif(inb v1 v17.length)then bif((nth v17 v1 (0,[])).1 !=v2)then bif(inb v1 v17.length)then bif(zkl v15.length ([(nth v17 v1 (0,[]))]:List dW).length 32)then some (.inl ((((),()),((),()),((),()),(v0,()),((i64.wrap (v1+1)),()),()),((v2,v3,()),(v4,v5,v6,(),v7,v8,v9,v10,v11,(),v12,v13,v14,()),()),((v15++([(nth v17 v1 (0,[]))]:List dW)),v16,v17,()))) else none else none else some (.inl ((((),()),((),()),((),()),(v0,()),((i64.wrap (v1+1)),()),()),((v2,v3,()),(v4,v5,v6,(),v7,v8,v9,v10,v11,(),v12,v13,v14,()),()),(v15,v16,v17,()))) else none else some (.inr (.inl ((((),()),((),()),((),()),(v0,()),()),((v2,v3,()),(v4,v5,v6,(),v7,v8,v9,v10,v11,(),v12,v13,v14,()),()),(v15,v16,v17,()))))
def yem (x:(ydM).X):=ysY x.1.2.2.2.1.1 x.1.2.2.2.2.1.1 x.2.1.1.1 x.2.1.1.2.1 x.2.1.2.1.1 x.2.1.2.1.2.1 x.2.1.2.1.2.2.1 x.2.1.2.1.2.2.2.2.1 x.2.1.2.1.2.2.2.2.2.1 x.2.1.2.1.2.2.2.2.2.2.1 x.2.1.2.1.2.2.2.2.2.2.2.1 x.2.1.2.1.2.2.2.2.2.2.2.2.1 x.2.1.2.1.2.2.2.2.2.2.2.2.2.2.1 x.2.1.2.1.2.2.2.2.2.2.2.2.2.2.2.1 x.2.1.2.1.2.2.2.2.2.2.2.2.2.2.2.2.1 x.2.2.1 x.2.2.2.1 x.2.2.2.2.1
def yEI (x:(yiR).X):(ydM).X:=((((),()),((),()),((),()),(false,()),(0,()),()),((x.2.1.1.1,x.2.1.1.2.1,()),(x.2.1.2.1.1,x.2.1.2.1.2.1,x.2.1.2.1.2.2.1,(),x.2.1.2.1.2.2.2.2.1,x.2.1.2.1.2.2.2.2.2.1,x.2.1.2.1.2.2.2.2.2.2.1,x.2.1.2.1.2.2.2.2.2.2.2.1,x.2.1.2.1.2.2.2.2.2.2.2.2.1,(),x.2.1.2.1.2.2.2.2.2.2.2.2.2.2.1,x.2.1.2.1.2.2.2.2.2.2.2.2.2.2.2.1,x.2.1.2.1.2.2.2.2.2.2.2.2.2.2.2.2.1,()),()),(x.2.2.1,x.2.2.2.1,x.2.2.2.2.1,()))
def yGh:Code:=(zd7 ytt 64 244).getD .skip
theorem yUe:zd7 ytt 64 61=some (.block 0 (.loop yGh)):=by kernel_rfl
theorem yWV (x:(ydM).X):zhu ⟨yDr,67,yH2⟩ 0 yGh 244 ydM yiC yno x=yem x:=by kernel_rfl
def yEZ (x:(yiR).X):Nat:=18446744073709551616
def ytX (x:(yiR).X):Option ((yiC).X ⊕ (yno).X):=zF yem (yEZ x) (yEI x)
def yFF:Seg:=⟨yiR,yiC,yno,ytX⟩
def yXs:Nat→Option Seg:=fun q=>bif Nat.beq q 61 then some yFF else yH2 q
theorem yUZ:FrOk prog ⟨yDr,67,yXs⟩ ytt:=(yUY).loop (sg:=yFF) ydM yEI (by decide) yUe yem yEZ (by decide) (fun _=>rfl) (fun x r _ h=>h) yWV
abbrev ynT:List Par:= [.pt tA oB,.kp tW .fz]
abbrev yuG:List OT:= []
def yyp (a0:dA) (a1:dW):Option (zaY yuG×zak ynT) :=zkt (ytX ((((),()),((),()),((),()),((),()),((),()),()),((a1.1,a1.2,()),(a0.1,a0.2.1.1,a0.2.1.2,(),a0.2.2.2.1,a0.2.2.2.2.1,a0.2.2.2.2.2.1,a0.2.2.2.2.2.2.1,a0.2.2.2.2.2.2.2.1,(),a0.2.2.2.2.2.2.2.2.2.1,a0.2.2.2.2.2.2.2.2.2.2.1,a0.2.2.2.2.2.2.2.2.2.2.2,()),()),(([]:List dW),a0.2.2.1,a0.2.2.2.2.2.2.2.2.1,()))) (fun y0 =>bif(!y0.1.2.2.2.1.1)then bif(zkl y0.2.2.1.length ([(y0.2.1.1.1,y0.2.1.1.2.1)]:List dW).length 32)then some ((),((y0.2.1.2.1.1,(y0.2.1.2.1.2.1,y0.2.1.2.1.2.2.1),y0.2.2.2.1,y0.2.1.2.1.2.2.2.2.1,y0.2.1.2.1.2.2.2.2.2.1,y0.2.1.2.1.2.2.2.2.2.2.1,y0.2.1.2.1.2.2.2.2.2.2.2.1,y0.2.1.2.1.2.2.2.2.2.2.2.2.1,(y0.2.2.1++([(y0.2.1.1.1,y0.2.1.1.2.1)]:List dW)),y0.2.1.2.1.2.2.2.2.2.2.2.2.2.2.1,y0.2.1.2.1.2.2.2.2.2.2.2.2.2.2.2.1,y0.2.1.2.1.2.2.2.2.2.2.2.2.2.2.2.2.1),())) else none else some ((),((y0.2.1.2.1.1,(y0.2.1.2.1.2.1,y0.2.1.2.1.2.2.1),y0.2.2.2.1,y0.2.1.2.1.2.2.2.2.1,y0.2.1.2.1.2.2.2.2.2.1,y0.2.1.2.1.2.2.2.2.2.2.1,y0.2.1.2.1.2.2.2.2.2.2.2.1,y0.2.1.2.1.2.2.2.2.2.2.2.2.1,y0.2.2.1,y0.2.1.2.1.2.2.2.2.2.2.2.2.2.2.1,y0.2.1.2.1.2.2.2.2.2.2.2.2.2.2.2.1,y0.2.1.2.1.2.2.2.2.2.2.2.2.2.2.2.2.1),()))) (fun y0 =>none)
theorem yY5:ConOk prog 183 ⟨ynT,yuG,fun x=>yyp x.1 x.2.1⟩:=zkI (yUZ) func183 ntmps183.symm fun x=>by kernel_rfl
def yvv (a0:dA) (a1:dW):dA:=yyt a0 (yMI a0.2.2.2.2.2.2.2.2.1 a1)
def yFk (a0:dA) (a1:dW):Bool:=decide (a0.2.2.2.2.2.2.2.2.1.length≤1000)
theorem y1G (a0:dA) (a1:dW) (hk:zjx ynT (a0,a1,())) (hq:yFk a0 a1=true):yyp a0 a1=(fun n=>some ((),(n,()))) (yvv a0 a1):=by
 have hq:=of_decide_eq_true hq
 have h1:=zkx (step:=yem) a0.2.2.2.2.2.2.2.2.1 (0,[]) (fun i s=>yso s.1 i a1 a0 s.2) (ycP a1) (fun i s=>s.2.length≤i*2) (fun s=> .inl (yRw s.1 a1 a0 s.2)) (fun i s hi hs=>by
  constructor
  ·simp only[yem,yso,ysY,zky (show(i:Int)<a0.2.2.2.2.2.2.2.2.1.length by omega),cond_true,wq ((i:Int)+1) (by omega) (by omega),Int.natCast_add,Int.natCast_one,Int.toNat_natCast,zkR hi,zkX,zkS,ycP,zkF.2 (show(s.2.length+ [a1].length)*32≤140737488355328 by simp only[List.length_cons,List.length_nil]; omega),
    show ∀x:dW,zkl s.2.length [x].length 32=true from fun x=>zkF.2 (by simp only[List.length_cons,List.length_nil]; omega),show ∀x:dW,zkl (s.2++ [a1]).length [x].length 32=true from fun x=>zkF.2 (by simp only[List.length_append,List.length_cons,List.length_nil]; omega)]
   cases s.1<;>cases leb a1.1 (a0.2.2.2.2.2.2.2.2.1.getD i (0,[])).1<;>cases((a0.2.2.2.2.2.2.2.2.1.getD i (0,[])).1 !=a1.1)<;>simp
  ·unfold ycP
   have: ∀(b c:Bool) (x:dW),((bif b then s.2++ [a1]else s.2)++(bif c then[x]else[])).length≤(i+1)*2:=fun b c x=>by
    cases b<;>cases c<;>simp<;>omega
   exact this _ _ _) (fun s hs=>by simp only[yem,yso,ysY,zk3 (Int.le_refl _),cond_false]) (false,[]) (Nat.zero_le _) 18446744073709551616 (by omega)
 have hl:((a0.2.2.2.2.2.2.2.2.1.foldl (ycP a1) (false,[])).2).length≤2000:=by
  have: ∀(l:List dW) (s:Bool×List dW),((l.foldl (ycP a1) s).2).length≤s.2.length+l.length*2:=by
   intro l
   induction l with
   | nil=>intro s; simp
   | cons x t ih =>
    intro s;rw[List.foldl_cons];have:=ih (ycP a1 s x)
    have h2:(ycP a1 s x).2.length≤s.2.length+2:=by
     unfold ycP;cases(!s.1&&leb a1.1 x.1)<;>cases(x.1 !=a1.1)<;>simp
    simp only[List.length_cons]; omega
  have:=this a0.2.2.2.2.2.2.2.2.1 (false,[]);simp only[List.length_nil]at this;omega
 unfold yyp yvv yMI;refine(congrArg (fun z=>zkt z _ _) (show ytX (yRK a1 a0 [])=_ from h1)).trans ?_;generalize a0.2.2.2.2.2.2.2.2.1.foldl (ycP a1) (false,[])=R at hl;simp only[zkN,zkX];cases hr:R.1
 ·rw[zkF.2 (show(R.2.length+ [a1].length)*32≤140737488355328 by simp only[List.length_cons,List.length_nil]; omega)]; rfl
 ·rfl
def yvw (a0:dA) (a1:dW):Option (zaY yuG×zak ynT):=bif yFk a0 a1 then(fun n=>some ((),(n,()))) (yvv a0 a1)else none
theorem y1U (a0:dA) (a1:dW) (h:yFk a0 a1=true):yvw a0 a1=(fun n=>some ((),(n,()))) (yvv a0 a1):=by unfold yvw; rw[h]; rfl
def yIj:Con:=⟨ynT,yuG,fun x=>yvw x.1 x.2.1⟩
theorem y1T:ConOk prog 183 yIj:=(yY5).mono (fun x r hk h=>zkY h (fun hq=>y1G x.1 x.2.1 hk hq))
section
def y2i:Code:=(f118.body).getD .skip
def y2v:Env:=zkw TT [(180,yB0),(181,yB3),(182,yEl),(183,yIj)] []
theorem yU0:FrOk prog ⟨y2v,40,fun _=>none⟩ y2i:=zkA mixed yf ⟨ySV,ySY,yWv,y1T,trivial⟩
abbrev ynU:List Par:= [.pt tA oB,.rd tI,.rd tI]
abbrev yuH:List OT:= [⟨false,tI,.fz⟩]
def yyq (a0:dA) (a1 a2:Int):Option (zaY yuH×zak ynU) :=let r1:=yjm a0.2.1 a1;bnd (ynA a0 r1) fun r2 =>bif(!r2.1.2.1)then some ((5,()),(a0,())) else let r3:=ykH a0.2.1 a1;bif(inb r3 r2.1.1.length)then bnd (yvw a0 (r1,(r2.1.1.set (r3).toNat a2))) fun r4 =>some ((0,()),(r4.2.1,())) else none
theorem yY6:ConOk prog 118 ⟨ynU,yuH,fun x=>yyq x.1 x.2.1 x.2.2.1⟩:=zkI (yU0) func118 ntmps118.symm fun x=>by kernel_rfl
def yju (a:dA) (b n:Int):Int×dA:=bif(ybi a (ybS a.2.1 b)).2 then(0,yyt a (yMI a.2.2.2.2.2.2.2.2.1 (ybS a.2.1 b,(ybi a (ybS a.2.1 b)).1.set (yxY a.2.1 b).toNat n)))else(5,a)
def yov (a0:dA) (a1 a2:Int):Int×dA:=yju a0 a1 a2
def ykV (a0:dA) (a1 a2:Int):Bool:=yM a0&&(yhR a0.2.1 a1&&decide (a0.2.2.2.2.2.2.2.2.1.length≤1000))
theorem y1H (a0:dA) (a1 a2:Int) (hk:zjx ynU (a0,a1,a2,())) (hq:ykV a0 a1 a2=true):yyq a0 a1 a2=(fun n=>some ((n.1,()),(n.2,()))) (yov a0 a1 a2):=by
 simp only[ykV,Bool.and_eq_true]at hq;have hs:=yHP hq.2.1;obtain⟨hg,_,hi⟩:=yF2 hq.2.1;unfold yyq yov yju;simp only[yjm,ykH];rw[yS1 a0 (ybS a0.2.1 a1) hs];simp only[zkH,yjo];cases hn:(ybi a0 (ybS a0.2.1 a1)).2
 ·rfl
 ·have hl:=yBm hq.1 hs hn
  have hx:yxY a0.2.1 a1=a1.tmod (a0.2.1.1-1):=by unfold yxY; rw[hq.2.1]; rfl
  rw[zj6.2 (show 0≤yxY a0.2.1 a1∧yxY a0.2.1 a1<(ybi a0 (ybS a0.2.1 a1)).1.length by omega),y1U _ _ hq.2.2];rfl
def yd1 (a0:dA) (a1 a2:Int):Option (zaY yuH×zak ynU):=bif ykV a0 a1 a2 then(fun n=>some ((n.1,()),(n.2,()))) (yov a0 a1 a2)else none
theorem yJ2 (a0:dA) (a1 a2:Int) (h:ykV a0 a1 a2=true):yd1 a0 a1 a2=(fun n=>some ((n.1,()),(n.2,()))) (yov a0 a1 a2):=by unfold yd1; rw[h]; rfl
def yxU:Con:=⟨ynU,yuH,fun x=>yd1 x.1 x.2.1 x.2.2.1⟩
theorem yJ0:ConOk prog 118 yxU:=(yY6).mono (fun x r hk h=>zkY h (fun hq=>y1H x.1 x.2.1 x.2.2.1 hk hq))
inductive Turned (a:dA):dA→Prop where
 | same:Turned a a
 | put (b x:Int):yhR a.2.1 b=true→isW x=true→Turned a (yju a b x).2
 | flush (s:Int):Turned a (yaK a s).2
 | all:Turned a (yHA a).2
 | fail (m:Int):a.2.2.2.1= -1→inb m a.2.2.1.length=true→Turned a (ycr a m)
 | spare:inb a.2.2.2.1 a.2.2.1.length=true→(nth a.2.2.1 a.2.2.2.1 yc).2.2.1=true→Turned a (yn (yp a))
 | step:inb a.2.2.2.1 a.2.2.1.length=true→(nth a.2.2.1 a.2.2.2.1 yc).2.2.1=false→a.2.2.2.2.1<a.2.1.2→Turned a (yY a).2
 | check:Turned a (ym a)
 | spoil (m s:Int):a.2.2.2.1= -1→inb m a.2.2.1.length=true→0≤s→s<a.2.1.2→Turned a (ybx a m (spoil (nth a.2.2.1 m yc) (yu s)))
theorem yxZ {a:dA} (r:dN) (h:yF a):yF (yr a r) :=yjd (ylt (P:=yF) (one:=ybd r) (ylI r) (fun _ _ h hi=>yr9 h (zkR hi)) _ a (Nat.le_refl _) h)
theorem y2G {a:dA} (r:dN) (h:yaD a):yaD (yr a r) :=yzk (ylt (P:=yaD) (one:=ybd r) (ylI r) (fun _ _ h _=>yEK h _ _ _) _ a (Nat.le_refl _) h)
theorem yGN {a:dA} (s:Int) (d:List Int) (h:yF a):yF (yI a s d) :=
 ylt (P:=yF) (one:=ybe (yk a.2.1 s) a.2.1.1 s d) (yqU _ _ _ _) (fun b i h hi=>by
  unfold ybe;cases ycL b i s
  ·exact h
  ·exact yr9 h (zkR hi)) _ a (Nat.le_refl _) h
theorem yZU {a:dA} (s:Int) (d:List Int) (h:yaD a):yaD (yI a s d) :=
 ylt (P:=yaD) (one:=ybe (yk a.2.1 s) a.2.1.1 s d) (yqU _ _ _ _) (fun b i h hi=>by
  unfold ybe;cases ycL b i s
  ·exact h
  ·exact yEK h _ _ _) _ a (Nat.le_refl _) h
theorem y6T {k:Int} {a:dA} (r:dN) (h:Wk k a):Wk k (yr a r):=yC3 (ybs _ _) (yxZ r h.2.1) (y2G r h.2.2.1) h
theorem y6w {k:Int} {a:dA} (s:Int) (d:List Int) (h:Wk k a):Wk k (yI a s d):=yC3 (yeo _ _ _) (yGN s d h.2.1) (yZU s d h.2.2.1) h
theorem y58 {k:Int} {a:dA} (h:Wk k a) (h1:a.2.2.2.2.2.1<60000) (h2:a.2.2.2.2.2.1-a.2.2.2.2.2.2.1≤3):Wk k (yO a):=by
 obtain⟨⟨c1,c2,c3,c4,c5,c6,c7,c8,c9,c10,c11⟩,g2,g3,g4,g5⟩:=h;have e:i64.wrap (a.2.2.2.2.2.1+1)=a.2.2.2.2.2.1+1:=wr (by omega) (by omega);refine⟨⟨c1,c2,c3,c4,c5,c6,c7,⟨?_,?_⟩,?_,c10,c11⟩,g2,g3,g4,g5⟩
 ·show a.2.2.2.2.2.2.1≤i64.wrap (a.2.2.2.2.2.1+1); omega
 ·show i64.wrap (a.2.2.2.2.2.1+1)≤60000; omega
 ·show i64.wrap (a.2.2.2.2.2.1+1)≤a.2.2.2.2.2.2.1+4; omega
theorem yfY {a b:dA} (h:yy a=yy b):a.2.2.2.2.2.1=b.2.2.2.2.2.1:=congrArg (fun x=>x.2.2.2.2.1) h
theorem yZM {a b:dA} (h:yy a=yy b):a.2.2.2.2.2.2.1=b.2.2.2.2.2.2.1:=congrArg (fun x=>x.2.2.2.2.2.1) h
theorem yUh {a:dA} (h:yaD a):yy (ym a)=yy (yS (yT a)):=by
 rw[yI4 h,ydh];have:=yaO a;unfold yy at this ⊢;simp only[Prod.mk.injEq]at this;obtain⟨h1,h2,h3,h4,h5,h6,h7,h8,h9⟩:=this;unfold yS yT;simp only[h1,h2,h3,h4,h5,h7,h8,h9]
theorem y6R {k:Int} {a:dA} (h:Wk k a) (hk:k+1≤60000):Wk (k+1) (yz a)∧(yz a).2.2.2.2.2.1=a.2.2.2.2.2.1∧(yz a).2.2.2.2.2.1-(yz a).2.2.2.2.2.2.1≤3:=by
 have c:=h.1;unfold yX at c;unfold yz;rw[wr (by omega) (by omega)];cases h4:leb 4 (a.2.2.2.2.2.1-a.2.2.2.2.2.2.1)
 ·refine⟨ydv h (by omega),rfl,?_⟩
  have: ¬(4≤a.2.2.2.2.2.1-a.2.2.2.2.2.2.1):=fun g=>by rw[zk2 g]at h4; cases h4
  show a.2.2.2.2.2.1-a.2.2.2.2.2.2.1≤3; omega
 ·have e1:(ym a).2.2.2.2.2.1=a.2.2.2.2.2.1:=(yfY (yUh h.2.2.1)).trans rfl
  have e2:(ym a).2.2.2.2.2.2.1=a.2.2.2.2.2.1:=(yZM (yUh h.2.2.1)).trans rfl;rw[cond_true];exact⟨y3g h hk,e1,by omega⟩
theorem y6b {k:Int} {a:dA} (s:Int) (d:List Int) (h:Wk k a) (hs:a.2.2.2.2.2.1<60000) (hk:k+1≤60000):Wk (k+1) (yN a s d).2∧(yN a s d).1=0:=by
 obtain⟨h1,h2,h3⟩:=y6R h hk;have h4:=y6T ((yz a).2.2.2.2.2.1,s,d) h1;have e1:=yfY (ybs (yz a) ((yz a).2.2.2.2.2.1,s,d));have e2:=yZM (ybs (yz a) ((yz a).2.2.2.2.2.1,s,d));unfold yN;generalize yr (yz a) ((yz a).2.2.2.2.2.1,s,d)=R at h4 e1 e2 ⊢;have h5:=y6w s d (y58 h4 (by omega) (by omega));generalize yI (yO R) s d=Q at h5 ⊢;rw[h1.2.2.1.1,h4.2.2.1.1,h5.2.2.1.1];exact⟨h5,rfl⟩
theorem yPO {k:Int} {a:dA} {l:List dW} (h:Wk k a) (hd:ya2 a.2.1 l=true):Wk k (yyt a l):=by
 obtain⟨⟨c1,c2,c3,c4,c5,c6,c7,c8,c9,c10,c11⟩,g2,g3,g4,g5⟩:=h;exact⟨⟨c1,c2,hd,c4,c5,c6,c7,c8,c9,c10,c11⟩,g2,g3,g4,g5⟩
theorem y0c (a:dA) (s:Int) (d:List Int):(yN a s d).2.2.1=a.2.1:=by
 unfold yN;have h2:=(yQ (ybs (yz a) ((yz a).2.2.2.2.2.1,s,d))).trans (yXN a);generalize yr (yz a) ((yz a).2.2.2.2.2.1,s,d)=R at h2 ⊢;have h3:=(yQ (yeo (yO R) s d)).trans (show(yO R).2.1=a.2.1 from h2);generalize yI (yO R) s d=Q at h3 ⊢;cases ya (yz a)
 ·cases ya R
  ·exact h3
  ·exact h2
 ·exact yXN a
theorem y3h {k:Int} {a:dA} (s:Int) (h:Wk k a) (hk:k+1≤60000):Wk (k+1) (yaK a s).2:=by
 unfold yaK;cases ltb (yam a.2.2.2.2.2.2.2.2.1 s) 0
 ·generalize hD:(nth a.2.2.2.2.2.2.2.2.1 (yam a.2.2.2.2.2.2.2.2.1 s) (0,[])).2=D
  cases hc:(yap a s D !=0)
  ·have hz:=yy1 (bne_eq_false_iff_eq.1 hc)
   obtain⟨h1,h2⟩:=y6b s D h hz.2.2.2.2.2.2.1 hk;rw[show((yN a s D).1==0)=true from beq_iff_eq.2 h2];exact yPO h1 (by rw[y0c]; exact yZO _ h.1.2.2.1)
  ·exact ydv h (by omega)
 ·exact ydv h (by omega)
theorem y3i {k:Int}: ∀(n i:Nat) (j:Int) (a:dA),Wk j a→j+n≤k→k≤60000→Wk k (goE yh0 (fun b=>((0:Int),b)) n i a).2
 | 0,_,j,a,h,h1,_=>ydv h (by omega)
 | n+1,i,j,a,h,h1,h2=>by
  have h3:=y3h (nth a.2.2.2.2.2.2.2.2.1 0 (0,[])).1 h (by omega);unfold goE yh0;cases((yaK a (nth a.2.2.2.2.2.2.2.2.1 0 (0,[])).1).1 !=0)
  ·exact y3i n (i+1) (j+1) _ h3 (by omega) h2
  ·exact ydv h3 (by omega)
theorem y5m {k:Int} {a:dA} (h:Wk k a) (hk:k+8≤60000):Wk (k+8) (yHA a).2:=by
 have:=yn4 h.1.2.2.1 h.1.1;exact y3i _ 0 k a h (by omega) hk
theorem y5n {k:Int} {a:dA} {b n:Int} (h:Wk k a) (hb:yhR a.2.1 b=true) (hn:isW n=true):Wk k (yju a b n).2:=by
 unfold yju;cases hs:(ybi a (ybS a.2.1 b)).2
 ·exact h
 ·have hstr:=yHP hb
  have hl:=yBm (y6Q h) hstr hs;refine yPO h (yZP h.1.2.2.1 ⟨(yad.1 hstr).2,by rw[List.length_set]; exact hl,yZB ?_ hn⟩);unfold ybi;cases hk:leb 0 (yam a.2.2.2.2.2.2.2.2.1 (ybS a.2.1 b))
  ·rw[h.2.2.2.1]; exact yZN _ _
  ·have:=(yn9 (d:=((0:Int),([]:List Int))) hk).1
   exact yIw (P:=fun e:dW=>e.2.all isW=true) this (fun e he=>((yy5.1 h.1.2.2.1).1 e he).2.2)
theorem y5q {k:Int} {a b:dA} (h:Wk k a) (ht:Turned a b) (hk:k+8≤60000):Wk (k+8) b:=by
 cases ht with
 | same=>exact ydv h (by omega)
 | put b x hb hx=>exact ydv (y5n h hb hx) (by omega)
 | flush s=>exact ydv (y3h s h (by omega)) (by omega)
 | all=>exact y5m h hk
 | fail m hl hm=>exact ydv (y36 h hl hm (by omega)) (by omega)
 | spare hl _=>exact ydv (y59 h hl (by omega)) (by omega)
 | step hl _ hb=>exact ydv (y6x h hl hb) (by omega)
 | check=>exact ydv (y3g h (by omega)) (by omega)
 | spoil m s _ hm _ _=>exact ydv (y6a h hm) (by omega)
theorem y4o {a:dA} (s:Int) (d:List Int) (h:yF a):yF (yN a s d).2:=by
 have hc:yF (yz a):=by
  unfold yz;cases leb 4 (i64.wrap (a.2.2.2.2.2.1-a.2.2.2.2.2.2.1))
  ·exact h
  ·exact yvl h
 unfold yN;have hr:=yxZ ((yz a).2.2.2.2.2.1,s,d) hc;generalize yr (yz a) ((yz a).2.2.2.2.2.1,s,d)=R at hr ⊢;have hq:yF (yI (yO R) s d):=yGN (a:=yO R) s d hr;generalize yI (yO R) s d=Q at hq ⊢;cases ya (yz a)
 ·cases ya R
  ·exact hq
  ·exact hr
 ·exact hc
theorem yU4 {a:dA} (s:Int) (h:yF a):yF (yaK a s).2:=by
 unfold yaK;cases ltb (yam a.2.2.2.2.2.2.2.2.1 s) 0
 ·generalize (nth a.2.2.2.2.2.2.2.2.1 (yam a.2.2.2.2.2.2.2.2.1 s) (0,[])).2=D
  have hw:=y4o s D h;cases(yap a s D !=0)
  ·cases((yN a s D).1==0)
   ·exact hw
   ·exact hw
  ·exact h
 ·exact h
theorem y2K: ∀(k i:Nat) (a:dA),yF a→yF (goE yh0 (fun b=>(0,b)) k i a).2
 | 0,_,_,h=>h
 | k+1,i,a,h=>by
  have hf:=yU4 (nth a.2.2.2.2.2.2.2.2.1 0 (0,[])).1 h;unfold goE yh0;cases hc:((yaK a (nth a.2.2.2.2.2.2.2.2.1 0 (0,[])).1).1 !=0)
  ·exact y2K k (i+1) _ hf
  ·exact hf
theorem y1j {a:dA} {m:Int} (h:yF a) (hl:a.2.2.2.1= -1) (hm:inb m a.2.2.1.length=true):yF (yZ a m):=by
 have hmi:=zj6.1 hm;obtain⟨⟨g1,g2⟩,g3⟩:=h;refine⟨⟨?_,?_⟩,g3⟩
 ·show yGP m a.2.2.2.2.2.2.2.2.2.2.2 a.2.1.2 (a.2.2.1.set m.toNat (yeU (nth a.2.2.1 m yc)))
  refine yoc (fun i hi=> ?_) (fun hi=> ?_)
  ·obtain⟨e1,e2,e3⟩:=g1 i hi
   refine⟨e1,e2,fun e=> ?_⟩;rcases e3 e with e | e
   ·omega
   ·exact .inr e
  ·have:=g1 m.toNat hi
   rw[Int.toNat_of_nonneg hmi.1]at this;exact⟨yXQ this.1,this.2.1,fun _=> .inl (Int.toNat_of_nonneg hmi.1)⟩
 ·show((a.2.2.1.set m.toNat (yeU (nth a.2.2.1 m yc))).length:Int)=a.2.1.1
  rw[List.length_set]; exact g2
theorem y1k {a:dA} (h:yF a) (hgo:ye a.2.1=true):yF (yp a):=by
 obtain⟨⟨g1,g2⟩,g3⟩:=h;have hg:=yj.1 hgo;refine⟨⟨yoc g1 (fun hi=>⟨yL2 (by omega) (by omega),?_,fun e=> ?_⟩),?_⟩,g3⟩
 ·unfold yaM
  rw[zk2 (show 1≤6+a.2.1.2 by omega),zk2 (show 6+a.2.1.2≤20 by omega)];show((List.replicate (6+a.2.1.2).toNat ([]:List Int)).length:Int)=6+a.2.1.2;rw[List.length_replicate]; omega
 ·unfold yaM at e
  rw[zk2 (show 1≤6+a.2.1.2 by omega),zk2 (show 6+a.2.1.2≤20 by omega)]at e;cases e
 ·show((a.2.2.1.set a.2.2.2.1.toNat (yaM (6+a.2.1.2))).length:Int)=a.2.1.1
  rw[List.length_set]; exact g2
theorem y3v {a b:dA} (h:yF a) (hgo:ye a.2.1=true) (ht:Turned a b):yF b:=by
 cases ht with
 | same=>exact h
 | put b x hb hx=>unfold yju; cases(ybi a (ybS a.2.1 b)).2<;>exact h
 | flush s=>exact yU4 s h
 | all=>exact y2K _ 0 a h
 | fail m hl hm =>
  have hf:=y1j h hl hm;unfold ycr;rw[show(a.2.2.2.1== -1)=true from beq_iff_eq.2 hl];show yF (bif(!(ya a)&&(!a.2.2.2.2.2.2.2.2.2.2.2&&ltb a.2.2.2.2.2.2.2.1 60000))then yn (yZ a m)else yZ a m);cases(!(ya a)&&(!a.2.2.2.2.2.2.2.2.2.2.2&&ltb a.2.2.2.2.2.2.2.1 60000))
  ·exact hf
  ·exact yob hf
 | spare _ _=>exact yob (y1k h hgo)
 | step hl _ _ =>
  have hp:yF (yL a):=yr9 h hl;unfold yY;cases(yK a a.2.2.2.2.1).2
  ·exact h
  ·generalize yL a=R at hp ⊢
   cases ya R
   ·exact hp
   ·exact hp
 | check=>exact yvl h
 | spoil m s _ hm _ _=>exact yqZ h hm (fun g=>⟨yTf _ g.1,by rw[(yoF _ _).1]; exact g.2.1,by rw[(yoF _ _).2]; exact g.2.2⟩)
structure Ix (k:Int) (V:Int→Int→Int) (a:dA):Prop where
 xc:yX a
 xk:yF a
 xu:ya a=false
 xb:a.2.2.2.2.2.2.2.2.2.2.2=false
 xg:a.2.2.2.2.2.2.2.1≤k
 xs:a.2.2.2.2.2.1≤k
 xe:EvV a.2.1 V
 xv:yI1 V a
 xn: ∀i,0≤i→i<a.2.1.1→((yh a i).2.1.length:Int)≤1+(bif i==a.2.2.2.1 then a.2.2.2.2.1 else 0)
theorem yE1 {k:Int} {V:Int→Int→Int} {a:dA} (h:Ix k V a):yM a=true:=yC0.2 ⟨h.xc,h.xk⟩
theorem yIt {k j:Int} {V:Int→Int→Int} {a:dA} (h:Ix k V a) (hj:k≤j):Ix j V a:=⟨h.xc,h.xk,h.xu,h.xb,Int.le_trans h.xg hj,Int.le_trans h.xs hj,h.xe,h.xv,h.xn⟩
def yDA (S:Int) (m x:dM):Prop:=(x.2.2.1=false→m.2.2.1=false∧ ∀k,6≤k→k<6+S→ya0 x k=false→ya0 m k=false∧ycm x k=ycm m k)
theorem yGO (S:Int) (m:dM):yDA S m m:=fun h=>⟨h,fun _ _ _ hb=>⟨hb,rfl⟩⟩
theorem yJf {S:Int} {m x y:dM} (h:yDA S m x) (g:yDA S x y):yDA S m y:=fun hy=>by
 obtain⟨h1,h2⟩:=g hy;obtain⟨h3,h4⟩:=h h1;exact⟨h3,fun k k0 k1 hb=>⟨(h4 k k0 k1 (h2 k k0 k1 hb).1).1,(h2 k k0 k1 hb).2.trans (h4 k k0 k1 (h2 k k0 k1 hb).1).2⟩⟩
theorem yCU {S:Int} {m:dM} (h:yx m=true):yDA S m (yC m):=fun hf=>by
 rw[(yn6 m).2]at hf;exact⟨hf,fun k k0 k1 hb=>⟨by rw[yLh]at hb; exact hb,y4S h hf (by omega)⟩⟩
theorem yRk {S n:Int} {s:List Int} {m:dM} (hn:n<6):yDA S m (yet n s m):=fun hf=>by
 unfold yet at hf ⊢;cases hm:m.2.2.1
 ·refine⟨rfl,fun k k0 k1 hb=> ?_⟩
  rw[cond_false]at hb ⊢;cases hc:ybp m n s
  ·unfold yab at hb ⊢
   rw[hc]at hb ⊢; exact⟨hb,rfl⟩
  ·rw[yyP hc,show(k !=n)=true from bne_iff_ne.2 (by omega),Bool.and_true]at hb
   rw[yn3 hc,show(n==k)=false from beq_eq_false_iff_ne.2 (by omega)];exact⟨hb,rfl⟩
 ·rw[hm]at hf
  rw[cond_true,hm]at hf; cases hf
theorem yzz (n:Int) (s:List Int) (m:dM):(yet n s m).2.2.1=m.2.2.1:=by
 unfold yet;cases hm:m.2.2.1
 ·show(yab m n s).1.2.2.1=false
  rw[(yzZ m n s).2]; exact hm
 ·exact hm
theorem yM1 {V:Int→Int→Int} {a b:dA} (hg:b.2.1=a.2.1) (hl: ∀i s,0≤i→i<a.2.1.1→0≤s→yag b.2.2.2.1 b.2.2.2.2.1 i s (yh b i)=true→(i !=a.2.2.2.1||ltb s a.2.2.2.2.1)=true∧yDA a.2.1.2 (yh a i) (yh b i)) (h:yI1 V a):yI1 V b:=fun i s i0 i1 s0 s1 hh=>by
 rw[hg]at i1 s1;unfold yaw at hh;rw[Bool.and_eq_true,Bool.not_eq_true']at hh;obtain⟨h1,h2⟩:=hl i s i0 i1 s0 hh.1
 have hf:(yh b i).2.2.1=false:=by
  have:=hh.1;simp only[yag,Bool.and_eq_true,Bool.not_eq_true']at this; exact this.1
 obtain⟨h3,h4⟩:=h2 hf;obtain⟨h5,h6⟩:=h4 (s+6) (by omega) (by omega) hh.2;rw[h6];exact h i s i0 i1 s0 s1 (by unfold yaw yag; rw[h3,h1,h5]; rfl)
theorem y5h {V:Int→Int→Int} {a b:dA} (hc:yy b=yy a) (hl: ∀i,0≤i→i<a.2.1.1→yDA a.2.1.2 (yh a i) (yh b i)) (h:yI1 V a):yI1 V b :=
 yM1 (yQ hc) (fun i s i0 i1 s0 hh=>⟨by
  rw[yfy hc,ycR hc]at hh
  simp only[yag,Bool.and_eq_true]at hh; exact hh.2,hl i i0 i1⟩) h
theorem yNc {k:Int} {V:Int→Int→Int} {a b:dA} (hc:yy b=yy a) (hk:yF b) (hu:ya b=false) (hl: ∀i,0≤i→i<a.2.1.1→yDA a.2.1.2 (yh a i) (yh b i)∧(yh b i).2.1.length≤(yh a i).2.1.length) (h:Ix k V a):Ix k V b:=by
 refine⟨yC1 hc h.xc,hk,hu,(yr7 hc).trans h.xb,by rw[yr8 hc]; exact h.xg,by rw[yfY hc]; exact h.xs,by rw[yQ hc]; exact h.xe,y5h hc (fun i i0 i1=>(hl i i0 i1).1) h.xv,fun i i0 i1=> ?_⟩;rw[yQ hc]at i1;rw[yfy hc,ycR hc];have:=h.xn i i0 i1;have:=(hl i i0 i1).2;omega
theorem yDX {g:Int→dM→dM} {a r:dA} (h:Adv g a r a.2.2.1.length) (hu:ya r=false) {i:Int} (i0:0≤i) (i1:i<(a.2.2.1.length:Int)):yh r i=g i (yh a i):=by
 obtain⟨_,_,k,h1,h2,h3⟩:=h;rw[h2 i i0,h3 hu,zky i1]; rfl
theorem yJA {a:dA} (hu:ya (yd a)=false) {i:Int} (i0:0≤i) (i1:i<(a.2.2.1.length:Int)):yh (yd a) i=yC (yh a i):=by
 cases hd:ya a
 ·exact yDX (yTg hd) hu i0 i1
 ·rw[yti hd]at hu; rw[hd]at hu; cases hu
theorem y34 {a:dA} (hu:ya (yd a)=false):ya a=false:=by
 cases hd:ya a
 ·rfl
 ·rw[yti hd]at hu; rw[hd]at hu; cases hu
theorem yPD {m:dM} (h:yx m=true):(yC m).2.1.length≤m.2.1.length:=by
 unfold yC;rw[h];cases m.2.2.1
 ·exact Nat.zero_le _
 ·exact Nat.le_refl _
theorem y3P {k:Int} {V:Int→Int→Int} {a:dA} (h:Ix k V a) (hu:ya (yd a)=false):Ix k V (yd a) :=
 yNc (yaO a) (yjd h.xk) hu (fun i i0 i1=>by
  obtain⟨d1,_,_⟩:=yd6 h.xk i0 i1;rw[yJA hu i0 (by have:=h.xk.1.2; omega)]
  exact⟨yCU d1,yPD d1⟩) h
theorem y6r {a:dA} (hu:ya (yn a)=false):ya ((List.range a.2.2.1.length).foldl yah (yS a))=false∧ya a=false:=by
 have h1:=y34 hu;refine⟨h1,?_⟩;cases hd:ya a
 ·rfl
 ·rw[yk3 (one:=yah) (fun _ _ h=>yow h _ _ _) _ (yS a) hd]at h1
  exact(hd.symm.trans h1)
theorem yRn {a:dA} (hu:ya (yn a)=false) {i:Int} (i0:0≤i) (i1:i<(a.2.2.1.length:Int)):yh (yn a) i=yC (yU1 (yS a) i (yh a i)):=by
 obtain⟨h1,h2⟩:=y6r hu;have hl:((List.range a.2.2.1.length).foldl yah (yS a)).2.2.1.length=a.2.2.1.length:=yjx (one:=yah) (fun _ _=>ypH _ _ _ _) _ (yS a);unfold yn at hu ⊢;rw[yJA hu i0 (by omega)];exact congrArg yC (yDX (a:=yS a) (y2Q (a:=yS a) h2) h1 i0 i1)
theorem ymj {n:Int} {s:List Int} {m:dM} (h:yx m=true):yx (yet n s m)=true:=by
 unfold yet;cases m.2.2.1
 ·exact y3k _ _ h
 ·exact h
theorem yva {n:Int} {s:List Int} {m:dM} (h:yx m=true):(yC (yet n s m)).2.1.length≤m.2.1.length:=by
 cases hf:m.2.2.1
 ·rw[(yvb (ymj h) ((yzz n s m).trans hf)).1]; exact Nat.zero_le _
 ·have e:yet n s m=m:=by unfold yet; rw[hf]; rfl
  rw[e]; exact yPD h
theorem ykZ {q:Int} (h:0≤q):2≤yg q∧yg q<6∧yg q=2+q % 4:=by
 unfold yg;rw[zk3 h,cond_false,Int.tmod_eq_emod_of_nonneg h];have:=Int.emod_nonneg q (show(4:Int)≠0 by omega);have:=Int.emod_lt_of_pos q (show(0:Int)<4 by omega);rw[wr (by omega) (by omega)]; omega
theorem yJB {g:Int} (h:0≤g):0≤g.tmod 2∧g.tmod 2<2:=by
 rw[Int.tmod_eq_emod_of_nonneg h]; omega
theorem yXO {a b:dA} (h:yy a=yy b):a.2.2.2.2.2.2.1=b.2.2.2.2.2.2.1:=congrArg (fun x=>x.2.2.2.2.2.1) h
theorem yNb {k:Int} {V:Int→Int→Int} {a:dA} (h:Ix k V a) (hk:k+1≤60000) (hu:ya (yn a)=false):Ix (k+1) V (yn a):=by
 have c:=h.xc;unfold yX at c;have hgk:=h.xg;have hsk:=h.xs;have e:i64.wrap (a.2.2.2.2.2.2.2.1+1)=a.2.2.2.2.2.2.2.1+1:=wr (by omega) (by omega)
 have hG:Ix (k+1) V (yS a):=by
  obtain⟨⟨c1,c2,c3,c4,c5,c6,c7,c8,c9,c10,c11⟩,g2,g3,g4,g5,g6,g7,g8,g9⟩:=h;refine⟨⟨c1,c2,c3,c4,c5,c6,c7,c8,c9,?_,?_⟩,g2,g3,g4,?_,?_,g7,g8,g9⟩
  ·show 0≤i64.wrap (a.2.2.2.2.2.2.2.1+1); omega
  ·show i64.wrap (a.2.2.2.2.2.2.2.1+1)≤_; omega
  ·show i64.wrap (a.2.2.2.2.2.2.2.1+1)≤_; omega
  ·show a.2.2.2.2.2.1≤k+1; omega
 refine yNc (a:=yS a) (ydh a) (yob h.xk) hu (fun i i0 i1=> ?_) hG;have i1':i<a.2.1.1:=i1;obtain⟨d1,_,_⟩:=yd6 h.xk i0 i1';rw[yRn hu i0 (by have:=h.xk.1.2; omega)]
 have hn:(yS a).2.2.2.2.2.2.2.1.tmod 2<6:=by
  show(i64.wrap (a.2.2.2.2.2.2.2.1+1)).tmod 2<6;have:=yJB (g:=i64.wrap (a.2.2.2.2.2.2.2.1+1)) (by omega);omega
 exact⟨yJf (yRk hn) (yCU (ymj d1)),yva d1⟩
theorem yZX {k:Int} {V:Int→Int→Int} {a:dA} (h:Ix k V a):Ix k V (yT a):=by
 obtain⟨⟨c1,c2,c3,c4,c5,c6,c7,c8,c9,c10,c11⟩,g2,g3,g4,g5,g6,g7,g8,g9⟩:=h;refine⟨⟨c1,c2,c3,c4,c5,c6,⟨?_,?_⟩,⟨Int.le_refl _,c8.2⟩,?_,c10,c11⟩,g2,g3,g4,g5,g6,g7,g8,g9⟩
 ·show 0≤a.2.2.2.2.2.1; omega
 ·show a.2.2.2.2.2.1≤60000; omega
 ·show a.2.2.2.2.2.1≤a.2.2.2.2.2.1+4; omega
theorem yEd {a:dA} (hu:ya (ym a)=false):ya (yd a)=false∧ym a=yn (yT (yd a)):=by
 unfold ym at hu ⊢;cases hd:ya (yd a)
 ·exact⟨rfl,rfl⟩
 ·rw[hd]at hu; exact absurd (hd.symm.trans hu) (by simp)
theorem yJe {k:Int} {V:Int→Int→Int} {a:dA} (h:Ix k V a) (hk:k+1≤60000) (hu:ya (ym a)=false):Ix (k+1) V (ym a):=by
 obtain⟨h1,h2⟩:=yEd hu;rw[h2]at hu ⊢;exact yNb (yZX (y3P h h1)) hk hu
theorem y6L {a:dA} {r:dN} (hu:ya (yr a r)=false):ya ((List.range a.2.2.1.length).foldl (ybd r) a)=false∧ya a=false:=by
 have h1:=y34 hu;refine⟨h1,?_⟩;cases hd:ya a
 ·rfl
 ·rw[yk3 (one:=ybd r) (fun _ _ h=>yow h _ _ _) _ a hd]at h1
  exact(hd.symm.trans h1)
theorem yNf {a:dA} {r:dN} (hu:ya (yr a r)=false) {i:Int} (i0:0≤i) (i1:i<(a.2.2.1.length:Int)):yh (yr a r) i=yC (yet (yg r.1) (yaf r) (yh a i)):=by
 obtain⟨h1,h2⟩:=y6L hu;have hl:((List.range a.2.2.1.length).foldl (ybd r) a).2.2.1.length=a.2.2.1.length:=yjx (ylI r) _ a;unfold yr at hu ⊢;rw[yJA hu i0 (by omega)];exact congrArg yC (yDX (y30 r h2) h1 i0 i1)
theorem y6H {k:Int} {V:Int→Int→Int} {a:dA} {r:dN} (h:Ix k V a) (hr:0≤r.1) (hu:ya (yr a r)=false):Ix k V (yr a r)∧ ∀i,0≤i→i<a.2.1.1→(yh (yr a r) i).2.2.1=false→(yh (yr a r) i).2.1= []:=by
 refine⟨yNc (ybs a r) (yxZ r h.xk) hu (fun i i0 i1=> ?_) h,fun i i0 i1 hf=> ?_⟩
 ·obtain⟨d1,_,_⟩:=yd6 h.xk i0 i1
  rw[yNf hu i0 (by have:=h.xk.1.2; omega)];exact⟨yJf (yRk (ykZ hr).2.1) (yCU (ymj d1)),yva d1⟩
 ·obtain⟨d1,_,_⟩:=yd6 h.xk i0 i1
  rw[yNf hu i0 (by have:=h.xk.1.2; omega)]at hf ⊢;rw[(yn6 _).2]at hf;exact(yvb (ymj d1) hf).1
theorem y5G {k:Int} {V:Int→Int→Int} {a:dA} (h:Ix k V a) (h1:a.2.2.2.2.2.1<60000) (h2:a.2.2.2.2.2.1-a.2.2.2.2.2.2.1≤3):Ix (k+1) V (yO a):=by
 obtain⟨⟨c1,c2,c3,c4,c5,c6,c7,c8,c9,c10,c11⟩,g2,g3,g4,g5,g6,g7,g8,g9⟩:=h;have e:i64.wrap (a.2.2.2.2.2.1+1)=a.2.2.2.2.2.1+1:=wr (by omega) (by omega);refine⟨⟨c1,c2,c3,c4,c5,c6,c7,⟨?_,?_⟩,?_,c10,c11⟩,g2,g3,g4,?_,?_,g7,g8,g9⟩
 ·show a.2.2.2.2.2.2.1≤i64.wrap (a.2.2.2.2.2.1+1); omega
 ·show i64.wrap (a.2.2.2.2.2.1+1)≤60000; omega
 ·show i64.wrap (a.2.2.2.2.2.1+1)≤a.2.2.2.2.2.2.1+4; omega
 ·show a.2.2.2.2.2.2.2.1≤k+1; omega
 ·show i64.wrap (a.2.2.2.2.2.1+1)≤k+1; omega
def ylP (V:Int→Int→Int) (g:dG) (s:Int) (d:List Int):Int→Int→Int:=fun t i=>bif t==s then ycS (yk g s) g.1 (yaF d) d i else V t i
theorem y4g {N p x:Int} {d:List Int} (h:3≤N∧N≤5) (hp:0≤p∧p≤N-1) (hd:(d.length:Int)=N-1):((List.range N.toNat).map (fun(i:Nat)=>ycS p N x d i)).Perm (x::d):=by
 have:N=3∨N=4∨N=5:=by omega
 rcases this with rfl | rfl | rfl
 ·match d,hd with
  | [a,b],_ =>
   have:p=0∨p=1∨p=2:=by omega
   rcases this with rfl | rfl | rfl<;>simp[ycS,nth,List.range_succ,List.perm_iff_count,List.count_cons]<;>(intro z; omega)
  | [],hd=>simp at hd
  | [_],hd=>simp at hd
  | _::_::_::_,hd=>simp only[List.length_cons]at hd; omega
 ·match d,hd with
  | [a,b,c],_ =>
   have:p=0∨p=1∨p=2∨p=3:=by omega
   rcases this with rfl | rfl | rfl | rfl<;>simp[ycS,nth,List.range_succ,List.perm_iff_count,List.count_cons]<;>(intro z; omega)
  | [],hd=>simp at hd
  | [_],hd=>simp at hd
  | [_,_],hd=>simp at hd
  | _::_::_::_::_,hd=>simp only[List.length_cons]at hd; omega
 ·match d,hd with
  | [a,b,c,e],_ =>
   have:p=0∨p=1∨p=2∨p=3∨p=4:=by omega
   rcases this with rfl | rfl | rfl | rfl | rfl<;>simp[ycS,nth,List.range_succ,List.perm_iff_count,List.count_cons]<;>(intro z; omega)
  | [],hd=>simp at hd
  | [_],hd=>simp at hd
  | [_,_],hd=>simp at hd
  | [_,_,_],hd=>simp at hd
  | _::_::_::_::_::_,hd=>simp only[List.length_cons]at hd; omega
theorem yk8 (x:Int) (l:List Int):yfH (x::l)=bv x ^^^ yfH l:=by
 have fo: ∀(l:List Int) (v:BitVec 64),l.foldl (fun v x=>v ^^^ bv x) v=v ^^^ yfH l:=by
  intro l
  induction l with
  | nil=>intro v; show v=v ^^^ 0#64; rw[BitVec.xor_zero]
  | cons y t ih =>
   intro v;unfold yfH;rw[List.foldl_cons,List.foldl_cons,ih,ih (0#64 ^^^ bv y),BitVec.zero_xor,BitVec.xor_assoc]
 show l.foldl _ (0#64 ^^^ bv x)=_;rw[fo,BitVec.zero_xor]
theorem y5t {l m:List Int} (h:l.Perm m):yfH l=yfH m:=by
 induction h with
 | nil=>rfl
 | cons x _ ih=>rw[yk8,yk8,ih]
 | swap x y l=>rw[yk8,yk8,yk8,yk8,← BitVec.xor_assoc,BitVec.xor_comm (bv y),BitVec.xor_assoc]
 | trans _ _ h1 h2=>exact h1.trans h2
theorem y5s (d:List Int):yfH (yaF d::d)=0#64:=by rw[yk8,yoU,yxI,BitVec.xor_self]
theorem y4f {N p:Int} {d:List Int} (h:3≤N∧N≤5) (hp:0≤p∧p≤N-1) (hd:(d.length:Int)=N-1):yaF ((List.range N.toNat).map (fun(i:Nat)=>ycS p N (yaF d) d i))=0:=by
 rw[yoU,y5t (y4g h hp hd),y5s]; rfl
theorem yLg {N p i:Int} {d:List Int} (hd:d.all isW=true):isW (ycS p N (yaF d) d i)=true:=by
 unfold ycS;cases(i==p)
 ·exact yYH hd
 ·exact y0d hd
theorem y3L {V:Int→Int→Int} {g:dG} {s:Int} {d:List Int} (h:EvV g V) (hs:yaj g s=true) (hl:(d.length:Int)=g.1-1) (hd:d.all isW=true):EvV g (ylP V g s d):=by
 have h1:=yad.1 hs;have hg:=yj.1 h1.1;refine⟨fun t t0 t1=> ?_,fun t i t0 t1 i0 i1=> ?_⟩
 ·unfold ye9 ylP
  cases ht:(t==s)
  ·exact h.ev t t0 t1
  ·exact y4f hg.1 (yk6 hs) hl
 ·unfold ylP
  cases ht:(t==s)
  ·exact h.ew t i t0 t1 i0 i1
  ·exact yLg hd
theorem yCS {L B p N s i:Int} {d:List Int} {S:Int} {m:dM} (k:Int) (hk:k≠yu s):(yjc L B p N s d i m).2.2.1=m.2.2.1∧ya0 (yjc L B p N s d i m) k=ya0 m k∧ycm (yjc L B p N s d i m) k=ycm m k:=by
 unfold yjc;cases hl:yag L B i s m
 ·exact⟨rfl,rfl,rfl⟩
 ·refine⟨(yzZ _ _ _).2,?_⟩
  rw[cond_true];cases hc:ybp m (yu s) [ycS p N (yaF d) d i]
  ·unfold yab; rw[hc]; exact⟨rfl,rfl⟩
  ·rw[yyP hc,yn3 hc,show(k !=yu s)=true from bne_iff_ne.2 hk,show(yu s==k)=false from beq_eq_false_iff_ne.2 (fun e=>hk e.symm),Bool.and_true]
   exact⟨rfl,rfl⟩
theorem yPE (L B p N s:Int) (d:List Int) (i:Int) (m:dM):(yjc L B p N s d i m).2.1.length≤m.2.1.length+1∧(m.2.2.1=true→yjc L B p N s d i m=m):=by
 unfold yjc;cases hl:yag L B i s m
 ·exact⟨Nat.le_succ _,fun _=>rfl⟩
 ·simp only[yag,Bool.and_eq_true,Bool.not_eq_true']at hl
  refine⟨?_,fun h=>by rw[hl.1]at h; cases h⟩;rw[cond_true];unfold yab;cases ybp m (yu s) [ycS p N (yaF d) d i]
  ·exact Nat.le_succ _
  ·show(m.2.1++ [(yu s,[ycS p N (yaF d) d i])]).length≤_; rw[List.length_append]; simp only[List.length_cons,List.length_nil]; omega
theorem y6o {k:Int} {V:Int→Int→Int} {a:dA} {s:Int} {d:List Int} (h:Ix k V a) (hs:yaj a.2.1 s=true) (hl:(d.length:Int)=a.2.1.1-1) (hd:d.all isW=true)
  (hz: ∀i,0≤i→i<a.2.1.1→(yh a i).2.2.1=false→(yh a i).2.1= []) (hu:ya (yI a s d)=false):Ix k (ylP V a.2.1 s d) (yI a s d):=by
 have hc:=yeo a s d;have h1:=yad.1 hs;have hg:=yj.1 h1.1;have hlen:=h.xk.1.2;have hdsk: ∀i,0≤i→i<a.2.1.1→yh (yI a s d) i=yjc a.2.2.2.1 a.2.2.2.2.1 (yk a.2.1 s) a.2.1.1 s d i (yh a i):=fun i i0 i1=>yDX (yQn s d h.xu) hu i0 (by omega)
 refine⟨yC1 hc h.xc,yGN s d h.xk,hu,(yr7 hc).trans h.xb,by rw[yr8 hc]; exact h.xg,by rw[yfY hc]; exact h.xs,by rw[yQ hc]; exact y3L h.xe hs hl hd,fun i t i0 i1 t0 t1 hh=> ?_,fun i i0 i1=> ?_⟩
 ·rw[yQ hc]at i1 t1
  obtain⟨d1,d2,d3⟩:=yd6 h.xk i0 i1;unfold yaw at hh;rw[yfy hc,ycR hc,hdsk i i0 i1,Bool.and_eq_true,Bool.not_eq_true']at hh;rw[hdsk i i0 i1];have hda:=yjb (s:=s) h1.2.1 (by omega);unfold ylP;by_cases ht:t=s
  ·subst ht
   rw[beq_self_eq_true,cond_true]
   have hlv:yag a.2.2.2.1 a.2.2.2.2.1 i t (yh a i)=true:=by
    have:=hh.1;unfold yag at this ⊢;rw[(yCS (S:=0) (-1) (by omega)).1]at this;exact this
   have hf:(yh a i).2.2.1=false:=by
    simp only[yag,Bool.and_eq_true,Bool.not_eq_true']at hlv; exact hlv.1
   unfold yjc;rw[hlv,cond_true,yn3 (yqS d1 hf (by rw[hda]; exact zj6.2 (by omega)) (yzK.2 ⟨by simp,fun x hx=> ?_⟩) (by rw[hz i i0 i1 hf]; decide)),hda,beq_self_eq_true]; rfl;rw[List.mem_singleton.1 hx];exact ytc.1 (yLg hd)
  ·rw[show(t==s)=false from beq_eq_false_iff_ne.2 ht]
   obtain⟨e1,e2,e3⟩:=yCS (L:=a.2.2.2.1) (B:=a.2.2.2.2.1) (p:=yk a.2.1 s) (N:=a.2.1.1) (s:=s) (i:=i) (d:=d) (S:=0) (m:=yh a i) (t+6) (by omega);rw[e3];refine h.xv i t i0 i1 t0 t1 ?_;unfold yaw;rw[e2]at hh;have h2:=hh.1;unfold yag at h2 ⊢;rw[e1]at h2;rw[h2,hh.2]; rfl
 ·rw[yQ hc]at i1
  rw[yfy hc,ycR hc,hdsk i i0 i1];obtain⟨g1,g2⟩:=yPE a.2.2.2.1 a.2.2.2.2.1 (yk a.2.1 s) a.2.1.1 s d i (yh a i);have c:=h.xc;unfold yX at c;cases hf:(yh a i).2.2.1
  ·rw[hz i i0 i1 hf]at g1
   simp only[List.length_nil]at g1;cases(i==a.2.2.2.1)
   ·simp only[cond_false]; omega
   ·simp only[cond_true]; omega
  ·rw[g2 hf]
   exact h.xn i i0 i1
theorem y40 {k:Int} {V:Int→Int→Int} {a:dA} (h:Ix k V a) (hk:k+1≤60000) (hu:ya (yz a)=false):Ix (k+1) V (yz a)∧(yz a).2.2.2.2.2.1=a.2.2.2.2.2.1∧(yz a).2.2.2.2.2.1-(yz a).2.2.2.2.2.2.1≤3:=by
 have c:=h.xc;unfold yX at c
 have e0:yz a=bif leb 4 (a.2.2.2.2.2.1-a.2.2.2.2.2.2.1)then ym a else a:=by
  unfold yz;rw[wr (by omega) (by omega)]
 rw[e0]at hu ⊢;cases h4:leb 4 (a.2.2.2.2.2.1-a.2.2.2.2.2.2.1)
 ·refine⟨yIt h (by omega),rfl,?_⟩
  have: ¬(4≤a.2.2.2.2.2.1-a.2.2.2.2.2.2.1):=fun g=>by rw[zk2 g]at h4; cases h4
  show a.2.2.2.2.2.1-a.2.2.2.2.2.2.1≤3; omega
 ·rw[h4]at hu
  simp only[cond_true]at hu ⊢;have hi:=yJe h hk hu;obtain⟨_,h2⟩:=yEd hu;have e:=ydh (yT (yd a));have e1:(ym a).2.2.2.2.2.1=a.2.2.2.2.2.1:=by rw[h2]; exact(yfY e).trans (show(yS (yT (yd a))).2.2.2.2.2.1=_ from yfY (a:=yd a) (b:=a) (yaO a))
  have e2:(ym a).2.2.2.2.2.2.1=a.2.2.2.2.2.1:=by rw[h2]; exact(yXO e).trans (show(yS (yT (yd a))).2.2.2.2.2.2.1=_ from yfY (a:=yd a) (b:=a) (yaO a))
  exact⟨hi,e1,by omega⟩
theorem y5K {k:Int} {V:Int→Int→Int} {a:dA} {s:Int} {d:List Int} (h:Ix k V a) (hs:yaj a.2.1 s=true) (hl:(d.length:Int)=a.2.1.1-1) (hd:d.all isW=true) (hq:a.2.2.2.2.2.1<60000) (hk:k+1≤60000)
  (hu:ya (yN a s d).2=false):Ix (k+2) (ylP V a.2.1 s d) (yN a s d).2∧(yN a s d).1=0:=by
 unfold yN at hu ⊢;cases hc:ya (yz a)
 ·obtain⟨h1,h2,h3⟩:=y40 h hk hc
  have eg:(yz a).2.1=a.2.1:=yXN a;rw[hc]at hu;simp only[cond_false]at hu ⊢;have c:=h.xc;unfold yX at c;cases hr:ya (yr (yz a) ((yz a).2.2.2.2.2.1,s,d))
  ·rw[hr]at hu
   simp only[cond_false]at hu ⊢;obtain⟨h4,h5⟩:=y6H (r:=((yz a).2.2.2.2.2.1,s,d)) h1 (by show 0≤(yz a).2.2.2.2.2.1; omega) hr;have e1:=yfY (ybs (yz a) ((yz a).2.2.2.2.2.1,s,d));have e2:=yXO (ybs (yz a) ((yz a).2.2.2.2.2.1,s,d));have e3:=(yQ (ybs (yz a) ((yz a).2.2.2.2.2.1,s,d))).trans eg;rw[eg]at h5;generalize yr (yz a) ((yz a).2.2.2.2.2.1,s,d)=R at h4 h5 e1 e2 e3 hu ⊢;have h6:=y5G h4 (by omega) (by omega);have e4:(yO R).2.1=a.2.1:=e3;have h7:=y6o (s:=s) (d:=d) h6 (by rw[e4]; exact hs) (by rw[e4]; exact hl) hd (fun i i0 i1 hf=>h5 i i0 (by rw[e4]at i1; exact i1) hf) hu;rw[hu,e4]at *;exact⟨yIt h7 (by omega),rfl⟩
  ·rw[hr]at hu
   exact absurd (hr.symm.trans hu) (by simp)
 ·rw[hc]at hu
  exact absurd (hc.symm.trans hu) (by simp)
theorem yPH {k:Int} {V:Int→Int→Int} {a:dA} {l:List dW} (h:Ix k V a) (hd:ya2 a.2.1 l=true):Ix k V (yyt a l):=by
 obtain⟨⟨c1,c2,c3,c4,c5,c6,c7,c8,c9,c10,c11⟩,g2,g3,g4,g5,g6,g7,g8,g9⟩:=h;exact⟨⟨c1,c2,hd,c4,c5,c6,c7,c8,c9,c10,c11⟩,g2,g3,g4,g5,g6,g7,g8,g9⟩
theorem y3s {a:dA} (s:Int) (h:ya a=true):(yaK a s).2=a:=by
 unfold yaK;cases ltb (yam a.2.2.2.2.2.2.2.2.1 s) 0
 ·cases hc:(yap a s (nth a.2.2.2.2.2.2.2.2.1 (yam a.2.2.2.2.2.2.2.2.1 s) (0,[])).2 !=0)
  ·have:=(yy1 (bne_eq_false_iff_eq.1 hc)).2.2.2.1
   rw[h]at this; cases this
  ·rfl
 ·rfl
theorem yLa: ∀(n i:Nat) {a:dA},ya a=true→(goE yh0 (fun b=>((0:Int),b)) n i a).2=a
 | 0,_,_,_=>rfl
 | n+1,i,a,h=>by
  unfold goE yh0;have e:=y3s (nth a.2.2.2.2.2.2.2.2.1 0 (0,[])).1 h;cases((yaK a (nth a.2.2.2.2.2.2.2.2.1 0 (0,[])).1).1 !=0)
  ·simp only[cond_false,e]
   exact yLa n (i+1) h
  ·exact e
theorem y6I {k:Int} {V:Int→Int→Int} {a:dA} {b n:Int} (h:Ix k V a) (hb:yhR a.2.1 b=true) (hn:isW n=true):Ix k V (yju a b n).2:=by
 unfold yju;cases hs:(ybi a (ybS a.2.1 b)).2
 ·exact h
 ·have hstr:=yHP hb
  have hl:=yBm (yE1 h) hstr hs;refine yPH h (yZP h.xc.2.2.1 ⟨(yad.1 hstr).2,by rw[List.length_set]; exact hl,yZB ?_ hn⟩);unfold ybi;cases hk:leb 0 (yam a.2.2.2.2.2.2.2.2.1 (ybS a.2.1 b))
  ·rw[h.xb]; exact yZN _ _
  ·have:=(yn9 (d:=((0:Int),([]:List Int))) hk).1
   exact yIw (P:=fun e:dW=>e.2.all isW=true) this (fun e he=>((yy5.1 h.xc.2.2.1).1 e he).2.2)
theorem yEt {a:dA} {m i:Int} {x:dM} (l:Int) (t:Int×Int×Int×Int×List dW×Int×Bool×Bool) (hm:inb m a.2.2.1.length=true) (hi:0≤i):yh (a.1,a.2.1,a.2.2.1.set m.toNat x,l,t) i=bif m==i then x else yh a i:=yFa hm hi
theorem y4Q {a:dA} {m:Int} (hl:a.2.2.2.1= -1∨a.2.2.2.1=m) (hm:inb m a.2.2.1.length=true) (i s:Int) (i0:0≤i) (s0:0≤s) (hh:yag m 0 i s (yh (yZ a m) i)=true):(i !=a.2.2.2.1||ltb s a.2.2.2.2.1)=true∧i≠m∧yh (yZ a m) i=yh a i:=by
 have e:yh (yZ a m) i=bif m==i then yeU (yh a m)else yh a i:=yEt m _ hm i0;by_cases hi:m=i
 ·subst hi
  rw[e,beq_self_eq_true]at hh;simp only[yag,Bool.and_eq_true,Bool.not_eq_true',cond_true]at hh;have:=hh.1;cases this
 ·rw[show(m==i)=false from beq_eq_false_iff_ne.2 hi]at e
  refine⟨?_,fun e=>hi e.symm,e⟩;rw[show(i !=a.2.2.2.1)=true from bne_iff_ne.2 (by omega)]; rfl
theorem yPG {k m:Int} {V:Int→Int→Int} {a:dA} (h:Ix k V a) (hl:a.2.2.2.1= -1∨a.2.2.2.1=m) (hm:inb m a.2.2.1.length=true):Ix k V (yZ a m):=by
 have hmi:=zj6.1 hm
 have hv:yI1 V (yZ a m):=yM1 (a:=a) (b:=yZ a m) rfl (fun i s i0 i1 s0 hh=>by
  obtain⟨h1,h2,h3⟩:=y4Q hl hm i s i0 s0 hh;rw[h3]
  exact⟨h1,yGO _ _⟩) h.xv
 have hn: ∀i,0≤i→i<a.2.1.1→((yh (yZ a m) i).2.1.length:Int)≤1+(bif i==m then 0 else 0):=fun i i0 i1=>by
  have e:yh (yZ a m) i=bif m==i then yeU (yh a m)else yh a i:=yEt m _ hm i0;rw[e];by_cases hi:m=i
  ·rw[show(m==i)=true from beq_iff_eq.2 hi]
   show(([]:List dW).length:Int)≤_;rw[List.length_nil];cases(i==m)<;>decide
  ·rw[show(m==i)=false from beq_eq_false_iff_ne.2 hi,cond_false]
   have:=h.xn i i0 i1;rw[show(i==a.2.2.2.1)=false from beq_eq_false_iff_ne.2 (by omega)]at this;simp only[cond_false]at this;cases(i==m)<;>simp only[cond_true,cond_false]<;>omega
 obtain⟨⟨c1,c2,c3,c4,c5,c6,c7,c8,c9,c10,c11⟩,⟨⟨g1,g2⟩,g3⟩,f,b,t,t2,t3,_,_⟩:=h;refine⟨⟨c1,c2,c3,⟨?_,?_⟩,⟨Int.le_refl _,by show(0:Int)≤a.2.1.2; omega⟩,fun e=>rfl,c7,c8,c9,c10,c11⟩,⟨⟨?_,?_⟩,g3⟩,f,b,t,t2,t3,hv,hn⟩
 ·show -1≤m; omega
 ·show m≤a.2.1.1-1; omega
 ·show yGP m a.2.2.2.2.2.2.2.2.2.2.2 a.2.1.2 (a.2.2.1.set m.toNat (yeU (nth a.2.2.1 m yc)))
  refine yoc (fun i hi=> ?_) (fun hi=> ?_)
  ·obtain⟨e1,e2,e3⟩:=g1 i hi
   refine⟨e1,e2,fun e=> ?_⟩;rcases e3 e with e | e
   ·exact .inl (by omega)
   ·exact .inr e
  ·have:=g1 m.toNat hi
   rw[Int.toNat_of_nonneg hmi.1]at this;exact⟨yXQ this.1,this.2.1,fun _=> .inl (Int.toNat_of_nonneg hmi.1)⟩
 ·show((a.2.2.1.set m.toNat (yeU (nth a.2.2.1 m yc))).length:Int)=a.2.1.1
  rw[List.length_set]; exact g2
theorem yXR {k m:Int} {V:Int→Int→Int} {a:dA} (h:Ix k V a) (hl:a.2.2.2.1= -1∨a.2.2.2.1=m) (hk:k+1≤60000):ycr a m=yn (yZ a m):=by
 have:=h.xg;unfold ycr;rw[h.xu,h.xb,zky (show a.2.2.2.2.2.2.2.1<60000 by omega)];rcases hl with e | e
 ·rw[show(a.2.2.2.1== -1)=true from beq_iff_eq.2 e]; rfl
 ·rw[show(a.2.2.2.1==m)=true from beq_iff_eq.2 e,Bool.or_true]; rfl
theorem yk5 {S:Int} (h:1≤S∧S≤8):yaM (6+S)=(List.replicate (6+S).toNat [],[],false,[]):=by
 unfold yaM;rw[zk2 (show 1≤6+S by omega),zk2 (show 6+S≤20 by omega)]; rfl
theorem yHH {k:Int} {V:Int→Int→Int} {a:dA} (h:Ix k V a) (hm:inb a.2.2.2.1 a.2.2.1.length=true):Ix k V (yp a):=by
 have hg:=yj.1 h.xc.1;have e: ∀i,0≤i→yh (yp a) i=bif a.2.2.2.1==i then yaM (6+a.2.1.2)else yh a i:=fun i i0=>yEt _ _ hm i0
 have hv:yI1 V (yp a):=yM1 (a:=a) (b:=yp a) rfl (fun i s i0 i1 s0 hh=>by
  have hh:yag a.2.2.2.1 0 i s (yh (yp a) i)=true:=hh;rw[e i i0]at hh ⊢;simp only[yag,Bool.and_eq_true,Bool.or_eq_true,bne_iff_ne,ne_eq,zka]at hh;have hne:i≠a.2.2.2.1:=hh.2.resolve_right (by omega);rw[show(a.2.2.2.1==i)=false from beq_eq_false_iff_ne.2 (fun e=>hne e.symm),show(i !=a.2.2.2.1)=true from bne_iff_ne.2 hne]
  exact⟨rfl,yGO _ _⟩) h.xv
 have hn: ∀i,0≤i→i<a.2.1.1→((yh (yp a) i).2.1.length:Int)≤1+(bif i==a.2.2.2.1 then 0 else 0):=fun i i0 i1=>by
  rw[e i i0];by_cases hi:a.2.2.2.1=i
  ·rw[show(a.2.2.2.1==i)=true from beq_iff_eq.2 hi,cond_true,yk5 hg.2]
   show(([]:List dW).length:Int)≤_;rw[List.length_nil];cases(i==a.2.2.2.1)<;>decide
  ·rw[show(a.2.2.2.1==i)=false from beq_eq_false_iff_ne.2 hi,cond_false]
   have:=h.xn i i0 i1;rw[show(i==a.2.2.2.1)=false from beq_eq_false_iff_ne.2 (fun e=>hi e.symm)]at this ⊢;exact this
 have hmi:=zj6.1 hm;obtain⟨⟨c1,c2,c3,c4,c5,c6,c7,c8,c9,c10,c11⟩,⟨⟨g1,g2⟩,g3⟩,f,b,t,t2,t3,_,_⟩:=h;refine⟨⟨c1,c2,c3,c4,⟨Int.le_refl _,by show(0:Int)≤a.2.1.2; omega⟩,fun e=>rfl,c7,c8,c9,c10,c11⟩,⟨⟨yoc g1 (fun hi=>⟨yL2 (by omega) (by omega),?_,fun e=> ?_⟩),?_⟩,g3⟩,f,b,t,t2,t3,hv,hn⟩
 ·rw[yk5 hg.2]
  show((List.replicate (6+a.2.1.2).toNat ([]:List Int)).length:Int)=6+a.2.1.2;rw[List.length_replicate]; omega
 ·rw[yk5 hg.2]at e
  cases e
 ·show((a.2.2.1.set a.2.2.2.1.toNat (yaM (6+a.2.1.2))).length:Int)=a.2.1.1
  rw[List.length_set]; exact g2
theorem y5H {k:Int} {V:Int→Int→Int} {a:dA} (h:Ix k V a) (hm:inb a.2.2.2.1 a.2.2.1.length=true) (hk:k+1≤60000) (hu:ya (yn (yp a))=false):Ix (k+1) V (yn (yp a)):=yNb (yHH h hm) hk hu
theorem y4B (S:Int) (m:dM) (n:Int):yDA S m (spoil m n):=by
 unfold spoil;cases(yx m&&(inb n m.1.length&& !(m.2.2.2.any (· ==n))))
 ·exact yGO _ _
 ·refine fun h=>⟨h,fun k k0 k1 hb=>⟨?_,rfl⟩⟩
  have hb:(yvk m.2.2.2 n).any (· ==k)=false:=hb;show m.2.2.2.any (· ==k)=false;rw[List.any_eq_false]at hb ⊢;intro x hx hxk;have hxk':=beq_iff_eq.1 hxk;refine hb x ?_ hxk;unfold yvk;rw[List.mem_append,List.mem_cons,List.mem_filter,List.mem_filter];rcases Int.lt_trichotomy x n with h1 | h1 | h1
  ·exact .inl ⟨hx,zky h1⟩
  ·exact .inr (.inl h1)
  ·exact .inr (.inr ⟨hx,zky h1⟩)
theorem y3C (m:dM) (n:Int):(spoil m n).2.1=m.2.1:=by
 unfold spoil;cases(yx m&&(inb n m.1.length&& !(m.2.2.2.any (· ==n))))<;>rfl
theorem y5I {k m n:Int} {V:Int→Int→Int} {a:dA} (h:Ix k V a) (hm:inb m a.2.2.1.length=true):Ix k V (ybx a m (spoil (nth a.2.2.1 m yc) n)) :=
 yNc (a:=a) (b:=ybx a m (spoil (nth a.2.2.1 m yc) n)) rfl (yqZ h.xk hm (fun g=>⟨yTf n g.1,by rw[(yoF _ _).1]; exact g.2.1,by rw[(yoF _ _).2]; exact g.2.2⟩)) h.xu (fun i i0 i1=>by
  rw[yM9 hm i0];by_cases hi:m=i
  ·subst hi
   rw[beq_self_eq_true,cond_true];exact⟨y4B _ _ _,by rw[y3C]; exact Nat.le_refl _⟩
  ·rw[show(m==i)=false from beq_eq_false_iff_ne.2 hi]
   exact⟨yGO _ _,Nat.le_refl _⟩) h
theorem y3O {k:Int} {V:Int→Int→Int} {a:dA} (h:Ix k V a) (hl:inb a.2.2.2.1 a.2.2.1.length=true) (hf:(nth a.2.2.1 a.2.2.2.1 yc).2.2.1=false) (hb:a.2.2.2.2.1<a.2.1.2) (hu:ya (yY a).2=false):Ix k V (yY a).2:=by
 have hmi:=zj6.1 hl;have hlen:=h.xk.1.2;have hg:=yj.1 h.xc.1;have c:=h.xc;unfold yX at c;have hb0:0≤a.2.2.2.2.1:=by omega
 have hda:=yjb hb0 (by omega);have e:=yeY a a.2.2.2.1 (yu a.2.2.2.2.1) [nth (yK a a.2.2.2.2.1).1 a.2.2.2.1 0];have hkp:yF (yL a):=yr9 h.xk hl;have hd:=yx5 (yu a.2.2.2.2.1) [nth (yK a a.2.2.2.2.1).1 a.2.2.2.1 0] h.xu hl;have e1:(yL a).2.2.2.2.1=a.2.2.2.2.1:=ycR e;have e2:(yL a).2.1=a.2.1:=yQ e;have e3:(yL a).2.2.2.1=a.2.2.2.1:=yfy e;unfold yY at hu ⊢;cases hw:(yK a a.2.2.2.2.1).2
 ·exact h
 ·rw[hw]at hu
  have hwv:=yW3 h.xc.1 h.xk h.xe h.xv hb0 hb
  have hw1:(yK a a.2.2.2.2.1).1=ye9 V a.2.1.1 a.2.2.2.2.1:=by
   rw[hwv]at hw ⊢;cases hm:ye8 (fun(i:Nat)=>yaw a a.2.2.2.2.1 i) a.2.1.1.toNat
   ·rfl
   ·rw[hm]at hw; cases hw
  have hx:nth (yK a a.2.2.2.2.1).1 a.2.2.2.1 0=V a.2.2.2.2.1 a.2.2.2.1:=by rw[hw1]; exact y3f V (by omega) (by omega)
  rw[hx]at hd e;have hst:yL a=ybr a a.2.2.2.1 (yu a.2.2.2.2.1) [V a.2.2.2.2.1 a.2.2.2.1]:=by unfold yL; rw[hx]
  have hcc:yy (yL a)=yy a:=by rw[hst]; exact e
  rw[← hst]at hd;generalize yL a=R at *;simp only[cond_true]at hu ⊢;cases hr:ya R
  ·rw[hr]at hu
   obtain⟨_,_,⟨_,hdd⟩ | ⟨hdd,_⟩⟩:=hd
   ·obtain⟨d1,d2,d3⟩:=yd6 h.xk (i:=a.2.2.2.1) (by omega) (by omega)
    have hf':(yh a a.2.2.2.1).2.2.1=false:=hf;have hxw:=h.xe.ew a.2.2.2.2.1 a.2.2.2.1 hb0 hb (by omega) (by omega);have hcn:=h.xn a.2.2.2.1 (by omega) (by omega);rw[beq_self_eq_true,cond_true]at hcn;have hcw:ybp (yh a a.2.2.2.1) (a.2.2.2.2.1+6) [V a.2.2.2.2.1 a.2.2.2.1]=true:=yqS d1 hf' (zj6.2 (by omega)) (yzK.2 ⟨by simp,fun x hx=>by rw[List.mem_singleton.1 hx]; exact ytc.1 hxw⟩) (by omega);have e4:i64.wrap (R.2.2.2.2.1+1)=a.2.2.2.2.1+1:=by rw[e1]; exact wr (by omega) (by omega)
    have hRL:yh R a.2.2.2.1=(yab (yh a a.2.2.2.1) (a.2.2.2.2.1+6) [V a.2.2.2.2.1 a.2.2.2.1]).1:=by
     rw[hdd _ (by omega),beq_self_eq_true,cond_true,hda];unfold yet;rw[hf']; rfl
    have hRo: ∀i,0≤i→i≠a.2.2.2.1→yh R i=yh a i:=fun i i0 hi=>by rw[hdd i i0,show(a.2.2.2.1==i)=false from beq_eq_false_iff_ne.2 (fun e=>hi e.symm)]; rfl
    have hco:=yC1 hcc h.xc;refine⟨?_,hkp,hr,(yr7 hcc).trans h.xb,by show R.2.2.2.2.2.2.2.1≤k; rw[yr8 hcc]; exact h.xg,by show R.2.2.2.2.2.1≤k; rw[yfY hcc]; exact h.xs,by show EvV R.2.1 V; rw[e2]; exact h.xe,?_,?_⟩
    ·obtain⟨c1,c2,c3,c4,c5,c6,c7,c8,c9,c10,c11⟩:=hco
     refine⟨c1,c2,c3,c4,⟨?_,?_⟩,fun e=> ?_,c7,c8,c9,c10,c11⟩
     ·show 0≤i64.wrap (R.2.2.2.2.1+1); omega
     ·show i64.wrap (R.2.2.2.2.1+1)≤R.2.1.2; rw[e4,e2]; omega
     ·have:R.2.2.2.1= -1:=e
      omega
    ·intro i t i0 i1 t0 t1 hh
     have i1:i<R.2.1.1:=i1;have t1:t<R.2.1.2:=t1;rw[e2]at i1 t1;unfold yaw at hh;have hh:(yag R.2.2.2.1 (i64.wrap (R.2.2.2.2.1+1)) i t (yh R i)&& !(ya0 (yh R i) (t+6)))=true:=hh;show ycm (yh R i) (t+6)= [V t i];rw[e3,e4]at hh;by_cases hi:i=a.2.2.2.1
     ·subst hi
      rw[hRL]at hh ⊢;rw[yn3 hcw];by_cases ht:a.2.2.2.2.1+6=t+6
      ·rw[show(a.2.2.2.2.1+6==t+6)=true from beq_iff_eq.2 ht,show a.2.2.2.2.1=t by omega]; rfl
      ·rw[show(a.2.2.2.2.1+6==t+6)=false from beq_eq_false_iff_ne.2 ht,cond_false]
       refine h.xv _ t i0 i1 t0 t1 ?_;rw[yyP hcw,show(t+6 !=a.2.2.2.2.1+6)=true from bne_iff_ne.2 (fun e=>ht e.symm),Bool.and_true,Bool.and_eq_true]at hh;have h2:=hh.1;simp only[yag,Bool.and_eq_true,Bool.or_eq_true,bne_self_eq_false,Bool.false_eq_true,false_or,zka]at h2;unfold yaw yag;rw[hf',hh.2,zky (show t<a.2.2.2.2.1 by omega),Bool.or_true]; rfl
     ·rw[hRo i i0 hi]at hh ⊢
      refine h.xv i t i0 i1 t0 t1 ?_;rw[Bool.and_eq_true]at hh;have h2:=hh.1;simp only[yag,Bool.and_eq_true]at h2;unfold yaw yag;rw[h2.1,hh.2,show(i !=a.2.2.2.1)=true from bne_iff_ne.2 hi]; rfl
    ·intro i i0 i1
     have i1:i<R.2.1.1:=i1;rw[e2]at i1;show((yh R i).2.1.length:Int)≤1+(bif i==R.2.2.2.1 then i64.wrap (R.2.2.2.2.1+1)else 0);rw[e3,e4];by_cases hi:i=a.2.2.2.1
     ·subst hi
      rw[hRL,yJF hcw,beq_self_eq_true,cond_true];show(((yh a a.2.2.2.1).2.1++ [(a.2.2.2.2.1+6,[V a.2.2.2.2.1 a.2.2.2.1])]).length:Int)≤_;rw[List.length_append];simp only[List.length_cons,List.length_nil];omega
     ·rw[hRo i i0 hi,show(i==a.2.2.2.1)=false from beq_eq_false_iff_ne.2 hi]
      have:=h.xn i i0 i1;rw[show(i==a.2.2.2.1)=false from beq_eq_false_iff_ne.2 hi]at this;exact this
   ·rw[hr]at hdd; cases hdd
  ·rw[hr]at hu
   exact absurd (hr.symm.trans hu) (by simp)
theorem yPK {id i:Int} {g:dG} (hg:ye g=true): ∀n:Nat,n≤g.2.toNat→ ∀k:Int,0≤k→nth ((List.range n).foldl ypA (yjp id g i)).1 k []=bif leb 6 k&&ltb k (6+n)then[0]else bif k==0 then yo (y2T id g i)else[]:=by
 have hge:=yj.1 hg;intro n
 induction n with
 | zero =>
  intro _ k hk;show nth (yjp id g i).1 k []=_;unfold yjp;rw[yk5 hge.2];have h0:inb 0 (List.replicate (6+g.2).toNat ([]:List Int)).length=true:=by rw[List.length_replicate]; exact zj6.2 (by omega)
  have:=yFa (x:=yo (y2T id g i)) (d:=([]:List Int)) h0 hk;rw[show(0:Int).toNat=0 from rfl]at this;rw[this]
  have e1:(leb 6 k&&ltb k (6+((0:Nat):Int)))=false:=by
   cases h:(leb 6 k&&ltb k (6+((0:Nat):Int)))
   ·rfl
   ·rw[Bool.and_eq_true,zj7,zka]at h; omega
  rw[e1,cond_false];by_cases h:k=0
  ·rw[show((0:Int)==k)=true from beq_iff_eq.2 h.symm,show(k==0)=true from beq_iff_eq.2 h]; rfl
  ·rw[show((0:Int)==k)=false from beq_eq_false_iff_ne.2 (fun e=>h e.symm),show(k==0)=false from beq_eq_false_iff_ne.2 h,cond_false,cond_false]
   unfold nth;rw[List.getD_eq_getElem?_getD,List.getElem?_replicate];split<;>rfl
 | succ n ih =>
  intro hn k hk;rw[List.range_succ,List.foldl_append,List.foldl_cons,List.foldl_nil]
  have hlen:((List.range n).foldl ypA (yjp id g i)).1.length=(6+g.2).toNat:=by
   rw[yPJ];show((yaM (6+g.2)).1.set 0 _).length=_;rw[List.length_set,yk5 hge.2];show(List.replicate (6+g.2).toNat ([]:List Int)).length=_;rw[List.length_replicate]
  have h1:=ih (by omega) k hk;generalize (List.range n).foldl ypA (yjp id g i)=M at h1 hlen ⊢;show nth (M.1.set (n+6) [0]) k []=_;have:=yFa (l:=M.1) (i:=((n+6:Nat):Int)) (x:= [0]) (d:=([]:List Int)) (zkR (by omega)) hk;rw[Int.toNat_natCast]at this;rw[this,h1];by_cases h:((n+6:Nat):Int)=k
  ·rw[show(((n+6:Nat):Int)==k)=true from beq_iff_eq.2 h,zk2 (show 6≤k by omega),zky (show k<6+((n+1:Nat):Int)by omega)]; rfl
  ·rw[show(((n+6:Nat):Int)==k)=false from beq_eq_false_iff_ne.2 h,cond_false,show ltb k (6+((n+1:Nat):Int))=ltb k (6+(n:Int))by rw[Bool.eq_iff_iff,zka,zka]; omega]
theorem y2F (g:dG):EvV g (fun _ _=>0):=by
 refine⟨fun s _ _=> ?_,fun _ _ _ _ _ _=>rfl⟩;unfold ye9;rw[yoU]
 have: ∀l:List Nat,yfH (l.map (fun(_:Nat)=>(0:Int)))=0#64:=by
  intro l
  induction l with
  | nil=>rfl
  | cons x t ih=>rw[List.map_cons,yk8,ih]; decide
 rw[this]; rfl
theorem y2S {id:Int} {g:dG} (hg:ye g=true) (h1:1≤id) (h2:id≤60000) {i:Int} (i0:0≤i) (i1:i<g.1):yh (ycK id g) i=yV id g i:=by
 rw[yyO hg h1 h2];show nth ((List.range g.1.toNat).map (fun(i:Nat)=>yV id g i)) i yc=_;unfold nth;rw[zkJ (by rw[List.length_map,List.length_range]; omega),List.getElem_map,List.getElem_range,Int.toNat_of_nonneg i0]
theorem y6G {id:Int} {g:dG} (hg:ye g=true) (h1:1≤id) (h2:id≤60000):Ix 0 (fun _ _=>0) (ycK id g):=by
 have hw:=y3j hg h1 h2;have hge:=yj.1 hg;have e:=yyO hg h1 h2;have eg:(ycK id g).2.1=g:=by rw[e]
 have ed: ∀i,0≤i→i<g.1→yh (ycK id g) i=yV id g i:=fun i i0 i1=>y2S hg h1 h2 i0 i1
 refine⟨hw.1,hw.2.1,hw.2.2.1.1,hw.2.2.2.1,hw.2.2.2.2,by rw[e]; exact Int.le_refl _,y2F _,fun i s i0 i1 s0 s1 _=> ?_,fun i i0 i1=> ?_⟩
 ·rw[eg]at i1 s1
  rw[ed i i0 i1];obtain⟨_,_,n3⟩:=ylD id i hg;unfold ycm;rw[n3];show nth (yV id g i).1 (s+6) []=_;unfold yV;rw[yPK hg g.2.toNat (Nat.le_refl _) (s+6) (by omega),zk2 (show 6≤s+6 by omega),zky (show s+6<6+(g.2.toNat:Int)by omega)]; rfl
 ·rw[eg]at i1
  rw[ed i i0 i1,(ylD id i hg).2.2,e];show((([]:List dW).length:Nat):Int)≤1+(bif i== -1 then 0 else 0);rw[List.length_nil];cases(i== -1)<;>decide
def ycT (a:dA) (s:Int):Nat:=ydx (fun(i:Nat)=>yaw a s i) a.2.1.1.toNat
theorem yRj {k:Int} {V:Int→Int→Int} {a:dA} {s:Int} (h:Ix k V a) (s0:0≤s) (s1:s<a.2.1.2):yK a s=bif decide (ycT a s<2)then(ye9 V a.2.1.1 s,true)else([],false):=by
 rw[yW3 h.xc.1 h.xk h.xe h.xv s0 s1,(yU6 _ _).2];show(bif decide (2≤ycT a s)then([],false)else(ye9 V a.2.1.1 s,true))=_;by_cases h2:ycT a s<2
 ·rw[decide_eq_true h2,decide_eq_false (by omega)]; rfl
 ·rw[decide_eq_false h2,decide_eq_true (by omega)]; rfl
def yH8 (V:Int→Int→Int) (g:dG) (s:Int):List Int:=(List.range (g.1-1).toNat).map (fun(i:Nat)=>nth (ye9 V g.1 s) (ybP g s i) 0)
theorem y5J {k:Int} {V:Int→Int→Int} {a:dA} {s:Int} (h:Ix k V a) (s0:0≤s) (s1:s<a.2.1.2):yaj a.2.1 s=true:=yad.2 ⟨h.xc.1,s0,by omega⟩
theorem y4l {k:Int} {V:Int→Int→Int} {a:dA} {s:Int} (h:Ix k V a) (s0:0≤s) (s1:s<a.2.1.2):ydU a s=bif decide (ycT a s<2)then(yH8 V a.2.1 s,true)else([],false):=by
 unfold ydU yrA;rw[yE1 h,h.xb,y5J h s0 s1,yRj h s0 s1];cases decide (ycT a s<2)<;>rfl
def ye5 (id:Int) (g:dG) (G T L B i:Int):dS:=(id,G,i,g.1,g.2,T,L,B)
def yxo (id n:Int) (v:List Int) (s:dS):Prop:=yeV v=(s,true)∧s.1=id∧s.2.1.tmod 2=n
def yfW (id:Int) (f:Int→List Int):Prop:= ∃n s,(n=0∨n=1)∧yxo id n (f n) s
structure Wsup (id:Int) (g:dG) (G T L B Lf Bf:Int) (f:Int→Int→List Int) (fl:Int→Bool):Prop where
 u0: ∀i,0≤i→i<g.1→yH (ye5 id g G T L B i)=true
 u1: ∀i n s,0≤i→i<g.1→fl i=false→(n=0∨n=1)→yxo id n (f i n) s→s.2.2.1=i∧(s.2.1<G∨s=ye5 id g G T L B i)
 u2: ∀i,0≤i→i<g.1→i≠Lf→fl i=false∧yfW id (f i)
 u3: ∃i,0≤i∧i<g.1∧fl i=false∧f i (G.tmod 2)=yo (ye5 id g G T L B i)
 u4:(Lf=L∧Bf=B∧(Lf= -1∨(fl Lf=false∧yfW id (f Lf))))∨(0≤Lf∧Lf<g.1∧ ¬(fl Lf=false∧yfW id (f Lf))∧(L= -1∨L=Lf)∧Bf=0)
structure Wdat (g:dG) (T Q:Int) (R:Int→Int×List Int) (V:Int→Int→Int) (Lf Bf:Int) (f:Int→Int→List Int) (fl:Int→Bool) (bd:Int→Int→Bool):Prop where
 e:EvV g V
 q:0≤T∧T≤Q∧Q≤T+4∧Q≤60000
 d: ∀i s,0≤i→i<g.1→0≤s→s<g.2→fl i=false→(i≠Lf∨s<Bf)→bd i (s+6)=false→(∀q,T≤q→q<Q→(R q).1≠s)→f i (s+6)= [V s i]
 r: ∀q,T≤q→q<Q→ ∃i,0≤i∧i<g.1∧fl i=false∧f i (yg q)=yaf (q,R q)
 h: ∀i n r,0≤i→i<g.1→fl i=false→2≤n→n<6→yaL (f i n)=(r,true)→r.1<Q∧(T≤r.1→r.2=R r.1)
 v: ∀q,T≤q→q<Q→yaj g (R q).1=true∧((R q).2.length:Int)=g.1-1∧(R q).2.all isW=true
 l: ∀q,T≤q→q<Q→(∀p,q<p→p<Q→(R p).1≠(R q).1)→ ∀i,0≤i→i<g.1→V (R q).1 i=ycS (yk g (R q).1) g.1 (yaF (R q).2) (R q).2 i
 b: ∀i n,0≤i→i<g.1→fl i=false→bd i n=true→6≤n
theorem yyv {id:Int} {g:dG} {G T L B i:Int} (h:yH (ye5 id g G T L B i)=true):yxo id (G.tmod 2) (yo (ye5 id g G T L B i)) (ye5 id g G T L B i):=⟨yJN h,rfl,rfl⟩
theorem yWX {G:Int} (h:0≤G):G.tmod 2=0∨G.tmod 2=1:=by have:=yJB h; omega
theorem yfF {id:Int} {g:dG} {G T L B i:Int} (h:yH (ye5 id g G T L B i)=true):(0≤G∧G≤60000)∧ye g=true∧(1≤id∧id≤60000)∧(0≤T∧T≤60000)∧(-1≤L∧L≤g.1-1)∧(0≤B∧B≤g.2)∧(0≤L∨B=0):=by
 obtain⟨h1,h2,h3,h4,h5,h6,h7,h8⟩:=yyJ.1 h;exact⟨h3,h1,h2,h5,h6,h7,h8⟩
theorem y3c {id:Int} {g:dG} {G T L B i:Int} (h1:0≤G∧G≤60000) (h2:ye g=true) (h3:1≤id∧id≤60000) (h4:0≤T∧T≤60000) (h5: -1≤L∧L≤g.1-1) (h6:0≤B∧B≤g.2) (h7:0≤L∨B=0) (i0:0≤i) (i1:i<g.1):yH (ye5 id g G T L B i)=true :=
 yyJ.2 ⟨h2,h3,h1,⟨i0,by show i≤g.1-1; omega⟩,h4,h5,h6,h7⟩
theorem yHE {r:dN} (h:y9 r=true):yaL (yaf r)=(r,true):=by
 have hr:=yte.1 h;have ha:yJx (yaf r)=r:=by unfold yaf; rw[h]; rfl
 unfold yaL;rw[ha,h];unfold yaf;rw[h];show(bif leb 4 ((21322::r.1::r.2.1::(r.2.2.length:Int)::r.2.2).length:Int)&&((21322:Int)==21322&&((r.2.2.length:Int)==((21322::r.1::r.2.1::(r.2.2.length:Int)::r.2.2).length:Int)-4&&true))then(r,true)else(yNe,false))=(r,true);have e:((21322::r.1::r.2.1::(r.2.2.length:Int)::r.2.2).length:Int)=r.2.2.length+4:=by simp only[List.length_cons]; omega
 rw[e,zk2 (show(4:Int)≤r.2.2.length+4 by omega),show((r.2.2.length:Int)==(r.2.2.length:Int)+4-4)=true from beq_iff_eq.2 (by omega)]; rfl
theorem yMW {g:dG} {q s:Int} {d:List Int} (h0:0≤q) (h1:q≤60000) (hs:yaj g s=true) (hl:(d.length:Int)=g.1-1) (hd:d.all isW=true):y9 (q,s,d)=true:=by
 have h:=yad.1 hs;have hg:=yj.1 h.1;exact yte.2 ⟨⟨h0,h1⟩,⟨h.2.1,by show s≤7; omega⟩,⟨by show 2≤(d.length:Int); omega,by show(d.length:Int)≤4; omega⟩,hd⟩
theorem ygK {id:Int} {g:dG} {G T L B Lf Bf:Int} {f f':Int→Int→List Int} {fl:Int→Bool} (h:Wsup id g G T L B Lf Bf f fl) (hf: ∀i n,0≤i→i<g.1→fl i=false→(n=0∨n=1)→f' i n=f i n):Wsup id g G T L B Lf Bf f' fl:=by
 have ow: ∀i,0≤i→i<g.1→fl i=false→(yfW id (f' i)↔yfW id (f i)):=fun i i0 i1 hi =>
  ⟨fun⟨n,s,hn,hs⟩=>⟨n,s,hn,by rw[hf i n i0 i1 hi hn]at hs; exact hs⟩,fun⟨n,s,hn,hs⟩=>⟨n,s,hn,by rw[hf i n i0 i1 hi hn]; exact hs⟩⟩
 refine⟨h.u0,fun i n s i0 i1 hi hn hs=>h.u1 i n s i0 i1 hi hn (by rw[hf i n i0 i1 hi hn]at hs; exact hs),fun i i0 i1 hne=> ?_,?_,?_⟩
 ·obtain⟨h1,h2⟩:=h.u2 i i0 i1 hne
  exact⟨h1,(ow i i0 i1 h1).2 h2⟩
 ·obtain⟨i,i0,i1,hi,h2⟩:=h.u3
  exact⟨i,i0,i1,hi,by rw[hf i _ i0 i1 hi (yWX (yfF (h.u0 i i0 i1)).1.1)]; exact h2⟩
 ·rcases h.u4 with⟨h1,h2,h3⟩ | ⟨h1,h2,h3,h4⟩
  ·refine .inl ⟨h1,h2,?_⟩
   rcases h3 with h3 | ⟨h3,h4⟩
   ·exact .inl h3
   ·obtain⟨i,i0,i1,_⟩:=h.u3
    have:=(yfF (h.u0 i i0 i1)).2.2.2.2.1;by_cases hm:Lf= -1
    ·exact .inl hm
    ·exact .inr ⟨h3,(ow Lf (by omega) (by omega) h3).2 h4⟩
  ·exact .inr ⟨h1,h2,fun⟨h5,h6⟩=>h3 ⟨h5,(ow Lf h1 h2 h5).1 h6⟩,h4⟩
theorem yZE {g:dG} {T Q:Int} {R:Int→Int×List Int} {V:Int→Int→Int} {Lf Bf B2:Int} {f:Int→Int→List Int} {fl:Int→Bool} {bd:Int→Int→Bool} (h:Wdat g T Q R V Lf Bf f fl bd) (hb:B2≤Bf):Wdat g T Q R V Lf B2 f fl bd :=
 ⟨h.e,h.q,fun i s i0 i1 s0 s1 hi hl hb2 hj=>h.d i s i0 i1 s0 s1 hi (hl.imp id (fun h=>by omega)) hb2 hj,h.r,h.h,h.v,h.l,h.b⟩
theorem ygJ {g:dG} {T Q:Int} {R:Int→Int×List Int} {V:Int→Int→Int} {Lf Bf:Int} {f f':Int→Int→List Int} {fl:Int→Bool} {bd bd':Int→Int→Bool} (h:Wdat g T Q R V Lf Bf f fl bd)
  (hf: ∀i n,0≤i→i<g.1→fl i=false→2≤n→(f' i n=f i n∧bd' i n=bd i n)∨(∃q,T≤q∧q<Q∧n=(R q).1+6)∨(i=Lf∧Bf+6≤n∧6≤n)) (hb: ∀i n,0≤i→i<g.1→bd' i n=true→bd i n=true):Wdat g T Q R V Lf Bf f' fl bd':=by
 have sl: ∀i n,0≤i→i<g.1→fl i=false→2≤n→n<6→f' i n=f i n:=fun i n i0 i1 hi h2 h6=>by
  rcases hf i n i0 i1 hi h2 with h1 | ⟨q,q0,q1,e⟩ | h1
  ·exact h1.1
  ·have:=yad.1 (h.v q q0 q1).1; omega
  ·omega
 have hq:=h.q;refine⟨h.e,h.q,fun i s i0 i1 s0 s1 hi hl hb2 hj=> ?_,fun q q0 q1=> ?_,fun i n r i0 i1 hi h2 h6 hr=>h.h i n r i0 i1 hi h2 h6 (by rw[sl i n i0 i1 hi h2 h6]at hr; exact hr),h.v,h.l,fun i n i0 i1 hi hn=>h.b i n i0 i1 hi (hb i n i0 i1 hn)⟩
 ·rcases hf i (s+6) i0 i1 hi (by omega)with⟨h1,h2⟩ | ⟨q,q0,q1,e⟩ | h1
  ·rw[h1]; rw[h2]at hb2; exact h.d i s i0 i1 s0 s1 hi hl hb2 hj
  ·exact absurd (by omega) (hj q q0 q1)
  ·omega
 ·obtain⟨i,i0,i1,hi,e⟩:=h.r q q0 q1
  have:=ykZ (q:=q) (by omega);exact⟨i,i0,i1,hi,by rw[sl i _ i0 i1 hi this.1 this.2.1]; exact e⟩
theorem y56 {g:dG} {T Q:Int} {R:Int→Int×List Int} {V:Int→Int→Int} {Lf Bf q:Int} {f f':Int→Int→List Int} {fl:Int→Bool} {bd bd':Int→Int→Bool} (h:Wdat g T Q R V Lf Bf f fl bd) (q0:T≤q) (q1:q<Q)
  (hf: ∀i n,0≤i→i<g.1→fl i=false→2≤n→f' i n=f i n∨(n=yg q∧f' i n=yaf (q,R q))) (hb: ∀i n,0≤i→i<g.1→6≤n→bd' i n=bd i n) (hb2: ∀i n,0≤i→i<g.1→bd' i n=true→bd i n=true):Wdat g T Q R V Lf Bf f' fl bd':=by
 have hq:=h.q;have hv:=h.v q q0 q1;have ho:=yMW (q:=q) (by omega) (by omega) hv.1 hv.2.1 hv.2.2;have hsl:=ykZ (q:=q) (by omega);refine⟨h.e,h.q,fun i s i0 i1 s0 s1 hi hl hb3 hj=> ?_,fun p p0 p1=> ?_,fun i n r i0 i1 hi h2 h6 hr=> ?_,h.v,h.l,fun i n i0 i1 hi hn=>h.b i n i0 i1 hi (hb2 i n i0 i1 hn)⟩
 ·rcases hf i (s+6) i0 i1 hi (by omega)with h1 | ⟨h1,_⟩
  ·rw[h1]; rw[hb i (s+6) i0 i1 (by omega)]at hb3; exact h.d i s i0 i1 s0 s1 hi hl hb3 hj
  ·omega
 ·obtain⟨i,i0,i1,hi,e⟩:=h.r p p0 p1
  have hsp:=ykZ (q:=p) (by omega);refine⟨i,i0,i1,hi,?_⟩;rcases hf i _ i0 i1 hi hsp.1 with h1 | ⟨h1,h2⟩
  ·rw[h1]; exact e
  ·have:p=q:=by omega
   subst this; exact h2
 ·rcases hf i n i0 i1 hi h2 with h1 | ⟨_,h1⟩
  ·rw[h1]at hr; exact h.h i n r i0 i1 hi h2 h6 hr
  ·rw[h1,yHE ho]at hr
   have:=congrArg (fun x=>x.1) hr;simp only at this;subst this;exact⟨q1,fun _=>rfl⟩
def yZz (R:Int→Int×List Int) (Q s:Int) (d:List Int):Int→Int×List Int:=fun q=>bif q==Q then(s,d)else R q
theorem yyr (R:Int→Int×List Int) (Q s:Int) (d:List Int):yZz R Q s d Q=(s,d):=by unfold yZz; rw[beq_self_eq_true]; rfl
theorem ytf {R:Int→Int×List Int} {Q s q:Int} {d:List Int} (h:q<Q):yZz R Q s d q=R q:=by unfold yZz; rw[show(q==Q)=false from beq_eq_false_iff_ne.2 (by omega)]; rfl
theorem y0a {g:dG} {T Q:Int} {R:Int→Int×List Int} {V:Int→Int→Int} {Lf Bf s:Int} {d:List Int} {f f':Int→Int→List Int} {fl:Int→Bool} {bd bd':Int→Int→Bool} (h:Wdat g T Q R V Lf Bf f fl bd) (h3:Q≤T+3) (hQ:Q<60000) (hs:yaj g s=true) (hl:(d.length:Int)=g.1-1) (hd:d.all isW=true)
  (hf: ∀i n,0≤i→i<g.1→fl i=false→2≤n→f' i n=f i n∨(n=yg Q∧f' i n=yaf (Q,s,d))) (hb: ∀i n,0≤i→i<g.1→6≤n→bd' i n=bd i n) (hb2: ∀i n,0≤i→i<g.1→bd' i n=true→bd i n=true)
  (hx: ∃i,0≤i∧i<g.1∧fl i=false∧f' i (yg Q)=yaf (Q,s,d)):Wdat g T (Q+1) (yZz R Q s d) (ylP V g s d) Lf Bf f' fl bd':=by
 have hq:=h.q;have ho:=yMW (q:=Q) (by omega) (by omega) hs hl hd;have hsl:=ykZ (q:=Q) (by omega);refine⟨y3L h.e hs hl hd,by omega,fun i t i0 i1 s0 s1 hi hlv hb3 hj=> ?_,fun p p0 p1=> ?_,fun i n r i0 i1 hi h2 h6 hr=> ?_,fun p p0 p1=> ?_,fun p p0 p1 hp i i0 i1=> ?_,fun i n i0 i1 hi hn=>h.b i n i0 i1 hi (hb2 i n i0 i1 hn)⟩
 ·have hts:t≠s:=fun e=>hj Q (by omega) (by omega) (by rw[yyr]; exact e.symm)
  unfold ylP;rw[show(t==s)=false from beq_eq_false_iff_ne.2 hts,cond_false];rcases hf i (t+6) i0 i1 hi (by omega)with h1 | ⟨h1,_⟩
  ·rw[h1]; rw[hb i (t+6) i0 i1 (by omega)]at hb3
   exact h.d i t i0 i1 s0 s1 hi hlv hb3 (fun q q0 q1=>by have:=hj q q0 (by omega); rwa[ytf q1]at this)
  ·omega
 ·by_cases hpq:p=Q
  ·subst hpq; rw[yyr]; exact hx
  ·obtain⟨i,i0,i1,hi,e⟩:=h.r p p0 (by omega)
   have hsp:=ykZ (q:=p) (by omega);refine⟨i,i0,i1,hi,?_⟩;rw[ytf (show p<Q by omega)];rcases hf i _ i0 i1 hi hsp.1 with h1 | ⟨h1,h2⟩
   ·rw[h1]; exact e
   ·omega
 ·rcases hf i n i0 i1 hi h2 with h1 | ⟨_,h1⟩
  ·rw[h1]at hr
   obtain⟨g1,g2⟩:=h.h i n r i0 i1 hi h2 h6 hr;exact⟨by omega,fun ht=>by rw[ytf g1]; exact g2 ht⟩
  ·rw[h1,yHE ho]at hr
   have:=congrArg (fun x=>x.1) hr;simp only at this;subst this;exact⟨by show Q<Q+1; omega,fun _=>(yyr R Q s d).symm⟩
 ·by_cases hpq:p=Q
  ·subst hpq; rw[yyr]; exact⟨hs,hl,hd⟩
  ·rw[ytf (show p<Q by omega)]; exact h.v p p0 (by omega)
 ·by_cases hpq:p=Q
  ·subst hpq; rw[yyr]; unfold ylP; rw[beq_self_eq_true]; rfl
  ·have hne:s≠(R p).1:=fun e=>hp Q (by omega) (by omega) (by rw[yyr,ytf (show p<Q by omega)]; exact e)
   rw[ytf (show p<Q by omega)];unfold ylP;rw[show((R p).1==s)=false from beq_eq_false_iff_ne.2 (fun e=>hne e.symm),cond_false];exact h.l p p0 (by omega) (fun p2 h1 h2=>by have:=hp p2 h1 (by omega); rwa[ytf (show p2<Q by omega),ytf (show p<Q by omega)]at this) i i0 i1
theorem y6P {id:Int} {g:dG} {G T L B Lf Bf T2 L2 B2 Lf2:Int} {f f':Int→Int→List Int} {fl:Int→Bool} (hs:Wsup id g G T L B Lf Bf f fl) (ho: ∀i,0≤i→i<g.1→yH (ye5 id g (G+1) T2 L2 B2 i)=true)
  (hf: ∀i n,0≤i→i<g.1→fl i=false→f' i n=f i n∨(n=(G+1).tmod 2∧f' i n=yo (ye5 id g (G+1) T2 L2 B2 i)))
  (h2: ∀i,0≤i→i<g.1→i≠Lf2→fl i=false∧yfW id (f i)) (h4:Lf2=L2∨(L2= -1∧0≤Lf2∧Lf2<g.1∧fl Lf2=true)) (hB:0≤B2) :
  Wsup id g G T L B Lf Bf f' fl∨ ∃Bg,Bg≤B2∧Wsup id g (G+1) T2 L2 B2 Lf2 Bg f' fl:=by
 obtain⟨j,j0,j1,jf,_⟩:=hs.u3;have hG:=yfF (hs.u0 j j0 j1);have hL2:=yfF (ho j j0 j1);have hsl:=yWX (G:=G+1) (by omega);have hmod:(G+1).tmod 2≠G.tmod 2:=by rw[Int.tmod_eq_emod_of_nonneg (by omega),Int.tmod_eq_emod_of_nonneg (by omega)]; omega
 by_cases hx: ∃i,0≤i∧i<g.1∧fl i=false∧f' i ((G+1).tmod 2)=yo (ye5 id g (G+1) T2 L2 B2 i)
 ·right
  have ow: ∀i,0≤i→i<g.1→fl i=false→yfW id (f i)→yfW id (f' i):=fun i i0 i1 hi ⟨n,s,hn,hsv⟩=>by
   rcases hf i n i0 i1 hi with h | ⟨h,h1⟩
   ·exact⟨n,s,hn,by rw[h]; exact hsv⟩
   ·exact⟨n,_,hn,by rw[h1,h]; exact yyv (ho i i0 i1)⟩
  have a1: ∀i n s,0≤i→i<g.1→fl i=false→(n=0∨n=1)→yxo id n (f' i n) s→s.2.2.1=i∧(s.2.1<G+1∨s=ye5 id g (G+1) T2 L2 B2 i):=fun i n s i0 i1 hi hn hsv=>by
   rcases hf i n i0 i1 hi with h | ⟨h,h1⟩
   ·rw[h]at hsv
    obtain⟨g1,g2⟩:=hs.u1 i n s i0 i1 hi hn hsv;refine⟨g1,.inl ?_⟩;rcases g2 with g2 | g2
    ·omega
    ·rw[g2]; show G<G+1; omega
   ·rw[h1]at hsv
    have:=(yyv (ho i i0 i1)).1.symm.trans hsv.1;have:=congrArg (fun x=>x.1) this;simp only at this;subst this;exact⟨rfl,.inr rfl⟩
  have a2: ∀i,0≤i→i<g.1→i≠Lf2→fl i=false∧yfW id (f' i):=fun i i0 i1 hne=>by
   obtain⟨k1,k2⟩:=h2 i i0 i1 hne;exact⟨k1,ow i i0 i1 k1 k2⟩
  rcases h4 with h4 | ⟨h4,h5,h6,h7⟩
  ·by_cases hm:Lf2= -1
   ·exact⟨B2,Int.le_refl _,ho,a1,a2,hx,.inl ⟨h4,rfl,.inl hm⟩⟩
   ·by_cases hown:fl Lf2=false∧yfW id (f' Lf2)
    ·exact⟨B2,Int.le_refl _,ho,a1,a2,hx,.inl ⟨h4,rfl,.inr hown⟩⟩
    ·exact⟨0,hB,ho,a1,a2,hx,.inr ⟨by omega,by omega,hown,.inr h4.symm,rfl⟩⟩
  ·exact⟨0,hB,ho,a1,a2,hx,.inr ⟨h5,h6,(fun h=>by have:=h.1; rw[h7]at this; cases this),.inl h4,rfl⟩⟩
 ·left
  refine ygK hs (fun i n i0 i1 hi hn=> ?_);rcases hf i n i0 i1 hi with h | ⟨h,h1⟩
  ·exact h
  ·exact absurd ⟨i,i0,i1,hi,by rw[← h]; exact h1⟩ hx
def yq (a:dA) (i:Int):Bool:=(yh a i).2.2.1
def yA (a:dA) (i n:Int):Bool:=ya0 (yh a i) n
def Ch (a:dA) (f:Int→Int→List Int):Prop:= ∀i n,0≤i→i<a.2.1.1→0≤n→ynV (yh a i) n (f i n)
def TrD (n:Int) (v:List Int) (m x:dM):Prop:=(∀k w,0≤k→ynV x k w→ynV m k w∨(k=n∧w=v))∧x.2.2.1=m.2.2.1∧(∀k,k≠n→ya0 x k=ya0 m k)∧ ∀k,ya0 x k=true→ya0 m k=true
theorem yyw (n:Int) (v:List Int) (m:dM):TrD n v m m:=⟨fun _ _ _ h=> .inl h,rfl,fun _ _=>rfl,fun _ h=>h⟩
theorem y5e {n:Int} {v:List Int} {m x y:dM} (h:TrD n v m x) (g:TrD n v x y):TrD n v m y :=⟨fun k w k0 hw=>(g.1 k w k0 hw).elim (h.1 k w k0) .inr,g.2.1.trans h.2.1,fun k hk=>(g.2.2.1 k hk).trans (h.2.2.1 k hk),fun k hk=>h.2.2.2 k (g.2.2.2 k hk)⟩
theorem yZ6 (n:Int) (v:List Int) (m:dM):TrD n v m (yab m n v).1:=by
 refine⟨fun k w _ hw=>y4x hw,(yzZ m n v).2,fun k hk=> ?_,fun k hk=> ?_⟩
 ·cases hc:ybp m n v
  ·unfold yab; rw[hc]; rfl
  ·rw[yyP hc,show(k !=n)=true from bne_iff_ne.2 hk,Bool.and_true]
 ·cases hc:ybp m n v
  ·unfold yab at hk; rw[hc]at hk; exact hk
  ·rw[yyP hc,Bool.and_eq_true]at hk; exact hk.1
theorem yZD (n:Int) (v:List Int) (m:dM):TrD n v m (yet n v m):=by
 unfold yet;cases m.2.2.1
 ·exact yZ6 n v m
 ·exact yyw n v m
theorem yZ5 (n:Int) (v:List Int) {m:dM} (h:yx m=true):TrD n v m (yC m):=by
 refine⟨fun k w k0 hw=> .inl ?_,(yn6 m).2,fun k _=>yLh m k,fun k hk=>by rw[yLh]at hk; exact hk⟩;cases hf:m.2.2.1
 ·rw[yu9 h hf k0 hw]; exact yxV m k
 ·unfold yC at hw; rw[hf,Bool.not_true,Bool.and_false]at hw; exact hw
structure Trn (n:Int) (v:Int→List Int) (a r:dA):Prop where
 g:r.2.1=a.2.1
 c: ∀f',Ch r f'→ ∃f,Ch a f∧ ∀i m,0≤i→i<a.2.1.1→0≤m→f' i m=f i m∨(m=n∧f' i m=v i)
 f: ∀i,0≤i→i<a.2.1.1→yq r i=yq a i
 b: ∀i m,0≤i→i<a.2.1.1→m≠n→yA r i m=yA a i m
 d: ∀i m,0≤i→i<a.2.1.1→yA r i m=true→yA a i m=true
theorem y5f {n:Int} {v:Int→List Int} {a r:dA} (hg:r.2.1=a.2.1) (h: ∀i,0≤i→i<a.2.1.1→TrD n (v i) (yh a i) (yh r i)):Trn n v a r:=by
 refine⟨hg,fun f' hf'=> ?_,fun i i0 i1=>(h i i0 i1).2.1,fun i m i0 i1 hm=>(h i i0 i1).2.2.1 m hm,fun i m i0 i1 hm=>(h i i0 i1).2.2.2 m hm⟩
 classical
 refine⟨fun i m=>if ynV (yh a i) m (f' i m)then f' i m else ycm (yh a i) m,fun i m i0 i1 m0=> ?_,fun i m i0 i1 m0=> ?_⟩
 ·show ynV (yh a i) m (if ynV (yh a i) m (f' i m)then f' i m else ycm (yh a i) m)
  split
  ·assumption
  ·exact yxV _ _
 ·show f' i m=(if ynV (yh a i) m (f' i m)then f' i m else ycm (yh a i) m)∨_
  rcases(h i i0 i1).1 m (f' i m) m0 (hf' i m i0 (by rw[hg]; exact i1) m0)with h1 | h1
  ·left; rw[if_pos h1]
  ·exact .inr h1
def yyy (a:dA):Prop:=(a.2.2.1.length:Int)=a.2.1.1∧ ∀i,0≤i→i<a.2.1.1→yx (yh a i)=true
theorem yaJ {a:dA} (h:yF a):yyy a:=⟨h.1.2,fun _ i0 i1=>(yd6 h i0 i1).1⟩
theorem yTi {n:Int} {v:Int→List Int} {a M:dA} (hg:M.2.1=a.2.1) (hl:M.2.2.1.length=a.2.2.1.length) (ha:yyy a) (h: ∀i,0≤i→i<a.2.1.1→yh M i=yh a i∨yh M i=yet n (v i) (yh a i)):Trn n v a (yd M):=by
 refine y5f ((yQ (yaO M)).trans hg) fun i i0 i1=> ?_
 have hM:TrD n (v i) (yh a i) (yh M i)∧yx (yh M i)=true:=by
  rcases h i i0 i1 with e | e
  ·rw[e]; exact⟨yyw _ _ _,ha.2 i i0 i1⟩
  ·rw[e]; exact⟨yZD _ _ _,ymj (ha.2 i i0 i1)⟩
 cases hd:ya M
 ·obtain⟨_,_,k,_,h3,_⟩:=yTg hd
  rw[h3 i i0];cases ltb i k
  ·exact hM.1
  ·exact y5e hM.1 (yZ5 _ _ hM.2)
 ·rw[yti hd]; exact hM.1
theorem yJC {a:dA} (n:Int) (v:Int→List Int) (h:yyy a):Trn n v a (yd a):=yTi rfl rfl h (fun _ _ _=> .inl rfl)
theorem yUf {g:Int→dM→dM} {a r:dA} {n:Nat} (h:Adv g a r n) {i:Int} (i0:0≤i):yh r i=yh a i∨yh r i=g i (yh a i):=by
 obtain⟨_,_,k,_,h3,_⟩:=h;rw[h3 i i0];cases ltb i k
 ·exact .inl rfl
 ·exact .inr rfl
theorem ysZ {a:dA} (h:yyy a):Trn ((i64.wrap (a.2.2.2.2.2.2.2.1+1)).tmod 2) (fun i=>yo (ye5 a.1 a.2.1 (i64.wrap (a.2.2.2.2.2.2.2.1+1)) a.2.2.2.2.2.2.1 a.2.2.2.1 a.2.2.2.2.1 i)) a (yn a):=by
 unfold yn;have hc:=yn7 (one:=yah) (fun _ _=>yeY _ _ _ _) (List.range a.2.2.1.length) (yS a);have hl:((List.range a.2.2.1.length).foldl yah (yS a)).2.2.1.length=a.2.2.1.length:=yjx (one:=yah) (fun _ _=>ypH _ _ _ _) _ (yS a);refine yTi (yQ (b:=yS a) hc) hl h fun i i0 i1=> ?_
 cases hd:ya a
 ·exact yUf (a:=yS a) (y2Q (a:=yS a) hd) i0
 ·rw[yk3 (one:=yah) (fun _ _ h=>yow h _ _ _) _ (yS a) hd]; exact .inl rfl
theorem yNi {a:dA} (r:dN) (h:yyy a):Trn (yg r.1) (fun _=>yaf r) a (yr a r):=by
 unfold yr;have hc:=yn7 (one:=ybd r) (fun _ _=>yeY _ _ _ _) (List.range a.2.2.1.length) a;refine yTi (yQ hc) (yjx (ylI r) _ _) h fun i i0 i1=> ?_
 cases hd:ya a
 ·exact yUf (y30 r hd) i0
 ·rw[yk3 (one:=ybd r) (fun _ _ h=>yow h _ _ _) _ a hd]; exact .inl rfl
theorem yTh {a:dA} (s:Int) (d:List Int) (h:yyy a):Trn (yu s) (fun i=> [ycS (yk a.2.1 s) a.2.1.1 (yaF d) d i]) a (yI a s d):=by
 refine y5f (yQ (yeo a s d)) fun i i0 i1=> ?_
 cases hd:ya a
 ·rcases yUf (yQn s d hd) i0 with e | e
  ·rw[e]; exact yyw _ _ _
  ·rw[e]
   unfold yjc;cases yag a.2.2.2.1 a.2.2.2.2.1 i s (yh a i)
   ·exact yyw _ _ _
   ·exact yZ6 _ _ _
 ·have:yI a s d=a:=yk3 (one:=ybe (yk a.2.1 s) a.2.1.1 s d) (fun _ _ h=>yEs _ _ _ _ _ h) _ a hd
  rw[this]; exact yyw _ _ _
def Al (L N:Int) (fl0 fl:Int→Bool) (Lf:Int):Prop:=(Lf=L∧ ∀i,0≤i→i<N→fl i=fl0 i)∨(0≤Lf∧Lf<N∧(L= -1∨L=Lf)∧ ∀i,0≤i→i<N→fl i=(fl0 i||i==Lf))
def Eq0 (a:dA) (fl:Int→Bool) (Lf:Int):Prop:=Lf=a.2.2.2.1∧ ∀i,0≤i→i<a.2.1.1→fl i=yq a i
theorem yDZ {L N Lf i:Int} {fl0 fl:Int→Bool} (h:Al L N fl0 fl Lf) (i0:0≤i) (i1:i<N) (hi:fl i=false):fl0 i=false:=by
 rcases h with⟨_,h⟩ | ⟨_,_,_,h⟩
 ·rw[← h i i0 i1]; exact hi
 ·rw[h i i0 i1,Bool.or_eq_false_iff]at hi; exact hi.1
theorem y6e {L N Lf i:Int} {fl0 fl:Int→Bool} (h:Al L N fl0 fl Lf) (hb: ∀i,0≤i→i<N→fl0 i=true→i=L) (i0:0≤i) (i1:i<N) (hi:i≠Lf):fl i=false:=by
 cases hf:fl0 i
 ·rcases h with⟨_,h⟩ | ⟨_,_,_,h⟩
  ·rw[h i i0 i1]; exact hf
  ·rw[h i i0 i1,hf,show(i==Lf)=false from beq_eq_false_iff_ne.2 hi]; rfl
 ·have:=hb i i0 i1 hf
  rcases h with⟨h,_⟩ | ⟨_,_,h,_⟩<;>omega
theorem yyI {L N Lf:Int} {fl0 fl1 fl:Int→Bool} (h:Al L N fl1 fl Lf) (e: ∀i,0≤i→i<N→fl1 i=fl0 i):Al L N fl0 fl Lf :=
 h.imp (fun⟨h1,h2⟩=>⟨h1,fun i i0 i1=>(h2 i i0 i1).trans (e i i0 i1)⟩) (fun⟨h1,h2,h3,h4⟩=>⟨h1,h2,h3,fun i i0 i1=>by rw[h4 i i0 i1,e i i0 i1]⟩)
def WW (K id:Int) (g:dG) (V:Int→Int→Int) (Lf:Int) (f:Int→Int→List Int) (fl:Int→Bool) (bd:Int→Int→Bool):Prop:= ∃(G T L B Q:Int) (R:Int→Int×List Int) (Bf:Int),G≤K∧Q≤K∧Wsup id g G T L B Lf Bf f fl∧Wdat g T Q R V Lf Bf f fl bd
theorem y37 {K J id:Int} {g:dG} {V:Int→Int→Int} {Lf:Int} {f:Int→Int→List Int} {fl:Int→Bool} {bd:Int→Int→Bool} (h:WW K id g V Lf f fl bd) (hj:K≤J):WW J id g V Lf f fl bd:=by
 obtain⟨G,T,L,B,Q,R,Bf,h1,h2,h3⟩:=h;exact⟨G,T,L,B,Q,R,Bf,Int.le_trans h1 hj,Int.le_trans h2 hj,h3⟩
structure Mk (a:dA):Prop where
 k:yyy a
 g:ye a.2.1=true
 i:1≤a.1∧a.1≤60000
 l: -1≤a.2.2.2.1∧a.2.2.2.1≤a.2.1.1-1
 b:0≤a.2.2.2.2.1∧a.2.2.2.2.1≤a.2.1.2
 z:0≤a.2.2.2.1∨a.2.2.2.2.1=0
 t:0≤a.2.2.2.2.2.2.1∧a.2.2.2.2.2.2.1≤60000
 n:0≤a.2.2.2.2.2.2.2.1∧a.2.2.2.2.2.2.2.1<60000
theorem yX6 {a:dA} (h:yX a) (hk:yF a) (hg:a.2.2.2.2.2.2.2.1<60000):Mk a:=by
 obtain⟨c1,c2,c3,c4,c5,c6,c7,c8,c9,c10,c11⟩:=h;refine⟨yaJ hk,c1,c2,c4,c5,?_,c7,c10,hg⟩;by_cases e:a.2.2.2.1= -1
 ·exact .inr (c6 e)
 ·exact .inl (by omega)
theorem yU7 {a:dA} (h:Mk a) {i:Int} (i0:0≤i) (i1:i<a.2.1.1):yH (ye5 a.1 a.2.1 (a.2.2.2.2.2.2.2.1+1) a.2.2.2.2.2.2.1 a.2.2.2.1 a.2.2.2.2.1 i)=true:=by
 have:=h.n;exact y3c (by omega) h.g h.i h.t h.l h.b h.z i0 i1
theorem yL1 {a:dA} {T L B Q Lf Lf2:Int} {R:Int→Int×List Int} {V:Int→Int→Int} {f':Int→Int→List Int} {fl:Int→Bool} (hm:Mk a) (hc:Ch (yn a) f') (hfl: ∀i,0≤i→i<a.2.1.1→fl i=false→yq a i=false)
  (old: ∀f,Ch a f→ ∃Bf,Wsup a.1 a.2.1 a.2.2.2.2.2.2.2.1 T L B Lf Bf f fl∧Wdat a.2.1 T Q R V Lf Bf f fl (yA a))
  (new: ∀f,Ch a f→Wdat a.2.1 a.2.2.2.2.2.2.1 Q R V Lf2 a.2.2.2.2.1 f fl (yA a))
  (h2: ∀f,Ch a f→ ∀i,0≤i→i<a.2.1.1→i≠Lf2→fl i=false∧yfW a.1 (f i)) (h4:Lf2=a.2.2.2.1∨(a.2.2.2.1= -1∧0≤Lf2∧Lf2<a.2.1.1∧fl Lf2=true)) :
  (∃Bf,Wsup a.1 a.2.1 a.2.2.2.2.2.2.2.1 T L B Lf Bf f' fl∧Wdat a.2.1 T Q R V Lf Bf f' fl (yA (yn a))) ∨
   ∃Bf,Wsup a.1 a.2.1 (a.2.2.2.2.2.2.2.1+1) a.2.2.2.2.2.2.1 a.2.2.2.1 a.2.2.2.2.1 Lf2 Bf f' fl∧Wdat a.2.1 a.2.2.2.2.2.2.1 Q R V Lf2 Bf f' fl (yA (yn a)):=by
 have ht:=ysZ hm.k;have hn:=hm.n;rw[wq (a.2.2.2.2.2.2.2.1+1) (by omega) (by omega)]at ht;obtain⟨f,hf,hff⟩:=ht.c f' hc;obtain⟨Bf,o1,o2⟩:=old f hf;have hsl:=yJB (g:=a.2.2.2.2.2.2.2.1+1) (by omega)
 have hf0: ∀i n,0≤i→i<a.2.1.1→fl i=false→2≤n→f' i n=f i n∧yA (yn a) i n=yA a i n:=fun i n i0 i1 hi h2=>by
  rcases hff i n i0 i1 (by omega)with h | ⟨h,_⟩
  ·exact⟨h,ht.b i n i0 i1 (by omega)⟩
  ·omega
 have dat: ∀{T Q Lf Bf:Int},Wdat a.2.1 T Q R V Lf Bf f fl (yA a)→Wdat a.2.1 T Q R V Lf Bf f' fl (yA (yn a)):=fun h =>
  ygJ h (fun i n i0 i1 hi h2=> .inl (hf0 i n i0 i1 hi h2)) (fun i n i0 i1 hb=>ht.d i n i0 i1 hb)
 have hff2: ∀i n,0≤i→i<a.2.1.1→fl i=false→0≤n→f' i n=f i n∨(n=(a.2.2.2.2.2.2.2.1+1).tmod 2∧f' i n=yo (ye5 a.1 a.2.1 (a.2.2.2.2.2.2.2.1+1) a.2.2.2.2.2.2.1 a.2.2.2.1 a.2.2.2.2.1 i)):=fun i n i0 i1 _ n0=>hff i n i0 i1 n0
 obtain⟨F,hF⟩: ∃F:Int→Int→List Int,F=fun i n=>if 0≤n then f' i n else f i n:=⟨_,rfl⟩
 have hFe: ∀i n,0≤n→F i n=f' i n:=fun i n n0=>by rw[hF]; exact if_pos n0
 have hw:=y6P (T2:=a.2.2.2.2.2.2.1) (L2:=a.2.2.2.1) (B2:=a.2.2.2.2.1) (f':=F) o1 (fun i i0 i1=>yU7 hm i0 i1) (fun i n i0 i1 hi=>by
  by_cases n0:0≤n
  ·rw[hFe i n n0]; exact hff2 i n i0 i1 hi n0
  ·left; rw[hF]; exact if_neg n0) (h2 f hf) h4 hm.b.1
 have back: ∀{G T L B Lf Bf:Int},Wsup a.1 a.2.1 G T L B Lf Bf F fl→Wsup a.1 a.2.1 G T L B Lf Bf f' fl:=fun h=>ygK h (fun i n i0 i1 _ hn=>(hFe i n (by omega)).symm)
 rcases hw with hw | ⟨Bg,hg,hw⟩
 ·exact .inl ⟨Bf,back hw,dat o2⟩
 ·exact .inr ⟨Bg,back hw,dat (yZE (new f hf) hg)⟩
theorem yZ0 {a:dA} {Q Lf:Int} {R:Int→Int×List Int} {V:Int→Int→Int} {f':Int→Int→List Int} {fl:Int→Bool} (hm:Mk a) (hu:ya (yn a)=false) (hx: ∀i,0≤i→i<a.2.1.1→2≤(yh a i).1.length∧(yh a i).2.1.length<60) (hb: ∀i,0≤i→i<a.2.1.1→yq a i=true→i=a.2.2.2.1)
  (hc:Ch (yn a) f') (hal:Al a.2.2.2.1 a.2.1.1 (yq a) fl Lf)
  (base: ∀f,Ch a f→ ∀i n s,0≤i→i<a.2.1.1→yq a i=false→(n=0∨n=1)→yxo a.1 n (f i n) s→s.2.2.1=i∧s.2.1≤a.2.2.2.2.2.2.2.1)
  (new: ∀f,Ch a f→Wdat a.2.1 a.2.2.2.2.2.2.1 Q R V Lf a.2.2.2.2.1 f fl (yA a)) (hz:a.2.2.2.1≠ -1→yq a a.2.2.2.1=true→a.2.2.2.2.1=0) :
  ∃Bf,((Eq0 a fl Lf→Bf=a.2.2.2.2.1)∧(Eq0 a fl Lf→Lf≠ -1→fl Lf=false→yfW a.1 (f' Lf)))∧Wsup a.1 a.2.1 (a.2.2.2.2.2.2.2.1+1) a.2.2.2.2.2.2.1 a.2.2.2.1 a.2.2.2.2.1 Lf Bf f' fl∧Wdat a.2.1 a.2.2.2.2.2.2.1 Q R V Lf Bf f' fl (yA (yn a)):=by
 have ht:=ysZ hm.k;have hn:=hm.n;have hlen:=hm.k.1;have hg3:=yj.1 hm.g;have hw:i64.wrap (a.2.2.2.2.2.2.2.1+1)=a.2.2.2.2.2.2.2.1+1:=wr (by omega) (by omega);have hsl:=yJB (g:=a.2.2.2.2.2.2.2.1+1) (by omega)
 have top: ∀i,0≤i→i<a.2.1.1→yq a i=false→f' i ((a.2.2.2.2.2.2.2.1+1).tmod 2)=yo (ye5 a.1 a.2.1 (a.2.2.2.2.2.2.2.1+1) a.2.2.2.2.2.2.1 a.2.2.2.1 a.2.2.2.2.1 i):=fun i i0 i1 hi=>by
  have h1:=hc i ((a.2.2.2.2.2.2.2.1+1).tmod 2) i0 (by rw[ht.g]; exact i1) hsl.1;have hmem:=hm.k.2 i i0 i1;obtain⟨x1,x2⟩:=hx i i0 i1;have hi':(yh a i).2.2.1=false:=hi
  have e:yh (yn a) i=yC (yet ((a.2.2.2.2.2.2.2.1+1).tmod 2) (yo (ye5 a.1 a.2.1 (a.2.2.2.2.2.2.2.1+1) a.2.2.2.2.2.2.1 a.2.2.2.1 a.2.2.2.2.1 i)) (yh a i)):=by
   rw[yRn hu i0 (by omega)];show yC (yet ((i64.wrap (a.2.2.2.2.2.2.2.1+1)).tmod 2) (yo (ye5 a.1 a.2.1 (i64.wrap (a.2.2.2.2.2.2.2.1+1)) a.2.2.2.2.2.2.1 a.2.2.2.1 a.2.2.2.2.1 i)) (yh a i))=_;rw[hw]
  rw[e]at h1;rw[yu9 (ymj hmem) ((yzz _ _ _).trans hi') hsl.1 h1];have hcw:=yqS (n:=(a.2.2.2.2.2.2.2.1+1).tmod 2) hmem hi' (zj6.2 (by omega)) (yMJ (ye5 a.1 a.2.1 (a.2.2.2.2.2.2.2.1+1) a.2.2.2.2.2.2.1 a.2.2.2.1 a.2.2.2.2.1 i)) x2;unfold yet;rw[hi',cond_false,yn3 hcw,beq_self_eq_true]; rfl
 rw[hw]at ht;obtain⟨f,hf,hff⟩:=ht.c f' hc
 have own: ∀i,0≤i→i<a.2.1.1→fl i=false→yfW a.1 (f' i):=fun i i0 i1 hi =>
  ⟨(a.2.2.2.2.2.2.2.1+1).tmod 2,_,yWX (by omega),by rw[top i i0 i1 (yDZ hal i0 i1 hi)]; exact yyv (yU7 hm i0 i1)⟩
 have nef: ∀i,0≤i→i<a.2.1.1→i≠Lf→fl i=false:=fun i i0 i1 hne=>y6e hal hb i0 i1 hne
 have two: ∃i,0≤i∧i<a.2.1.1∧i≠Lf:=by
  by_cases h:Lf=0
  ·exact⟨1,by omega,by omega,by omega⟩
  ·exact⟨0,by omega,by omega,fun e=>h e.symm⟩
 have dat:Wdat a.2.1 a.2.2.2.2.2.2.1 Q R V Lf a.2.2.2.2.1 f' fl (yA (yn a)) :=
  ygJ (new f hf) (fun i n i0 i1 hi h2=> .inl (by
   rcases hff i n i0 i1 (by omega)with h | ⟨h,_⟩
   ·exact⟨h,ht.b i n i0 i1 (by omega)⟩
   ·omega)) (fun i n i0 i1 hb=>ht.d i n i0 i1 hb)
 have mk: ∀Bf,((Lf=a.2.2.2.1∧Bf=a.2.2.2.2.1∧(Lf= -1∨(fl Lf=false∧yfW a.1 (f' Lf))))∨(0≤Lf∧Lf<a.2.1.1∧ ¬(fl Lf=false∧yfW a.1 (f' Lf))∧(a.2.2.2.1= -1∨a.2.2.2.1=Lf)∧Bf=0))→Wsup a.1 a.2.1 (a.2.2.2.2.2.2.2.1+1) a.2.2.2.2.2.2.1 a.2.2.2.1 a.2.2.2.2.1 Lf Bf f' fl:=fun Bf h4=>by
  refine⟨fun i i0 i1=>yU7 hm i0 i1,fun i n s i0 i1 hi hn2 hsv=> ?_,fun i i0 i1 hne=>⟨nef i i0 i1 hne,own i i0 i1 (nef i i0 i1 hne)⟩,?_,h4⟩
  ·have hi':=yDZ hal i0 i1 hi
   by_cases hns:n=(a.2.2.2.2.2.2.2.1+1).tmod 2
   ·subst hns
    rw[top i i0 i1 hi']at hsv;have:=congrArg (fun x=>x.1) ((yyv (yU7 hm i0 i1)).1.symm.trans hsv.1);simp only at this;subst this;exact⟨rfl,.inr rfl⟩
   ·rcases hff i n i0 i1 (by omega)with h | ⟨h,_⟩
    ·rw[h]at hsv
     obtain⟨b1,b2⟩:=base f hf i n s i0 i1 hi' hn2 hsv;exact⟨b1,.inl (by omega)⟩
    ·exact absurd h hns
  ·obtain⟨i,i0,i1,hne⟩:=two
   exact⟨i,i0,i1,nef i i0 i1 hne,top i i0 i1 (yDZ hal i0 i1 (nef i i0 i1 hne))⟩
 have hl:=hm.l;have ow2:Eq0 a fl Lf→Lf≠ -1→fl Lf=false→yfW a.1 (f' Lf):=fun h h5 h6=>own Lf (by have:=h.1; omega) (by have:=h.1; omega) h6
 rcases hal with⟨h1,h2⟩ | ⟨h1,h2,h3,h4⟩
 ·by_cases hne:Lf= -1
  ·exact⟨_,⟨fun _=>rfl,ow2⟩,mk _ (.inl ⟨h1,rfl,.inl hne⟩),dat⟩
  ·rcases Bool.eq_false_or_eq_true (fl Lf)with hf0 | hf0
   ·refine⟨0,⟨fun h=> ?_,ow2⟩,mk 0 (.inr ⟨by omega,by omega,(fun h=>by have:=h.1; rw[hf0]at this; cases this),.inr h1.symm,rfl⟩),yZE dat hm.b.1⟩
    rw[h.2 Lf (by omega) (by omega),h1]at hf0;exact(hz (by omega) hf0).symm
   ·exact⟨_,⟨fun _=>rfl,ow2⟩,mk _ (.inl ⟨h1,rfl,.inr ⟨hf0,own Lf (by omega) (by omega) hf0⟩⟩),dat⟩
 ·have ht:fl Lf=true:=by rw[h4 Lf h1 h2,beq_self_eq_true,Bool.or_true]
  refine⟨0,⟨fun h=> ?_,ow2⟩,mk 0 (.inr ⟨h1,h2,fun h=> ?_,h3,rfl⟩),yZE dat hm.b.1⟩
  ·rw[h.2 Lf h1 h2,h.1]at ht
   exact(hz (by have:=h.1; omega) ht).symm
  ·have:=h.1
   rw[ht]at this; cases this
def yKY (R:Int→Int×List Int) (B0:Int) (V:Int→Int→Int) (a:dA):Prop:=B0≤a.2.2.2.2.1∧ ∀f fl Lf,Ch a f→Al a.2.2.2.1 a.2.1.1 (yq a) fl Lf→ ∃Bf,((Eq0 a fl Lf→Bf=B0)∧(Eq0 a fl Lf→Lf≠ -1→fl Lf=false→yfW a.1 (f Lf)))∧Wsup a.1 a.2.1 a.2.2.2.2.2.2.2.1 a.2.2.2.2.2.2.1 a.2.2.2.1 B0 Lf Bf f fl∧Wdat a.2.1 a.2.2.2.2.2.2.1 a.2.2.2.2.2.1 R V Lf Bf f fl (yA a)
def Rob (B0:Int) (V:Int→Int→Int) (a:dA):Prop:= ∃R,yKY R B0 V a
def Dd (K:Int) (VS:(Int→Int→Int)→Prop) (r:dA):Prop:= ∀f fl Lf,Ch r f→Al r.2.2.2.1 r.2.1.1 (yq r) fl Lf→ ∃V,VS V∧WW K r.1 r.2.1 V Lf f fl (yA r)
theorem ys7 {K J:Int} {VS WS:(Int→Int→Int)→Prop} {r:dA} (h:Dd K VS r) (hj:K≤J) (hv: ∀V,VS V→WS V):Dd J WS r:=fun f fl Lf hf hal=>by
 obtain⟨V,h1,h2⟩:=h f fl Lf hf hal;exact⟨V,hv V h1,y37 h2 hj⟩
structure Nb (a:dA):Prop where
 n:a.2.2.2.1≠ -1→ ∀i s,0≤i→i<a.2.1.1→i≠a.2.2.2.1→0≤s→s<a.2.2.2.2.1→yA a i (s+6)=false
 z:a.2.2.2.1≠ -1→yq a a.2.2.2.1=true→a.2.2.2.2.1=0
structure Lv (K:Int) (V:Int→Int→Int) (a:dA):Prop where
 x:Ix K V a
 r: ∃B0,Rob B0 V a
 n:Nb a
theorem ytd {K J:Int} {V:Int→Int→Int} {a:dA} (h:Lv K V a) (hj:K≤J):Lv J V a:=⟨yIt h.x hj,h.r,h.n⟩
theorem y1Y {K:Int} {V:Int→Int→Int} {a:dA} (h:Ix K V a) {i:Int} (i0:0≤i) (i1:i<a.2.1.1) (hf:yq a i=true):i=a.2.2.2.1:=by
 rcases(yd6 h.xk i0 i1).2.2 hf with e | e
 ·exact e
 ·rw[h.xb]at e; cases e
theorem y4n {K:Int} {V:Int→Int→Int} {a:dA} (h:Ix K V a) {i:Int} (i0:0≤i) (i1:i<a.2.1.1):2≤(yh a i).1.length∧(yh a i).2.1.length<60:=by
 have hg:=yj.1 h.xc.1;have h1:=(yd6 h.xk i0 i1).2.1;have h2:=h.xn i i0 i1;have c:=h.xc;unfold yX at c;have h3:(bif i==a.2.2.2.1 then a.2.2.2.2.1 else 0)≤8:=by cases(i==a.2.2.2.1)<;>simp only[cond_true,cond_false]<;>omega
 omega
theorem yM5 {a:dA} {f:Int→Int→List Int} (h:yyy a) (hf:Ch (yd a) f):Ch a f:=fun i n i0 i1 n0=>by
 have hg:(yd a).2.1=a.2.1:=yQ (yaO a);have h1:=hf i n i0 (by rw[hg]; exact i1) n0;cases hd:ya a
 ·rcases yUf (yTg hd) i0 with e | e
  ·rw[e]at h1; exact h1
  ·rw[e]at h1
   rcases(yZ5 (-1) [] (h.2 i i0 i1)).1 n _ n0 h1 with h2 | h2
   ·exact h2
   ·omega
 ·rw[yti hd]at h1; exact h1
theorem yW1 {K T Lf Bf:Int} {R:Int→Int×List Int} {V:Int→Int→Int} {b:dA} {f:Int→Int→List Int} {fl:Int→Bool} (hix:Ix K V b) (hu:ya (yd b)=false) (hf:Ch (yd b) f) (hfl: ∀i,0≤i→i<b.2.1.1→fl i=false→yq b i=false) (hL:Lf=b.2.2.2.1∨b.2.2.2.1= -1)
  (old:Wdat b.2.1 T b.2.2.2.2.2.1 R V Lf Bf f fl (yA b)):Wdat b.2.1 b.2.2.2.2.2.1 b.2.2.2.2.2.1 R V Lf b.2.2.2.2.1 f fl (yA (yd b)):=by
 have ok:=yaJ hix.xk;have ts:=yJC (-1) (fun _=> []) ok;have hlen:=ok.1;have q:=old.q;refine⟨old.e,by omega,fun i s i0 i1 s0 s1 hi hl hb _=> ?_,fun q q0 q1=>by omega,fun i n r i0 i1 hi h2 h6 hr=> ?_,fun q q0 q1=>by omega,fun q q0 q1=>by omega,fun i n i0 i1 hi hn=>old.b i n i0 i1 hi (ts.d i n i0 i1 hn)⟩
 ·have hfi:(yh b i).2.2.1=false:=hfl i i0 i1 hi
  have hp:=hf i (s+6) i0 (by rw[ts.g]; exact i1) (by omega);rw[yJA hu i0 (by omega)]at hp;rw[yu9 (ok.2 i i0 i1) hfi (by omega) hp];refine hix.xv i s i0 i1 s0 s1 ?_;have hb2:ya0 (yh b i) (s+6)=false:=by rw[← hb]; exact(ts.b i (s+6) i0 i1 (by omega)).symm
  unfold yaw yag;rw[hfi,hb2]
  have:(i !=b.2.2.2.1||ltb s b.2.2.2.2.1)=true:=by
   rw[Bool.or_eq_true,bne_iff_ne,zka];rcases hL with e | e<;>omega
  rw[this]; rfl
 ·obtain⟨h1,h3⟩:=old.h i n r i0 i1 hi h2 h6 hr
  exact⟨h1,fun h=>by omega⟩
theorem y3W {K:Int} {V:Int→Int→Int} {b:dA} (h:Ix K V b) (hk:K<60000):Mk (yT (yd b)):=by
 have hc:=yaO b;have hk2:=yjd h.xk;have:=h.xg;have e:=yr8 hc
 have hx:yX (yT (yd b)):=by
  have c:=yC1 hc h.xc;obtain⟨c1,c2,c3,c4,c5,c6,c7,c8,c9,c10,c11⟩:=c;refine⟨c1,c2,c3,c4,c5,c6,⟨?_,?_⟩,⟨Int.le_refl _,c8.2⟩,?_,c10,c11⟩
  ·show 0≤(yd b).2.2.2.2.2.1; omega
  ·show(yd b).2.2.2.2.2.1≤60000; omega
  ·show(yd b).2.2.2.2.2.1≤(yd b).2.2.2.2.2.1+4; omega
 exact yX6 hx hk2 (by show(yd b).2.2.2.2.2.2.2.1<60000; omega)
structure CoreEq (a b:dA):Prop where
 i:a.1=b.1
 g:a.2.1=b.2.1
 l:a.2.2.2.1=b.2.2.2.1
 u:a.2.2.2.2.1=b.2.2.2.2.1
 s:a.2.2.2.2.2.1=b.2.2.2.2.2.1
 t:a.2.2.2.2.2.2.1=b.2.2.2.2.2.2.1
 e:a.2.2.2.2.2.2.2.1=b.2.2.2.2.2.2.2.1
theorem ybq {a b:dA} (h:yy a=yy b):CoreEq a b:=⟨yM6 h,yQ h,yfy h,ycR h,yfY h,yXO h,yr8 h⟩
theorem yUi {K T L B Lf:Int} {R:Int→Int×List Int} {V:Int→Int→Int} {b:dA} {f':Int→Int→List Int} {fl:Int→Bool} (hix:Ix K V b) (hk:K<60000) (hc:Ch (ym b) f') (hfl: ∀i,0≤i→i<b.2.1.1→fl i=false→yq b i=false) (hL:Lf=b.2.2.2.1∨(b.2.2.2.1= -1∧0≤Lf∧Lf<b.2.1.1∧fl Lf=true))
  (old: ∀f,Ch b f→ ∃Bf,Wsup b.1 b.2.1 b.2.2.2.2.2.2.2.1 T L B Lf Bf f fl∧Wdat b.2.1 T b.2.2.2.2.2.1 R V Lf Bf f fl (yA b)):WW (K+1) b.1 b.2.1 V Lf f' fl (yA (ym b)):=by
 have ok:=yaJ hix.xk;have hg:=hix.xg;have hs:=hix.xs;have ts:=yJC (-1) (fun _=> []) ok
 have sy: ∀f,Ch (yd b) f→ ∃Bf,Wsup b.1 b.2.1 b.2.2.2.2.2.2.2.1 T L B Lf Bf f fl∧Wdat b.2.1 T b.2.2.2.2.2.1 R V Lf Bf f fl (yA (yd b)):=fun f hf=>by
  obtain⟨Bf,h1,h2⟩:=old f (yM5 ok hf);exact⟨Bf,h1,ygJ h2 (fun i n i0 i1 hi hn=> .inl ⟨rfl,ts.b i n i0 i1 (by omega)⟩) (fun i n i0 i1 h=>ts.d i n i0 i1 h)⟩
 have ce:=ybq (yaO b);cases hu:ya (yd b)
 ·have e:ym b=yn (yT (yd b)):=by unfold ym; rw[hu]; rfl
  rw[e]at hc ⊢;have hm:=y3W hix hk;obtain⟨c1,c2,c3,c4,c5,c6,c7⟩:=ce;have hC: ∀f,Ch (yT (yd b)) f→Ch (yd b) f:=fun f hf=>hf
  have d0: ∀f,Ch (yd b) f→Wdat b.2.1 b.2.2.2.2.2.1 b.2.2.2.2.2.1 R V Lf b.2.2.2.2.1 f fl (yA (yd b)):=fun f hf=>by
   obtain⟨Bf,h1,h2⟩:=old f (yM5 ok hf);exact yW1 hix hu hf hfl (hL.imp id (fun h=>h.1)) h2
  have hT:=yL1 (a:=yT (yd b)) (T:=T) (L:=L) (B:=B) (Q:=b.2.2.2.2.2.1) (Lf:=Lf) (Lf2:=Lf) (R:=R) (V:=V) (fl:=fl) hm hc (fun i i0 i1 hi=>by
    have i1':i<b.2.1.1:=by rw[← c2]; exact i1
    exact(ts.f i i0 i1').trans (hfl i i0 i1' hi)) (fun f hf=>by
    show ∃Bf,Wsup (yd b).1 (yd b).2.1 (yd b).2.2.2.2.2.2.2.1 T L B Lf Bf f fl∧Wdat (yd b).2.1 T b.2.2.2.2.2.1 R V Lf Bf f fl (yA (yd b))
    rw[c1,c2,c7]; exact sy f hf) (fun f hf=>by
    show Wdat (yd b).2.1 (yd b).2.2.2.2.2.1 b.2.2.2.2.2.1 R V Lf (yd b).2.2.2.2.1 f fl (yA (yd b))
    rw[c2,c4,c5]; exact d0 f hf) (fun f hf i i0 i1 hne=>by
    obtain⟨Bf,h1,_⟩:=sy f hf;have i1':i<b.2.1.1:=by rw[← c2]; exact i1
    show fl i=false∧yfW (yd b).1 (f i)
    rw[c1]; exact h1.u2 i i0 i1' hne) (by
    show Lf=(yd b).2.2.2.1∨((yd b).2.2.2.1= -1∧0≤Lf∧Lf<(yd b).2.1.1∧fl Lf=true)
    rw[c2,c3]; exact hL)
  have hT:(∃Bf,Wsup (yd b).1 (yd b).2.1 (yd b).2.2.2.2.2.2.2.1 T L B Lf Bf f' fl∧Wdat (yd b).2.1 T b.2.2.2.2.2.1 R V Lf Bf f' fl (yA (yn (yT (yd b))))) ∨
   ∃Bf,Wsup (yd b).1 (yd b).2.1 ((yd b).2.2.2.2.2.2.2.1+1) (yd b).2.2.2.2.2.1 (yd b).2.2.2.1 (yd b).2.2.2.2.1 Lf Bf f' fl∧Wdat (yd b).2.1 (yd b).2.2.2.2.2.1 b.2.2.2.2.2.1 R V Lf Bf f' fl (yA (yn (yT (yd b)))):=hT
  rw[c1,c2,c7]at hT;rcases hT with⟨Bf,h1,h2⟩ | ⟨Bf,h1,h2⟩
  ·exact⟨_,_,_,_,_,_,Bf,by omega,by omega,h1,h2⟩
  ·exact⟨_,_,_,_,_,_,Bf,by omega,by omega,h1,h2⟩
 ·have e:ym b=yd b:=by unfold ym; rw[hu]; rfl
  rw[e]at hc ⊢;obtain⟨Bf,h1,h2⟩:=sy f' hc;exact⟨_,_,_,_,_,_,Bf,by omega,by omega,h1,h2⟩
theorem ys5 {b:dA} (hk:yF b) {i m:Int} (i0:0≤i) (i1:i<b.2.1.1) (m0:2≤m):yA (ym b) i m=yA b i m∧yq (ym b) i=yq b i:=by
 have ts:=yJC (-1) (fun _=> []) (yaJ hk);have hc:=yQ (yaO b);have h1:yA (yd b) i m=yA b i m:=ts.b i m i0 i1 (by omega);have h2:=ts.f i i0 i1;unfold ym;cases ya (yd b)
 ·have ok2:yyy (yT (yd b)):=yaJ (a:=yT (yd b)) (yjd hk)
  have tm:=ysZ ok2;have i1':i<(yT (yd b)).2.1.1:=by show i<(yd b).2.1.1; rw[hc]; exact i1
  have hg:0≤(i64.wrap ((yT (yd b)).2.2.2.2.2.2.2.1+1)).tmod 2∨(i64.wrap ((yT (yd b)).2.2.2.2.2.2.2.1+1)).tmod 2<2:=by omega
  have hlt:(i64.wrap ((yT (yd b)).2.2.2.2.2.2.2.1+1)).tmod 2<2:=by
   have:=Int.tmod_lt_of_pos (i64.wrap ((yT (yd b)).2.2.2.2.2.2.2.1+1)) (show(0:Int)<2 by omega);exact this
  exact⟨(tm.b i m i0 i1' (by omega)).trans h1,(tm.f i i0 i1').trans h2⟩
 ·exact⟨h1,h2⟩
theorem y4d {K T L B Lf:Int} {R:Int→Int×List Int} {V:Int→Int→Int} {b:dA} {f':Int→Int→List Int} {fl:Int→Bool} (hix:Ix K V b) (hz:b.2.2.2.1≠ -1→yq b b.2.2.2.1=true→b.2.2.2.2.1=0) (hk:K<60000) (hu:ya (ym b)=false) (hc:Ch (ym b) f') (hal:Al b.2.2.2.1 b.2.1.1 (yq b) fl Lf)
  (old: ∀f,Ch b f→ ∃Bf,Wsup b.1 b.2.1 b.2.2.2.2.2.2.2.1 T L B b.2.2.2.1 Bf f (yq b)∧Wdat b.2.1 T b.2.2.2.2.2.1 R V b.2.2.2.1 Bf f (yq b) (yA b)) :
  ∃Bf,((Eq0 b fl Lf→Bf=b.2.2.2.2.1)∧(Eq0 b fl Lf→Lf≠ -1→fl Lf=false→yfW b.1 (f' Lf)))∧Wsup b.1 b.2.1 (b.2.2.2.2.2.2.2.1+1) b.2.2.2.2.2.1 b.2.2.2.1 b.2.2.2.2.1 Lf Bf f' fl∧Wdat b.2.1 b.2.2.2.2.2.1 b.2.2.2.2.2.1 R V Lf Bf f' fl (yA (ym b)):=by
 have ok:=yaJ hix.xk;have ts:=yJC (-1) (fun _=> []) ok;have ce:=ybq (yaO b);obtain⟨hs,e⟩:=yEd hu;rw[e]at hu hc ⊢;have hm:=y3W hix hk;have six:=yZX (y3P hix hs);obtain⟨c1,c2,c3,c4,c5,c6,c7⟩:=ce;have hfe: ∀i,0≤i→i<b.2.1.1→yq (yd b) i=yq b i:=ts.f
 have d0: ∀f,Ch (yd b) f→Wdat b.2.1 b.2.2.2.2.2.1 b.2.2.2.2.2.1 R V Lf b.2.2.2.2.1 f fl (yA (yd b)):=fun f hf=>by
  obtain⟨Bf,_,h2⟩:=old f (yM5 ok hf);have hLf:Lf=b.2.2.2.1∨b.2.2.2.1= -1:=by rcases hal with⟨h,_⟩ | ⟨_,_,h,_⟩<;>omega
  have sub:=fun i i0 i1 hi=>yDZ hal (i:=i) i0 i1 hi
  have w0:=yW1 (fl:=yq b) (Lf:=b.2.2.2.1) hix hs hf (fun i _ _ h=>h) (.inl rfl) h2;have q:=w0.q;refine⟨w0.e,w0.q,fun i s i0 i1 s0 s1 hi hl hb hj=> ?_,fun q q0 q1=>by omega,fun i n r i0 i1 hi h2 h6 hr=>w0.h i n r i0 i1 (sub i i0 i1 hi) h2 h6 hr,fun q q0 q1=>by omega,fun q q0 q1=>by omega,fun i n i0 i1 hi hn=>w0.b i n i0 i1 (sub i i0 i1 hi) hn⟩;exact w0.d i s i0 i1 s0 s1 (sub i i0 i1 hi) (by omega) hb hj
 have hD:=yZ0 (a:=yT (yd b)) (Q:=b.2.2.2.2.2.1) (Lf:=Lf) (R:=R) (V:=V) (fl:=fl) hm hu (fun i i0 i1=>y4n six i0 i1) (fun i i0 i1 hf=>y1Y six i0 i1 hf) hc (by
   show Al (yd b).2.2.2.1 (yd b).2.1.1 (yq (yd b)) fl Lf
   rw[c2,c3]; exact yyI hal (fun i i0 i1=>(hfe i i0 i1).symm)) (fun f hf i n s i0 i1 hi hn2 hsv=>by
   have i1':i<b.2.1.1:=by rw[← c2]; exact i1
   obtain⟨Bf,h1,_⟩:=old f (yM5 ok hf);have hsv:yxo (yd b).1 n (f i n) s:=hsv;rw[c1]at hsv;obtain⟨g1,g2⟩:=h1.u1 i n s i0 i1' ((hfe i i0 i1').symm.trans hi) hn2 hsv;refine⟨g1,?_⟩;show s.2.1≤(yd b).2.2.2.2.2.2.2.1;rw[c7];rcases g2 with g2 | g2
   ·omega
   ·rw[g2]; exact Int.le_refl _) (fun f hf=>by
   show Wdat (yd b).2.1 (yd b).2.2.2.2.2.1 b.2.2.2.2.2.1 R V Lf (yd b).2.2.2.2.1 f fl (yA (yd b))
   rw[c2,c4,c5]; exact d0 f hf) (by
   show(yd b).2.2.2.1≠ -1→yq (yd b) (yd b).2.2.2.1=true→(yd b).2.2.2.2.1=0;rw[c3,c4];intro h1 h2;have hl:=hix.xc.2.2.2.1;rw[hfe _ (by omega) (by omega)]at h2
   exact hz h1 h2)
 have hD: ∃Bf,((Eq0 (yd b) fl Lf→Bf=(yd b).2.2.2.2.1)∧(Eq0 (yd b) fl Lf→Lf≠ -1→fl Lf=false→yfW (yd b).1 (f' Lf)))∧Wsup (yd b).1 (yd b).2.1 ((yd b).2.2.2.2.2.2.2.1+1) (yd b).2.2.2.2.2.1 (yd b).2.2.2.1 (yd b).2.2.2.2.1 Lf Bf f' fl∧Wdat (yd b).2.1 (yd b).2.2.2.2.2.1 b.2.2.2.2.2.1 R V Lf Bf f' fl (yA (yn (yT (yd b)))):=hD;have he:Eq0 b fl Lf→Eq0 (yd b) fl Lf:=fun h=>⟨by rw[c3]; exact h.1,fun i i0 i1=>by rw[c2]at i1; exact(h.2 i i0 i1).trans (hfe i i0 i1).symm⟩
 rw[c1,c2,c3,c4,c5,c7]at hD;obtain⟨Bf,⟨h1,h2⟩,h3⟩:=hD;exact⟨Bf,⟨fun h=>h1 (he h),fun h=>h2 (he h)⟩,h3⟩
theorem yZA {B0:Int} {V:Int→Int→Int} {a:dA} {R:Int→Int×List Int} (h:yKY R B0 V a) {fl:Int→Bool} {Lf:Int} (hal:Al a.2.2.2.1 a.2.1.1 (yq a) fl Lf) :
  ∀f,Ch a f→ ∃Bf,Wsup a.1 a.2.1 a.2.2.2.2.2.2.2.1 a.2.2.2.2.2.2.1 a.2.2.2.1 B0 Lf Bf f fl∧Wdat a.2.1 a.2.2.2.2.2.2.1 a.2.2.2.2.2.1 R V Lf Bf f fl (yA a):=fun f hf=>by
 obtain⟨Bf,_,h1,h2⟩:=h.2 f fl Lf hf hal;exact⟨Bf,h1,h2⟩
theorem yCZ (a:dA):Al a.2.2.2.1 a.2.1.1 (yq a) (yq a) a.2.2.2.1:= .inl ⟨rfl,fun _ _ _=>rfl⟩
theorem y6A {L N Lf:Int} {fl0 fl:Int→Bool} (h:Al L N fl0 fl Lf):Lf=L∨(L= -1∧0≤Lf∧Lf<N∧fl Lf=true):=by
 rcases h with⟨h,_⟩ | ⟨h1,h2,h3,h4⟩
 ·exact .inl h
 ·rcases h3 with h3 | h3
  ·exact .inr ⟨h3,h1,h2,by rw[h4 Lf h1 h2,beq_self_eq_true,Bool.or_true]⟩
  ·exact .inl h3.symm
theorem yuM (b:dA):(ym b).1=b.1∧(ym b).2.1=b.2.1∧(ym b).2.2.2.1=b.2.2.2.1∧(ym b).2.2.2.2.1=b.2.2.2.2.1∧(ym b).2.2.2.2.2.1=b.2.2.2.2.2.1:=by
 obtain⟨c1,c2,c3,c4,c5,_,_⟩:=ybq (yaO b);unfold ym;cases ya (yd b)
 ·obtain⟨d1,d2,d3,d4,d5,_,_⟩:=ybq (ydh (yT (yd b)))
  exact⟨d1.trans c1,d2.trans c2,d3.trans c3,d4.trans c4,d5.trans c5⟩
 ·exact⟨c1,c2,c3,c4,c5⟩
theorem yLd {b:dA} (hg:0≤b.2.2.2.2.2.2.2.1∧b.2.2.2.2.2.2.2.1<60000) (hu:ya (ym b)=false):(ym b).2.2.2.2.2.2.1=b.2.2.2.2.2.1∧(ym b).2.2.2.2.2.2.2.1=b.2.2.2.2.2.2.2.1+1:=by
 obtain⟨c1,c2,c3,c4,c5,c6,c7⟩:=ybq (yaO b);obtain⟨_,e⟩:=yEd hu;obtain⟨d1,d2,d3,d4,d5,d6,d7⟩:=ybq (ydh (yT (yd b)));rw[e];refine⟨d6.trans c5,d7.trans ?_⟩;show i64.wrap ((yd b).2.2.2.2.2.2.2.1+1)=_;rw[c7]; exact wr (by omega) (by omega)
theorem y4u {a r:dA} (h:Nb a) (hg:r.2.1=a.2.1) (hl:r.2.2.2.1=a.2.2.2.1) (hb:r.2.2.2.2.1=a.2.2.2.2.1) (hlr: -1≤a.2.2.2.1∧a.2.2.2.1≤a.2.1.1-1) (hd: ∀i m,0≤i→i<a.2.1.1→6≤m→yA r i m=true→yA a i m=true) (hf: ∀i,0≤i→i<a.2.1.1→yq r i=yq a i):Nb r:=by
 refine⟨fun h1 i s i0 i1 hi s0 s1=> ?_,fun h1 h2=> ?_⟩
 ·rw[hl]at h1 hi
  rw[hg]at i1;rw[hb]at s1;cases hx:yA r i (s+6)
  ·rfl
  ·rw[← h.n h1 i s i0 i1 hi s0 s1]; exact(hd i (s+6) i0 i1 (by omega) hx).symm
 ·rw[hl]at h1 h2
  rw[hb];rw[hf _ (by omega) (by omega)]at h2;exact h.z h1 h2
theorem yLc {K T L B:Int} {R:Int→Int×List Int} {V:Int→Int→Int} {b:dA} (hix:Ix K V b) (hz:b.2.2.2.1≠ -1→yq b b.2.2.2.1=true→b.2.2.2.2.1=0) (hk:K+1≤60000) (hu:ya (ym b)=false)
  (old: ∀f,Ch b f→ ∃Bf,Wsup b.1 b.2.1 b.2.2.2.2.2.2.2.1 T L B b.2.2.2.1 Bf f (yq b)∧Wdat b.2.1 T b.2.2.2.2.2.1 R V b.2.2.2.1 Bf f (yq b) (yA b)):yKY R (ym b).2.2.2.2.1 V (ym b):=by
 have c:=hix.xc;unfold yX at c;obtain⟨s1,s2,s3,s4,s5⟩:=yuM b;have hg:=hix.xg;have hfl: ∀i,0≤i→i<b.2.1.1→yq (ym b) i=yq b i:=fun i i0 i1=>(ys5 (m:=2) hix.xk i0 i1 (by omega)).2
 obtain⟨t1,t2⟩:=yLd (b:=b) (by omega) hu;refine⟨Int.le_refl _,fun f fl Lf hf hal=> ?_⟩;rw[s2,s3]at hal;have hal2:=yyI hal hfl;obtain⟨Bf,⟨h1,h2⟩,h3⟩:=y4d hix hz (by omega) hu hf hal2 old;have he:Eq0 (ym b) fl Lf→Eq0 b fl Lf:=fun e=>⟨e.1.trans s3,fun i i0 i1=>(e.2 i i0 (by rw[s2]; exact i1)).trans (hfl i i0 i1)⟩
 rw[s1,s2,s3,s4,s5,t1,t2];exact⟨Bf,⟨fun e=>h1 (he e),fun e=>h2 (he e)⟩,h3⟩
theorem yRl {K:Int} {V:Int→Int→Int} {a:dA} (h:Lv K V a) (hk:K+1≤60000) :
  (ya (ym a)=false→Lv (K+1) V (ym a))∧(ya (ym a)=true→Dd (K+1) (· =V) (ym a)):=by
 obtain⟨B0,R,hr⟩:=h.r;have c:=h.x.xc;unfold yX at c;obtain⟨s1,s2,s3,s4,s5⟩:=yuM a;have hfl: ∀i,0≤i→i<a.2.1.1→yq (ym a) i=yq a i:=fun i i0 i1=>(ys5 (m:=2) h.x.xk i0 i1 (by omega)).2
 have hg:=h.x.xg;refine⟨fun hu=>⟨yJe h.x hk hu,⟨_,R,yLc h.x h.n.z hk hu (yZA hr (yCZ a))⟩,?_⟩,fun hd f fl Lf hf hal=>⟨V,rfl,?_⟩⟩
 ·exact y4u h.n s2 s3 s4 (by omega) (fun i m i0 i1 m0 hb=>by rw[(ys5 h.x.xk i0 i1 (by omega)).1]at hb; exact hb) hfl
 ·rw[s2,s3]at hal
  have hal2:=yyI hal hfl;have:=yUi h.x (by omega) hf (fun i i0 i1 hi=>yDZ hal2 i0 i1 hi) (y6A hal2) (yZA hr hal2);rw[s1,s2]; exact this
theorem y5N {K:Int} {V:Int→Int→Int} {a:dA} {l:List dW} (h:Lv K V a) (hd:ya2 a.2.1 l=true):Lv K V (yyt a l):=⟨yPH h.x hd,h.r,⟨h.n.n,h.n.z⟩⟩
theorem y43 {K:Int} {V:Int→Int→Int} {a:dA} {b n:Int} (h:Lv K V a) (hb:yhR a.2.1 b=true) (hn:isW n=true):Lv K V (yju a b n).2:=by
 have hi:=y6I h.x hb hn;unfold yju at hi ⊢;cases hs:(ybi a (ybS a.2.1 b)).2
 ·exact h
 ·rw[hs]at hi
  exact⟨hi,h.r,⟨h.n.n,h.n.z⟩⟩
theorem y5a (r:dN):yaB (yaf r)=true:=by
 unfold yaf;cases h:y9 r
 ·rfl
 ·have hr:=yte.1 h
  refine yzK.2 ⟨?_,fun x hx=> ?_⟩
  ·show(21322::r.1::r.2.1::(r.2.2.length:Int)::r.2.2).length≤12
   simp only[List.length_cons]; omega
  ·have hx:x∈21322::r.1::r.2.1::(r.2.2.length:Int)::r.2.2:=hx
   simp only[List.mem_cons]at hx;rcases hx with hx | hx | hx | hx | hx
   ·omega
   ·omega
   ·omega
   ·omega
   ·exact ytc.1 (yH6.1 hr.2.2.2 x hx)
def Two (V W X:Int→Int→Int):Prop:=X=V∨X=W
theorem yQm (a:dA):(yz a).1=a.1∧(yz a).2.1=a.2.1∧(yz a).2.2.2.1=a.2.2.2.1∧(yz a).2.2.2.2.1=a.2.2.2.2.1∧(yz a).2.2.2.2.2.1=a.2.2.2.2.2.1:=by
 unfold yz;cases leb 4 (i64.wrap (a.2.2.2.2.2.1-a.2.2.2.2.2.2.1))
 ·exact⟨rfl,rfl,rfl,rfl,rfl⟩
 ·exact yuM a
theorem y6J {K:Int} {V:Int→Int→Int} {a:dA} (h:Lv K V a) (hk:K+1≤60000) :
  (ya (yz a)=false→Lv (K+1) V (yz a))∧(ya (yz a)=true→Dd (K+1) (· =V) (yz a)):=by
 unfold yz;cases leb 4 (i64.wrap (a.2.2.2.2.2.1-a.2.2.2.2.2.2.1))
 ·exact⟨fun _=>ytd h (by omega),fun hd=>by rw[cond_false,h.x.xu]at hd; cases hd⟩
 ·exact yRl h hk
theorem y6i {b:dA} (hk:yF b) {i m:Int} (i0:0≤i) (i1:i<b.2.1.1) (m0:2≤m):yA (yz b) i m=yA b i m∧yq (yz b) i=yq b i:=by
 unfold yz;cases leb 4 (i64.wrap (b.2.2.2.2.2.1-b.2.2.2.2.2.2.1))
 ·exact⟨rfl,rfl⟩
 ·exact ys5 hk i0 i1 m0
theorem y5U {K s:Int} {d:List Int} {V:Int→Int→Int} {a:dA} (h:Lv K V a) (h3:a.2.2.2.2.2.1-a.2.2.2.2.2.2.1≤3) (hq:a.2.2.2.2.2.1<60000) (hs:yaj a.2.1 s=true) (hl:(d.length:Int)=a.2.1.1-1) (hd:d.all isW=true):Dd (K+1) (Two V (ylP V a.2.1 s d)) (yr a (a.2.2.2.2.2.1,s,d)):=by
 obtain⟨B0,R,hB,hr⟩:=h.r;have ok:=yaJ h.x.xk;have hg:=h.x.xg;have hs2:=h.x.xs;have ht:=yNi (a.2.2.2.2.2.1,s,d) ok;have c:=h.x.xc;unfold yX at c;have hsl:=ykZ (q:=a.2.2.2.2.2.1) (by omega);obtain⟨c1,c2,c3,c4,c5,c6,c7⟩:=ybq (ybs a (a.2.2.2.2.2.1,s,d));intro f' fl Lf hf hal;rw[c1,c2];rw[c2,c3]at hal;have hal2:=yyI hal ht.f;obtain⟨f,hf0,hff⟩:=ht.c f' hf;obtain⟨Bf,_,h1,h2⟩:=hr f fl Lf hf0 hal2
 have sup:Wsup a.1 a.2.1 a.2.2.2.2.2.2.2.1 a.2.2.2.2.2.2.1 a.2.2.2.1 B0 Lf Bf f' fl:=ygK h1 (fun i n i0 i1 _ hn=>by
  rcases hff i n i0 i1 (by omega)with e | ⟨e,_⟩
  ·exact e
  ·have:n=yg a.2.2.2.2.2.1:=e
   omega)
 have hb6: ∀i n,0≤i→i<a.2.1.1→6≤n→yA (yr a (a.2.2.2.2.2.1,s,d)) i n=yA a i n:=fun i n i0 i1 h6=>ht.b i n i0 i1 (fun e=>by have:n=yg a.2.2.2.2.2.1:=e; omega)
 have hf2: ∀i n,0≤i→i<a.2.1.1→fl i=false→2≤n→f' i n=f i n∨(n=yg a.2.2.2.2.2.1∧f' i n=yaf (a.2.2.2.2.2.1,s,d)):=fun i n i0 i1 _ hn=>hff i n i0 i1 (by omega)
 by_cases hx: ∃i,0≤i∧i<a.2.1.1∧fl i=false∧f' i (yg a.2.2.2.2.2.1)=yaf (a.2.2.2.2.2.1,s,d)
 ·exact⟨ylP V a.2.1 s d,.inr rfl,_,_,_,_,_,_,Bf,by omega,by omega,sup,y0a h2 (by omega) hq hs hl hd hf2 hb6 (fun i n i0 i1 hn=>ht.d i n i0 i1 hn) hx⟩
 ·refine⟨V,.inl rfl,_,_,_,_,_,_,Bf,by omega,by omega,sup,ygJ h2 (fun i n i0 i1 hi hn=> .inl ?_) (fun i n i0 i1 hn=>ht.d i n i0 i1 hn)⟩
  have hb: ∀k,0≤k→k<6→yA (yr a (a.2.2.2.2.2.1,s,d)) i k=yA a i k:=fun k k0 k6=>by
   have g2:yA a i k=false:=by
    cases hb:yA a i k
    ·rfl
    ·have:=h2.b i k i0 i1 hi hb; omega
   cases hb:yA (yr a (a.2.2.2.2.2.1,s,d)) i k
   ·exact g2.symm
   ·rw[ht.d i k i0 i1 hb]at g2; cases g2
  refine⟨?_,?_⟩
  ·rcases hf2 i n i0 i1 hi hn with e | ⟨e,e2⟩
   ·exact e
   ·exact absurd ⟨i,i0,i1,hi,by rw[← e]; exact e2⟩ hx
  ·by_cases h6:6≤n
   ·exact hb6 i n i0 i1 h6
   ·exact hb n (by omega) (by omega)
theorem y5T {K B0 s:Int} {d:List Int} {V:Int→Int→Int} {R:Int→Int×List Int} {a:dA} (h:Ix K V a) (hB:yKY R B0 V a) (h3:a.2.2.2.2.2.1-a.2.2.2.2.2.2.1≤3) (hq:a.2.2.2.2.2.1<60000) (hs:yaj a.2.1 s=true) (hl:(d.length:Int)=a.2.1.1-1) (hd:d.all isW=true) (hu:ya (yr a (a.2.2.2.2.2.1,s,d))=false):yKY (yZz R a.2.2.2.2.2.1 s d) B0 (ylP V a.2.1 s d) (yO (yr a (a.2.2.2.2.2.1,s,d))):=by
 obtain⟨hB,hr⟩:=hB;have ok:=yaJ h.xk;have ht:=yNi (a.2.2.2.2.2.1,s,d) ok;have c:=h.xc;unfold yX at c;have hsl:=ykZ (q:=a.2.2.2.2.2.1) (by omega);obtain⟨c1,c2,c3,c4,c5,c6,c7⟩:=ybq (ybs a (a.2.2.2.2.2.1,s,d))
 have hsq:(yO (yr a (a.2.2.2.2.2.1,s,d))).2.2.2.2.2.1=a.2.2.2.2.2.1+1:=by
  show i64.wrap ((yr a (a.2.2.2.2.2.1,s,d)).2.2.2.2.2.1+1)=_;rw[c5]; exact wr (by omega) (by omega)
 refine⟨by show B0≤(yr a (a.2.2.2.2.2.1,s,d)).2.2.2.2.1; rw[c4]; exact hB,fun f' fl Lf hf hal=> ?_⟩;have hf:Ch (yr a (a.2.2.2.2.2.1,s,d)) f':=hf;have hal:Al (yr a (a.2.2.2.2.2.1,s,d)).2.2.2.1 (yr a (a.2.2.2.2.2.1,s,d)).2.1.1 (yq (yr a (a.2.2.2.2.2.1,s,d))) fl Lf:=hal;rw[c2,c3]at hal;have hal2:=yyI hal ht.f;obtain⟨f,hf0,hff⟩:=ht.c f' hf;obtain⟨Bf,⟨p1,p2⟩,h1,h2⟩:=hr f fl Lf hf0 hal2
 have hn01: ∀i n,0≤i→i<a.2.1.1→(n=0∨n=1)→f' i n=f i n:=fun i n i0 i1 hn=>by
  rcases hff i n i0 i1 (by omega)with e | ⟨e,_⟩
  ·exact e
  ·have:n=yg a.2.2.2.2.2.1:=e
   omega
 have sup:Wsup a.1 a.2.1 a.2.2.2.2.2.2.2.1 a.2.2.2.2.2.2.1 a.2.2.2.1 B0 Lf Bf f' fl:=ygK h1 (fun i n i0 i1 _ hn=>hn01 i n i0 i1 hn)
 have he:Eq0 (yO (yr a (a.2.2.2.2.2.1,s,d))) fl Lf→Eq0 a fl Lf:=fun e=>by
  have e1:Lf=(yr a (a.2.2.2.2.2.1,s,d)).2.2.2.1:=e.1;refine⟨e1.trans c3,fun i i0 i1=> ?_⟩;have:=e.2 i i0 (by show i<(yr a (a.2.2.2.2.2.1,s,d)).2.1.1; rw[c2]; exact i1);exact this.trans (ht.f i i0 i1)
 have hlen:=h.xk.1.2
 have two: ∃i,0≤i∧i<a.2.1.1∧i≠Lf:=by
  have hg3:=yj.1 h.xc.1;by_cases h:Lf=0
  ·exact⟨1,by omega,by omega,by omega⟩
  ·exact⟨0,by omega,by omega,fun e=>h e.symm⟩
 obtain⟨j,j0,j1,hj⟩:=two;have hjf:=(h1.u2 j j0 j1 hj).1
 have hx:f' j (yg a.2.2.2.2.2.1)=yaf (a.2.2.2.2.2.1,s,d):=by
  have hp:=hf j (yg a.2.2.2.2.2.1) j0 (by rw[c2]; exact j1) (by omega);have hjd:(yh a j).2.2.1=false:=yDZ hal2 j0 j1 hjf;rw[yNf hu j0 (by omega)]at hp;obtain⟨x1,x2⟩:=y4n h j0 j1;have dk:=yd6 h.xk j0 j1;have hg3:=yj.1 h.xc.1;have hcw:=yqS (n:=yg a.2.2.2.2.2.1) (s:=yaf (a.2.2.2.2.2.1,s,d)) dk.1 hjd (zj6.2 (by omega)) (y5a _) x2;rw[yu9 (ymj dk.1) ((yzz _ _ _).trans hjd) (by show 0≤yg a.2.2.2.2.2.1; omega) hp];unfold yet;rw[hjd,cond_false];show ycm (yab (yh a j) (yg a.2.2.2.2.2.1) (yaf (a.2.2.2.2.2.1,s,d))).1 _=_;rw[yn3 hcw,beq_self_eq_true]; rfl
 have dat:=y0a h2 (by omega) hq hs hl hd (fun i n i0 i1 _ hn=>hff i n i0 i1 (by omega)) (fun i n i0 i1 h6=>ht.b i n i0 i1 (fun e=>by have:n=yg a.2.2.2.2.2.1:=e; omega)) (fun i n i0 i1 hn=>ht.d i n i0 i1 hn) ⟨j,j0,j1,hjf,hx⟩;refine⟨Bf,⟨fun e=>p1 (he e),fun e e1 e2=> ?_⟩,?_,?_⟩
 ·have hown:=p2 (he e) e1 e2
  show yfW (yr a (a.2.2.2.2.2.1,s,d)).1 (f' Lf);rw[c1];obtain⟨n,s',hn,hsv⟩:=hown;have hr2:0≤Lf∧Lf<a.2.1.1:=by have:=(he e).1; omega
  exact⟨n,s',hn,by rw[hn01 Lf n hr2.1 hr2.2 hn]; exact hsv⟩
 ·show Wsup (yr a (a.2.2.2.2.2.1,s,d)).1 (yr a (a.2.2.2.2.2.1,s,d)).2.1 (yr a (a.2.2.2.2.2.1,s,d)).2.2.2.2.2.2.2.1 (yr a (a.2.2.2.2.2.1,s,d)).2.2.2.2.2.2.1 (yr a (a.2.2.2.2.2.1,s,d)).2.2.2.1 B0 Lf Bf f' fl
  rw[c1,c2,c3,c6,c7]; exact sup
 ·rw[hsq]
  show Wdat (yr a (a.2.2.2.2.2.1,s,d)).2.1 (yr a (a.2.2.2.2.2.1,s,d)).2.2.2.2.2.2.1 _ _ _ _ _ _ _ _;rw[c2,c6]; exact dat
theorem y5V {B0 q s:Int} {d:List Int} {V:Int→Int→Int} {R:Int→Int×List Int} {a:dA} (hk:yyy a) (hs:yaj a.2.1 s=true) (h:yKY R B0 V a) (q0:a.2.2.2.2.2.2.1≤q) (q1:q<a.2.2.2.2.2.1) (hq:(R q).1=s):yKY R B0 V (yI a s d):=by
 obtain⟨hB,hr⟩:=h;have ht:=yTh s d hk;have h1:=yad.1 hs;have hg:=yj.1 h1.1;have hda:=yjb (s:=s) h1.2.1 (by omega);obtain⟨c1,c2,c3,c4,c5,c6,c7⟩:=ybq (yeo a s d);refine⟨by rw[c4]; exact hB,fun f' fl Lf hf hal=> ?_⟩;rw[c2,c3]at hal;have hal2:=yyI hal ht.f;obtain⟨f,hf0,hff⟩:=ht.c f' hf;obtain⟨Bf,⟨p1,p2⟩,h1,h2⟩:=hr f fl Lf hf0 hal2
 have hn01: ∀i n,0≤i→i<a.2.1.1→(n=0∨n=1)→f' i n=f i n:=fun i n i0 i1 hn=>by
  rcases hff i n i0 i1 (by omega)with e | ⟨e,_⟩
  ·exact e
  ·omega
 have he:Eq0 (yI a s d) fl Lf→Eq0 a fl Lf:=fun e=>⟨e.1.trans c3,fun i i0 i1=>(e.2 i i0 (by rw[c2]; exact i1)).trans (ht.f i i0 i1)⟩
 rw[c1,c2,c3,c5,c6,c7];refine⟨Bf,⟨fun e=>p1 (he e),fun e e1 e2=> ?_⟩,ygK h1 (fun i n i0 i1 _ hn=>hn01 i n i0 i1 hn),ygJ h2 (fun i n i0 i1 hi hn=> ?_) (fun i n i0 i1 hn=>ht.d i n i0 i1 hn)⟩
 ·obtain⟨j,j0,j1,_⟩:=h1.u3
  have hL:=yfF (h1.u0 j j0 j1);have:=(he e).1;obtain⟨n,s',hn,hsv⟩:=p2 (he e) e1 e2;exact⟨n,s',hn,by rw[hn01 Lf n (by omega) (by omega) hn]; exact hsv⟩
 ·by_cases hx:n=yu s
  ·exact .inr (.inl ⟨q,q0,q1,by omega⟩)
  ·rcases hff i n i0 i1 (by omega)with e | ⟨e,_⟩
   ·exact .inl ⟨e,ht.b i n i0 i1 hx⟩
   ·exact absurd e hx
theorem y28 {K B0:Int} {V:Int→Int→Int} {a:dA} (h:Rob B0 V a) (h1:a.2.2.2.2.2.2.2.1≤K) (h2:a.2.2.2.2.2.1≤K):Dd K (· =V) a:=fun f fl Lf hf hal=>by
 obtain⟨R,_,hr⟩:=h;obtain⟨Bf,_,g1,g2⟩:=hr f fl Lf hf hal;exact⟨V,rfl,_,_,_,_,_,R,Bf,h1,h2,g1,g2⟩
theorem yPP (a:dA) (s:Int) (d:List Int):(yN a s d).2.1=a.1∧(yN a s d).2.2.1=a.2.1∧(yN a s d).2.2.2.2.1=a.2.2.2.1∧(yN a s d).2.2.2.2.2.1=a.2.2.2.2.1:=by
 obtain⟨e1,e2,e3,e4,_⟩:=yQm a;obtain⟨c1,c2,c3,c4,_,_,_⟩:=ybq (ybs (yz a) ((yz a).2.2.2.2.2.1,s,d));unfold yN;generalize yr (yz a) ((yz a).2.2.2.2.2.1,s,d)=R at c1 c2 c3 c4 ⊢;obtain⟨g1,g2,g3,g4,_,_,_⟩:=ybq (yeo (yO R) s d);generalize yI (yO R) s d=Q at g1 g2 g3 g4 ⊢;cases ya (yz a)
 ·cases ya R
  ·exact⟨(g1.trans c1).trans e1,(g2.trans c2).trans e2,(g3.trans c3).trans e3,(g4.trans c4).trans e4⟩
  ·exact⟨c1.trans e1,c2.trans e2,c3.trans e3,c4.trans e4⟩
 ·exact⟨e1,e2,e3,e4⟩
theorem y0b {a:dA} {s:Int} {d:List Int} (hk:yF a) (hs:yaj a.2.1 s=true) (hq:0≤a.2.2.2.2.2.1) {i m:Int} (i0:0≤i) (i1:i<a.2.1.1) (m0:6≤m):(yA (yN a s d).2 i m=true→yA a i m=true)∧yq (yN a s d).2 i=yq a i:=by
 have hkc:yF (yz a):=by
  unfold yz;cases leb 4 (i64.wrap (a.2.2.2.2.2.1-a.2.2.2.2.2.2.1))
  ·exact hk
  ·exact yvl hk
 obtain⟨e1,e2,e3,e4,e5⟩:=yQm a;have hc:=y6i (m:=m) hk i0 i1 (by omega);have i1c:i<(yz a).2.1.1:=by rw[e2]; exact i1
 have hr:=yNi ((yz a).2.2.2.2.2.1,s,d) (yaJ hkc);have hkr:=yxZ ((yz a).2.2.2.2.2.1,s,d) hkc;have hrb:=hr.d i m i0 i1c;have hrf:=hr.f i i0 i1c;unfold yN;generalize yr (yz a) ((yz a).2.2.2.2.2.1,s,d)=R at hr hkr hrb hrf ⊢;have hd:=yTh (a:=yO R) s d (yaJ (a:=yO R) hkr);have i1r:i<(yO R).2.1.1:=by show i<R.2.1.1; rw[hr.g]; exact i1c
 have hdb:=hd.d i m i0 i1r;have hdf:=hd.f i i0 i1r;generalize yI (yO R) s d=Q at hdb hdf ⊢;cases ya (yz a)
 ·cases ya R
  ·exact⟨fun h=>by have:=hrb (hdb h); rw[hc.1]at this; exact this,(hdf.trans hrf).trans hc.2⟩
  ·exact⟨fun h=>by have:=hrb h; rw[hc.1]at this; exact this,hrf.trans hc.2⟩
 ·exact⟨fun h=>by have:yA (yz a) i m=true:=h; rw[hc.1]at this; exact this,hc.2⟩
theorem y5W {K s:Int} {d:List Int} {V:Int→Int→Int} {C:dA} (lc:Lv K V C) (h3:C.2.2.2.2.2.1-C.2.2.2.2.2.2.1≤3) (hq:C.2.2.2.2.2.1<60000) (hs:yaj C.2.1 s=true) (hl:(d.length:Int)=C.2.1.1-1) (hd:d.all isW=true) (hr:ya (yr C (C.2.2.2.2.2.1,s,d))=false) :
  (∃B0,Rob B0 (ylP V C.2.1 s d) (yI (yO (yr C (C.2.2.2.2.2.1,s,d))) s d))∧Dd (K+1) (· =ylP V C.2.1 s d) (yI (yO (yr C (C.2.2.2.2.2.1,s,d))) s d):=by
 obtain⟨B0,R,hR⟩:=lc.r;have rd:=y5T lc.x hR h3 hq hs hl hd hr;have c:=ybq (ybs C (C.2.2.2.2.2.1,s,d));have kp:=yxZ (C.2.2.2.2.2.1,s,d) lc.x.xk;have lcx:=lc.x.xc;unfold yX at lcx;have hg:=lc.x.xg;have hx:=lc.x.xs;generalize yr C (C.2.2.2.2.2.1,s,d)=P at rd c kp;have e5:=c.s
 have hsq:(yO P).2.2.2.2.2.1=C.2.2.2.2.2.1+1:=by
  show i64.wrap (P.2.2.2.2.2.1+1)=_;rw[e5]; exact wr (by omega) (by omega)
 have hsg:(yO P).2.1=C.2.1:=c.g;have hst:(yO P).2.2.2.2.2.2.1=C.2.2.2.2.2.2.1:=c.t;have hse:(yO P).2.2.2.2.2.2.2.1=C.2.2.2.2.2.2.2.1:=c.e;have kp2:yF (yO P):=kp;generalize yO P=U at rd hsq hsg hst hse kp2;have rr:=y5V (d:=d) (q:=C.2.2.2.2.2.1) (yaJ kp2) (by rw[hsg]; exact hs) rd (by omega) (by omega) (by rw[yyr]);have g:=ybq (yeo U s d);have g5:=g.s;have g7:=g.e;exact⟨⟨B0,_,rr⟩,y28 ⟨_,rr⟩ (by omega) (by omega)⟩
theorem y5P {K s:Int} {d:List Int} {V:Int→Int→Int} {a:dA} (h:Lv K V a) (hs:yaj a.2.1 s=true) (hl:(d.length:Int)=a.2.1.1-1) (hd:d.all isW=true) (hq:a.2.2.2.2.2.1<60000) (hk:K+1≤60000) :
  (ya (yN a s d).2=false→Lv (K+2) (ylP V a.2.1 s d) (yN a s d).2∧(yN a s d).1=0)∧(ya (yN a s d).2=true→Dd (K+2) (Two V (ylP V a.2.1 s d)) (yN a s d).2∧(yN a s d).1≠0):=by
 have c:=h.x.xc;unfold yX at c;obtain⟨w1,w2,w3,w4⟩:=yPP a s d;have hb:=fun i m i0 i1 m0=>y0b (s:=s) (d:=d) h.x.xk hs (by omega) (i:=i) (m:=m) i0 i1 m0
 have up:=fun hu=>y5K h.x hs hl hd hq hk hu
 have key:(ya (yN a s d).2=false→ ∃B0,Rob B0 (ylP V a.2.1 s d) (yN a s d).2)∧(ya (yN a s d).2=true→Dd (K+2) (Two V (ylP V a.2.1 s d)) (yN a s d).2∧(yN a s d).1≠0):=by
  obtain⟨e1,e2,e3,e4,e5⟩:=yQm a;have l1:=y6J h hk;have l3:=fun hc=>(y40 h.x hk hc).2.2
  unfold yN;generalize yz a=C at e1 e2 e3 e4 e5 l1 l3;cases hc:ya C
  ·have lc:=l1.1 hc
   have h3:=l3 hc;have rr:=y5W (s:=s) (d:=d) lc h3 (by omega) (by rw[e2]; exact hs) (by rw[e2]; exact hl) hd;have rt:=y5U lc h3 (by omega) (by rw[e2]; exact hs) (by rw[e2]; exact hl) hd;rw[e2]at rr rt;generalize yr C (C.2.2.2.2.2.1,s,d)=P at rr rt;cases hr:ya P
   ·obtain⟨r1,r2⟩:=rr hr
    generalize yI (yO P) s d=Q at r1 r2;refine⟨fun _=>r1,fun hu=>⟨ys7 r2 (by omega) (fun X hX=> .inr hX),?_⟩⟩;have hu:ya Q=true:=hu;show(bif ya Q then(6:Int)else 0)≠0;rw[hu]; decide
   ·exact⟨(fun hu=>by have hu:ya P=false:=hu; rw[hr]at hu; cases hu),fun _=>⟨ys7 rt (by omega) (fun X hX=>hX),by show(6:Int)≠0; decide⟩⟩
  ·exact⟨(fun hu=>by have hu:ya C=false:=hu; rw[hc]at hu; cases hu),fun _=>⟨ys7 (l1.2 hc) (by omega) (fun X hX=> .inl hX),by show(6:Int)≠0; decide⟩⟩
 generalize yN a s d=W at w1 w2 w3 w4 hb up key;refine⟨fun hu=>⟨⟨(up hu).1,key.1 hu,?_⟩,(up hu).2⟩,key.2⟩;exact y4u h.n w2 w3 w4 (by omega) (fun i m i0 i1 m0=>(hb i m i0 i1 m0).1) (fun i i0 i1=>(hb i 6 i0 i1 (by omega)).2)
theorem y3U {K T L B:Int} {R:Int→Int×List Int} {V:Int→Int→Int} {A:dA} (hx:Ix K V A) (hn:Nb A) (hk:K+1≤60000)
  (old: ∀f fl Lf,Ch A f→Al A.2.2.2.1 A.2.1.1 (yq A) fl Lf→ ∃Bf,Wsup A.1 A.2.1 A.2.2.2.2.2.2.2.1 T L B Lf Bf f fl∧Wdat A.2.1 T A.2.2.2.2.2.1 R V Lf Bf f fl (yA A))
  (new: ∀f fl Lf,Ch A f→Al A.2.2.2.1 A.2.1.1 (yq A) fl Lf→Wdat A.2.1 A.2.2.2.2.2.2.1 A.2.2.2.2.2.1 R V Lf A.2.2.2.2.1 f fl (yA A)) :
  (ya (yn A)=false→Lv (K+1) V (yn A))∧(ya (yn A)=true→Dd (K+1) (· =V) (yn A)):=by
 have hxg:=hx.xg;have hxs:=hx.xs;have hm:Mk A:=yX6 hx.xc hx.xk (by omega);have hmn:=hm.n;have hml:=hm.l;have ht:=ysZ hm.k;obtain⟨c1,c2,c3,c4,c5,c6,c7⟩:=ybq (ydh A);have d1:(yS A).1=A.1:=rfl;have c7':(yn A).2.2.2.2.2.2.2.1=A.2.2.2.2.2.2.2.1+1:=by rw[c7]; exact wr (by omega) (by omega)
 have c1:(yn A).1=A.1:=c1;have c2:(yn A).2.1=A.2.1:=c2;have c3:(yn A).2.2.2.1=A.2.2.2.1:=c3;have c4:(yn A).2.2.2.2.1=A.2.2.2.2.1:=c4;have c5:(yn A).2.2.2.2.2.1=A.2.2.2.2.2.1:=c5;have c6:(yn A).2.2.2.2.2.2.1=A.2.2.2.2.2.2.1:=c6;have hmod:(i64.wrap (A.2.2.2.2.2.2.2.1+1)).tmod 2<2:=Int.tmod_lt_of_pos _ (by omega);have hb: ∀i m,0≤i→i<A.2.1.1→6≤m→yA (yn A) i m=true→yA A i m=true:=fun i m i0 i1 _=>ht.d i m i0 i1
 refine⟨fun hu=>⟨yNb hx hk hu,⟨A.2.2.2.2.1,R,by rw[c4]; exact Int.le_refl _,fun f fl Lf hf hal=> ?_⟩,y4u hn c2 c3 c4 hml hb ht.f⟩,fun _ f fl Lf hf hal=>⟨V,rfl,?_⟩⟩
 ·rw[c2,c3]at hal
  have hal2:=yyI hal ht.f
  obtain⟨Bf,⟨h1,h2⟩,h3⟩:=yZ0 hm hu (fun i i0 i1=>y4n hx i0 i1) (fun i i0 i1 h=>y1Y hx i0 i1 h) hf hal2 (fun f hf i n s i0 i1 hi hn2 hsv=>by
   obtain⟨Bf,g1,_⟩:=old f (yq A) A.2.2.2.1 hf (yCZ A);obtain⟨k1,k2⟩:=g1.u1 i n s i0 i1 hi hn2 hsv;refine⟨k1,?_⟩;rcases k2 with k2 | k2
   ·omega
   ·rw[k2]; exact Int.le_refl _) (fun f hf=>new f fl Lf hf hal2) hn.z
  have he:Eq0 (yn A) fl Lf→Eq0 A fl Lf:=fun e=>⟨e.1.trans c3,fun i i0 i1=>(e.2 i i0 (by rw[c2]; exact i1)).trans (ht.f i i0 i1)⟩
  rw[c1,c2,c3,c5,c6,c7'];exact⟨Bf,⟨fun e=>h1 (he e),fun e=>h2 (he e)⟩,h3⟩
 ·rw[c2,c3]at hal
  have hal2:=yyI hal ht.f
  have hT:=yL1 (T:=T) (L:=L) (B:=B) (Q:=A.2.2.2.2.2.1) (Lf:=Lf) (Lf2:=Lf) (R:=R) (V:=V) hm hf (fun i i0 i1 hi=>yDZ hal2 i0 i1 hi) (fun f hf=>old f fl Lf hf hal2) (fun f hf=>new f fl Lf hf hal2) (fun f hf i i0 i1 hne=>by
   obtain⟨Bf,g1,_⟩:=old f fl Lf hf hal2
   exact g1.u2 i i0 i1 hne) (y6A hal2)
  rw[c1,c2];rcases hT with⟨Bf,h1,h2⟩ | ⟨Bf,h1,h2⟩
  ·exact⟨_,_,_,_,_,R,Bf,by omega,by omega,h1,h2⟩
  ·exact⟨_,_,_,_,_,R,Bf,by omega,by omega,h1,h2⟩
theorem y48 {m:dM} {k:Int} {v:List Int} (h:ynV (yeU m) k v):ynV m k v:=by
 rcases h with h | ⟨w,hw,_⟩
 ·exact .inl h
 ·cases hw
theorem y3S {K m:Int} {V:Int→Int→Int} {a:dA} (h:Lv K V a) (hl:a.2.2.2.1= -1) (hm:inb m a.2.2.1.length=true) (hk:K+1≤60000) :
  (ya (ycr a m)=false→Lv (K+1) V (ycr a m))∧(ya (ycr a m)=true→Dd (K+1) (· =V) (ycr a m)):=by
 rw[yXR h.x (.inl hl) hk];have hmi:=zj6.1 hm;have hlen:=h.x.xk.1.2;have hx:=yPG h.x (.inl hl) hm;have hd: ∀i,0≤i→yh (yZ a m) i=bif m==i then yeU (yh a m)else yh a i:=fun i i0=>yEt m _ hm i0
 have hfl: ∀i,0≤i→yq (yZ a m) i=(yq a i||i==m):=fun i i0=>by
  unfold yq;rw[hd i i0];by_cases e:m=i
  ·subst e; rw[beq_self_eq_true,Bool.or_true]; rfl
  ·rw[show(m==i)=false from beq_eq_false_iff_ne.2 e,show(i==m)=false from beq_eq_false_iff_ne.2 (fun e2=>e e2.symm),Bool.or_false]; rfl
 have hbd: ∀i n,0≤i→yA (yZ a m) i n=yA a i n:=fun i n i0=>by
  unfold yA;rw[hd i i0];by_cases e:m=i
  ·subst e; rw[beq_self_eq_true]; rfl
  ·rw[show(m==i)=false from beq_eq_false_iff_ne.2 e]; rfl
 have hch: ∀f,Ch (yZ a m) f→Ch a f:=fun f hf i n i0 i1 n0=>by
  have:=hf i n i0 i1 n0;rw[hd i i0]at this;by_cases e:m=i
  ·subst e; rw[beq_self_eq_true]at this; exact y48 this
  ·rw[show(m==i)=false from beq_eq_false_iff_ne.2 e]at this; exact this
 obtain⟨B0,R,hB,hr⟩:=h.r
 have key: ∀f fl Lf,Ch (yZ a m) f→Al m a.2.1.1 (yq (yZ a m)) fl Lf→Wsup a.1 a.2.1 a.2.2.2.2.2.2.2.1 a.2.2.2.2.2.2.1 a.2.2.2.1 B0 Lf 0 f fl∧Wdat a.2.1 a.2.2.2.2.2.2.1 a.2.2.2.2.2.1 R V Lf 0 f fl (yA (yZ a m)):=fun f fl Lf hf hal=>by
  have hal2:Al a.2.2.2.1 a.2.1.1 (yq a) fl Lf:=by
   rcases hal with⟨h1,h2⟩ | ⟨h1,h2,h3,h4⟩
   ·exact .inr ⟨by omega,by omega,.inl hl,fun i i0 i1=>by rw[h2 i i0 i1,hfl i i0,h1]⟩
   ·have:m=Lf:=by omega
    refine .inr ⟨h1,h2,.inl hl,fun i i0 i1=> ?_⟩;rw[h4 i i0 i1,hfl i i0,this];cases yq a i<;>cases(i==Lf)<;>rfl
  have hLf:Lf=m:=by rcases hal with⟨h1,_⟩ | ⟨_,_,h3,_⟩<;>omega
  obtain⟨Bf,_,h1,h2⟩:=hr f fl Lf (hch f hf) hal2;have hB0:Bf=0:=by rcases h1.u4 with⟨h3,_⟩ | ⟨_,_,_,_,h3⟩<;>omega
  subst hB0;exact⟨h1,ygJ h2 (fun i n i0 i1 _ _=> .inl ⟨rfl,hbd i n i0⟩) (fun i n i0 i1 hb=>by rw[hbd i n i0]at hb; exact hb)⟩
 exact y3U (T:=a.2.2.2.2.2.2.1) (L:=a.2.2.2.1) (B:=B0) (R:=R) hx ⟨fun _ i s _ _ _ s0 s1=>absurd s1 (by show ¬s<0; omega),fun _ _=>rfl⟩ hk (fun f fl Lf hf hal=>⟨0,key f fl Lf hf hal⟩) (fun f fl Lf hf hal=>(key f fl Lf hf hal).2)
theorem yIs:(yeV []).2=false∧(yaL []).2=false:=⟨by unfold yeV; rfl,by unfold yaL; rfl⟩
theorem y5S (n:Nat) (k:Int):nth (List.replicate n ([]:List Int)) k []= []:=by
 unfold nth;rw[List.getD_eq_getElem?_getD,List.getElem?_replicate];split<;>rfl
theorem y2O {K:Int} {V:Int→Int→Int} {a:dA} (h:Lv K V a) (hm:inb a.2.2.2.1 a.2.2.1.length=true) (hf0:(nth a.2.2.1 a.2.2.2.1 yc).2.2.1=true) (hk:K+1≤60000) :
  (ya (yn (yp a))=false→Lv (K+1) V (yn (yp a)))∧(ya (yn (yp a))=true→Dd (K+1) (· =V) (yn (yp a))):=by
 have hmi:=zj6.1 hm;have hlen:=h.x.xk.1.2;have hg:=yj.1 h.x.xc.1;have hx:=yHH h.x hm;have hLt:yq a a.2.2.2.1=true:=hf0;have hd: ∀i,0≤i→yh (yp a) i=bif a.2.2.2.1==i then yaM (6+a.2.1.2)else yh a i:=fun i i0=>yEt a.2.2.2.1 _ hm i0
 have hdo: ∀i,0≤i→i≠a.2.2.2.1→yh (yp a) i=yh a i:=fun i i0 hi=>by rw[hd i i0,show(a.2.2.2.1==i)=false from beq_eq_false_iff_ne.2 (fun e=>hi e.symm)]; rfl
 have hdl:yh (yp a) a.2.2.2.1=(List.replicate (6+a.2.1.2).toNat [],[],false,[]):=by rw[hd _ hmi.1,beq_self_eq_true,cond_true,yk5 hg.2]
 have hlf:yq (yp a) a.2.2.2.1=false:=by unfold yq; rw[hdl]
 have hlb: ∀n,yA (yp a) a.2.2.2.1 n=false:=fun n=>by unfold yA; rw[hdl]; rfl
 obtain⟨B0,R,hB,hr⟩:=h.r
 have key: ∀f fl Lf,Ch (yp a) f→Al a.2.2.2.1 a.2.1.1 (yq (yp a)) fl Lf→Wsup a.1 a.2.1 a.2.2.2.2.2.2.2.1 a.2.2.2.2.2.2.1 a.2.2.2.1 B0 Lf 0 f fl∧Wdat a.2.1 a.2.2.2.2.2.2.1 a.2.2.2.2.2.1 R V Lf 0 f fl (yA (yp a)):=fun f fl Lf hf hal=>by
  have hLf:Lf=a.2.2.2.1:=by rcases hal with⟨h1,_⟩ | ⟨_,_,h3,_⟩<;>omega
  subst hLf
  have hfn: ∀n,0≤n→f a.2.2.2.1 n= []:=fun n n0=>by
   rcases hf a.2.2.2.1 n hmi.1 (by show a.2.2.2.1<a.2.1.1; omega) n0 with h1 | ⟨w,hw,_⟩
   ·rw[h1,hdl]; exact y5S _ _
   ·rw[hdl]at hw; cases hw
  have hfe: ∀i,0≤i→i<a.2.1.1→i≠a.2.2.2.1→fl i=yq a i:=fun i i0 i1 hi=>by
   have e:yq (yp a) i=yq a i:=by unfold yq; rw[hdo i i0 hi]
   rcases hal with⟨_,h2⟩ | ⟨_,_,_,h2⟩
   ·rw[h2 i i0 i1,e]
   ·rw[h2 i i0 i1,e,show(i==a.2.2.2.1)=false from beq_eq_false_iff_ne.2 hi,Bool.or_false]
  obtain⟨f0,hf0d⟩: ∃f0:Int→Int→List Int,f0=fun i n=>if i=a.2.2.2.1 then ycm (yh a a.2.2.2.1) n else f i n:=⟨_,rfl⟩
  have hf0e: ∀i n,i≠a.2.2.2.1→f0 i n=f i n:=fun i n hi=>by rw[hf0d]; exact if_neg hi
  have hch:Ch a f0:=fun i n i0 i1 n0=>by
   by_cases e:i=a.2.2.2.1
   ·rw[hf0d]; simp only[if_pos e]; rw[e]; exact yxV _ _
   ·rw[hf0e i n e]
    have:=hf i n i0 i1 n0;rw[hdo i i0 e]at this; exact this
  obtain⟨Bf,_,h1,h2⟩:=hr f0 (yq a) a.2.2.2.1 hch (yCZ a)
  have hB0:Bf=0:=by
   rcases h1.u4 with⟨_,_,h3⟩ | ⟨_,_,_,_,h3⟩
   ·rcases h3 with h3 | ⟨h3,_⟩
    ·omega
    ·rw[hLt]at h3; cases h3
   ·exact h3
  subst hB0;have nf: ∀i,0≤i→i<a.2.1.1→yq a i=false→i≠a.2.2.2.1:=fun i _ _ hi e=>by rw[e,hLt]at hi; cases hi
  have nown: ¬(fl a.2.2.2.1=false∧yfW a.1 (f a.2.2.2.1)):=fun⟨_,n,s,hn,hs⟩=>by
   have:=hs.1;rw[hfn n (by omega)]at this;have h2:=yIs.1;rw[this]at h2; cases h2
  refine⟨⟨h1.u0,fun i n s i0 i1 hi hn hs=> ?_,fun i i0 i1 hne=> ?_,?_,.inr ⟨hmi.1,by omega,nown,.inr rfl,rfl⟩⟩,⟨h2.e,h2.q,fun i s i0 i1 s0 s1 hi hlv hb hj=> ?_,fun q q0 q1=> ?_,fun i n r i0 i1 hi h3 h6 hgr=> ?_,h2.v,h2.l,fun i n i0 i1 hi hb=> ?_⟩⟩
  ·by_cases e:i=a.2.2.2.1
   ·subst e
    have:=hs.1;rw[hfn n (by omega)]at this;have h2:=yIs.1;rw[this]at h2; cases h2
   ·exact h1.u1 i n s i0 i1 ((hfe i i0 i1 e).symm.trans hi) hn (by rw[hf0e i n e]; exact hs)
  ·obtain⟨k1,n,s,hn,hs⟩:=h1.u2 i i0 i1 hne
   exact⟨(hfe i i0 i1 hne).trans k1,n,s,hn,by rw[← hf0e i n hne]; exact hs⟩
  ·obtain⟨i,i0,i1,hi,e⟩:=h1.u3
   have hne:=nf i i0 i1 hi;exact⟨i,i0,i1,(hfe i i0 i1 hne).trans hi,by rw[← hf0e i _ hne]; exact e⟩
  ·have hne:i≠a.2.2.2.1:=by omega
   rw[← hf0e i _ hne];refine h2.d i s i0 i1 s0 s1 ((hfe i i0 i1 hne).symm.trans hi) hlv ?_ hj;unfold yA at hb ⊢;rw[hdo i i0 hne]at hb; exact hb
  ·obtain⟨i,i0,i1,hi,e⟩:=h2.r q q0 q1
   have hne:=nf i i0 i1 hi;exact⟨i,i0,i1,(hfe i i0 i1 hne).trans hi,by rw[← hf0e i _ hne]; exact e⟩
  ·by_cases e:i=a.2.2.2.1
   ·subst e
    rw[hfn n (by omega)]at hgr;have h2:=yIs.2;rw[hgr]at h2; cases h2
   ·exact h2.h i n r i0 i1 ((hfe i i0 i1 e).symm.trans hi) h3 h6 (by rw[hf0e i n e]; exact hgr)
  ·by_cases e:i=a.2.2.2.1
   ·subst e; rw[hlb n]at hb; cases hb
   ·refine h2.b i n i0 i1 ((hfe i i0 i1 e).symm.trans hi) ?_
    unfold yA at hb ⊢;rw[hdo i i0 e]at hb; exact hb
 exact y3U (T:=a.2.2.2.2.2.2.1) (L:=a.2.2.2.1) (B:=B0) (R:=R) hx ⟨fun _ i s _ _ _ s0 s1=>absurd s1 (by show ¬s<0; omega),fun _ _=>rfl⟩ hk (fun f fl Lf hf hal=>⟨0,key f fl Lf hf hal⟩) (fun f fl Lf hf hal=>(key f fl Lf hf hal).2)
theorem y42 {id:Int} {g:dG} (hg:ye g=true) (h1:1≤id) (h2:id≤60000):Lv 0 (fun _ _=>0) (ycK id g):=by
 have hge:=yj.1 hg;have hd: ∀i,0≤i→i<g.1→yh (ycK id g) i=yV id g i:=fun i i0 i1=>y2S hg h1 h2 i0 i1
 have e:=yyO hg h1 h2;have hx:=y6G hg h1 h2;have hfl: ∀i,0≤i→i<g.1→yq (ycK id g) i=false:=fun i i0 i1=>by unfold yq; rw[hd i i0 i1,(ylD id i hg).2.2]
 have hbd: ∀i n,0≤i→i<g.1→yA (ycK id g) i n=false:=fun i n i0 i1=>by unfold yA ya0; rw[hd i i0 i1,(ylD id i hg).2.2]; rfl
 have hpo: ∀i n v,0≤i→i<g.1→0≤n→ynV (yh (ycK id g) i) n v→v=bif leb 6 n&&ltb n (6+g.2)then[0]else bif n==0 then yo (ye5 id g 0 0 (-1) 0 i)else[]:=fun i n v i0 i1 n0 h=>by
  have hn:=yPK (id:=id) (i:=i) hg g.2.toNat (Nat.le_refl _) n n0;rw[hd i i0 i1]at h;rcases h with h | ⟨w,hw,_⟩
  ·have h:v=nth ((List.range g.2.toNat).foldl ypA (yjp id g i)).1 n []:=h
   rw[h,hn,show((g.2.toNat:Nat):Int)=g.2 by omega]; rfl
  ·rw[(ylD id i hg).2.2]at hw; cases hw
 refine⟨hx,⟨0,fun _=>(0,[]),by rw[e]; exact Int.le_refl _,fun f fl Lf hf hal=> ?_⟩,⟨fun hn=>absurd (by rw[e]) hn,fun hn=>absurd (by rw[e]) hn⟩⟩;generalize hA:ycK id g=A at *;have a1:A.1=id:=by rw[e]
 have a2:A.2.1=g:=by rw[e]
 have a3:A.2.2.2.1= -1:=by rw[e]
 have a5:A.2.2.2.2.2.1=0:=by rw[e]
 have a6:A.2.2.2.2.2.2.1=0:=by rw[e]
 have a7:A.2.2.2.2.2.2.2.1=0:=by rw[e]
 have a4:A.2.2.2.2.1=0:=by rw[e]
 rw[a2,a3]at hal;have hf2: ∀i n,0≤i→i<g.1→0≤n→f i n=bif leb 6 n&&ltb n (6+g.2)then[0]else bif n==0 then yo (ye5 id g 0 0 (-1) 0 i)else[]:=fun i n i0 i1 n0=>hpo i n _ i0 i1 n0 (hf i n i0 (by rw[a2]; exact i1) n0)
 have f0: ∀i,0≤i→i<g.1→f i 0=yo (ye5 id g 0 0 (-1) 0 i):=fun i i0 i1=>by rw[hf2 i 0 i0 i1 (Int.le_refl _)]; rfl
 have fn: ∀i n,0≤i→i<g.1→1≤n→n<6→f i n= []:=fun i n i0 i1 h1 h6=>by
  rw[hf2 i n i0 i1 (by omega),zk1 (show n<6 by omega),show(n==0)=false from beq_eq_false_iff_ne.2 (by omega)]; rfl
 have hok: ∀i,0≤i→i<g.1→yH (ye5 id g 0 0 (-1) 0 i)=true:=fun i i0 i1=>y3c (by omega) hg ⟨h1,h2⟩ (by omega) (by omega) (by omega) (.inr rfl) i0 i1
 have nf: ∀i,0≤i→i<g.1→i≠Lf→fl i=false:=fun i i0 i1 hne=>y6e hal (fun i i0 i1 h=>by rw[hfl i i0 i1]at h; cases h) i0 i1 hne
 have own: ∀i,0≤i→i<g.1→yfW id (f i):=fun i i0 i1=>⟨0,_,.inl rfl,by rw[f0 i i0 i1]; exact yyv (hok i i0 i1)⟩
 rw[a1,a2,a3,a5,a6,a7];refine⟨0,⟨fun _=>rfl,fun e1 e2=>absurd (e1.1.trans a3) e2⟩,⟨hok,fun i n s i0 i1 hi hn hs=> ?_,fun i i0 i1 hne=>⟨nf i i0 i1 hne,own i i0 i1⟩,?_,?_⟩,⟨y2F g,by omega,fun i s i0 i1 s0 s1 hi hlv hb hj=> ?_,fun q q0 q1=>by omega,fun i n r i0 i1 hi n2 n6 hr=> ?_,fun q q0 q1=>by omega,fun q q0 q1=>by omega,fun i n i0 i1 hi hb=>by rw[hbd i n i0 i1]at hb; cases hb⟩⟩
 ·rcases hn with rfl | rfl
  ·have hs1:=hs.1
   rw[f0 i i0 i1,yJN (hok i i0 i1)]at hs1;have:=congrArg (fun x=>x.1) hs1;simp only at this;subst this;exact⟨rfl,.inr rfl⟩
  ·have hs1:=hs.1
   rw[fn i 1 i0 i1 (by omega) (by omega)]at hs1;have h3:=yIs.1;rw[hs1]at h3; cases h3
 ·by_cases h:Lf=0
  ·exact⟨1,by omega,by omega,nf 1 (by omega) (by omega) (by omega),f0 1 (by omega) (by omega)⟩
  ·exact⟨0,by omega,by omega,nf 0 (by omega) (by omega) (fun e=>h e.symm),f0 0 (by omega) (by omega)⟩
 ·rcases hal with⟨h3,_⟩ | ⟨h3,h4,h5,h6⟩
  ·exact .inl ⟨h3,rfl,.inl h3⟩
  ·refine .inr ⟨h3,h4,fun h=> ?_,.inl rfl,rfl⟩
   have:=h.1;rw[h6 Lf h3 h4,beq_self_eq_true,Bool.or_true]at this; cases this
 ·rw[hf2 i (s+6) i0 i1 (by omega),zk2 (show 6≤s+6 by omega),zky (show s+6<6+g.2 by omega)]; rfl
 ·rw[fn i n i0 i1 (by omega) n6]at hr
  have h3:=yIs.2;rw[hr]at h3; cases h3
theorem yHB (ok:Nat→Bool) (c:Nat→dS): ∀n,let r:=(List.range n).foldl (fun s (i:Nat)=>ylW s (ok i) (c i)) (yeX,false)
  (r.2=true→ ∃i,i<n∧ok i=true∧r.1=c i)∧ ∀i,i<n→ok i=true→r.2=true∧(c i).2.1≤r.1.2.1
 | 0=>⟨fun h=>(by cases h),fun i hi=>absurd hi (Nat.not_lt_zero _)⟩
 | n+1=>by
  have ih:=yHB ok c n;simp only at ih ⊢;rw[List.range_succ,List.foldl_append,List.foldl_cons,List.foldl_nil];generalize (List.range n).foldl (fun s (i:Nat)=>ylW s (ok i) (c i)) (yeX,false)=r at ih ⊢;obtain⟨h1,h2⟩:=ih;unfold ylW;cases hk:ok n
  ·refine⟨fun h=> ?_,fun i hi ho=> ?_⟩
   ·obtain⟨i,hi,ho,e⟩:=h1 h
    exact⟨i,by omega,ho,e⟩
   ·rcases Nat.lt_succ_iff_lt_or_eq.1 hi with h | h
    ·exact h2 i h ho
    ·subst h; rw[hk]at ho; cases ho
  ·cases hb:(!r.2||ltb r.1.2.1 (c n).2.1)
   ·rw[Bool.or_eq_false_iff,Bool.not_eq_false']at hb
    have hle:=zkW hb.2;refine⟨fun h=> ?_,fun i hi ho=> ?_⟩
    ·obtain⟨i,hi,ho,e⟩:=h1 h
     exact⟨i,by omega,ho,e⟩
    ·rcases Nat.lt_succ_iff_lt_or_eq.1 hi with h | h
     ·exact h2 i h ho
     ·subst h; exact⟨hb.1,hle⟩
   ·refine⟨fun _=>⟨n,by omega,hk,rfl⟩,fun i hi ho=>⟨rfl,?_⟩⟩
    show(c i).2.1≤(c n).2.1;rcases Nat.lt_succ_iff_lt_or_eq.1 hi with h | h
    ·obtain⟨g1,g2⟩:=h2 i h ho
     rw[g1,Bool.not_true,Bool.false_or,zka]at hb;omega
    ·subst h; exact Int.le_refl _
structure Fell (S:Int) (m:dM):Prop where
 ok:yx m=true
 len:(m.1.length:Int)=6+S
 cac:m.2.1= []
theorem y4R {S:Int} {m:dM} (h:Fell S m) (hS:1≤S) (hf:m.2.2.1=false) {n:Int} (n0:0≤n) (n6:n<6) (hb:ya0 m n=false):yW m n=(nth m.1 n [],true):=by
 rw[yTe h.ok hf (zj6.2 (by have:=h.len; omega)),hb,cond_false];unfold ycm;rw[h.cac]; rfl
theorem y2B {S id:Int} {m:dM} (h:Fell S m) (hS:1≤S) (hf:m.2.2.1=false) {n:Int} (n0:0≤n) (n6:n<6) (hb:ya0 m n=false):(yqT m id n=true→yxo id n (nth m.1 n []) (yHC m n))∧ ∀s,yxo id n (nth m.1 n []) s→yqT m id n=true∧yHC m n=s:=by
 have hr:=y4R h hS hf n0 n6 hb;unfold yqT yxo yHC;rw[hr];refine⟨fun hc=> ?_,fun s ⟨h1,h2,h3⟩=> ?_⟩
 ·simp only[Bool.true_and,Bool.and_eq_true,beq_iff_eq]at hc
  exact⟨Prod.ext rfl hc.1,hc.2.1,hc.2.2⟩
 ·rw[h1]
  refine⟨?_,rfl⟩;show(true&&(true&&(s.1==id&&s.2.1.tmod 2==n)))=true;rw[h2,h3,beq_self_eq_true,beq_self_eq_true]; rfl
theorem yLb {S id:Int} {m:dM} (h:Fell S m) (hS:1≤S) (hf:m.2.2.1=false) (hb: ∀n,0≤n→n<6→ya0 m n=false) :
  ((yav m id).2=true→ ∃n,(n=0∨n=1)∧yxo id n (nth m.1 n []) (yav m id).1)∧ ∀n s,(n=0∨n=1)→yxo id n (nth m.1 n []) s→(yav m id).2=true∧s.2.1≤(yav m id).1.2.1:=by
 obtain⟨b1,b2⟩:=yHB (fun(i:Nat)=>yqT m id i) (fun(i:Nat)=>yHC m i) 2;have e:yav m id=(List.range 2).foldl (fun s (i:Nat)=>ylW s (yqT m id i) (yHC m i)) (yeX,false):=rfl;rw[← e]at b1 b2;refine⟨fun h2=> ?_,fun n s hn hs=> ?_⟩
 ·obtain⟨i,hi,ho,e1⟩:=b1 h2
  have hc:=(y2B (id:=id) h hS hf (n:=i) (by omega) (by omega) (hb i (by omega) (by omega))).1 ho;exact⟨i,by omega,by rw[e1]; exact hc⟩
 ·obtain⟨k,rfl⟩: ∃k:Nat,n=k:=⟨n.toNat,by omega⟩
  obtain⟨h1,h2⟩:=(y2B (id:=id) h hS hf (n:=k) (by omega) (by omega) (hb k (by omega) (by omega))).2 s hs;have:=b2 k (by omega) h1;rw[h2]at this; exact this
structure FellAll (g:dG) (l:List dM):Prop where
 n:(l.length:Int)=g.1
 f: ∀i,0≤i→i<g.1→Fell g.2 (nth l i yc)
def yys (l:List dM) (i n:Int):List Int:=nth (nth l i yc).1 n []
def flF (l:List dM) (i:Int):Bool:=(nth l i yc).2.2.1
def bdF (l:List dM) (i n:Int):Bool:=ya0 (nth l i yc) n
theorem yS2 {id:Int} {g:dG} {G T L B Lf Bf:Int} {l:List dM} (hl:FellAll g l) (hS:1≤g.2) (hs:Wsup id g G T L B Lf Bf (yys l) (flF l)) (hb: ∀i n,0≤i→i<g.1→flF l i=false→bdF l i n=true→6≤n) {i:Int} (i0:0≤i) (i1:i<g.1) :
  (yhU (nth l i yc) i id=true→flF l i=false∧yfW id (yys l i)∧ ∃n,(n=0∨n=1)∧yxo id n (yys l i n) (yav (nth l i yc) id).1)∧(flF l i=false→yfW id (yys l i)→yhU (nth l i yc) i id=true):=by
 have hb2:flF l i=false→ ∀n,0≤n→n<6→ya0 (nth l i yc) n=false:=fun hf n n0 n6=>by
  cases hx:ya0 (nth l i yc) n
  ·rfl
  ·have:=hb i n i0 i1 hf hx; omega
 unfold yhU;constructor
 ·intro h
  simp only[Bool.and_eq_true,Bool.not_eq_true',beq_iff_eq]at h;obtain⟨n,hn,hsv⟩:=(yLb (id:=id) (hl.f i i0 i1) hS h.1 (hb2 h.1)).1 h.2.1;exact⟨h.1,⟨n,_,hn,hsv⟩,n,hn,hsv⟩
 ·intro hf ⟨n,s,hn,hsv⟩
  obtain⟨b1,b2⟩:=yLb (id:=id) (hl.f i i0 i1) hS hf (hb2 hf);obtain⟨g1,_⟩:=b2 n s hn hsv;obtain⟨k,hk,hkv⟩:=b1 g1;have hr:=(hs.u1 i k _ i0 i1 hf hk hkv).1;have hf':(nth l i yc).2.2.1=false:=hf;rw[hf',g1,hr,beq_self_eq_true]; rfl
theorem y4c {id:Int} {g:dG} {G T L B Lf Bf:Int} {l:List dM} (hl:FellAll g l) (hS:1≤g.2) (hs:Wsup id g G T L B Lf Bf (yys l) (flF l)) (hb: ∀i n,0≤i→i<g.1→flF l i=false→bdF l i n=true→6≤n): ∃i,(0≤i∧i<g.1)∧ydT l id=(ye5 id g G T L B i,true):=by
 obtain⟨b1,b2⟩:=yHB (fun(i:Nat)=>yhU (nth l i yc) i id) (fun(i:Nat)=>(yav (nth l i yc) id).1) l.length;have e:ydT l id=(List.range l.length).foldl (fun s (i:Nat)=>ylW s (yhU (nth l i yc) i id) (yav (nth l i yc) id).1) (yeX,false):=rfl;rw[← e]at b1 b2;have hn:=hl.n;obtain⟨j,j0,j1,jf,je⟩:=hs.u3;obtain⟨k,rfl⟩: ∃k:Nat,j=k:=⟨j.toNat,by omega⟩;have hsl:=yWX (yfF (hs.u0 k j0 j1)).1.1;have hsv:yxo id (G.tmod 2) (yys l k (G.tmod 2)) (ye5 id g G T L B k):=by rw[je]; exact yyv (hs.u0 k j0 j1)
 have hown:=(yS2 hl hS hs hb j0 j1).2 jf ⟨_,_,hsl,hsv⟩;obtain⟨g1,g2⟩:=b2 k (by omega) hown
 have hb2: ∀n,0≤n→n<6→ya0 (nth l k yc) n=false:=fun n n0 n6=>by
  cases hx:ya0 (nth l k yc) n
  ·rfl
  ·have:=hb k n j0 j1 jf hx; omega
 have g3:=((yLb (id:=id) (hl.f k j0 j1) hS jf hb2).2 _ _ hsl hsv).2;obtain⟨i,hi,ho,e1⟩:=b1 g1;obtain⟨if0,_,n,hn2,hsv2⟩:=(yS2 hl hS hs hb (i:=i) (by omega) (by omega)).1 ho;have h3:=(hs.u1 i n _ (by omega) (by omega) if0 hn2 hsv2).2
 have hge:G≤(yav (nth l i yc) id).1.2.1:=by
  have e2:(ydT l id).1.2.1=(yav (nth l i yc) id).1.2.1:=by rw[e1]
  have e3:(ye5 id g G T L B k).2.1=G:=rfl;omega
 rcases h3 with h3 | h3
 ·omega
 ·exact⟨i,by omega,Prod.ext (e1.trans h3) g1⟩
theorem y2y {l:List dM} {id L B Lf:Int} (h1: ∀i:Nat,i<l.length→(i:Int)≠Lf→yhU (nth l i yc) i id=true) (h2: ∀i:Nat,i<l.length→(i:Int)=Lf→yhU (nth l i yc) i id=false→L= -1∨L=Lf) :
  ∀n,n≤l.length→(List.range n).foldl (ykt l id) (L,B,false)=bif leb 0 Lf&&(ltb Lf n&& !(yhU (nth l Lf yc) Lf id))then(Lf,0,false)else(L,B,false)
 | 0,_=>by
  cases h0:leb 0 Lf
  ·rfl
  ·rw[zk3 (show((0:Nat):Int)≤Lf from zj7.1 h0)]; rfl
 | n+1,hn=>by
  rw[List.range_succ,List.foldl_append,List.foldl_cons,List.foldl_nil,y2y h1 h2 n (by omega)];by_cases hnL:(n:Int)=Lf
  ·subst hnL
   rw[zk2 (show(0:Int)≤n by omega),zk3 (Int.le_refl _),zky (show(n:Int)<((n+1:Nat):Int)by omega)];simp only[Bool.true_and,Bool.false_and,cond_false];unfold ykt;cases ho:yhU (nth l n yc) n id
   ·rcases h2 n (by omega) rfl ho with h3 | h3
    ·subst h3; rfl
    ·subst h3; rw[cond_false,beq_self_eq_true,Bool.or_true]; rfl
   ·rfl
  ·have ho:=h1 n (by omega) hnL
   have e:ltb Lf ((n+1:Nat):Int)=ltb Lf (n:Int):=by rw[Bool.eq_iff_iff,zka,zka]; omega
   rw[e];unfold ykt;rw[ho]; rfl
def ynp (id:Int) (g:dG) (G T Lf Bf:Int) (l:List dM):dA:=(id,g,l,Lf,Bf,T,T,G,[],-1,false,false)
theorem y5x {id:Int} {g:dG} {G T L B Lf Bf:Int} {l:List dM} (hl:FellAll g l) (hs:Wsup id g G T L B Lf Bf (yys l) (flF l)) (hb: ∀i n,0≤i→i<g.1→flF l i=false→bdF l i n=true→6≤n) :
  yfX l id=(ynp id g G T Lf Bf l,true)∧yX (ynp id g G T Lf Bf l)∧yF (ynp id g G T Lf Bf l):=by
 obtain⟨j,j0,j1,jf,_⟩:=hs.u3;obtain⟨s1,s2,s3,s4,s5,s6,s7⟩:=yfF (hs.u0 j j0 j1);have hg:=yj.1 s2;have hS:1≤g.2:=by omega
 have hn:=hl.n;obtain⟨i,⟨i0,i1⟩,hbest⟩:=y4c hl hS hs hb;have ow:=fun i i0 i1=>yS2 hl hS hs hb (i:=i) i0 i1
 have hfold:(List.range l.length).foldl (ykt l id) (L,B,false)=(Lf,Bf,false):=by
  rw[y2y (Lf:=Lf) (fun i hi hne=>by
   obtain⟨k1,k2⟩:=hs.u2 i (by omega) (by omega) hne
   exact(ow i (by omega) (by omega)).2 k1 k2) (fun i hi he ho=>by
   rcases hs.u4 with⟨h1,_,h2⟩ | ⟨_,_,_,h4,_⟩
   ·exact .inr h1.symm
   ·exact h4) _ (Nat.le_refl _)]
  rcases hs.u4 with⟨h1,h2,h3⟩ | ⟨h1,h2,h3,h4,h5⟩
  ·rcases h3 with h3 | ⟨h3,h4⟩
   ·rw[zk1 (show Lf<0 by omega),Bool.false_and,cond_false,h1,h2]
   ·cases h0:leb 0 Lf
    ·rw[Bool.false_and,cond_false,h1,h2]
    ·have h0:=zj7.1 h0
     rw[(ow Lf h0 (by omega)).2 h3 h4,Bool.not_true,Bool.and_false,Bool.and_false,cond_false,h1,h2]
  ·have ho:yhU (nth l Lf yc) Lf id=false:=by
    cases hx:yhU (nth l Lf yc) Lf id
    ·rfl
    ·obtain⟨k1,k2,_⟩:=(ow Lf h1 h2).1 hx
     exact absurd ⟨k1,k2⟩ h3
   rw[zk2 h1,zky (show Lf<((l.length:Nat):Int)by omega),ho,Bool.not_false,h5]; rfl
 have hall:yH7 l id=ynp id g G T Lf Bf l:=by
  unfold yH7;rw[hbest];show yuJ (ye5 id g G T L B i) l id ((List.range l.length).foldl (ykt l id) (L,B,false))=_;rw[hfold]; rfl
 have hL:(-1≤Lf∧Lf≤g.1-1)∧(0≤Bf∧Bf≤g.2)∧(Lf= -1→Bf=0):=by
  rcases hs.u4 with⟨h1,h2,_⟩ | ⟨h1,h2,_,_,h5⟩
  ·subst h1 h2; exact⟨s5,s6,fun h=>by omega⟩
  ·exact⟨by omega,by omega,fun h=>by omega⟩
 have hcore:yX (ynp id g G T Lf Bf l):=⟨s2,s3,rfl,hL.1,hL.2.1,hL.2.2,s4,⟨Int.le_refl _,s4.2⟩,by show T≤T+4; omega,s1.1,s1.2⟩
 have hkeep:yF (ynp id g G T Lf Bf l):=by
  refine⟨⟨fun k hk=> ?_,hn⟩,by show -1≤(-1:Int); omega,by show(-1:Int)≤1000; omega⟩;have hk:k<l.length:=hk;have hf:=hl.f k (by omega) (by omega);refine⟨hf.ok,hf.len,fun h=> .inl ?_⟩;show(k:Int)=Lf;by_cases e:(k:Int)=Lf
  ·exact e
  ·have:=(hs.u2 k (by omega) (by omega) e).1
   have h:flF l k=true:=h;rw[h]at this; cases this
 refine⟨?_,hcore,hkeep⟩;unfold yfX;rw[hall,hbest];show(bif true&&(((l.length:Int)==g.1)&&yM (ynp id g G T Lf Bf l))then(ynp id g G T Lf Bf l,true)else(yai,false))=_;rw[yC0.2 ⟨hcore,hkeep⟩,hn,beq_self_eq_true]; rfl
theorem y4Z {α:Type} (p:α→Bool) (l:List α):leb 0 (yan p l)=l.any p:=by
 unfold yan;cases l.any p
 ·rfl
 ·exact zk2 (show(0:Int)≤((l.takeWhile (fun x=> !p x)).length:Int)by omega)
theorem yyx {id:Int} {g:dG} {G T L B Lf Bf:Int} {f:Int→Int→List Int} {fl fl':Int→Bool} (h:Wsup id g G T L B Lf Bf f fl) (e: ∀i,0≤i→i<g.1→fl' i=fl i):Wsup id g G T L B Lf Bf f fl':=by
 refine⟨h.u0,fun i n s i0 i1 hi=>h.u1 i n s i0 i1 ((e i i0 i1).symm.trans hi),fun i i0 i1 hne=> ?_,?_,?_⟩
 ·rw[e i i0 i1]; exact h.u2 i i0 i1 hne
 ·obtain⟨i,i0,i1,h3⟩:=h.u3
  exact⟨i,i0,i1,by rw[e i i0 i1]; exact h3⟩
 ·rcases h.u4 with⟨h1,h2,h3⟩ | ⟨h1,h2,h3⟩
  ·refine .inl ⟨h1,h2,?_⟩
   obtain⟨i,i0,i1,_⟩:=h.u3;have:=(yfF (h.u0 i i0 i1)).2.2.2.2.1;by_cases hm:Lf= -1
   ·exact .inl hm
   ·rw[e Lf (by omega) (by omega)]; exact h3
  ·refine .inr ⟨h1,h2,?_⟩
   rw[e Lf h1 h2]; exact h3
theorem yC2 {g:dG} {T Q:Int} {R:Int→Int×List Int} {V:Int→Int→Int} {Lf Bf:Int} {f:Int→Int→List Int} {fl fl':Int→Bool} {bd:Int→Int→Bool} (h:Wdat g T Q R V Lf Bf f fl bd) (e: ∀i,0≤i→i<g.1→fl' i=fl i):Wdat g T Q R V Lf Bf f fl' bd :=
 ⟨h.e,h.q,fun i s i0 i1 s0 s1 hi=>h.d i s i0 i1 s0 s1 ((e i i0 i1).symm.trans hi),fun q q0 q1=>by
  obtain⟨i,i0,i1,h3⟩:=h.r q q0 q1
  exact⟨i,i0,i1,by rw[e i i0 i1]; exact h3⟩,fun i n r i0 i1 hi=>h.h i n r i0 i1 ((e i i0 i1).symm.trans hi),h.v,h.l,fun i n i0 i1 hi=>h.b i n i0 i1 ((e i i0 i1).symm.trans hi)⟩
theorem ys6 {a b:dA} (h:yy b=yy a):b.2.2.2.2.2.2.2.2.1=a.2.2.2.2.2.2.2.2.1:=congrArg (fun x=>x.2.2.2.2.2.2.2.1) h
theorem y4z (a:dA) (r:dN):(yr a r).2.2.2.2.2.2.2.2.1=a.2.2.2.2.2.2.2.2.1:=ys6 (ybs a r)
theorem y3p (a:dA) (s:Int) (d:List Int):(yI a s d).2.2.2.2.2.2.2.2.1=a.2.2.2.2.2.2.2.2.1:=ys6 (yeo a s d)
structure Way (id:Int) (g:dG) (G T L B Q:Int) (R:Int→Int×List Int) (V:Int→Int→Int) (Lf Bf:Int) (l0:List dM) (a:dA):Prop where
 e1:a.1=id
 e2:a.2.1=g
 e3:a.2.2.2.1=Lf
 e4:a.2.2.2.2.1=Bf
 e6:a.2.2.2.2.2.2.1=T
 e7:a.2.2.2.2.2.2.2.1=G
 e8:a.2.2.2.2.2.2.2.2.1= []
 e9:a.2.2.2.2.2.2.2.2.2.2.2=false
 kp:yF a
 st: ∀f,Ch a f→Wsup id g G T L B Lf Bf f (yq a)∧Wdat g T Q R V Lf Bf f (yq a) (yA a)
 fl: ∀i,0≤i→i<g.1→yq a i=flF l0 i
 bd: ∀i m,0≤i→i<g.1→6≤m→(yA a i m=true→bdF l0 i m=true)∧(T=Q→yA a i m=bdF l0 i m)
structure Rp (id:Int) (g:dG) (G T L B Q:Int) (R:Int→Int×List Int) (V:Int→Int→Int) (Lf Bf:Int) (l0:List dM) (q:Int) (a:dA):Prop where
 w:Way id g G T L B Q R V Lf Bf l0 a
 q0:T≤q
 q1:q≤Q
 s:a.2.2.2.2.2.1=q
 u:ya a=false
 c: ∀i,0≤i→i<g.1→(yh a i).2.1.length≤1
 v: ∀i s,0≤i→i<g.1→0≤s→s<g.2→yaw a s i=true→(∀p,q≤p→p<Q→(R p).1≠s)→ycm (yh a i) (s+6)= [V s i]
section
variable {id:Int} {g:dG} {G T L B Q:Int} {R:Int→Int×List Int} {V:Int→Int→Int} {Lf Bf:Int} {l0:List dM}
theorem yIk (a:dA):Ch a (fun i n=>ycm (yh a i) n):=fun i n _ _ _=>yxV _ _
theorem y31 {q:Int} {a:dA} (h:Rp id g G T L B Q R V Lf Bf l0 q a):(q<Q→yaH a q=((q,R q),true))∧(q=Q→(yaH a q).2=false):=by
 have hst:=h.w.st _ (yIk a);obtain⟨hs,hd⟩:=hst;have hq:=hd.q;have hq0:=h.q0;have hlen:=h.w.kp.1.2;rw[h.w.e2]at hlen;have hsl:=ykZ (q:=q) (by omega);obtain⟨j,j0,j1,_⟩:=hs.u3;have hgo:=(yfF (hs.u0 j j0 j1)).2.1;have hg:=yj.1 hgo
 have rd: ∀i:Nat,i<a.2.2.1.length→yIU a q i=bif yq a i then([],false)else(ycm (yh a i) (yg q),true):=fun i hi=>by
  have dk:=yd6 h.w.kp (i:=i) (by omega) (by rw[h.w.e2]; omega);rw[h.w.e2]at dk;unfold yIU;cases hf:yq a i
  ·have hbf:ya0 (yh a i) (yg q)=false:=by
    cases hx:ya0 (yh a i) (yg q)
    ·rfl
    ·have:=hd.b i _ (by omega) (by omega) hf hx; omega
   have:=yTe dk.1 hf (n:=yg q) (zj6.2 (by omega));rw[hbf]at this; exact this
  ·have hf:(nth a.2.2.1 i yc).2.2.1=true:=hf
   unfold yW ys4;rw[hf,Bool.not_true,Bool.false_and,Bool.and_false]; rfl
 have hit: ∀i:Nat,i<a.2.2.1.length→ykX a q i=true→q<Q∧yrH a q i=(q,R q):=fun i hi hh=>by
  have r:=rd i hi;unfold ykX yrH at hh;unfold yrH;rw[r]at hh ⊢;cases hf:yq a i
  ·rw[hf]at hh
   simp only[cond_false,Bool.true_and,Bool.and_eq_true,beq_iff_eq]at hh ⊢;have e:yaL (ycm (yh a i) (yg q))=((yaL (ycm (yh a i) (yg q))).1,true):=Prod.ext rfl hh.1;obtain⟨k1,k2⟩:=hd.h i (yg q) _ (by omega) (by omega) hf hsl.1 hsl.2.1 e;have hse:=hh.2.1;rw[hse]at k1 k2;exact⟨k1,Prod.ext hse (k2 hq0)⟩
  ·rw[hf]at hh
   simp only[cond_true,Bool.false_and]at hh;cases hh
 refine⟨fun hlt=> ?_,fun he=> ?_⟩
 ·obtain⟨i,i0,i1,hi,e⟩:=hd.r q hq0 hlt
  obtain⟨k,rfl⟩: ∃k:Nat,i=k:=⟨i.toNat,by omega⟩;have hv:=hd.v q hq0 hlt;have hrk:=yMW (q:=q) (by omega) (by omega) hv.1 hv.2.1 hv.2.2;have hstr:=yad.1 hv.1
  have hh:ykX a q k=true:=by
   unfold ykX yrH;rw[rd k (by omega),hi];have e:ycm (yh a k) (yg q)=yaf (q,R q):=e;rw[cond_false,e];show(true&&((yaL (yaf (q,R q))).2&&((yaL (yaf (q,R q))).1.1==q&&((leb 0 (yaL (yaf (q,R q))).1.2.1&&leb (yaL (yaf (q,R q))).1.2.1 (a.2.1.2-1))&&((yaL (yaf (q,R q))).1.2.2.length:Int)==a.2.1.1-1))))=true;rw[yHE hrk,h.w.e2];show(true&&(true&&(q==q&&((leb 0 (R q).1&&leb (R q).1 (g.2-1))&&((R q).2.length:Int)==g.1-1))))=true;rw[zk2 hstr.2.1,zk2 hstr.2.2,hv.2.1,beq_self_eq_true,beq_self_eq_true]; rfl
  have hsome:(yaH a q).2=true:=by
   unfold yaH;rw[y4Z,List.any_eq_true.2 ⟨k,List.mem_range.2 (by omega),hh⟩]; rfl
  obtain⟨m,hm,h1,h2⟩:=yQq hsome;exact Prod.ext (h2.trans (hit m hm h1).2) hsome
 ·cases hx:(yaH a q).2
  ·rfl
  ·obtain⟨m,hm,h1,_⟩:=yQq hx
   have:=(hit m hm h1).1; omega
theorem y6v {q:Int} {a:dA} (h:Way id g G T L B Q R V Lf Bf l0 a) (q0:T≤q) (q1:q<Q):Way id g G T L B Q R V Lf Bf l0 (yr a (q,R q)):=by
 have ok:=yaJ h.kp;have ht:=yNi (q,R q) ok;have hc:=ybs a (q,R q);obtain⟨c1,c2,c3,c4,c5,c6,c7⟩:=ybq hc;have hq:=(h.st _ (yIk a)).2.q;have hsl:=ykZ (q:=q) (by omega);have htf: ∀i,0≤i→i<g.1→yq (yr a (q,R q)) i=yq a i:=fun i i0 i1=>ht.f i i0 (by rw[h.e2]; exact i1)
 have htb: ∀i m,0≤i→i<g.1→6≤m→yA (yr a (q,R q)) i m=yA a i m:=fun i m i0 i1 m0=>ht.b i m i0 (by rw[h.e2]; exact i1) (fun e=>by have:m=yg q:=e; omega)
 refine⟨c1.trans h.e1,c2.trans h.e2,c3.trans h.e3,c4.trans h.e4,c6.trans h.e6,c7.trans h.e7,(y4z a (q,R q)).trans h.e8,(yr7 hc).trans h.e9,yxZ _ h.kp,fun f' hf=> ?_,fun i i0 i1=>(htf i i0 i1).trans (h.fl i i0 i1),fun i m i0 i1 m0=>by rw[htb i m i0 i1 m0]; exact h.bd i m i0 i1 m0⟩;obtain⟨f,hf0,hff⟩:=ht.c f' hf;rw[h.e2]at hff;obtain⟨h1,h2⟩:=h.st f hf0;have hfl: ∀i,0≤i→i<g.1→yq (yr a (q,R q)) i=false→yq a i=false:=fun i i0 i1 hi=>(htf i i0 i1).symm.trans hi
 refine⟨yyx (ygK h1 (fun i n i0 i1 _ hn=> ?_)) htf,yC2 (y56 h2 q0 q1 (fun i n i0 i1 _ hn=>hff i n i0 i1 (by omega)) htb (fun i n i0 i1 hb=>ht.d i n i0 (by rw[h.e2]; exact i1) hb)) htf⟩;rcases hff i n i0 i1 (by omega)with e | ⟨e,_⟩
 ·exact e
 ·have:n=yg q:=e
  omega
theorem y55 {q:Int} {a:dA} (h:Way id g G T L B Q R V Lf Bf l0 a) (q0:T≤q) (q1:q<Q):Way id g G T L B Q R V Lf Bf l0 (yI a (R q).1 (R q).2):=by
 have ok:=yaJ h.kp;have ht:=yTh (R q).1 (R q).2 ok;have hc:=yeo a (R q).1 (R q).2;obtain⟨c1,c2,c3,c4,c5,c6,c7⟩:=ybq hc;have hst:=(h.st _ (yIk a)).2;have hs1:=yad.1 (hst.v q q0 q1).1;have hg:=yj.1 hs1.1;have hda:=yjb (s:=(R q).1) hs1.2.1 (by omega);have htf: ∀i,0≤i→i<g.1→yq (yI a (R q).1 (R q).2) i=yq a i:=fun i i0 i1=>ht.f i i0 (by rw[h.e2]; exact i1)
 refine⟨c1.trans h.e1,c2.trans h.e2,c3.trans h.e3,c4.trans h.e4,c6.trans h.e6,c7.trans h.e7,(y3p a _ _).trans h.e8,(yr7 hc).trans h.e9,yGN _ _ h.kp,fun f' hf=> ?_,fun i i0 i1=>(htf i i0 i1).trans (h.fl i i0 i1),fun i m i0 i1 m0=>⟨fun hb=>(h.bd i m i0 i1 m0).1 (ht.d i m i0 (by rw[h.e2]; exact i1) hb),fun e=>by omega⟩⟩;obtain⟨f,hf0,hff⟩:=ht.c f' hf;rw[h.e2]at hff;obtain⟨h1,h2⟩:=h.st f hf0;refine⟨yyx (ygK h1 (fun i n i0 i1 _ hn=> ?_)) htf,yC2 (ygJ h2 (fun i n i0 i1 hi hn=> ?_) (fun i n i0 i1 hb=>ht.d i n i0 (by rw[h.e2]; exact i1) hb)) htf⟩
 ·rcases hff i n i0 i1 (by omega)with e | ⟨e,_⟩
  ·exact e
  ·omega
 ·by_cases e:n=yu (R q).1
  ·exact .inr (.inl ⟨q,q0,q1,by omega⟩)
  ·rcases hff i n i0 i1 (by omega)with e2 | ⟨e2,_⟩
   ·exact .inl ⟨e2,ht.b i n i0 (by rw[h.e2]; exact i1) e⟩
   ·exact absurd e2 e
theorem y6t {q:Int} {a:dA} (h:Rp id g G T L B Q R V Lf Bf l0 q a) (hq:q<Q):Way id g G T L B Q R V Lf Bf l0 (yh2 a)∧(ya (yh2 a)=false→Way id g G T L B Q R V Lf Bf l0 (ykY a)∧(ya (ykY a)=false→Rp id g G T L B Q R V Lf Bf l0 (q+1) (ykY a))):=by
 have hfd:=(y31 h).1 hq;have e1:yh2 a=yr a (q,R q):=by unfold yh2; rw[h.s,hfd]
 have e2:ykY a=yI (yO (yr a (q,R q))) (R q).1 (R q).2:=by unfold ykY; rw[e1,h.s,hfd]
 rw[e1,e2];have w1:=y6v h.w h.q0 hq;refine⟨w1,fun hu1=> ?_⟩;have w2:Way id g G T L B Q R V Lf Bf l0 (yO (yr a (q,R q))):=⟨w1.e1,w1.e2,w1.e3,w1.e4,w1.e6,w1.e7,w1.e8,w1.e9,w1.kp,w1.st,w1.fl,w1.bd⟩;have w3:=y55 w2 h.q0 hq;refine⟨w3,fun hu2=> ?_⟩;have hst:=(h.w.st _ (yIk a)).2;have hv:=hst.v q h.q0 hq;have hs1:=yad.1 hv.1;have hg:=yj.1 hs1.1;have hqq:=hst.q;have hq0:=h.q0;have hlen:=h.w.kp.1.2;rw[h.w.e2]at hlen;have hl1:(yr a (q,R q)).2.2.1.length=a.2.2.1.length:=yNg a _;have hd1: ∀i,0≤i→i<g.1→yh (yr a (q,R q)) i=yC (yet (yg q) (yaf (q,R q)) (yh a i)):=fun i i0 i1=>yNf hu1 i0 (by omega)
 have dk: ∀i,0≤i→i<g.1→yx (yh a i)=true∧((yh a i).1.length:Int)=6+g.2:=fun i i0 i1=>by
  have:=yd6 h.w.kp i0 (by rw[h.w.e2]; exact i1);rw[h.w.e2]at this; exact⟨this.1,this.2.1⟩
 have hsq:(yO (yr a (q,R q))).2.2.2.2.2.1=q+1:=by
  show i64.wrap ((yr a (q,R q)).2.2.2.2.2.1+1)=_;rw[yfY (ybs a (q,R q)),h.s]; exact wr (by omega) (by omega)
 have less1: ∀i,0≤i→i<g.1→yDA g.2 (yh a i) (yh (yr a (q,R q)) i):=fun i i0 i1=>by
  rw[hd1 i i0 i1];exact yJf (yRk (ykZ (q:=q) (by omega)).2.1) (yCU (ymj (dk i i0 i1).1))
 have cac1: ∀i,0≤i→i<g.1→(yh (yr a (q,R q)) i).2.2.1=false→(yh (yr a (q,R q)) i).2.1= []:=fun i i0 i1 hf=>by
  rw[hd1 i i0 i1]at hf ⊢;rw[(yn6 _).2]at hf;exact(yvb (ymj (dk i i0 i1).1) hf).1
 have cac2: ∀i,0≤i→i<g.1→(yh (yr a (q,R q)) i).2.1.length≤1:=fun i i0 i1=>by
  rw[hd1 i i0 i1];exact Nat.le_trans (yva (dk i i0 i1).1) (h.c i i0 i1)
 have hlq: ∀i,yag (yr a (q,R q)).2.2.2.1 (yr a (q,R q)).2.2.2.2.1 i=yag Lf Bf i:=fun i=>by rw[w1.e3,w1.e4]
 have hv1: ∀i s,0≤i→i<g.1→0≤s→s<g.2→yaw (yr a (q,R q)) s i=true→(∀p,q≤p→p<Q→(R p).1≠s)→ycm (yh (yr a (q,R q)) i) (s+6)= [V s i]:=fun i s i0 i1 s0 s1 hh hj=>by
  unfold yaw at hh;rw[hlq,Bool.and_eq_true,Bool.not_eq_true']at hh
  have hf:(yh (yr a (q,R q)) i).2.2.1=false:=by
   have:=hh.1;simp only[yag,Bool.and_eq_true,Bool.not_eq_true']at this; exact this.1
  obtain⟨g1,g2⟩:=less1 i i0 i1 hf;obtain⟨g3,g4⟩:=g2 (s+6) (by omega) (by omega) hh.2;rw[g4];refine h.v i s i0 i1 s0 s1 ?_ hj;unfold yaw;rw[h.w.e3,h.w.e4,g3];have:=hh.1;unfold yag at this ⊢;rw[hf]at this;rw[g1,this]; rfl
 have kd:yF (yO (yr a (q,R q))):=w2.kp
 have hd2: ∀i,0≤i→i<g.1→yh (yI (yO (yr a (q,R q))) (R q).1 (R q).2) i=yjc Lf Bf (yk g (R q).1) g.1 (R q).1 (R q).2 i (yh (yr a (q,R q)) i):=fun i i0 i1=>by
  have:=yDX (yQn (a:=yO (yr a (q,R q))) (R q).1 (R q).2 hu1) hu2 i0 (by show i<((yr a (q,R q)).2.2.1.length:Int); omega);rw[w2.e2,w2.e3,w2.e4]at this; exact this
 have hda:=yjb (s:=(R q).1) hs1.2.1 (by omega);refine⟨w3,by omega,by omega,(yfY (yeo _ _ _)).trans hsq,hu2,fun i i0 i1=> ?_,fun i s i0 i1 s0 s1 hh hj=> ?_⟩
 ·rw[hd2 i i0 i1]
  obtain⟨c1,c2⟩:=yPE Lf Bf (yk g (R q).1) g.1 (R q).1 (R q).2 i (yh (yr a (q,R q)) i);cases hf:(yh (yr a (q,R q)) i).2.2.1
  ·rw[cac1 i i0 i1 hf]at c1; exact c1
  ·rw[c2 hf]; exact cac2 i i0 i1
 ·unfold yaw at hh
  rw[w3.e3,w3.e4,hd2 i i0 i1,Bool.and_eq_true,Bool.not_eq_true']at hh;rw[hd2 i i0 i1];by_cases hs:s=(R q).1
  ·subst hs
   have hlv:yag Lf Bf i (R q).1 (yh (yr a (q,R q)) i)=true:=by
    have:=hh.1;unfold yag at this ⊢;rw[(yCS (S:=0) (-1) (by omega)).1]at this;exact this
   have hf:(yh (yr a (q,R q)) i).2.2.1=false:=by
    simp only[yag,Bool.and_eq_true,Bool.not_eq_true']at hlv; exact hlv.1
   have dk2:=yd6 w1.kp i0 (by rw[w1.e2]; exact i1);rw[w1.e2]at dk2;unfold yjc;rw[hlv,cond_true,yn3 (yqS dk2.1 hf (by rw[hda]; exact zj6.2 (by omega)) (yzK.2 ⟨by simp,fun x hx=> ?_⟩) (by rw[cac1 i i0 i1 hf]; decide)),hda,beq_self_eq_true,cond_true,hst.l q hq0 hq (fun p p0 p1=>hj p (by omega) p1) i i0 i1];rw[List.mem_singleton.1 hx];exact ytc.1 (yLg hv.2.2)
  ·obtain⟨e1,e2,e3⟩:=yCS (L:=Lf) (B:=Bf) (p:=yk g (R q).1) (N:=g.1) (s:=(R q).1) (i:=i) (d:=(R q).2) (S:=0) (m:=yh (yr a (q,R q)) i) (s+6) (by omega)
   rw[e3];refine hv1 i s i0 i1 s0 s1 ?_ (fun p p0 p1=> ?_)
   ·unfold yaw
    rw[hlq];rw[e2]at hh;have h2:=hh.1;unfold yag at h2 ⊢;rw[e1]at h2;rw[h2,hh.2]; rfl
   ·by_cases e:p=q
    ·subst e; exact fun e=>hs e.symm
    ·exact hj p (by omega) p1
theorem y6h: ∀(k i:Nat) (q:Int) (a:dA),Rp id g G T L B Q R V Lf Bf l0 q a→Q≤q+k→(∀b,goE yqH .inl k i a= .inl b→Rp id g G T L B Q R V Lf Bf l0 Q b)∧ ∀b,goE yqH .inl k i a= .inr b→ya b=true∧Way id g G T L B Q R V Lf Bf l0 b
 | 0,i,q,a,h,hk=>by
  have hq:q=Q:=by have:=h.q1; omega
  refine⟨fun b hb=> ?_,fun b hb=> ?_⟩
  ·cases hb; subst hq; exact h
  ·cases hb
 | k+1,i,q,a,h,hk=>by
  have hf:=y31 h;have hq1:=h.q1;have hst:=(h.w.st _ (yIk a)).2.q;unfold goE yqH;by_cases hq:q=Q
  ·have h2:=hf.2 hq
   rw[h.s,h2];refine⟨fun b hb=> ?_,fun b hb=> ?_⟩
   ·cases hb; subst hq; exact h
   ·cases hb
  ·have h2:=hf.1 (by omega)
   obtain⟨w1,w2⟩:=y6t h (by omega);rw[h.s,h2,zk1 (show q<60000 by omega)];cases hu1:ya (yh2 a)
   ·obtain⟨w3,w4⟩:=w2 hu1
    cases hu2:ya (ykY a)
    ·exact y6h k (i+1) (q+1) (ykY a) (w4 hu2) (by omega)
    ·refine⟨(fun b hb=>by cases hb),fun b hb=> ?_⟩
     cases hb; exact⟨hu2,w3⟩
   ·refine⟨(fun b hb=>by cases hb),fun b hb=> ?_⟩
    cases hb; exact⟨hu1,w1⟩
end
structure Back (K id:Int) (g:dG) (V:Int→Int→Int) (Lf:Int) (l:List dM) (x:dA):Prop where
 bi:x.1=id
 bg:x.2.1=g
 bl:x.2.2.2.1=Lf
 bc:x.2.2.2.2.2.2.2.2.1= []
 bb:x.2.2.2.2.2.2.2.2.2.2.2=false
 bk:yF x
 bf: ∀i,0≤i→i<g.1→yq x i=flF l i
 be: ∀i m,0≤i→i<g.1→6≤m→yA x i m=true→bdF l i m=true
 dn:ya x=true→ ∀f,Ch x f→WW K id g V Lf f (yq x) (yA x)
 up:ya x=false→Ix K V x∧Rob x.2.2.2.2.1 V x∧x.2.2.2.2.2.2.1=x.2.2.2.2.2.1∧(x.2.2.2.1≠ -1→yq x x.2.2.2.1=true→x.2.2.2.2.1=0)
theorem yZR {l:List dM} (ks:List Int) {i:Int} (i0:0≤i) (i1:i<(l.length:Int)):nth (yak l ks) i yc=yd7 (nth l i yc) (yLY ks i.toNat):=by
 obtain⟨k,rfl⟩: ∃k:Nat,i=k:=⟨i.toNat,by omega⟩;unfold yak;rw[zkS,zkJ (by rw[List.length_map,List.length_range]; omega),List.getElem_map,List.getElem_range]; rfl
theorem y4J (b:dA):(ym b).2.2.2.2.2.2.2.2.2.2.2=b.2.2.2.2.2.2.2.2.2.2.2:=by
 have h1:=yr7 (yaO b);unfold ym;cases ya (yd b)
 ·exact(yr7 (ydh (yT (yd b)))).trans h1
 ·exact h1
theorem y26 {K id:Int} {g:dG} {G T L B Q:Int} {R:Int→Int×List Int} {V:Int→Int→Int} {Lf Bf:Int} {l:List dM} {ks:List Int} {fuse:Int} (hn:(l.length:Int)=g.1) (hm: ∀i,0≤i→i<g.1→yx (nth l i yc)=true∧((nth l i yc).1.length:Int)=6+g.2) (hG:G≤K) (hQ:Q≤K) (hK:K+1≤60000) (hfu: -1≤fuse∧fuse≤1000)
  (hs:Wsup id g G T L B Lf Bf (yys (yak l ks)) (flF l)) (hd:Wdat g T Q R V Lf Bf (yys (yak l ks)) (flF l) (bdF l)) :
  ∃x,yoD l ks id fuse=(x,true)∧Back (K+1) id g V Lf l x∧x.2.2.2.2.1=Bf∧(T=Q→ ∀i m,0≤i→i<g.1→6≤m→yA x i m=bdF l i m):=by
 have hfn:=fun i i0 i1=>yZR (l:=l) ks (i:=i) i0 i1
 have hfr: ∀i,0≤i→i<g.1→(nth (yak l ks) i yc).2.1= []∧(nth (yak l ks) i yc).2.2=(nth l i yc).2.2∧(nth (yak l ks) i yc).1.length=(nth l i yc).1.length:=fun i i0 i1=>by
  rw[hfn i i0 (by omega)]; exact yZS (hm i i0 i1).1 _
 have hFA:FellAll g (yak l ks):=⟨by unfold yak; rw[List.length_map,List.length_range]; exact hn,fun i i0 i1=>⟨by rw[hfn i i0 (by omega)]; exact y6l (hm i i0 i1).1 _,by rw[(hfr i i0 i1).2.2]; exact(hm i i0 i1).2,(hfr i i0 i1).1⟩⟩;have hfl: ∀i,0≤i→i<g.1→flF (yak l ks) i=flF l i:=fun i i0 i1=>by unfold flF; rw[(hfr i i0 i1).2.1]
 have hbd: ∀i m,0≤i→i<g.1→bdF (yak l ks) i m=bdF l i m:=fun i m i0 i1=>by unfold bdF ya0; rw[(hfr i i0 i1).2.1]
 have hs2:=yyx hs hfl;obtain⟨hasm,hcore,hkeep⟩:=y5x hFA hs2 (fun i n i0 i1 hf hb=>hd.b i n i0 i1 ((hfl i i0 i1).symm.trans hf) (by rw[← hbd i n i0 i1]; exact hb));have hcoreq:yy (yhV (ynp id g G T Lf Bf (yak l ks)) fuse false)=yy (ynp id g G T Lf Bf (yak l ks)):=rfl;obtain⟨a0,ha0⟩: ∃a0,a0=yhV (ynp id g G T Lf Bf (yak l ks)) fuse false:=⟨_,rfl⟩;have hk0:yF a0:=by rw[ha0]; exact⟨hkeep.1,hfu⟩
 have hc0:yX a0:=by rw[ha0]; exact yC1 hcoreq hcore
 have hdk: ∀i,yh a0 i=nth (yak l ks) i yc:=fun i=>by rw[ha0]; rfl
 have hrec:yoD l ks id fuse=(yMX a0,true):=by
  unfold yoD;rw[hasm];show(ymh (bif leb (-1) fuse&&leb fuse 1000 then yhV (ynp id g G T Lf Bf (yak l ks)) fuse false else ynp id g G T Lf Bf (yak l ks)),true)=_;rw[zk2 hfu.1,zk2 hfu.2];show(ymh (yhV (ynp id g G T Lf Bf (yak l ks)) fuse false),true)=_;rw[← ha0];unfold ymh;rw[yC0.2 ⟨hc0,hk0⟩];have e1:ya a0=false:=by rw[ha0]; rfl
  have e2:a0.2.2.2.2.2.2.2.2.2.2.2=false:=by rw[ha0]; rfl
  have e3:a0.2.2.2.2.2.2.2.1=G:=by rw[ha0]; rfl
  rw[e1,e2,e3,zky (show G<60000 by omega)]; rfl
 have hst: ∀f,Ch a0 f→ ∀i n,0≤i→i<g.1→0≤n→f i n=yys (yak l ks) i n:=fun f hf i n i0 i1 n0=>by
  rcases hf i n i0 (by rw[ha0]; exact i1) n0 with h | ⟨w,hw,_⟩
  ·rw[h,hdk]; rfl
  ·rw[hdk,(hfr i i0 i1).1]at hw; cases hw
 have hflA: ∀i,0≤i→i<g.1→yq a0 i=flF l i:=fun i i0 i1=>by unfold yq; rw[hdk]; exact hfl i i0 i1
 have hbdA: ∀i m,0≤i→i<g.1→yA a0 i m=bdF l i m:=fun i m i0 i1=>by unfold yA; rw[hdk]; exact hbd i m i0 i1
 have way:Way id g G T L B Q R V Lf Bf l a0:=by
  refine⟨by rw[ha0]; rfl,by rw[ha0]; rfl,by rw[ha0]; rfl,by rw[ha0]; rfl,by rw[ha0]; rfl,by rw[ha0]; rfl,by rw[ha0]; rfl,by rw[ha0]; rfl,hk0,fun f hf=>⟨?_,?_⟩,hflA,fun i m i0 i1 _=>⟨fun h=>by rw[← hbdA i m i0 i1]; exact h,fun _=>hbdA i m i0 i1⟩⟩
  ·exact yyx (ygK hs (fun i n i0 i1 _ hn=>hst f hf i n i0 i1 (by omega))) hflA
  ·exact yC2 (ygJ hd (fun i n i0 i1 _ hn=> .inl ⟨hst f hf i n i0 i1 (by omega),hbdA i n i0 i1⟩) (fun i n i0 i1 h=>by rw[← hbdA i n i0 i1]; exact h)) hflA
 have hq:=hd.q
 have rp:Rp id g G T L B Q R V Lf Bf l T a0:=by
  refine⟨way,Int.le_refl _,hq.2.1,by rw[ha0]; rfl,by rw[ha0]; rfl,fun i i0 i1=>by rw[hdk,(hfr i i0 i1).1]; exact Nat.zero_le _,fun i s i0 i1 s0 s1 hh hj=> ?_⟩;unfold yaw at hh;rw[way.e3,way.e4,Bool.and_eq_true,Bool.not_eq_true']at hh;have h1:=hh.1;simp only[yag,Bool.and_eq_true,Bool.not_eq_true',Bool.or_eq_true,bne_iff_ne,ne_eq,zka]at h1
  have hc:ycm (yh a0 i) (s+6)=yys (yak l ks) i (s+6):=by
   unfold ycm;rw[hdk,(hfr i i0 i1).1]; rfl
  rw[hc];exact hd.d i s i0 i1 s0 s1 ((hflA i i0 i1).symm.trans h1.1) h1.2 ((hbdA i (s+6) i0 i1).symm.trans hh.2) hj
 obtain⟨g1,g2⟩:=y6h 4 0 T a0 rp (by omega);refine⟨yMX a0,hrec,?_⟩;unfold yMX;cases hgo:goE yqH .inl 4 0 a0 with
 | inr b =>
  obtain⟨hdn,w⟩:=g2 b hgo
  exact⟨⟨w.e1,w.e2,w.e3,w.e8,w.e9,w.kp,w.fl,fun i m i0 i1 m0=>(w.bd i m i0 i1 m0).1,fun _ f hf=>by
   obtain⟨h1,h2⟩:=w.st f hf
   exact⟨G,T,L,B,Q,R,Bf,by omega,by omega,h1,h2⟩,fun hu=>by rw[hdn]at hu; cases hu⟩,w.e4,fun e i m i0 i1 m0=>(w.bd i m i0 i1 m0).2 e⟩
 | inl b =>
  have r:=g1 b hgo;have w:=r.w;obtain⟨j,j0,j1,_⟩:=hs.u3;obtain⟨s1,s2,s3,s4,s5,s6,s7⟩:=yfF (hs.u0 j j0 j1);have hL:(-1≤Lf∧Lf≤g.1-1)∧(0≤Bf∧Bf≤g.2)∧(Lf= -1→Bf=0):=⟨hcore.2.2.2.1,hcore.2.2.2.2.1,hcore.2.2.2.2.2.1⟩
  have hcb:yX b:=by
   unfold yX;rw[w.e1,w.e2,w.e3,w.e4,w.e6,w.e7,w.e8,r.s];exact⟨s2,s3,rfl,hL.1,hL.2.1,hL.2.2,s4,⟨hq.2.1,hq.2.2.2⟩,hq.2.2.1,s1.1,s1.2⟩
  have hwd:=fun f hf=>w.st f hf
  have hix:Ix K V b:=⟨hcb,w.kp,r.u,w.e9,by rw[w.e7]; exact hG,by rw[r.s]; exact hQ,by rw[w.e2]; exact hd.e,fun i s i0 i1 s0 s1 hh=>by
   rw[w.e2]at i1 s1;exact r.v i s i0 i1 s0 s1 hh (fun p p0 p1=>by omega),fun i i0 i1=>by
   rw[w.e2]at i1;have:=r.c i i0 i1
   have h0:(0:Int)≤bif i==b.2.2.2.1 then b.2.2.2.2.1 else 0:=by
    rw[w.e4];cases(i==b.2.2.2.1)
    ·exact Int.le_refl _
    ·exact hL.2.1.1
   omega⟩
  have hz:b.2.2.2.1≠ -1→yq b b.2.2.2.1=true→b.2.2.2.2.1=0:=fun h1 h2=>by
   obtain⟨k1,_⟩:=hwd _ (yIk b);rw[w.e3]at h1 h2;rw[w.e4];rcases k1.u4 with⟨_,_,k3⟩ | ⟨_,_,_,_,k3⟩
   ·rcases k3 with k3 | ⟨k3,_⟩
    ·exact absurd k3 h1
    ·rw[h2]at k3; cases k3
   ·exact k3
  have old: ∀f,Ch b f→ ∃Bg,Wsup b.1 b.2.1 b.2.2.2.2.2.2.2.1 T L B b.2.2.2.1 Bg f (yq b)∧Wdat b.2.1 T b.2.2.2.2.2.1 R V b.2.2.2.1 Bg f (yq b) (yA b):=fun f hf=>by
   rw[w.e1,w.e2,w.e3,w.e7,r.s];exact⟨Bf,hwd f hf⟩
  obtain⟨c1,c2,c3,c4,c5⟩:=yuM b;have hcb2:=fun i m i0 i1 m0=>ys5 (b:=b) (m:=m) w.kp (i:=i) i0 (by rw[w.e2]; exact i1) m0
  have hfc: ∀i,0≤i→i<g.1→yq (ym b) i=yq b i:=fun i i0 i1=>(hcb2 i 2 i0 i1 (by omega)).2
  refine⟨⟨c1.trans w.e1,c2.trans w.e2,c3.trans w.e3,(yHD b).trans w.e8,(y4J b).trans w.e9,yvl w.kp,fun i i0 i1=>(hfc i i0 i1).trans (w.fl i i0 i1),fun i m i0 i1 m0 hb=> ?_,fun _ f hf=> ?_,fun hu=>⟨yJe hix hK hu,⟨R,yLc hix hz hK hu old⟩,?_,?_⟩⟩,c4.trans w.e4,fun e i m i0 i1 m0=> ?_⟩
  ·rw[(hcb2 i m i0 i1 (by omega)).1]at hb
   exact(w.bd i m i0 i1 m0).1 hb
  ·have hlr:Lf= -1∨(0≤Lf∧Lf<g.1):=by omega
   have ht:=yUi (Lf:=Lf) (fl:=yq b) hix (by omega) hf (fun i _ _ h=>h) (.inl w.e3.symm) (fun f hf=>by
    have:=old f hf
    rw[w.e3]at this; exact this)
   rw[w.e1,w.e2]at ht;obtain⟨G',T',L',B',Q',R',Bf',k1,k2,k3,k4⟩:=ht;exact⟨G',T',L',B',Q',R',Bf',k1,k2,yyx k3 hfc,yC2 k4 hfc⟩
  ·rw[(yLd (b:=b) (by rw[w.e7]; omega) hu).1,c5]
  ·intro h1 h2
   rw[c3]at h1 h2;rw[c4];rw[hfc _ (by rw[w.e3]at h1 ⊢; omega) (by rw[w.e3]; omega)]at h2;exact hz h1 h2
  ·rw[(hcb2 i m i0 i1 (by omega)).1]
   exact(w.bd i m i0 i1 m0).2 e
theorem y6k {a:dA} (hk:yF a) (ks:List Int):Ch a (yys (yak a.2.2.1 ks)):=fun i n i0 i1 n0=>by
 have hn:=hk.1.2;unfold yys;rw[yZR ks i0 (by omega)];exact y5D (yd6 hk i0 i1).1 _ n0
def Can (K:Int) (P:(Int→Int→Int)→Int→Prop) (a:dA):Prop:= ∀f,Ch a f→ ∃V Lf,P V Lf∧WW K a.1 a.2.1 V Lf f (yq a) (yA a)
theorem yUg {K:Int} {VS:(Int→Int→Int)→Prop} {a:dA} (h:Dd K VS a):Can K (fun V Lf=>VS V∧Lf=a.2.2.2.1) a:=fun f hf=>by
 obtain⟨V,h1,h2⟩:=h f (yq a) a.2.2.2.1 hf (yCZ a);exact⟨V,_,⟨h1,rfl⟩,h2⟩
theorem y6C {K:Int} {V:Int→Int→Int} {a:dA} (h:Lv K V a):Can K (fun W Lf=>W=V∧Lf=a.2.2.2.1) a:=by
 obtain⟨B0,hr⟩:=h.r;exact yUg (y28 hr h.x.xg h.x.xs)
theorem yxJ {K J:Int} {P Q:(Int→Int→Int)→Int→Prop} {a:dA} (h:Can K P a) (hj:K≤J) (hp: ∀V L,P V L→Q V L):Can J Q a:=fun f hf=>by
 obtain⟨V,L,h1,h2⟩:=h f hf;exact⟨V,L,hp V L h1,y37 h2 hj⟩
theorem y3A {K fuse:Int} {P:(Int→Int→Int)→Int→Prop} {a:dA} (hk:yF a) (h:Can K P a) (hK:K+1≤60000) (ks:List Int) (hf: -1≤fuse∧fuse≤1000) :
  ∃x V Lf,yoD a.2.2.1 ks a.1 fuse=(x,true)∧P V Lf∧Back (K+1) a.1 a.2.1 V Lf a.2.2.1 x:=by
 obtain⟨V,Lf,hp,G,T,L,B,Q,R,Bf,h1,h2,h3,h4⟩:=h _ (y6k hk ks)
 obtain⟨x,e,b,_⟩:=y26 (ks:=ks) hk.1.2 (fun i i0 i1=>by
  have:=yd6 hk i0 i1
  exact⟨this.1,this.2.1⟩) h1 h2 hK hf h3 h4
 exact⟨x,V,Lf,e,hp,b⟩
theorem y3M: ∀(k i:Nat) (a:dA),yaD a→(∀b,goE yqH .inl k i a= .inl b→yaD b)∧ ∀b,goE yqH .inl k i a= .inr b→yaD b
 | 0,_,a,h=>⟨fun b hb=>by cases hb; exact h,fun b hb=>by cases hb⟩
 | k+1,i,a,h=>by
  have h1:yaD (yh2 a):=y2G _ h;have h2:yaD (ykY a):=yZU (a:=yO (yh2 a)) _ _ h1;unfold goE yqH;cases(!(yaH a a.2.2.2.2.2.1).2||leb 60000 a.2.2.2.2.2.1)
  ·rw[h1.1,h2.1]
   exact y3M k (i+1) (ykY a) h2
  ·exact⟨fun b hb=>by cases hb; exact h,fun b hb=>by cases hb⟩
theorem y3t {a:dA} (h:yaD a):yaD (ymh a):=by
 unfold ymh;cases(yM a&&(!(ya a)&&(!a.2.2.2.2.2.2.2.2.2.2.2&&ltb a.2.2.2.2.2.2.2.1 60000)))
 ·exact h
 ·obtain⟨h1,h2⟩:=y3M 4 0 a h
  show yaD (yMX a);unfold yMX;cases hg:goE yqH .inl 4 0 a with
  | inl b=>exact yJd (h1 b hg)
  | inr b=>exact h2 b hg
theorem y5w (l:List dM) (id:Int):ya (yfX l id).1=false:=by
 unfold yfX;cases((ydT l id).2&&((l.length:Int)==(ydT l id).1.2.2.2.1&&yM (yH7 l id)))<;>rfl
theorem ypw (p:Nat→Bool): ∀n,decide (ydx p n=0)=(List.range n).all p
 | 0=>rfl
 | n+1=>by
  rw[List.range_succ,List.all_append,← ypw p n,ylu];cases hp:p n
  ·simp[hp]
  ·simp[hp]
theorem y2J {k:Int} {V:Int→Int→Int} {a:dA} {s:Int} (h:Ix k V a) (s0:0≤s) (s1:s<a.2.1.2):ygL a s=(0,decide (ycT a s=0)):=by
 have hlen:=h.xk.1.2;have hN:a.2.2.1.length=a.2.1.1.toNat:=by omega
 have hw:yD0 a s=decide (ycT a s=0):=by
  unfold yD0 ycT;rw[ypw,hN,Bool.eq_iff_iff,List.all_eq_true,List.all_eq_true];constructor
  ·intro g i hi
   have hi':=List.mem_range.1 hi;have:=g i hi;rwa[(ytj h.xc.1 h.xk h.xv (show(0:Int)≤(i:Int)by omega) (by omega) s0 s1).1]at this
  ·intro g i hi
   have hi':=List.mem_range.1 hi;rw[(ytj h.xc.1 h.xk h.xv (show(0:Int)≤(i:Int)by omega) (by omega) s0 s1).1];exact g i hi
 unfold ygL;rw[hw];cases hd:decide (ycT a s=0)
 ·rfl
 ·rw[cond_true,hN]
  congr 1
  have:(List.range a.2.1.1.toNat).map (fun(i:Nat)=>yjE a i s)=ye9 V a.2.1.1 s:=by
   unfold ye9;refine List.map_congr_left fun i hi=> ?_
   have hi':=List.mem_range.1 hi;refine(ytj h.xc.1 h.xk h.xv (show(0:Int)≤(i:Int)by omega) (by omega) s0 s1).2 ?_;unfold ycT at hd;rw[ypw,List.all_eq_true]at hd;exact hd i hi
  rw[this];exact h.xe.ev s s0 s1
theorem y6p {k:Int} {V:Int→Int→Int} {a:dA} (h:Ix k V a):y1X a=true:=by
 unfold y1X;rw[List.all_eq_true];intro s hs;have:=List.mem_range.1 hs;rw[y2J h (by omega) (by omega)];simp
theorem y6n {k:Int} {V:Int→Int→Int} {a:dA} (h:Ix k V a):y2z a=(ydx (fun(s:Nat)=>decide (ycT a s=0)) a.2.1.2.toNat:Nat):=by
 unfold y2z;rw[yE1 h,cond_true]
 have: ∀n,n≤a.2.1.2.toNat→ydx (fun(s:Nat)=>(ygL a s).2) n=ydx (fun(s:Nat)=>decide (ycT a s=0)) n:=by
  intro n
  induction n with
  | zero=>intro _; rfl
  | succ n ih=>intro hn; rw[ylu,ylu,ih (by omega),y2J h (show(0:Int)≤(n:Int)by omega) (by omega)]
 rw[this _ (Nat.le_refl _)]
theorem yZY {p:Nat→Bool}: ∀{n:Nat} {j:Nat},ydx p n<2→j<n→p j=false→ ∀i,i<n→i≠j→p i=true
 | 0,j,_,hj,_=>absurd hj (Nat.not_lt_zero _)
 | n+1,j,h,hj,hp=>fun i hi hij=>by
  rw[ylu]at h
  have z: ∀{k:Nat},ydx p n=0→k<n→p k=true:=fun{k} h0 hk=>by
   have:decide (ydx p n=0)=true:=decide_eq_true h0;rw[ypw,List.all_eq_true]at this;exact this k (List.mem_range.2 hk)
  cases hn:p n
  ·rw[hn,cond_false]at h
   have h0:ydx p n=0:=by omega
   by_cases hjn:j=n
   ·exact z h0 (by omega)
   ·have:=z (k:=j) h0 (by omega)
    rw[hp]at this; cases this
  ·rw[hn,cond_true]at h
   have hjn:j≠n:=fun e=>by rw[e,hn]at hp; cases hp
   by_cases hin:i=n
   ·rw[hin]; exact hn
   ·exact yZY h (by omega) hp i (by omega) hij
theorem y5X {B0:Int} {V:Int→Int→Int} {v:List Int} {a:dA} (hk:yF a) (hu:ya a=false) (hm:inb a.2.2.2.1 a.2.2.1.length=true) (hb0:0≤a.2.2.2.2.1) (hb1:a.2.2.2.2.1<1000) (h:Rob B0 V a):Rob B0 V (ybr a a.2.2.2.1 (yu a.2.2.2.2.1) v):=by
 obtain⟨R,hB,hr⟩:=h;have hmi:=zj6.1 hm;have hlen:=hk.1.2;have hda:=yjb hb0 (by omega);have hd:=yx5 (yu a.2.2.2.2.1) v hu hm
 have ho: ∀i,0≤i→i≠a.2.2.2.1→yh (ybr a a.2.2.2.1 (yu a.2.2.2.2.1) v) i=yh a i:=fun i i0 hi=>by
  rcases hd.2.2 with⟨_,e⟩ | ⟨_,e⟩
  ·rw[e i i0,show(a.2.2.2.1==i)=false from beq_eq_false_iff_ne.2 (fun e=>hi e.symm)]; rfl
  ·exact e i
 have hl:TrD (yu a.2.2.2.2.1) v (yh a a.2.2.2.1) (yh (ybr a a.2.2.2.1 (yu a.2.2.2.2.1) v) a.2.2.2.1):=by
  rcases hd.2.2 with⟨_,e⟩ | ⟨_,e⟩
  ·rw[e _ hmi.1,beq_self_eq_true]; exact yZD _ _ _
  ·rw[e]; exact yyw _ _ _
 obtain⟨c1,c2,c3,c4,c5,c6,c7⟩:=ybq (yeY a a.2.2.2.1 (yu a.2.2.2.2.1) v);generalize ybr a a.2.2.2.1 (yu a.2.2.2.2.1) v=P at ho hl c1 c2 c3 c4 c5 c6 c7
 have hfl: ∀i,0≤i→i<a.2.1.1→yq P i=yq a i:=fun i i0 i1=>by
  by_cases e:i=a.2.2.2.1
  ·rw[e]; exact hl.2.1
  ·unfold yq; rw[ho i i0 e]
 have hbl: ∀i n,0≤i→yA P i n=true→yA a i n=true:=fun i n i0 hb=>by
  by_cases e:i=a.2.2.2.1
  ·rw[e]at hb ⊢; exact hl.2.2.2 n hb
  ·unfold yA at hb ⊢; rw[ho i i0 e]at hb; exact hb
 refine⟨R,by rw[c4]; exact hB,fun f' fl Lf hf hal=> ?_⟩;rw[c2,c3]at hal;have hal2:=yyI hal hfl;have hLf:Lf=a.2.2.2.1:=by rcases hal with⟨h1,_⟩ | ⟨_,_,h3,_⟩<;>omega
 obtain⟨f,hfd⟩: ∃f:Int→Int→List Int,f=fun i n=>if i=a.2.2.2.1∧n=yu a.2.2.2.2.1 then ycm (yh a a.2.2.2.1) n else f' i n:=⟨_,rfl⟩
 have hfe: ∀i n,¬(i=a.2.2.2.1∧n=yu a.2.2.2.2.1)→f' i n=f i n:=fun i n hi=>by rw[hfd]; exact(if_neg hi).symm
 have hch:Ch a f:=fun i n i0 i1 n0=>by
  by_cases e:i=a.2.2.2.1∧n=yu a.2.2.2.2.1
  ·rw[hfd]; simp only[if_pos e]; rw[e.1]; exact yxV _ _
  ·rw[← hfe i n e]
   have h1:=hf i n i0 (by rw[c2]; exact i1) n0;by_cases e2:i=a.2.2.2.1
   ·rw[e2]at h1 ⊢
    rcases hl.1 n _ n0 h1 with h2 | ⟨h2,_⟩
    ·exact h2
    ·exact absurd ⟨e2,h2⟩ e
   ·rw[ho i i0 e2]at h1; exact h1
 obtain⟨Bf,⟨p1,p2⟩,h1,h2⟩:=hr f fl Lf hch hal2;have h01: ∀i n,(n=0∨n=1)→f' i n=f i n:=fun i n hn=>hfe i n (fun e=>by omega)
 have he:Eq0 P fl Lf→Eq0 a fl Lf:=fun e=>⟨e.1.trans c3,fun i i0 i1=>(e.2 i i0 (by rw[c2]; exact i1)).trans (hfl i i0 i1)⟩
 have hBf:Bf≤B0:=by
  obtain⟨j,j0,j1,_⟩:=h1.u3;have:=(yfF (h1.u0 j j0 j1)).2.2.2.2.2.1;rcases h1.u4 with⟨_,h3,_⟩ | ⟨_,_,_,_,h3⟩<;>omega
 rw[c1,c2,c3,c5,c6,c7];refine⟨Bf,⟨fun e=>p1 (he e),fun e e1 e2=> ?_⟩,ygK h1 (fun i n _ _ _ hn=>h01 i n hn),ygJ h2 (fun i n i0 i1 hi hn=> ?_) (fun i n i0 _ hb=>hbl i n i0 hb)⟩
 ·obtain⟨n,s',hn,hsv⟩:=p2 (he e) e1 e2
  exact⟨n,s',hn,by rw[h01 Lf n hn]; exact hsv⟩
 ·by_cases e:i=a.2.2.2.1∧n=yu a.2.2.2.2.1
  ·exact .inr (.inr ⟨by omega,by omega,by omega⟩)
  ·refine .inl ⟨hfe i n e,?_⟩
   by_cases e2:i=a.2.2.2.1
   ·rw[e2]; exact hl.2.2.1 n (fun e3=>e ⟨e2,e3⟩)
   ·unfold yA; rw[ho i i0 e2]
theorem y3V {K:Int} {V:Int→Int→Int} {a:dA} (h:Lv K V a) (hm:inb a.2.2.2.1 a.2.2.1.length=true) (hf:(nth a.2.2.1 a.2.2.2.1 yc).2.2.1=false) (hb:a.2.2.2.2.1<a.2.1.2) :
  (ya (yY a).2=false→Lv K V (yY a).2)∧(ya (yY a).2=true→Dd K (· =V) (yY a).2):=by
 have hi:=y3O h.x hm hf hb;have c:=h.x.xc;unfold yX at c;have hg:=yj.1 c.1;have hmi:=zj6.1 hm;have hlen:=h.x.xk.1.2;obtain⟨B0,hR⟩:=h.r;have hxg:=h.x.xg;have hxs:=h.x.xs;unfold yY at hi ⊢;cases hw:(yK a a.2.2.2.2.1).2
 ·exact⟨fun _=>h,fun hd=>by have hd:ya a=true:=hd; rw[h.x.xu]at hd; cases hd⟩
 ·rw[hw]at hi
  have rs:=y5X (v:= [nth (yK a a.2.2.2.2.1).1 a.2.2.2.1 0]) h.x.xk h.x.xu hm (by omega) (by omega) hR;have hd:=yx5 (yu a.2.2.2.2.1) [nth (yK a a.2.2.2.2.1).1 a.2.2.2.1 0] h.x.xu hm;obtain⟨c1,c2,c3,c4,c5,c6,c7⟩:=ybq (yeY a a.2.2.2.1 (yu a.2.2.2.2.1) [nth (yK a a.2.2.2.2.1).1 a.2.2.2.1 0]);have hS:yL a=ybr a a.2.2.2.1 (yu a.2.2.2.2.1) [nth (yK a a.2.2.2.2.1).1 a.2.2.2.1 0]:=rfl;rw[← hS]at rs hd c1 c2 c3 c4 c5 c6 c7
  have hlack:ycT a a.2.2.2.2.1<2:=by
   rw[yRj h.x (by omega) hb]at hw;by_cases h2:ycT a a.2.2.2.2.1<2
   ·exact h2
   ·rw[decide_eq_false h2]at hw; cases hw
  generalize yL a=P at hi rs hd c1 c2 c3 c4 c5 c6 c7;cases hp:ya P
  ·rw[hp]at hi
   have hi2:=hi hp;refine⟨fun _=>⟨hi2,⟨B0,?_⟩,?_⟩,fun hd2=>by have hd2:ya P=true:=hd2; rw[hp]at hd2; cases hd2⟩
   ·obtain⟨R,r1,r2⟩:=rs
    refine⟨R,?_,r2⟩;show B0≤i64.wrap (P.2.2.2.2.1+1);rw[wr (by omega) (by omega)]; omega
   ·refine⟨fun _ i s i0 i1 hne s0 s1=> ?_,fun _ hfl=> ?_⟩
    ·have i1:i<P.2.1.1:=i1
     have hne:i≠P.2.2.2.1:=hne;rw[c2]at i1;rw[c3]at hne;have s1:s<i64.wrap (P.2.2.2.2.1+1):=s1;rw[wr (by omega) (by omega)]at s1;show yA P i (s+6)=false
     have e:yh P i=yh a i:=by
      rcases hd.2.2 with⟨_,e⟩ | ⟨_,e⟩
      ·rw[e i i0,show(a.2.2.2.1==i)=false from beq_eq_false_iff_ne.2 (by omega)]; rfl
      ·exact e i
     show ya0 (yh P i) (s+6)=false;rw[e];by_cases hs:s<a.2.2.2.2.1
     ·exact h.n.n (by omega) i s i0 (by omega) (by omega) s0 hs
     ·have hse:s=a.2.2.2.2.1:=by omega
      subst hse
      have hL:(fun(i:Nat)=>yaw a a.2.2.2.2.1 i) a.2.2.2.1.toNat=false:=by
       show yaw a a.2.2.2.2.1 ((a.2.2.2.1.toNat:Nat):Int)=false;rw[Int.toNat_of_nonneg hmi.1];unfold yaw yag;rw[bne_self_eq_false,zk3 (Int.le_refl _),Bool.or_self,Bool.and_false]; rfl
      have:=yZY (p:=fun(i:Nat)=>yaw a a.2.2.2.2.1 i) (n:=a.2.1.1.toNat) (j:=a.2.2.2.1.toNat) hlack (by omega) hL i.toNat (by omega) (by omega);have this:yaw a a.2.2.2.2.1 ((i.toNat:Nat):Int)=true:=this;rw[Int.toNat_of_nonneg i0]at this;unfold yaw at this;rw[Bool.and_eq_true,Bool.not_eq_true']at this;exact this.2
    ·have hfl:yq P P.2.2.2.1=true:=hfl
     rw[c3]at hfl
     have:yq P a.2.2.2.1=yq a a.2.2.2.1:=by
      unfold yq;rcases hd.2.2 with⟨_,e⟩ | ⟨_,e⟩
      ·rw[e _ hmi.1,beq_self_eq_true,cond_true,yzz]
      ·rw[e]
     rw[this]at hfl;have hf:yq a a.2.2.2.1=false:=hf;rw[hf]at hfl; cases hfl
  ·exact⟨(fun hu=>by have hu:ya P=false:=hu; rw[hp]at hu; cases hu),fun _=>y28 (a:=P) rs (by rw[c7]; exact hxg) (by rw[c5]; exact hxs)⟩
theorem y4w {m:dM} {n k:Int} {v:List Int} (h:ynV (spoil m n) k v):ynV m k v:=by
 unfold spoil at h;cases hc:(yx m&&(inb n m.1.length&& !(m.2.2.2.any (· ==n))))
 ·rw[hc]at h; exact h
 ·rw[hc]at h; exact h
theorem yZI {m:dM} {n k:Int}:(ya0 m k=true→ya0 (spoil m n) k=true)∧(ya0 (spoil m n) k=true→ya0 m k=true∨k=n):=by
 unfold spoil;cases hc:(yx m&&(inb n m.1.length&& !(m.2.2.2.any (· ==n))))
 ·exact⟨id,.inl⟩
 ·have mem: ∀x,x∈yvk m.2.2.2 n↔(x∈m.2.2.2∨x=n):=fun x=>by
   unfold yvk;rw[List.mem_append,List.mem_cons,List.mem_filter,List.mem_filter];constructor
   ·rintro(h | h | h)
    ·exact .inl h.1
    ·exact .inr h
    ·exact .inl h.1
   ·rintro(h | h)
    ·rcases Int.lt_trichotomy x n with g | g | g
     ·exact .inl ⟨h,zky g⟩
     ·exact .inr (.inl g)
     ·exact .inr (.inr ⟨h,zky g⟩)
    ·exact .inr (.inl h)
  constructor
  ·intro h
   obtain⟨x,hx,e⟩:=List.any_eq_true.1 (show m.2.2.2.any (· ==k)=true from h);exact List.any_eq_true.2 ⟨x,(mem x).2 (.inl hx),e⟩
  ·intro h
   obtain⟨x,hx,e⟩:=List.any_eq_true.1 (show(yvk m.2.2.2 n).any (· ==k)=true from h);rcases(mem x).1 hx with g | g
   ·exact .inl (List.any_eq_true.2 ⟨x,g,e⟩)
   ·exact .inr (by rw[← beq_iff_eq.1 e,g])
theorem y5O {K m s:Int} {V:Int→Int→Int} {a:dA} (h:Lv K V a) (hl:a.2.2.2.1= -1) (hm:inb m a.2.2.1.length=true) (s0:0≤s) (s1:s<a.2.1.2):Lv K V (ybx a m (spoil (nth a.2.2.1 m yc) (yu s))):=by
 have hx:=y5I (n:=yu s) h.x hm;have hmi:=zj6.1 hm;have hg:=yj.1 h.x.xc.1;have hda:=yjb s0 (by omega);have hd: ∀i,0≤i→yh (ybx a m (spoil (nth a.2.2.1 m yc) (yu s))) i=bif m==i then spoil (yh a m) (yu s)else yh a i:=fun i i0=>yM9 hm i0
 obtain⟨B0,R,hB,hr⟩:=h.r
 have e1: ∀i,0≤i→yh (ybx a m (spoil (nth a.2.2.1 m yc) (yu s))) i=yh a i∨(i=m∧yh (ybx a m (spoil (nth a.2.2.1 m yc) (yu s))) i=spoil (yh a i) (yu s)):=fun i i0=>by
  by_cases e:m=i
  ·subst e; rw[hd m i0,beq_self_eq_true]; exact .inr ⟨rfl,rfl⟩
  ·rw[hd i i0,show(m==i)=false from beq_eq_false_iff_ne.2 e]; exact .inl rfl
 refine⟨hx,⟨B0,R,hB,fun f fl Lf hf hal=> ?_⟩,⟨fun hn=>absurd hl hn,fun hn=>absurd hl hn⟩⟩
 have hfl: ∀i,0≤i→i<a.2.1.1→yq (ybx a m (spoil (nth a.2.2.1 m yc) (yu s))) i=yq a i:=fun i i0 _=>by
  unfold yq;rcases e1 i i0 with e | ⟨_,e⟩
  ·rw[e]
  ·rw[e,(yoF _ _).2]
 have hal2:Al a.2.2.2.1 a.2.1.1 (yq a) fl Lf:=yyI hal hfl
 have hch:Ch a f:=fun i n i0 i1 n0=>by
  have:=hf i n i0 i1 n0;rcases e1 i i0 with e | ⟨_,e⟩
  ·rw[e]at this; exact this
  ·rw[e]at this; exact y4w this
 obtain⟨Bf,⟨p1,p2⟩,h1,h2⟩:=hr f fl Lf hch hal2;have he:Eq0 (ybx a m (spoil (nth a.2.2.1 m yc) (yu s))) fl Lf→Eq0 a fl Lf:=fun e=>⟨e.1,fun i i0 i1=>(e.2 i i0 i1).trans (hfl i i0 i1)⟩
 refine⟨Bf,⟨fun e=>p1 (he e),fun e=>p2 (he e)⟩,h1,⟨h2.e,h2.q,fun i t i0 i1 t0 t1 hi hlv hb hj=>h2.d i t i0 i1 t0 t1 hi hlv ?_ hj,h2.r,h2.h,h2.v,h2.l,fun i n i0 i1 hi hb=> ?_⟩⟩
 ·cases hx:yA a i (t+6)
  ·rfl
  ·rw[← hb]
   unfold yA at hx ⊢;rcases e1 i i0 with e | ⟨_,e⟩
   ·rw[e]; exact hx.symm
   ·rw[e]; exact(yZI.1 hx).symm
 ·unfold yA at hb
  rcases e1 i i0 with e | ⟨_,e⟩
  ·rw[e]at hb; exact h2.b i n i0 i1 hi hb
  ·rw[e]at hb
   rcases yZI.2 hb with h3 | h3
   ·exact h2.b i n i0 i1 hi h3
   ·omega
def Any (_:Int→Int→Int):Prop:=True
theorem yRm {K:Int} {V:Int→Int→Int} {a:dA} (s:Int) (h:Lv K V a) (hk:K+1≤60000) :
  (ya (yaK a s).2=false→ ∃V',Lv (K+2) V' (yaK a s).2)∧(ya (yaK a s).2=true→Dd (K+2) Any (yaK a s).2):=by
 have same:(ya a=false→ ∃V',Lv (K+2) V' a)∧(ya a=true→Dd (K+2) Any a):=⟨fun _=>⟨V,ytd h (by omega)⟩,fun hd=>by rw[h.x.xu]at hd; cases hd⟩;unfold yaK;cases h0:ltb (yam a.2.2.2.2.2.2.2.2.1 s) 0
 ·generalize (nth a.2.2.2.2.2.2.2.2.1 (yam a.2.2.2.2.2.2.2.2.1 s) (0,[])).2=D
  cases hc:(yap a s D !=0)
  ·obtain⟨_,z1,z2,_,z4,_,z6,_⟩:=yy1 (bne_eq_false_iff_eq.1 hc)
   obtain⟨w1,w2⟩:=y5P h z4 z1 z2 z6 hk;have wg:=y0c a s D;simp only[cond_false];generalize yN a s D=W at w1 w2 wg;cases hw:(W.1==0)
   ·exact⟨fun hu=>⟨_,(w1 hu).1⟩,fun hu=>ys7 (w2 hu).1 (Int.le_refl _) (fun _ _=>trivial)⟩
   ·refine⟨fun hu=>⟨_,y5N (w1 hu).1 (by rw[wg]; exact yZO _ h.x.xc.2.2.1)⟩,fun hu=>absurd (beq_iff_eq.1 hw) (w2 hu).2⟩
  ·exact same
 ·exact same
theorem y2N {k:Int}: ∀(n i:Nat) (j:Int) (V:Int→Int→Int) (a:dA),Lv j V a→j+2*n≤k→k≤60000 →
  (ya (goE yh0 (fun b=>((0:Int),b)) n i a).2=false→ ∃V',Lv k V' (goE yh0 (fun b=>((0:Int),b)) n i a).2)∧(ya (goE yh0 (fun b=>((0:Int),b)) n i a).2=true→Dd k Any (goE yh0 (fun b=>((0:Int),b)) n i a).2)
 | 0,_,j,V,a,h,h1,_=>⟨fun _=>⟨V,ytd h (by omega)⟩,fun hd=>by have hd:ya a=true:=hd; rw[h.x.xu]at hd; cases hd⟩
 | n+1,i,j,V,a,h,h1,h2=>by
  have hf:=yRm (nth a.2.2.2.2.2.2.2.2.1 0 (0,[])).1 h (by omega);unfold goE yh0;generalize yaK a (nth a.2.2.2.2.2.2.2.2.1 0 (0,[])).1=F at hf;cases hc:(F.1 !=0)
  ·simp only[cond_false]
   cases hd:ya F.2
   ·obtain⟨V1,h3⟩:=hf.1 hd
    exact y2N n (i+1) (j+2) V1 _ h3 (by omega) h2
   ·have e:(goE yh0 (fun b=>((0:Int),b)) n (i+1) F.2).2=F.2:=yLa n (i+1) hd
    unfold yh0 at e;rw[e];exact⟨(fun hu=>by rw[hd]at hu; cases hu),fun _=>ys7 (hf.2 hd) (by omega) (fun _ h=>h)⟩
  ·simp only[cond_true]
   exact⟨fun hu=>(hf.1 hu).imp (fun V h=>ytd h (by omega)),fun hu=>ys7 (hf.2 hu) (by omega) (fun _ h=>h)⟩
theorem y41 {k:Int} {V:Int→Int→Int} {a:dA} (h:Lv k V a) (hk:k+16≤60000):(ya (yHA a).2=false→ ∃V',Lv (k+16) V' (yHA a).2)∧(ya (yHA a).2=true→Dd (k+16) Any (yHA a).2):=by
 have:=yn4 h.x.xc.2.2.1 h.x.xc.1;exact y2N _ 0 k V a h (by omega) hk
theorem yZZ {k:Int} {V:Int→Int→Int} {a b:dA} (h:Lv k V a) (ht:Turned a b) (hk:k+16≤60000):(ya b=false→ ∃V',Lv (k+16) V' b)∧(ya b=true→Dd (k+16) Any b):=by
 have one: ∀{r:dA} {K:Int},K≤k+16→(ya r=false→Lv K V r)∧(ya r=true→Dd K (· =V) r)→(ya r=false→ ∃V',Lv (k+16) V' r)∧(ya r=true→Dd (k+16) Any r):=fun hK g=>⟨fun hu=>⟨V,ytd (g.1 hu) hK⟩,fun hu=>ys7 (g.2 hu) hK (fun _ _=>trivial)⟩
 have stay: ∀{r:dA},Lv k V r→(ya r=false→ ∃V',Lv (k+16) V' r)∧(ya r=true→Dd (k+16) Any r):=fun g=>⟨fun _=>⟨V,ytd g (by omega)⟩,fun hd=>by rw[g.x.xu]at hd; cases hd⟩
 cases ht with
 | same=>exact stay h
 | put b x hb hx=>exact stay (y43 h hb hx)
 | flush s =>
  have g:=yRm s h (by omega);exact⟨fun hu=>(g.1 hu).imp (fun V h=>ytd h (by omega)),fun hu=>ys7 (g.2 hu) (by omega) (fun _ h=>h)⟩
 | all=>exact y41 h hk
 | fail m hl hm=>exact one (by omega) (y3S h hl hm (by omega))
 | spare hl hf=>exact one (by omega) (y2O h hl hf (by omega))
 | step hl hf hb=>exact one (by omega) (y3V h hl hf hb)
 | check=>exact one (by omega) (yRl h (by omega))
 | spoil m s hl hm s0 s1=>exact stay (y5O h hl hm s0 s1)
theorem yLZ {p:Nat→Bool} {j:Nat}: ∀{n:Nat},(∀i,i<n→i≠j→p i=true)→ydx p n≤1∧(n≤j→ydx p n=0)
 | 0,_=>⟨Nat.zero_le _,fun _=>rfl⟩
 | n+1,h=>by
  obtain⟨h1,h2⟩:=yLZ (n:=n) (fun i hi hj=>h i (by omega) hj);rw[ylu];cases hp:p n
  ·have:n=j:=Classical.byContradiction fun e=>by rw[h n (by omega) e]at hp; cases hp
   rw[cond_false,h2 (by omega)];exact⟨by omega,fun h=>by omega⟩
  ·rw[cond_true]
   exact⟨h1,fun h=>h2 (by omega)⟩
theorem yX4 {a:dA} {s j:Int} (j0:0≤j) (h: ∀i,0≤i→i<a.2.1.1→i≠j→yaw a s i=true):ycT a s<2:=by
 have:=(yLZ (p:=fun(i:Nat)=>yaw a s i) (j:=j.toNat) (n:=a.2.1.1.toNat) (fun i hi hj=>h i (by omega) (by omega) (by omega))).1;unfold ycT;omega
theorem y4m {K:Int} {V:Int→Int→Int} {a:dA} (h:Ix K V a):ypu a=bif(List.range a.2.1.2.toNat).all (fun(s:Nat)=>decide (ycT a s<2))then(List.range a.2.1.2.toNat).flatMap (fun(s:Nat)=>yH8 V a.2.1 s)else[]:=by
 unfold ypu
 have e: ∀s,s∈List.range a.2.1.2.toNat→ydU a (s:Int)=bif decide (ycT a s<2)then(yH8 V a.2.1 s,true)else([],false):=fun s hs=>by
  have:=List.mem_range.1 hs;exact y4l h (by omega) (by omega)
 have h1:(List.range a.2.1.2.toNat).all (fun(s:Nat)=>(ydU a s).2)=(List.range a.2.1.2.toNat).all (fun(s:Nat)=>decide (ycT a s<2)):=by
  rw[Bool.eq_iff_iff,List.all_eq_true,List.all_eq_true];constructor
  ·intro g s hs
   have:=g s hs;rw[e s hs]at this;cases hd:decide (ycT a s<2)
   ·rw[hd]at this; cases this
   ·rfl
  ·intro g s hs
   rw[e s hs,g s hs]; rfl
 rw[yE1 h,h1,Bool.true_and];cases hc:(List.range a.2.1.2.toNat).all (fun(s:Nat)=>decide (ycT a s<2))
 ·rfl
 ·rw[cond_true,cond_true]
  rw[List.all_eq_true]at hc;rw[List.flatMap_def,List.flatMap_def];refine congrArg List.flatten (List.map_congr_left fun s hs=> ?_);rw[e s hs,hc s hs]; rfl
def y4a (a:dA):Prop:= ∀s,0≤s→s<a.2.1.2→ycT a s<2
theorem yvi {K:Int} {V:Int→Int→Int} {a:dA} (h:Ix K V a) (hf:y4a a):ypu a=(List.range a.2.1.2.toNat).flatMap (fun(s:Nat)=>yH8 V a.2.1 s):=by
 rw[y4m h,show(List.range a.2.1.2.toNat).all (fun(s:Nat)=>decide (ycT a s<2))=true from List.all_eq_true.2 fun s hs=>decide_eq_true (hf s (by omega) (by have:=List.mem_range.1 hs; omega))]; rfl
theorem y6E {x:dA} {i s:Int} (hl:i≠x.2.2.2.1) (hf:yq x i=false) (hb:yA x i (s+6)=false):yaw x s i=true:=by
 unfold yaw yag;rw[show(yh x i).2.2.1=false from hf,show ya0 (yh x i) (s+6)=false from hb,show(i !=x.2.2.2.1)=true from bne_iff_ne.2 hl]; rfl
theorem y4P {K m:Int} {V:Int→Int→Int} {a:dA} (h:Ix K V a) (hl:a.2.2.2.1= -1∨a.2.2.2.1=m) (hk:K+1≤60000):(ycr a m).2.1=a.2.1∧(ycr a m).2.2.2.1=m∧(ycr a m).2.2.2.2.2.2.2.2.1=a.2.2.2.2.2.2.2.2.1:=by
 rw[yXR h hl hk];have hc:=ydh (yZ a m);exact⟨yQ (b:=yS (yZ a m)) hc,yfy (b:=yS (yZ a m)) hc,ys6 (a:=yS (yZ a m)) hc⟩
structure Gd (K:Int) (V:Int→Int→Int) (a:dA):Prop where
 x:Ix K V a
 fd: ∀i,0≤i→i<a.2.1.1→yq a i=false
 nd: ∀i m,0≤i→i<a.2.1.1→6≤m→yA a i m=false
structure SmC (a r:dA):Prop where
 ci:r.1=a.1
 cg:r.2.1=a.2.1
 cl:r.2.2.2.1=a.2.2.2.1
 cd:r.2.2.2.2.2.2.2.2.1=a.2.2.2.2.2.2.2.2.1
theorem y50 {a r:dA} (h:yy r=yy a):SmC a r:=⟨yM6 h,yQ h,yfy h,ys6 h⟩
theorem yZ4 {a b c:dA} (h:SmC a b) (g:SmC b c):SmC a c:=⟨g.ci.trans h.ci,g.cg.trans h.cg,g.cl.trans h.cl,g.cd.trans h.cd⟩
theorem y2I {K i s:Int} {V:Int→Int→Int} {a:dA} (h:Gd K V a) (i0:0≤i) (i1:i<a.2.1.1) (hi:i≠a.2.2.2.1∨s<a.2.2.2.2.1) (s0:0≤s):yaw a s i=true:=by
 have h1:=h.fd i i0 i1;have h2:=h.nd i (s+6) i0 i1 (by omega);unfold yq at h1;unfold yA at h2;unfold yaw yag;rw[h1,h2,show(i !=a.2.2.2.1||ltb s a.2.2.2.2.1)=true by rw[Bool.or_eq_true,bne_iff_ne,zka]; exact hi]; rfl
theorem yNa {K:Int} {V:Int→Int→Int} {a:dA} (h:Gd K V a):y4a a:=fun s s0 s1=>by
 by_cases hl:0≤a.2.2.2.1
 ·exact yX4 hl fun i i0 i1 hi=>y2I h i0 i1 (.inl hi) s0
 ·exact yX4 (Int.le_refl 0) fun i i0 i1 _=>y2I h i0 i1 (.inl (by omega)) s0
theorem y3N {K:Int} {V:Int→Int→Int} {a:dA} (h:Gd K V a) (hb:a.2.2.2.1= -1∨a.2.2.2.2.1=a.2.1.2):y2z a=0:=by
 rw[y6n h.x]
 have:decide (ydx (fun(s:Nat)=>decide (ycT a s=0)) a.2.1.2.toNat=0)=true:=by
  rw[ypw,List.all_eq_true];intro s hs;have hs:=List.mem_range.1 hs;unfold ycT;show decide (ydx (fun(i:Nat)=>yaw a s i) a.2.1.1.toNat=0)=true;rw[ypw,List.all_eq_true];intro i hi;have hi:=List.mem_range.1 hi;exact y2I h (by omega) (by omega) (by omega) (by omega)
 rw[of_decide_eq_true this]; rfl
theorem y33 {K:Int} {V:Int→Int→Int} {a:dA} (h:Gd K V a) (hm:inb a.2.2.2.1 a.2.2.1.length=true) (hb:a.2.2.2.2.1<a.2.1.2) :
  (ya (yY a).2=false→(yY a).1=0∧Gd K V (yY a).2∧(yY a).2.2.2.2.2.1=a.2.2.2.2.1+1)∧(ya (yY a).2=true→(yY a).1≠0)∧SmC a (yY a).2∧yF (yY a).2∧(yaD a→yaD (yY a).2) ∧
   (∀i,0≤i→i<a.2.1.1→yq (yY a).2 i=false)∧ ∀i m,0≤i→i<a.2.1.1→6≤m→yA (yY a).2 i m=false:=by
 have hmi:=zj6.1 hm;have hlen:=h.x.xk.1.2;have c:=h.x.xc;unfold yX at c;have hg:=yj.1 c.1;have hfL:(nth a.2.2.1 a.2.2.2.1 yc).2.2.1=false:=h.fd _ hmi.1 (by omega);have hi:=y3O h.x hm hfL hb;have hw:(yK a a.2.2.2.2.1).2=true:=by rw[yRj h.x (by omega) hb,decide_eq_true (yNa h _ (by omega) hb)]; rfl
 have hS:yL a=ybr a a.2.2.2.1 (yu a.2.2.2.2.1) [nth (yK a a.2.2.2.2.1).1 a.2.2.2.1 0]:=rfl;have hc:=yeY a a.2.2.2.1 (yu a.2.2.2.2.1) [nth (yK a a.2.2.2.2.1).1 a.2.2.2.1 0];have hd:=yx5 (yu a.2.2.2.2.1) [nth (yK a a.2.2.2.2.1).1 a.2.2.2.1 0] h.x.xu hm;have hk:=yr9 (n:=yu a.2.2.2.2.1) (s:= [nth (yK a a.2.2.2.2.1).1 a.2.2.2.1 0]) h.x.xk hm;have hfr:yaD a→yaD (yL a):=fun hf=>yEK hf _ _ _
 rw[← hS]at hc hd hk
 have hdd: ∀i,0≤i→yq (yL a) i=yq a i∧ ∀m,yA (yL a) i m=true→yA a i m=true:=fun i i0=>by
  unfold yq yA;rcases hd.2.2 with⟨_,e⟩ | ⟨_,e⟩
  ·rw[e i i0]
   cases(a.2.2.2.1==i)
   ·exact⟨rfl,fun _ h=>h⟩
   ·exact⟨yzz _ _ _,fun m hb=>(yZD _ _ _).2.2.2 m hb⟩
  ·rw[e]; exact⟨rfl,fun _ h=>h⟩
 have hfl2: ∀i,0≤i→i<a.2.1.1→yq (yL a) i=false:=fun i i0 i1=>(hdd i i0).1.trans (h.fd i i0 i1)
 have hbd2: ∀i m,0≤i→i<a.2.1.1→6≤m→yA (yL a) i m=false:=fun i m i0 i1 m0=>by
  cases hx:yA (yL a) i m
  ·rfl
  ·rw[← h.nd i m i0 i1 m0]; exact((hdd i i0).2 m hx).symm
 have e4:=ycR hc;unfold yY at hi ⊢;rw[hw]at hi ⊢;generalize yL a=P at hi hc hd hk hfr hdd hfl2 hbd2 e4;have sm:=y50 hc;cases hp:ya P
 ·rw[hp]at hi
  have hi2:Ix K V (yW0 P):=hi hp;have cg:P.2.1=a.2.1:=yQ hc;refine⟨fun _=>⟨rfl,⟨hi2,fun i i0 i1=>hfl2 i i0 (by have i1:i<P.2.1.1:=i1; rw[cg]at i1; exact i1),fun i m i0 i1=>hbd2 i m i0 (by have i1:i<P.2.1.1:=i1; rw[cg]at i1; exact i1)⟩,?_⟩,(fun hd2=>by have hd2:ya P=true:=hd2; rw[hp]at hd2; cases hd2),⟨sm.ci,sm.cg,sm.cl,sm.cd⟩,hk,hfr,hfl2,hbd2⟩;show i64.wrap (P.2.2.2.2.1+1)=_;rw[e4]; exact wr (by omega) (by omega)
 ·exact⟨(fun hu=>by have hu:ya P=false:=hu; rw[hp]at hu; cases hu),fun _=>by show(6:Int)≠0; decide,sm,hk,hfr,hfl2,hbd2⟩
theorem y2A {K:Int} {V:Int→Int→Int} {a:dA} (h:Gd K V a) (hm:inb a.2.2.2.1 a.2.2.1.length=true) (hb:a.2.2.2.2.1<a.2.1.2):ybO a=((yY a).2,(yY a).1):=by
 have hmi:=zj6.1 hm;have hlen:=h.x.xk.1.2;have hfL:(nth a.2.2.1 a.2.2.2.1 yc).2.2.1=false:=h.fd _ hmi.1 (by omega);unfold ybO;rw[yE1 h.x,h.x.xu,h.x.xb,hfL,show(a.2.2.2.1== -1)=false from beq_eq_false_iff_ne.2 (by omega),zk1 hb]; rfl
structure Bld (K:Int) (V:Int→Int→Int) (a r:dA):Prop where
 bs:SmC a r
 bk:yF r
 bf:yaD a→yaD r
 ba: ∀i,0≤i→i<a.2.1.1→yq r i=false
 bn: ∀i m,0≤i→i<a.2.1.1→6≤m→yA r i m=false
 bd:ya r=true→Dd K (· =V) r
theorem yZJ {K J:Int} {V:Int→Int→Int} {a b c:dA} (h:Bld K V a b) (g:Bld J V b c):Bld J V a c :=
 ⟨yZ4 h.bs g.bs,g.bk,fun f=>g.bf (h.bf f),fun i i0 i1=>g.ba i i0 (by rw[h.bs.cg]; exact i1),fun i m i0 i1=>g.bn i m i0 (by rw[h.bs.cg]; exact i1),g.bd⟩
theorem y6f {K:Int} {V:Int→Int→Int}: ∀(n:Nat) (a:dA),Gd K V a→Lv K V a→inb a.2.2.2.1 a.2.2.1.length=true→a.2.1.2-a.2.2.2.2.1≤n →
  Bld K V a (yfL n a).1∧(((yfL n a).2=0∧Gd K V (yfL n a).1∧Lv K V (yfL n a).1∧(yfL n a).1.2.2.2.2.1=a.2.1.2)∨((yfL n a).2≠0∧ya (yfL n a).1=true))
 | n,a,h,hl,hm,hn=>by
  have hc:=h.x.xc.2.2.2.2.1;by_cases hb:a.2.2.2.2.1<a.2.1.2
  ·match n,hn with
   | 0,hn=>omega
   | n+1,hn =>
    obtain⟨g1,g2,g3,g4,g5,g6,g7⟩:=y33 h hm hb;have hfL:(nth a.2.2.1 a.2.2.2.1 yc).2.2.1=false:=h.fd _ (zj6.1 hm).1 (by have:=(zj6.1 hm).2; have:=h.x.xk.1.2; omega);have hlv:=y3V hl hm hfL hb;unfold yfL;rw[zky hb,cond_true,y2A h hm hb];generalize yY a=S at g1 g2 g3 g4 g5 g6 g7 hlv;have hB:Bld K V a S.2:=⟨g3,g4,g5,g6,g7,hlv.2⟩;rcases Bool.eq_false_or_eq_true (ya S.2)with hd | hd
    ·have hne:=g2 hd
     rw[show(S.1 !=0)=true from bne_iff_ne.2 hne];exact⟨hB,.inr ⟨hne,hd⟩⟩
    ·obtain⟨k1,k2,k3⟩:=g1 hd
     rw[show(S.1 !=0)=false from bne_eq_false_iff_eq.2 k1];have hlen2:S.2.2.2.1.length=a.2.2.1.length:=by have e1:=g4.1.2; have e2:=h.x.xk.1.2; rw[g3.cg]at e1; omega
     obtain⟨r1,r2⟩:=y6f n S.2 k2 (hlv.1 hd) (by rw[g3.cl,hlen2]; exact hm) (by rw[g3.cg,k3]; omega);refine⟨yZJ hB r1,?_⟩;rw[g3.cg]at r2; exact r2
  ·have e:yfL n a=(a,0):=y3G (zk3 (by omega))
   rw[e];exact⟨⟨⟨rfl,rfl,rfl,rfl⟩,h.x.xk,fun f=>f,h.fd,h.nd,fun hd=>by rw[h.x.xu]at hd; cases hd⟩,.inl ⟨rfl,h,hl,by show a.2.2.2.2.1=_; omega⟩⟩
theorem y51 {K:Int} {V:Int→Int→Int} {a:dA} (h:Lv K V a) (hm:inb a.2.2.2.1 a.2.2.1.length=true) (hf0:yq a a.2.2.2.1=true) (hnd: ∀i m,0≤i→i<a.2.1.1→6≤m→yA a i m=false) (hk:K+1≤59990) :
  Bld (K+1) V a (yaE a).1∧(((yaE a).2=0∧Gd (K+1) V (yaE a).1∧Lv (K+1) V (yaE a).1∧(yaE a).1.2.2.2.2.1=0)∨((yaE a).2≠0∧ya (yaE a).1=true)):=by
 have hmi:=zj6.1 hm;have hlen:=h.x.xk.1.2;have hg:=yj.1 h.x.xc.1;have hxg:=h.x.xg;have hfL:(nth a.2.2.1 a.2.2.2.1 yc).2.2.1=true:=hf0
 have e:yaE a=(yn (yp a),bif ya (yn (yp a))then 6 else 0):=by
  unfold yaE;rw[yE1 h.x,h.x.xu,h.x.xb,hfL,show(a.2.2.2.1== -1)=false from beq_eq_false_iff_ne.2 (by omega),zk1 (show a.2.2.2.2.2.2.2.1<59990 by omega)]; rfl
 have hx:=yHH h.x hm;have ok:=yaJ hx.xk;have ht:=ysZ ok;have hd: ∀i,0≤i→yh (yp a) i=bif a.2.2.2.1==i then yaM (6+a.2.1.2)else yh a i:=fun i i0=>yEt a.2.2.2.1 _ hm i0
 have hlv:=y2O h hm hfL (by omega);have hc:=ydh (yp a);have hmod:(i64.wrap ((yp a).2.2.2.2.2.2.2.1+1)).tmod 2<2:=Int.tmod_lt_of_pos _ (by omega)
 have hfl: ∀i,0≤i→i<a.2.1.1→yq (yn (yp a)) i=false:=fun i i0 i1=>by
  rw[ht.f i i0 i1];unfold yq;rw[hd i i0];by_cases ei:a.2.2.2.1=i
  ·rw[show(a.2.2.2.1==i)=true from beq_iff_eq.2 ei,yk5 hg.2]; rfl
  ·rw[show(a.2.2.2.1==i)=false from beq_eq_false_iff_ne.2 ei]
   rw[cond_false];cases hh:(yh a i).2.2.1
   ·rfl
   ·exact absurd (y1Y h.x i0 i1 hh) (fun e=>ei e.symm)
 have hbd: ∀i m,0≤i→i<a.2.1.1→6≤m→yA (yn (yp a)) i m=false:=fun i m i0 i1 m0=>by
  rw[ht.b i m i0 i1 (by omega)];unfold yA;rw[hd i i0];by_cases ei:a.2.2.2.1=i
  ·rw[show(a.2.2.2.1==i)=true from beq_iff_eq.2 ei,yk5 hg.2]; rfl
  ·rw[show(a.2.2.2.1==i)=false from beq_eq_false_iff_ne.2 ei]; exact hnd i m i0 i1 m0
 rw[e];have B:Bld (K+1) V a (yn (yp a)):=⟨⟨yM6 (a:=yS (yp a)) hc,yQ (b:=yS (yp a)) hc,yfy (b:=yS (yp a)) hc,ys6 (a:=yS (yp a)) hc⟩,yob hx.xk,fun hf=>yGG (a:=yp a) hf,hfl,hbd,hlv.2⟩;have hg2:(yn (yp a)).2.1=a.2.1:=B.bs.cg;have hb2:(yn (yp a)).2.2.2.2.1=0:=ycR (b:=yS (yp a)) hc;refine⟨B,?_⟩;rcases Bool.eq_false_or_eq_true (ya (yn (yp a)))with hdn | hdn
 ·exact .inr ⟨by show(bif ya (yn (yp a))then(6:Int)else 0)≠0; rw[hdn]; decide,hdn⟩
 ·exact .inl ⟨by show(bif ya (yn (yp a))then(6:Int)else 0)=0; rw[hdn]; rfl,⟨y5H h.x hm (by omega) hdn,fun i i0 i1=>hfl i i0 (by rw[hg2]at i1; exact i1),fun i m i0 i1=>hbd i m i0 (by rw[hg2]at i1; exact i1)⟩,hlv.1 hdn,hb2⟩
theorem y2w {K:Int} {V:Int→Int→Int} {a:dA} (h:Gd K V a) (hm:inb a.2.2.2.1 a.2.2.1.length=true) (hb:a.2.2.2.2.1=a.2.1.2) (hk:K+2≤59990) :
  (yeJ a).1.1=a.1∧(yeJ a).1.2.1=a.2.1∧(yeJ a).1.2.2.2.2.2.2.2.2.1=a.2.2.2.2.2.2.2.2.1∧yF (yeJ a).1∧(∀i,0≤i→i<a.2.1.1→yq (yeJ a).1 i=false)∧(∀i m,0≤i→i<a.2.1.1→6≤m→yA (yeJ a).1 i m=false) ∧
   (Lv K V a→Can (K+2) (fun W Lf=>W=V∧(Lf=a.2.2.2.1∨Lf= -1)) (yeJ a).1)∧(yaD a→yaD (yeJ a).1) ∧
   (ya (yeJ a).1=false→(yeJ a).2=0∧Gd (K+2) V (yeJ a).1∧(yeJ a).1.2.2.2.1= -1):=by
 have hmi:=zj6.1 hm;have hlen:=h.x.xk.1.2;have hg:=yj.1 h.x.xc.1;have hxg:=h.x.xg;have hxs:=h.x.xs;have hc10:=h.x.xc.2.2.2.2.2.2.2.2.2;have hfL:(nth a.2.2.1 a.2.2.2.1 yc).2.2.1=false:=h.fd _ hmi.1 (by omega)
 have e:yeJ a=yxH a:=by
  unfold yeJ;rw[yE1 h.x,h.x.xu,h.x.xb,hfL,show(a.2.2.2.1== -1)=false from beq_eq_false_iff_ne.2 (by omega),zk1 (show a.2.2.2.2.2.2.2.1<59990 by omega),zk3 (show a.2.1.2≤a.2.2.2.2.1 by omega)]; rfl
 rw[e];unfold yxH;obtain⟨s1,s2,s3,s4,s5⟩:=yuM a;have hcd:=yHD a;have hck:=yvl h.x.xk;have hcb:=fun i m i0 i1 m0=>ys5 (b:=a) (m:=m) h.x.xk (i:=i) i0 i1 m0
 have hfl: ∀i,0≤i→i<a.2.1.1→yq (ym a) i=false:=fun i i0 i1=>(hcb i 2 i0 i1 (by omega)).2.trans (h.fd i i0 i1)
 have hbd: ∀i m,0≤i→i<a.2.1.1→6≤m→yA (ym a) i m=false:=fun i m i0 i1 m0=>(hcb i m i0 i1 (by omega)).1.trans (h.nd i m i0 i1 m0)
 have hlc:=fun hl:Lv K V a=>yRl hl (by omega)
 rcases Bool.eq_false_or_eq_true (ya (ym a))with hdn | hdn
 ·rw[hdn]
  refine⟨s1,s2,hcd,hck,hfl,hbd,fun hl=> ?_,fun hf=> ?_,fun hu=> ?_⟩
  ·exact yxJ (yUg ((hlc hl).2 hdn)) (by omega) fun W Lf ⟨h1,h2⟩=>⟨h1,.inl (h2.trans s3)⟩
  ·have:=(yJd hf).1
   rw[hdn]at this; cases this
  ·have hu:ya (ym a)=false:=hu
   rw[hdn]at hu; cases hu
 ·rw[hdn]
  have cr:Lv K V a→ ∃R,yKY R (ym a).2.2.2.2.1 V (ym a):=fun hl=>by
   obtain⟨B0,R,hr⟩:=hl.r;exact⟨R,yLc h.x hl.n.z (by omega) hdn (yZA hr (yCZ a))⟩
  have cix:=yJe h.x (by omega) hdn;obtain⟨t1,t2⟩:=yLd (b:=a) (by omega) hdn;have hmk:=(yEd hdn).2
  have hcache: ∀i,0≤i→i<a.2.1.1→(yh (ym a) i).2.1= []:=fun i i0 i1=>by
   have hu2:ya (yn (yT (yd a)))=false:=by rw[← hmk]; exact hdn
   have hsl:(yd a).2.2.1.length=a.2.2.1.length:=yFI a;have hsg:(yd a).2.1=a.2.1:=yQ (yaO a);have hd:=yRn hu2 i0 (by show i<((yd a).2.2.1.length:Int); omega);have hok:yx (yh (yT (yd a)) i)=true:=(yaJ (yjd h.x.xk)).2 i i0 (by rw[hsg]; exact i1)
   have hf2:(yU1 (yS (yT (yd a))) i (yh (yT (yd a)) i)).2.2.1=false:=by
    have:=hfl i i0 i1;unfold yq at this;rw[hmk,hd,(yn6 _).2]at this; exact this
   rw[hmk,hd];exact(yvb (ymj hok) hf2).1
  have hfree:yaD a→yaD (yn (yG (ym a))):=fun hf=>yGG (a:=yG (ym a)) (yJd hf)
  have hz1:(ym a).2.2.2.1=a.2.2.2.1:=s3;generalize ym a=C at s1 s2 s3 s4 s5 hcd hck hfl hbd hdn cr cix t1 t2 hcache hfree hz1;have cxg:=cix.xg
  have hEk:yF (yG C):=by
   refine⟨⟨fun i hi=> ?_,hck.1.2⟩,hck.2⟩;obtain⟨k1,k2,_⟩:=hck.1.1 i hi;refine⟨k1,k2,fun hf=> ?_⟩;have hi':i<C.2.2.1.length:=hi;have hn:=hck.1.2;rw[s2]at hn;have:=hfl i (by omega) (by omega);unfold yq yh at this;have hf:(nth C.2.2.1 i yc).2.2.1=true:=hf;rw[hf]at this; cases this
  have hEx:Ix (K+1) V (yG C):=by
   obtain⟨⟨c1,c2,c3,c4,c5,c6,c7,c8,c9,c10,c11⟩,xk,xu,xb,xg,xs,xe,xv,xn⟩:=cix;refine⟨⟨c1,c2,c3,?_,?_,fun _=>rfl,c7,c8,c9,c10,c11⟩,hEk,xu,xb,xg,xs,xe,fun i s i0 i1 s0 s1 hh=> ?_,fun i i0 i1=> ?_⟩
   ·show -1≤(-1:Int)∧(-1:Int)≤C.2.1.1-1; rw[s2]; omega
   ·show 0≤(0:Int)∧(0:Int)≤C.2.1.2; rw[s2]; omega
   ·have i1:i<C.2.1.1:=i1
    have s1':s<C.2.1.2:=s1;refine xv i s i0 i1 s0 s1' ?_;rw[s2]at i1 s1';have h1:=hfl i i0 i1;have h2:=hbd i (s+6) i0 i1 (by omega);unfold yq at h1;unfold yA at h2;unfold yaw yag;rw[h1,h2,s4,hb,zky s1',Bool.or_true]; rfl
   ·have i1:i<C.2.1.1:=i1
    rw[s2]at i1;show((yh C i).2.1.length:Int)≤_;rw[hcache i i0 i1];show(0:Int)≤1+(bif i== -1 then 0 else 0);cases(i== -1)<;>decide
  have ok:=yaJ hEk;have hM:Mk (yG C):=yX6 hEx.xc hEk (by show C.2.2.2.2.2.2.2.1<60000; omega);have ht:=ysZ ok;have hc:=ydh (yG C);have m1:(yn (yG C)).1=C.1:=yM6 (a:=yS (yG C)) hc;have m2:(yn (yG C)).2.1=C.2.1:=yQ (b:=yS (yG C)) hc;have m3:(yn (yG C)).2.2.2.1= -1:=yfy (b:=yS (yG C)) hc;have m8:(yn (yG C)).2.2.2.2.2.2.2.2.1=C.2.2.2.2.2.2.2.2.1:=ys6 (a:=yS (yG C)) hc;have hmod:(i64.wrap ((yG C).2.2.2.2.2.2.2.1+1)).tmod 2<2:=Int.tmod_lt_of_pos _ (by omega);have hflM: ∀i,0≤i→i<a.2.1.1→yq (yn (yG C)) i=false:=fun i i0 i1=>(ht.f i i0 (by show i<C.2.1.1; rw[s2]; exact i1)).trans (hfl i i0 i1)
  have hbdM: ∀i m,0≤i→i<a.2.1.1→6≤m→yA (yn (yG C)) i m=false:=fun i m i0 i1 m0=>(ht.b i m i0 (by show i<C.2.1.1; rw[s2]; exact i1) (by omega)).trans (hbd i m i0 i1 m0)
  refine⟨m1.trans s1,m2.trans s2,m8.trans hcd,yob hEk,hflM,hbdM,fun hl f' hf'=> ?_,fun hf=>hfree hf,fun hu=>⟨?_,(show Gd (K+2) V (yn (yG C))from⟨yIt (yNb hEx (by omega) hu) (by omega),fun i i0 i1=>hflM i i0 (by rw[m2,s2]at i1; exact i1),fun i m i0 i1=>hbdM i m i0 (by rw[m2,s2]at i1; exact i1)⟩),m3⟩⟩
  ·obtain⟨R,cr⟩:=cr hl
   have base: ∀f,Ch (yG C) f→Wsup C.1 C.2.1 C.2.2.2.2.2.2.2.1 C.2.2.2.2.2.2.1 C.2.2.2.1 C.2.2.2.2.1 C.2.2.2.1 C.2.2.2.2.1 f (yq C)∧Wdat C.2.1 C.2.2.2.2.2.2.1 C.2.2.2.2.2.1 R V C.2.2.2.1 C.2.2.2.2.1 f (yq C) (yA C):=fun f hf=>by
    obtain⟨Bf,⟨p1,_⟩,q1,q2⟩:=cr.2 f (yq C) C.2.2.2.1 hf (yCZ C);have:=p1 ⟨rfl,fun _ _ _=>rfl⟩;subst this;exact⟨q1,q2⟩
   have hTQ:C.2.2.2.2.2.2.1=C.2.2.2.2.2.1:=by omega
   have new: ∀(fl:Int→Bool) (Lf:Int),(∀i,0≤i→i<C.2.1.1→fl i=false→yq C i=false)→ ∀f,Ch (yG C) f→Wdat C.2.1 C.2.2.2.2.2.2.1 C.2.2.2.2.2.1 R V Lf 0 f fl (yA C):=fun fl Lf hsub f hf=>by
    have w:=(base f hf).2;refine⟨w.e,w.q,fun i s i0 i1 s0 s1 hi _ hbb hj=>w.d i s i0 i1 s0 s1 (hsub i i0 i1 hi) (.inr (by rw[s4,hb,← s2]; exact s1)) hbb hj,fun q q0 q1=>by omega,fun i n r i0 i1 hi=>w.h i n r i0 i1 (hsub i i0 i1 hi),w.v,w.l,fun i n i0 i1 hi=>w.b i n i0 i1 (hsub i i0 i1 hi)⟩
   have hT:=yL1 (a:=yG C) (T:=C.2.2.2.2.2.2.1) (L:=C.2.2.2.1) (B:=C.2.2.2.2.1) (Q:=C.2.2.2.2.2.1) (Lf:=C.2.2.2.1) (Lf2:= -1) (R:=R) (V:=V) (f':=f') (fl:=yq C) hM hf' (fun i _ _ h=>h) (fun f hf=>⟨_,base f hf⟩) (fun f hf=>new (yq C) (-1) (fun i _ _ h=>h) f hf) (fun f hf i i0 i1 _=>by
    have i1:i<C.2.1.1:=i1;have w:=(base f hf).1;refine⟨hfl i i0 (by rw[← s2]; exact i1),?_⟩;by_cases ei:i=C.2.2.2.1
    ·rcases w.u4 with⟨_,_,h3⟩ | ⟨_,_,h3,_,h5⟩
     ·rcases h3 with h3 | h3
      ·omega
      ·rw[ei]; exact h3.2
     ·exfalso
      rw[s4,hb]at h5; omega
    ·exact(w.u2 i i0 i1 ei).2) (.inl rfl)
   have hT:(∃Bf,Wsup C.1 C.2.1 C.2.2.2.2.2.2.2.1 C.2.2.2.2.2.2.1 C.2.2.2.1 C.2.2.2.2.1 C.2.2.2.1 Bf f' (yq C)∧Wdat C.2.1 C.2.2.2.2.2.2.1 C.2.2.2.2.2.1 R V C.2.2.2.1 Bf f' (yq C) (yA (yn (yG C)))) ∨
    ∃Bf,Wsup C.1 C.2.1 (C.2.2.2.2.2.2.2.1+1) C.2.2.2.2.2.2.1 (-1) 0 (-1) Bf f' (yq C)∧Wdat C.2.1 C.2.2.2.2.2.2.1 C.2.2.2.2.2.1 R V (-1) Bf f' (yq C) (yA (yn (yG C))):=hT
   have hfe: ∀i,0≤i→i<C.2.1.1→yq (yn (yG C)) i=yq C i:=fun i i0 i1=>ht.f i i0 i1
   show ∃W Lf,(W=V∧(Lf=a.2.2.2.1∨Lf= -1))∧WW (K+2) (yn (yG C)).1 (yn (yG C)).2.1 W Lf f' (yq (yn (yG C))) (yA (yn (yG C)));rw[m1,m2];rcases hT with⟨Bf,w1,w2⟩ | ⟨Bf,w1,w2⟩
   ·exact⟨V,_,⟨rfl,.inl hz1⟩,_,_,_,_,_,R,Bf,by omega,by omega,yyx w1 hfe,yC2 w2 hfe⟩
   ·exact⟨V,_,⟨rfl,.inr rfl⟩,_,_,_,_,_,R,Bf,by omega,by omega,yyx w1 hfe,yC2 w2 hfe⟩
  ·show(bif ya (yn (yG C))then(6:Int)else 0)=0
   have hu:ya (yn (yG C))=false:=hu;rw[hu]; rfl
def yHt (a:dA):Prop:=a.2.2.2.1= -1∧ ∀i m,0≤i→i<a.2.1.1→6≤m→yA a i m=false
theorem y6s {a r:dA} (h:yHt a) (hl:r.2.2.2.1=a.2.2.2.1) (hg:r.2.1=a.2.1) (hd: ∀i m,0≤i→i<a.2.1.1→6≤m→yA r i m=true→yA a i m=true):yHt r:=⟨hl.trans h.1,fun i m i0 i1 m0=>by
 rw[hg]at i1;cases hx:yA r i m
 ·rfl
 ·rw[← h.2 i m i0 i1 m0]; exact(hd i m i0 i1 m0 hx).symm⟩
theorem y5R {a:dA} {b x:Int} (h:yHt a):yHt (yju a b x).2:=by
 unfold yju;cases(ybi a (ybS a.2.1 b)).2
 ·exact h
 ·exact⟨h.1,h.2⟩
theorem y4v {K:Int} {V:Int→Int→Int} {a:dA} (s:Int) (h:Lv K V a) (hn:yHt a):yHt (yaK a s).2:=by
 have c:=h.x.xc;unfold yX at c;unfold yaK;cases ltb (yam a.2.2.2.2.2.2.2.2.1 s) 0
 ·generalize (nth a.2.2.2.2.2.2.2.2.1 (yam a.2.2.2.2.2.2.2.2.1 s) (0,[])).2=D
  cases hc:(yap a s D !=0)
  ·obtain⟨_,z1,z2,_,z4,_,z6,_⟩:=yy1 (bne_eq_false_iff_eq.1 hc)
   obtain⟨_,w2,w3,_⟩:=yPP a s D;have wb:=fun i m i0 i1 m0=>(y0b (s:=s) (d:=D) h.x.xk z4 (by omega) (i:=i) (m:=m) i0 i1 m0).1
   simp only[cond_false];generalize yN a s D=W at w2 w3 wb;have hW:yHt W.2:=y6s hn w3 w2 wb;cases(W.1==0)
   ·exact hW
   ·exact⟨hW.1,hW.2⟩
  ·exact hn
 ·exact hn
theorem yVI {k:Int}: ∀(n i:Nat) (j:Int) (V:Int→Int→Int) (a:dA),Lv j V a→yHt a→j+2*n≤k→k≤60000→yHt (goE yh0 (fun b=>((0:Int),b)) n i a).2
 | 0,_,j,V,a,_,h,_,_=>h
 | n+1,i,j,V,a,h,hn,h1,h2=>by
  have hf:=yRm (nth a.2.2.2.2.2.2.2.2.1 0 (0,[])).1 h (by omega);have hs:=y4v (nth a.2.2.2.2.2.2.2.2.1 0 (0,[])).1 h hn;unfold goE yh0;generalize yaK a (nth a.2.2.2.2.2.2.2.2.1 0 (0,[])).1=F at hf hs;cases hc:(F.1 !=0)
  ·simp only[cond_false]
   cases hd:ya F.2
   ·obtain⟨V1,h3⟩:=hf.1 hd
    exact yVI n (i+1) (j+2) V1 _ h3 hs (by omega) h2
   ·have e:(goE yh0 (fun b=>((0:Int),b)) n (i+1) F.2).2=F.2:=yLa n (i+1) hd
    unfold yh0 at e;rw[e]; exact hs
  ·exact hs
def yyH (k:Int) (a:dA):Prop:=Wk k a∧(∃V,Lv k V a)∧yHt a
theorem yCY {k j:Int} {a:dA} (h:yyH k a) (hj:k≤j):yyH j a:=⟨ydv h.1 hj,h.2.1.imp fun V g=>ytd g hj,h.2.2⟩
theorem y5j {k:Int} {a:dA} (h:yyH k a) (hk:k+16≤60000):yyH (k+16) (yHA a).2:=by
 obtain⟨hw,⟨V,hl⟩,hn⟩:=h;have w:=y5m hw (by omega);have:=yn4 hl.x.xc.2.2.1 hl.x.xc.1;exact⟨ydv w (by omega),(y41 hl hk).1 w.2.2.1.1,yVI _ 0 k V a hl hn (by omega) hk⟩
theorem y5l {k:Int} {a:dA} {b x:Int} (h:yyH k a) (hb:yhR a.2.1 b=true) (hx:isW x=true):yyH k (yju a b x).2:=by
 obtain⟨hw,⟨V,hl⟩,hn⟩:=h;exact⟨y5n hw hb hx,⟨V,y43 hl hb hx⟩,y5R hn⟩
theorem y5k {id:Int} {g:dG} (hg:ye g=true) (h1:1≤id) (h2:id≤60000):yyH 0 (ycK id g):=by
 have e:=yyO hg h1 h2;refine⟨y3j hg h1 h2,⟨_,y42 hg h1 h2⟩,by rw[e],fun i m i0 i1 _=> ?_⟩;have i1:i<g.1:=by rw[e]at i1; exact i1
 unfold yA ya0;rw[y2S hg h1 h2 i0 i1,(ylD id i hg).2.2]; rfl
end
def y2f:Code:=(f80.body).getD .skip
def y2s:Env:=zkw TT [(72,yaP)] []
theorem yUN:FrOk prog ⟨y2s,12,fun _=>none⟩ y2f:=zkA mixed yf ⟨ybw,trivial⟩
abbrev yDy:List Par:= [.pt tU .fz,.rd tL]
abbrev yDR:List OT:= [⟨false,tI,.fz⟩]
def yeZ (a0:dU) (a1:List Int):Option (zaY yDR×zak yDy) :=bnd (yl a0 (a1.length:Int)) fun r1 =>bif(inb r1.1.1 a1.length)then some (((nth a1 r1.1.1 0),()),(r1.2.1,())) else none
theorem yYY:ConOk prog 80 ⟨yDy,yDR,fun x=>yeZ x.1 x.2.1⟩:=zkI (yUN) func80 ntmps80.symm fun x=>by kernel_rfl
def ypt:Con:=⟨yDy,yDR,fun x=>yeZ x.1 x.2.1⟩
theorem yBc:ConOk prog 80 ypt:=yYY
theorem y2D (u:List Int×Int×Int) (l:List Int) (h:ybV u) (hl:l≠ []): ∃(r:Int) (u':List Int×Int×Int),yeZ u l=some ((r,()),(u',()))∧r∈l∧ybV u':=by
 unfold yeZ;obtain⟨r1,u1,e1,q1,d1⟩:=yaV u (l.length:Int) h;have hp:0<l.length:=List.length_pos_iff.2 hl;have hr:=q1.2.1 (by omega);simp only[e1,zkH,zj6.2 ⟨q1.1,hr⟩,cond_true];refine⟨_,_,rfl,?_,d1⟩;have:r1.toNat<l.length:=by have:=q1.1; omega
 unfold nth;rw[List.getD_eq_getElem?_getD,List.getElem?_eq_getElem this,Option.getD_some];exact List.getElem_mem this
def y0B:Code:=(f120.body).getD .skip
def y09:Env:=zkw TT [(80,ypt)] []
theorem yQW:FrOk prog ⟨y09,6,fun _=>none⟩ y0B:=zkA mixed yf ⟨yBc,trivial⟩
abbrev yAm:List Par:= [.pt tU .fz]
abbrev yAS:List OT:= [⟨false,tI,.fz⟩]
def yaZ (a0:dU):Option (zaY yAS×zak yAm) :=bnd (yeZ a0 ([0,1,2,7,255,256,4660,65535]:List Int)) fun r1 =>some ((r1.1.1,()),(r1.2.1,()))
theorem yV9:ConOk prog 120 ⟨yAm,yAS,fun x=>yaZ x.1⟩:=zkI (yQW) func120 ntmps120.symm fun x=>by kernel_rfl
def yu0:Con:=⟨yAm,yAS,fun x=>yaZ x.1⟩
theorem yIH:ConOk prog 120 yu0:=yV9
theorem y3H (u:List Int×Int×Int) (h:ybV u): ∃(r:Int) (u':List Int×Int×Int),yaZ u=some ((r,()),(u',()))∧yb r 0 65535=true∧ybV u':=by
 unfold yaZ;obtain⟨r1,u1,e1,q1,d1⟩:=y2D u [0,1,2,7,255,256,4660,65535] h (by simp);simp only[e1,zkH];refine⟨_,_,rfl,?_,d1⟩;simp only[List.mem_cons,List.not_mem_nil,or_false]at q1;exact y66 (by omega) (by omega)
def ymR:Code:=(f45.body).getD .skip
def ytF:Env:=zkw TT [(69,yxQ),(71,yu1),(72,yaP),(108,yr3),(115,yuW),(116,yxS),(117,yxT),(118,yxU),(119,yi9),(120,yu0)] []
theorem yLH:FrOk prog ⟨ytF,43,fun _=>none⟩ ymR:=zkA mixed yf ⟨yJW,yII,ybw,yGU,yIE,yJY,yJZ,yJ0,ypF,yIH,trivial⟩
def yBu:Nat→Option Seg:=fun _=>none
def ybL:Shape:=⟨[(2,false,[.ptr 0 0]),(4,false,[.ptr 4163 0]),(5,false,[.ptr 8384 0]),(6,false,[ii])],[(0,oK),(4163,oU),(8384,oI)],[(800000000,tM,oC),(800000001,tW,oF)]⟩
def yfr:Shape:=⟨[(2,false,[.ptr 0 0]),(4,false,[.ptr 4163 0]),(5,false,[.ptr 8384 0]),(6,false,[ii])],[(0,oK),(4163,oU),(8384,oI)],[(800000000,tM,oC),(800000001,tW,oF)]⟩
def yfh:Shape:=⟨[(2,false,[.ptr 0 0]),(4,false,[.ptr 4163 0]),(5,false,[.ptr 8384 0])],[(0,oK),(4163,oU),(8384,oI)],[(800000000,tM,oC),(800000001,tW,oF)]⟩
def yi3:Shape:=⟨[],[],[]⟩
abbrev yhT (v0:Int) (v1:dA) (v2:dU) (v3:dA):(ybL).X:=((((),()),((),()),((),()),(v0,()),()),((v1.1,v1.2.1.1,v1.2.1.2,(),v1.2.2.2.1,v1.2.2.2.2.1,v1.2.2.2.2.2.1,v1.2.2.2.2.2.2.1,v1.2.2.2.2.2.2.2.1,(),v1.2.2.2.2.2.2.2.2.2.1,v1.2.2.2.2.2.2.2.2.2.2.1,v1.2.2.2.2.2.2.2.2.2.2.2,()),(v2.1,v2.2.1,v2.2.2,()),(v3.1,v3.2.1.1,v3.2.1.2,(),v3.2.2.2.1,v3.2.2.2.2.1,v3.2.2.2.2.2.1,v3.2.2.2.2.2.2.1,v3.2.2.2.2.2.2.2.1,(),v3.2.2.2.2.2.2.2.2.2.1,v3.2.2.2.2.2.2.2.2.2.2.1,v3.2.2.2.2.2.2.2.2.2.2.2,()),()),(v3.2.2.1,v3.2.2.2.2.2.2.2.2.1,()))
abbrev yKy (v0:Int) (v1:dA) (v2:dU) (v3:dA):(yfr).X:=((((),()),((),()),((),()),(v0,()),()),((v1.1,v1.2.1.1,v1.2.1.2,(),v1.2.2.2.1,v1.2.2.2.2.1,v1.2.2.2.2.2.1,v1.2.2.2.2.2.2.1,v1.2.2.2.2.2.2.2.1,(),v1.2.2.2.2.2.2.2.2.2.1,v1.2.2.2.2.2.2.2.2.2.2.1,v1.2.2.2.2.2.2.2.2.2.2.2,()),(v2.1,v2.2.1,v2.2.2,()),(v3.1,v3.2.1.1,v3.2.1.2,(),v3.2.2.2.1,v3.2.2.2.2.1,v3.2.2.2.2.2.1,v3.2.2.2.2.2.2.1,v3.2.2.2.2.2.2.2.1,(),v3.2.2.2.2.2.2.2.2.2.1,v3.2.2.2.2.2.2.2.2.2.2.1,v3.2.2.2.2.2.2.2.2.2.2.2,()),()),(v3.2.2.1,v3.2.2.2.2.2.2.2.2.1,()))
abbrev yKq (v0:dA) (v1:dU) (v2:dA):(yfh).X:=((((),()),((),()),((),()),()),((v0.1,v0.2.1.1,v0.2.1.2,(),v0.2.2.2.1,v0.2.2.2.2.1,v0.2.2.2.2.2.1,v0.2.2.2.2.2.2.1,v0.2.2.2.2.2.2.2.1,(),v0.2.2.2.2.2.2.2.2.2.1,v0.2.2.2.2.2.2.2.2.2.2.1,v0.2.2.2.2.2.2.2.2.2.2.2,()),(v1.1,v1.2.1,v1.2.2,()),(v2.1,v2.2.1.1,v2.2.1.2,(),v2.2.2.2.1,v2.2.2.2.2.1,v2.2.2.2.2.2.1,v2.2.2.2.2.2.2.1,v2.2.2.2.2.2.2.2.1,(),v2.2.2.2.2.2.2.2.2.2.1,v2.2.2.2.2.2.2.2.2.2.2.1,v2.2.2.2.2.2.2.2.2.2.2.2,()),()),(v2.2.2.1,v2.2.2.2.2.2.2.2.2.1,()))
def yhW (v0 v1 v2 v3 v4 v5 v6 v7 v8 v9:Int) (v10 v11:Bool) (v12:List Int) (v13 v14 v15 v16 v17 v18 v19 v20 v21 v22 v23:Int) (v24 v25:Bool) (v26:List dM) (v27:List dW):Option ((ybL).X ⊕ ((yfh).X ⊕ (yi3).X)) :=bif(ltb 0 v0)then bnd (yl (v12,v13,v14) 3) fun r12 =>bif(r12.1.1==0)then bnd (ykR (v15,(v16,v17),v26,v18,v19,v20,v21,v22,v27,v23,v24,v25)) fun r13 =>some (.inl ((((),()),((),()),((),()),((i64.wrap (v0-1)),()),()),((v1,v2,v3,(),v4,v5,v6,v7,v8,(),v9,v10,v11,()),(r12.2.1.1,r12.2.1.2.1,r12.2.1.2.2,()),(r13.2.1.1,r13.2.1.2.1.1,r13.2.1.2.1.2,(),r13.2.1.2.2.2.1,r13.2.1.2.2.2.2.1,r13.2.1.2.2.2.2.2.1,r13.2.1.2.2.2.2.2.2.1,r13.2.1.2.2.2.2.2.2.2.1,(),r13.2.1.2.2.2.2.2.2.2.2.2.1,r13.2.1.2.2.2.2.2.2.2.2.2.2.1,r13.2.1.2.2.2.2.2.2.2.2.2.2.2,()),()),(r13.2.1.2.2.1,r13.2.1.2.2.2.2.2.2.2.2.1,()))) else let r14:=yB (v16,v17);bnd (yl r12.2.1 r14) fun r15 =>bnd (yaZ r15.2.1) fun r16 =>bnd (yd1 (v15,(v16,v17),v26,v18,v19,v20,v21,v22,v27,v23,v24,v25) r15.1.1 r16.1.1) fun r17 =>some (.inl ((((),()),((),()),((),()),((i64.wrap (v0-1)),()),()),((v1,v2,v3,(),v4,v5,v6,v7,v8,(),v9,v10,v11,()),(r16.2.1.1,r16.2.1.2.1,r16.2.1.2.2,()),(r17.2.1.1,r17.2.1.2.1.1,r17.2.1.2.1.2,(),r17.2.1.2.2.2.1,r17.2.1.2.2.2.2.1,r17.2.1.2.2.2.2.2.1,r17.2.1.2.2.2.2.2.2.1,r17.2.1.2.2.2.2.2.2.2.1,(),r17.2.1.2.2.2.2.2.2.2.2.2.1,r17.2.1.2.2.2.2.2.2.2.2.2.2.1,r17.2.1.2.2.2.2.2.2.2.2.2.2.2,()),()),(r17.2.1.2.2.1,r17.2.1.2.2.2.2.2.2.2.2.1,()))) else some (.inr (.inl ((((),()),((),()),((),()),()),((v1,v2,v3,(),v4,v5,v6,v7,v8,(),v9,v10,v11,()),(v12,v13,v14,()),(v15,v16,v17,(),v18,v19,v20,v21,v22,(),v23,v24,v25,()),()),(v26,v27,()))))
def ya8 (x:(ybL).X):=yhW x.1.2.2.2.1.1 x.2.1.1.1 x.2.1.1.2.1 x.2.1.1.2.2.1 x.2.1.1.2.2.2.2.1 x.2.1.1.2.2.2.2.2.1 x.2.1.1.2.2.2.2.2.2.1 x.2.1.1.2.2.2.2.2.2.2.1 x.2.1.1.2.2.2.2.2.2.2.2.1 x.2.1.1.2.2.2.2.2.2.2.2.2.2.1 x.2.1.1.2.2.2.2.2.2.2.2.2.2.2.1 x.2.1.1.2.2.2.2.2.2.2.2.2.2.2.2.1 x.2.1.2.1.1 x.2.1.2.1.2.1 x.2.1.2.1.2.2.1 x.2.1.2.2.1.1 x.2.1.2.2.1.2.1 x.2.1.2.2.1.2.2.1 x.2.1.2.2.1.2.2.2.2.1 x.2.1.2.2.1.2.2.2.2.2.1 x.2.1.2.2.1.2.2.2.2.2.2.1 x.2.1.2.2.1.2.2.2.2.2.2.2.1 x.2.1.2.2.1.2.2.2.2.2.2.2.2.1 x.2.1.2.2.1.2.2.2.2.2.2.2.2.2.2.1 x.2.1.2.2.1.2.2.2.2.2.2.2.2.2.2.2.1 x.2.1.2.2.1.2.2.2.2.2.2.2.2.2.2.2.2.1 x.2.2.1 x.2.2.2.1
def ywn (x:(yfr).X):(ybL).X:=((((),()),((),()),((),()),(x.1.2.2.2.1.1,()),()),((x.2.1.1.1,x.2.1.1.2.1,x.2.1.1.2.2.1,(),x.2.1.1.2.2.2.2.1,x.2.1.1.2.2.2.2.2.1,x.2.1.1.2.2.2.2.2.2.1,x.2.1.1.2.2.2.2.2.2.2.1,x.2.1.1.2.2.2.2.2.2.2.2.1,(),x.2.1.1.2.2.2.2.2.2.2.2.2.2.1,x.2.1.1.2.2.2.2.2.2.2.2.2.2.2.1,x.2.1.1.2.2.2.2.2.2.2.2.2.2.2.2.1,()),(x.2.1.2.1.1,x.2.1.2.1.2.1,x.2.1.2.1.2.2.1,()),(x.2.1.2.2.1.1,x.2.1.2.2.1.2.1,x.2.1.2.2.1.2.2.1,(),x.2.1.2.2.1.2.2.2.2.1,x.2.1.2.2.1.2.2.2.2.2.1,x.2.1.2.2.1.2.2.2.2.2.2.1,x.2.1.2.2.1.2.2.2.2.2.2.2.1,x.2.1.2.2.1.2.2.2.2.2.2.2.2.1,(),x.2.1.2.2.1.2.2.2.2.2.2.2.2.2.2.1,x.2.1.2.2.1.2.2.2.2.2.2.2.2.2.2.2.1,x.2.1.2.2.1.2.2.2.2.2.2.2.2.2.2.2.2.1,()),()),(x.2.2.1,x.2.2.2.1,()))
def yyY:Code:=(zd7 ymR 64 244).getD .skip
theorem yK7:zd7 ymR 64 61=some (.block 0 (.loop yyY)):=by kernel_rfl
theorem yMS (x:(ybL).X):zhu ⟨ytF,43,yBu⟩ 0 yyY 244 ybL yfh yi3 x=ya8 x:=by kernel_rfl
def ywy (x:(yfr).X):Nat:=18446744073709551616
def ynO (x:(yfr).X):Option ((yfh).X ⊕ (yi3).X):=zF ya8 (ywy x) (ywn x)
def ywS:Seg:=⟨yfr,yfh,yi3,ynO⟩
def yNt:Nat→Option Seg:=fun q=>bif Nat.beq q 61 then some ywS else yBu q
theorem yLI:FrOk prog ⟨ytF,43,yNt⟩ ymR:=(yLH).loop (sg:=ywS) ybL ywn (by decide) yK7 ya8 ywy (by decide) (fun _=>rfl) (fun x r _ h=>h) yMS
abbrev yt9:List Par:= [.kp tYs .fz]
abbrev yuw:List OT:= [⟨false,tA,oB⟩,⟨false,tI,.fz⟩]
def ygE (a0:List Int):Option (zaY yuw×zak yt9) :=let r1:=yhB a0;bnd (ygU r1) fun r2 =>let r3:=yf4 1 r2.1.1;let r4:=ybb a0 12;bnd (yl r2.2.1 (i64.wrap (8+r4))) fun r5 =>zkt (ynO ((((),()),((),()),((),()),(r5.1.1,()),()),((0,0,0,(),0,0,0,0,0,(),0,false,false,()),(r5.2.1.1,r5.2.1.2.1,r5.2.1.2.2,()),(r3.1,r3.2.1.1,r3.2.1.2,(),r3.2.2.2.1,r3.2.2.2.2.1,r3.2.2.2.2.2.1,r3.2.2.2.2.2.2.1,r3.2.2.2.2.2.2.2.1,(),r3.2.2.2.2.2.2.2.2.2.1,r3.2.2.2.2.2.2.2.2.2.2.1,r3.2.2.2.2.2.2.2.2.2.2.2,()),()),(r3.2.2.1,r3.2.2.2.2.2.2.2.2.1,()))) (fun y17 =>bnd (yl (y17.2.1.2.1.1,y17.2.1.2.1.2.1,y17.2.1.2.1.2.2.1) y17.2.1.2.2.1.2.1) fun r19 =>bnd (ygT (y17.2.1.2.2.1.1,(y17.2.1.2.2.1.2.1,y17.2.1.2.2.1.2.2.1),y17.2.2.1,y17.2.1.2.2.1.2.2.2.2.1,y17.2.1.2.2.1.2.2.2.2.2.1,y17.2.1.2.2.1.2.2.2.2.2.2.1,y17.2.1.2.2.1.2.2.2.2.2.2.2.1,y17.2.1.2.2.1.2.2.2.2.2.2.2.2.1,y17.2.2.2.1,y17.2.1.2.2.1.2.2.2.2.2.2.2.2.2.2.1,y17.2.1.2.2.1.2.2.2.2.2.2.2.2.2.2.2.1,y17.2.1.2.2.1.2.2.2.2.2.2.2.2.2.2.2.2.1) r19.1.1) fun r20 =>bnd (yl r19.2.1 30) fun r21 =>some ((r20.2.1,r21.1.1,()),())) (fun y17 =>none)
theorem yO8:ConOk prog 45 ⟨yt9,yuw,fun x=>ygE x.1⟩:=zkI (yLI) func45 ntmps45.symm fun x=>by kernel_rfl
def yBX:Con:=⟨yt9,yuw,fun x=>ygE x.1⟩
theorem ySS:ConOk prog 45 yBX:=yO8
theorem yQo: ∀(n:Nat) (k:Int) (a:dA) (u:dU) (fuel:Nat),n<fuel→n≤1000→ybV u→yyH k a→k+16*n≤60000 →
  ∃(a':dA) (u':dU),zF ya8 fuel (yhT n yai u a)=some (.inl (yKq yai u' a'))∧ybV u'∧yyH (k+16*n) a'
 | 0,k,a,u,fuel+1,_,_,hu,h,_=>⟨a,u,by simp only[zF,ya8,yhT,yhW]; rfl,hu,yCY h (by omega)⟩
 | n+1,k,a,u,fuel+1,hf,hn,hu,h,hk=>by
  have hc:=h.1.1;have hg:=yj.1 hc.1;have hd:=yn4 hc.2.2.1 hc.1;obtain⟨r,u1,e1,q1,d1⟩:=yaV u 3 hu;cases hr:(r==0)
  ·obtain⟨b,u2,e2,q2,d2⟩:=yaV u1 (yB a.2.1) d1
   obtain⟨x,u3,e3,q3,d3⟩:=y3H u2 d2;have hx:isW x=true:=by rw[ybX]at q3; exact q3
   have hbl:0<yB a.2.1:=by
    rw[yyu hc.1];exact Int.mul_pos (by omega) (by omega)
   have hb:yhR a.2.1 b=true:=by
    have:=q2.2.1 hbl;unfold yhR;rw[zk2 q2.1,zk2 (show b≤yB a.2.1-1 by omega)]; rfl
   obtain⟨a',u',e4,d4,h4⟩:=yQo n k (yju a b x).2 u3 fuel (by omega) (by omega) d3 (y5l h hb hx) (by omega);refine⟨a',u',?_,d4,yCY h4 (by omega)⟩;rw[← e4,zF]
   simp only[ya8,yhT,yhW,zky (show(0:Int)<((n+1:Nat):Int)by omega),cond_true,zkX,e1,zkH,hr,cond_false,e2,e3,show((n+1:Nat):Int)-1=(n:Int)by omega,wq ((n:Int)) (by omega) (by omega),
    yJ2 a b x (by unfold ykV; rw[yC0.2 ⟨hc,h.1.2.1⟩,hb]; exact decide_eq_true (show a.2.2.2.2.2.2.2.2.1.length≤1000 by omega)),yov]
  ·obtain⟨a',u',e4,d4,h4⟩:=yQo n (k+16) (yHA a).2 u1 fuel (by omega) (by omega) d1 (y5j h (by omega)) (by omega)
   refine⟨a',u',?_,d4,yCY h4 (by omega)⟩;rw[← e4,zF]
   simp only[ya8,yhT,yhW,zky (show(0:Int)<((n+1:Nat):Int)by omega),cond_true,zkX,e1,zkH,hr,show((n+1:Nat):Int)-1=(n:Int)by omega,wq ((n:Int)) (by omega) (by omega),
    yJ1 a (decide_eq_true (show a.2.2.2.2.2.2.2.2.1.length≤1000 by omega)),you]
structure Gone (K:Int) (V:Int→Int→Int) (a:dA):Prop where
 w:Wk K a
 l:Lv K V a
 m:inb a.2.2.2.1 a.2.2.1.length=true
 f:yq a a.2.2.2.1=true
 b: ∀i m,0≤i→i<a.2.1.1→6≤m→yA a i m=false
theorem y4W {K m:Int} {a:dA} (h:yyH K a) (hm:inb m a.2.2.1.length=true) (hk:K+1≤60000): ∃V,Gone (K+1) V (ycr a m):=by
 obtain⟨hw,⟨V,hl⟩,hn⟩:=h;have hmi:=zj6.1 hm;have hlen:=hl.x.xk.1.2;have w:=y36 hw hn.1 hm hk;have lv:=(y3S hl hn.1 hm hk).1 w.2.2.1.1;obtain⟨c1,c2,_⟩:=y4P hl.x (.inl hn.1) hk (m:=m);have hx:=yPG hl.x (.inl hn.1) hm;have ht:=ysZ (yaJ hx.xk);have hd: ∀i,0≤i→yh (yZ a m) i=bif m==i then yeU (yh a m)else yh a i:=fun i i0=>yEt m _ hm i0
 have hmod:(i64.wrap ((yZ a m).2.2.2.2.2.2.2.1+1)).tmod 2<2:=Int.tmod_lt_of_pos _ (by omega);have hl2:(ycr a m).2.2.1.length=a.2.2.1.length:=by have e1:=w.2.1.1.2; rw[c1]at e1; omega
 rw[yXR hl.x (.inl hn.1) hk]at w lv c1 c2 hl2 ⊢;refine⟨V,w,lv,by rw[c2,hl2]; exact hm,?_,fun i n i0 i1 n0=> ?_⟩
 ·rw[c2,ht.f m hmi.1 (by show m<a.2.1.1; omega)]
  unfold yq;rw[hd m hmi.1,beq_self_eq_true]; rfl
 ·rw[c1]at i1
  rw[ht.b i n i0 i1 (by omega)];unfold yA;rw[hd i i0];by_cases e:m=i
  ·subst e; rw[beq_self_eq_true]; exact hn.2 m n i0 i1 n0
  ·rw[show(m==i)=false from beq_eq_false_iff_ne.2 e]; exact hn.2 i n i0 i1 n0
theorem y3r (a0:List Int) (hb:a0.length≤140737488355328): ∃(a:dA) (n:Int) (V:Int→Int→Int),ygE a0=some ((a,n,()),())∧Gone 400 V a∧0≤n∧n<30:=by
 unfold ygE;obtain⟨h1,h2⟩:=y3J a0 12 (by omega) hb;obtain⟨g,u1,e1,q1,d1⟩:=y2E _ (y4O a0 hb);have hg:=yj.1 q1;obtain⟨r,u2,e2,q2,d2⟩:=yaV u1 (8+ybb a0 12) d1;have:=q2.1; have:=q2.2.1 (by omega);obtain⟨a,u3,e3,d3,h3⟩:=yQo r.toNat 0 (ycK 1 g) u2 18446744073709551616 (by omega) (by omega) d2 (y5k q1 (by omega) (by omega)) (by omega);rw[show((r.toNat:Nat):Int)=r by omega]at e3;have hc:=h3.1.1;have hga:=yj.1 hc.1;have hka:=h3.1.2.1.1.2;obtain⟨m,u4,e4,q4,d4⟩:=yaV u3 a.2.1.1 d3;have hm:inb m a.2.2.1.length=true:=zj6.2 ⟨q4.1,by have:=q4.2.1 (by omega); omega⟩;obtain⟨n,u5,e5,q5,d5⟩:=yaV u4 30 d4;obtain⟨V,hG⟩:=y4W (yCY h3 (show(0:Int)+16*(r.toNat:Int)≤399 by omega)) hm (by omega);simp only[e1,zkH,yf4,wq (8+ybb a0 12) (by omega) (by omega),e2];refine⟨ycr a m,n,V,?_,hG,q5.1,q5.2.1 (by omega)⟩;refine(congrArg (fun z=>zkt z _ _) (show ynO (yKy r yai u2 (ycK 1 g))=_ from e3)).trans ?_;simp only[zkN,zkX,e4,zkH,yGY a m hm,ykK,e5]
theorem y4X {K:Int} {V:Int→Int→Int} {a:dA} (h:Gone K V a):y4a a:=fun s s0 s1=>yX4 (zj6.1 h.m).1 fun i i0 i1 hi=>by
 refine y6E hi ?_ (h.b i (s+6) i0 i1 (by omega));cases hf:yq a i
 ·rfl
 ·exact absurd (y1Y h.l.x i0 i1 hf) hi
theorem y4I {K:Int} {V:Int→Int→Int} {a:dA} (h:Lv K V a) (hm:inb a.2.2.2.1 a.2.2.1.length=true) (hf0:yq a a.2.2.2.1=true) (hnd: ∀i m,0≤i→i<a.2.1.1→6≤m→yA a i m=false) (hk:K+3≤59990) :
  (yc7 a).1.1=a.1∧(yc7 a).1.2.1=a.2.1∧(yc7 a).1.2.2.2.2.2.2.2.2.1=a.2.2.2.2.2.2.2.2.1∧yF (yc7 a).1∧(∀i,0≤i→i<a.2.1.1→yq (yc7 a).1 i=false)∧(∀i m,0≤i→i<a.2.1.1→6≤m→yA (yc7 a).1 i m=false) ∧
   Can (K+3) (fun W _=>W=V) (yc7 a).1∧(yaD a→(yc7 a).2=0∧Gd (K+3) V (yc7 a).1∧(yc7 a).1.2.2.2.1= -1∧yaD (yc7 a).1):=by
 have hg:=yj.1 h.x.xc.1;have hmi:=zj6.1 hm;have hlen:=h.x.xk.1.2;obtain⟨b1,b2⟩:=y51 h hm hf0 hnd (by omega);unfold yc7;generalize yaE a=S at b1 b2;have fin: ∀{J:Int} {r:dA},Bld J V a r→ya r=true→J≤K+3→Can (K+3) (fun W _=>W=V) r:=fun g hd hj=>yxJ (yUg (g.bd hd)) hj fun W L hW=>hW.1
 rcases b2 with⟨k1,k2,k3,k4⟩ | ⟨k1,k2⟩
 ·rw[show(S.2 !=0)=false from bne_eq_false_iff_eq.2 k1,cond_false]
  have hl2:S.1.2.2.1.length=a.2.2.1.length:=by have e1:=b1.bk.1.2; rw[b1.bs.cg]at e1; omega
  have hm2:inb S.1.2.2.2.1 S.1.2.2.1.length=true:=by rw[b1.bs.cl,hl2]; exact hm
  obtain⟨c1,c2⟩:=y6f 8 S.1 k2 k3 hm2 (by rw[b1.bs.cg,k4]; omega);have cc:=yZJ b1 c1;rw[b1.bs.cg]at c2;generalize yfL 8 S.1=T at c2 cc;rcases c2 with⟨j1,j2,j3,j4⟩ | ⟨j1,j2⟩
  ·rw[show(T.2 !=0)=false from bne_eq_false_iff_eq.2 j1,cond_false]
   have hl3:T.1.2.2.1.length=a.2.2.1.length:=by have e1:=cc.bk.1.2; rw[cc.bs.cg]at e1; omega
   obtain⟨a1,a2,a3,a4,a5,a6,a7,a8,a9⟩:=y2w j2 (by rw[cc.bs.cl,hl3]; exact hm) (by rw[cc.bs.cg]; exact j4) (by omega);rw[cc.bs.cg]at a5 a6;refine⟨a1.trans cc.bs.ci,a2.trans cc.bs.cg,a3.trans cc.bs.cd,a4,a5,a6,yxJ (a7 j3) (by omega) fun W L hW=>hW.1,fun hf=> ?_⟩;have d4:=a8 (cc.bf hf);obtain⟨d1,d2,d3⟩:=a9 d4.1;exact⟨d1,⟨yIt d2.x (by omega),d2.fd,d2.nd⟩,d3,d4⟩
  ·rw[show(T.2 !=0)=true from bne_iff_ne.2 j1]
   refine⟨cc.bs.ci,cc.bs.cg,cc.bs.cd,cc.bk,cc.ba,cc.bn,fin cc j2 (by omega),fun hf=> ?_⟩;have:=(cc.bf hf).1;rw[j2]at this; cases this
 ·rw[show(S.2 !=0)=true from bne_iff_ne.2 k1]
  refine⟨b1.bs.ci,b1.bs.cg,b1.bs.cd,b1.bk,b1.ba,b1.bn,fin b1 k2 (by omega),fun hf=> ?_⟩;have:=(b1.bf hf).1;rw[k2]at this; cases this
def y0t:Code:=(f141.body).getD .skip
def y01:Env:=zkw TT [(87,ylr),(111,ynr),(168,yuP)] []
theorem yQJ:FrOk prog ⟨y01,38,fun _=>none⟩ y0t:=zkA mixed yf ⟨yvx,yx0,yIz,trivial⟩
abbrev ylS:List Par:= [.rd tA,.rd tI,.rd tI]
abbrev yrw:List OT:= [⟨false,tI,.fz⟩,⟨false,tB,.fz⟩]
def yvH (a0:dA) (a1 a2:Int):Option (zaY yrw×zak ylS) :=bif(inb a1 a0.2.2.1.length)then let r1:=yh5 a2;let r2:=ybY ((nth a0.2.2.1 a1 ([],[],false,[])).1,((nth a0.2.2.1 a1 ([],[],false,[])).2).1,(((nth a0.2.2.1 a1 ([],[],false,[])).2).2)) r1;let r3:=yf1 a0 a1 a2;bif(!(!r3))then bif(!(!r2.2))then bif((r2.1.length:Int) !=1)then some ((0,false,()),()) else bif(inb 0 r2.1.length)then some (((nth r2.1 0 0),true,()),()) else none else some ((0,false,()),()) else some ((0,false,()),()) else none
theorem yVZ:ConOk prog 141 ⟨ylS,yrw,fun x=>yvH x.1 x.2.1 x.2.2.1⟩:=zkI (yQJ) func141 ntmps141.symm fun x=>by kernel_rfl
def yh7 (a0:dA) (a1 a2:Int):Int×Bool:=(yjE a0 a1 a2,yD a0 a1 a2)
def yBd (a0:dA) (a1 a2:Int):Bool:=inb a1 a0.2.2.1.length
theorem yYn (a0:dA) (a1 a2:Int) (hk:zjx ylS (a0,a1,a2,())) (hq:yBd a0 a1 a2=true):yvH a0 a1 a2=(fun n=>some ((n.1,n.2,()),())) (yh7 a0 a1 a2):=by
 unfold yvH yh7 yjE yf1;simp only[zkX,yxX,ybY];rw[show yD a0 a1 a2=(ycL a0 a1 a2&&((ydw a0 a1 a2).2&&((ydw a0 a1 a2).1.length:Int)==1))from rfl];rw[show yW (nth a0.2.2.1 a1 ([],[],false,[])) (yu a2)=ydw a0 a1 a2 from rfl];rw[show inb a1 a0.2.2.1.length=true from hq];cases hl:ycL a0 a1 a2
 ·rfl
 ·cases(ydw a0 a1 a2).2
  ·rfl
  ·rw[bne]
   cases h1:(((ydw a0 a1 a2).1.length:Int)==1)
   ·rfl
   ·rw[show inb 0 (ydw a0 a1 a2).1.length=true from zj6.2 (by have:=beq_iff_eq.1 h1; omega)]; rfl
def ymc (a0:dA) (a1 a2:Int):Option (zaY yrw×zak ylS):=bif yBd a0 a1 a2 then(fun n=>some ((n.1,n.2,()),())) (yh7 a0 a1 a2)else none
theorem yIL (a0:dA) (a1 a2:Int) (h:yBd a0 a1 a2=true):ymc a0 a1 a2=(fun n=>some ((n.1,n.2,()),())) (yh7 a0 a1 a2):=by unfold ymc; rw[h]; rfl
def yuU:Con:=⟨ylS,yrw,fun x=>ymc x.1 x.2.1 x.2.2.1⟩
theorem yID:ConOk prog 141 yuU:=(yVZ).mono (fun x r hk h=>zkY h (fun hq=>yYn x.1 x.2.1 x.2.2.1 hk hq))
def yKT:Code:=(f191.body).getD .skip
def yKX:Env:=zkw TT [(81,yR),(185,yps)] []
theorem yIl:FrOk prog ⟨yKX,20,fun _=>none⟩ yKT:=zkA mixed yf ⟨yac,yBb,trivial⟩
abbrev yii:List Par:= [.rd tL,.rd tI]
abbrev ynW:List OT:= [⟨false,tI,.fz⟩]
def ylE (a0:List Int) (a1:Int):Option (zaY ynW×zak yii) :=let r1:=ycN a0;let r2:=yi a1 0 (i64.wrap ((a0.length:Int)-1));bif r2 then bif(inb a1 a0.length)then some (((i64.wrap ((BitVec.ofInt IntKind.i64.bits r1 ^^^ BitVec.ofInt IntKind.i64.bits (nth a0 a1 0)).toNat:Int)),()),()) else none else some ((r1,()),())
theorem yJq:ConOk prog 191 ⟨yii,ynW,fun x=>ylE x.1 x.2.1⟩:=zkI (yIl) func191 ntmps191.symm fun x=>by kernel_rfl
def yfA (a0:List Int) (a1:Int):Int:=yod a0 a1
theorem yKB (a0:List Int) (a1:Int) (hk:zjx yii (a0,a1,())):ylE a0 a1=(fun n=>some ((n,()),())) (yfA a0 a1):=by
 have hb:a0.length*8≤2^47:=hk.1.1;unfold ylE yfA yod ycN;rw[yar,yoa (show a0.length≤1152921504606846976 by omega)];cases inb a1 a0.length<;>rfl
def yuQ:Con:=⟨yii,ynW,fun x=>(fun n=>some ((n,()),())) (yfA x.1 x.2.1)⟩
theorem yKJ:ConOk prog 191 yuQ:=(yJq).mono (fun x r hk h=>(yKB x.1 x.2.1 hk).trans h)
def ytl:Code:=(f138.body).getD .skip
def yDj:Env:=zkw TT [(55,ybW),(109,yfx),(141,yuU),(191,yuQ)] []
theorem yUx:FrOk prog ⟨yDj,62,fun _=>none⟩ ytl:=zkA mixed yf ⟨yes,yj1,yID,yKJ,trivial⟩
def yHT:Nat→Option Seg:=fun _=>none
def ycX:Shape:=⟨[(1,false,[ii]),(2,false,[.ptr 0 0]),(6,false,[.at 800000000]),(7,false,[ii]),(28,false,[ii]),(29,false,[ii])],[(0,oJ)],[(800000000,tI,.fz)]⟩
def yhe:Shape:=⟨[(1,false,[ii]),(2,false,[.ptr 0 0]),(6,false,[.at 800000000]),(7,false,[.ci .i64 (-1)]),(28,false,[ii]),(29,false,[.ci .i64 0])],[(0,oJ)],[(800000000,tI,.fz)]⟩
def yg3:Shape:=⟨[(6,false,[.at 800000000]),(7,false,[ii])],[],[(800000000,tI,.fz)]⟩
def yhp:Shape:=⟨[(4,false,[.nil]),(5,false,[.bool])],[],[]⟩
abbrev yqd (v0 v1 v2 v3:Int) (v4:dA) (v5:List Int):(ycX).X:=(((v0,()),((),()),((),()),(v1,()),(v2,()),(v3,()),()),((v4.1,v4.2.1.1,v4.2.1.2,v4.2.2.1,v4.2.2.2.1,v4.2.2.2.2.1,v4.2.2.2.2.2.1,v4.2.2.2.2.2.2.1,v4.2.2.2.2.2.2.2.1,v4.2.2.2.2.2.2.2.2.1,v4.2.2.2.2.2.2.2.2.2.1,v4.2.2.2.2.2.2.2.2.2.2.1,v4.2.2.2.2.2.2.2.2.2.2.2,()),()),(v5,()))
abbrev yOz (v0 v1:Int) (v2:dA) (v3:List Int):(yhe).X:=(((v0,()),((),()),((),()),((),()),(v1,()),((),()),()),((v2.1,v2.2.1.1,v2.2.1.2,v2.2.2.1,v2.2.2.2.1,v2.2.2.2.2.1,v2.2.2.2.2.2.1,v2.2.2.2.2.2.2.1,v2.2.2.2.2.2.2.2.1,v2.2.2.2.2.2.2.2.2.1,v2.2.2.2.2.2.2.2.2.2.1,v2.2.2.2.2.2.2.2.2.2.2.1,v2.2.2.2.2.2.2.2.2.2.2.2,()),()),(v3,()))
abbrev yOt (v0:Int) (v1:List Int):(yg3).X:=((((),()),(v0,()),()),(),(v1,()))
abbrev yOI (v0:Bool):(yhp).X:=((((),()),(v0,()),()),(),())
def yqJ (v0 v1 v2 v3 v4 v5 v6:Int) (v7:List dM) (v8 v9 v10 v11 v12:Int) (v13:List dW) (v14:Int) (v15 v16:Bool) (v17:List Int):Option ((ycX).X ⊕ ((yg3).X ⊕ (yhp).X)) :=bif(ltb v3 v2)then bnd (ymc (v4,(v5,v6),v7,v8,v9,v10,v11,v12,v13,v14,v15,v16) v3 v0) fun r4 =>bif(!r4.1.2.1)then bif(leb 0 v1)then some (.inr (.inr ((((),()),(false,()),()),(),()))) else bif(!r4.1.2.1)then bif(zkl v17.length ([r4.1.1]:List Int).length 8)then some (.inl (((v0,()),((),()),((),()),(v3,()),(v2,()),((i64.wrap (v3+1)),()),()),((v4,v5,v6,v7,v8,v9,v10,v11,v12,v13,v14,v15,v16,()),()),((v17++([r4.1.1]:List Int)),()))) else none else bif(zkl v17.length ([r4.1.1]:List Int).length 8)then some (.inl (((v0,()),((),()),((),()),(v1,()),(v2,()),((i64.wrap (v3+1)),()),()),((v4,v5,v6,v7,v8,v9,v10,v11,v12,v13,v14,v15,v16,()),()),((v17++([r4.1.1]:List Int)),()))) else none else bif(!r4.1.2.1)then bif(zkl v17.length ([r4.1.1]:List Int).length 8)then some (.inl (((v0,()),((),()),((),()),(v3,()),(v2,()),((i64.wrap (v3+1)),()),()),((v4,v5,v6,v7,v8,v9,v10,v11,v12,v13,v14,v15,v16,()),()),((v17++([r4.1.1]:List Int)),()))) else none else bif(zkl v17.length ([r4.1.1]:List Int).length 8)then some (.inl (((v0,()),((),()),((),()),(v1,()),(v2,()),((i64.wrap (v3+1)),()),()),((v4,v5,v6,v7,v8,v9,v10,v11,v12,v13,v14,v15,v16,()),()),((v17++([r4.1.1]:List Int)),()))) else none else some (.inr (.inl ((((),()),(v1,()),()),(),(v17,()))))
def ydm (x:(ycX).X):=yqJ x.1.1.1 x.1.2.2.2.1.1 x.1.2.2.2.2.1.1 x.1.2.2.2.2.2.1.1 x.2.1.1.1 x.2.1.1.2.1 x.2.1.1.2.2.1 x.2.1.1.2.2.2.1 x.2.1.1.2.2.2.2.1 x.2.1.1.2.2.2.2.2.1 x.2.1.1.2.2.2.2.2.2.1 x.2.1.1.2.2.2.2.2.2.2.1 x.2.1.1.2.2.2.2.2.2.2.2.1 x.2.1.1.2.2.2.2.2.2.2.2.2.1 x.2.1.1.2.2.2.2.2.2.2.2.2.2.1 x.2.1.1.2.2.2.2.2.2.2.2.2.2.2.1 x.2.1.1.2.2.2.2.2.2.2.2.2.2.2.2.1 x.2.2.1
def yB6 (x:(yhe).X):(ycX).X:=(((x.1.1.1,()),((),()),((),()),((-1),()),(x.1.2.2.2.2.1.1,()),(0,()),()),((x.2.1.1.1,x.2.1.1.2.1,x.2.1.1.2.2.1,x.2.1.1.2.2.2.1,x.2.1.1.2.2.2.2.1,x.2.1.1.2.2.2.2.2.1,x.2.1.1.2.2.2.2.2.2.1,x.2.1.1.2.2.2.2.2.2.2.1,x.2.1.1.2.2.2.2.2.2.2.2.1,x.2.1.1.2.2.2.2.2.2.2.2.2.1,x.2.1.1.2.2.2.2.2.2.2.2.2.2.1,x.2.1.1.2.2.2.2.2.2.2.2.2.2.2.1,x.2.1.1.2.2.2.2.2.2.2.2.2.2.2.2.1,()),()),(x.2.2.1,()))
def yD3:Code:=(zd7 ytl 64 500).getD .skip
theorem yQc:zd7 ytl 64 125=some (.block 0 (.loop yD3)):=by kernel_rfl
theorem yS4 (x:(ycX).X):zhu ⟨yDj,62,yHT⟩ 0 yD3 500 ycX yg3 yhp x=ydm x:=by kernel_rfl
def yCh (x:(yhe).X):Nat:=18446744073709551616
def yrN (x:(yhe).X):Option ((yg3).X ⊕ (yhp).X):=zF ydm (yCh x) (yB6 x)
def yCE:Seg:=⟨yhe,yg3,yhp,yrN⟩
def yXj:Nat→Option Seg:=fun q=>bif Nat.beq q 125 then some yCE else yHT q
theorem yUy:FrOk prog ⟨yDj,62,yXj⟩ ytl:=(yUx).loop (sg:=yCE) ycX yB6 (by decide) yQc ydm yCh (by decide) (fun _=>rfl) (fun x r _ h=>h) yS4
abbrev yt3:List Par:= [.rd tA,.rd tI]
abbrev yDI:List OT:= [⟨false,tL,oG⟩,⟨false,tB,.fz⟩]
def yyf (a0:dA) (a1:Int):Option (zaY yDI×zak yt3) :=let r1:=yU a0;bif(!(!r1))then bif(!a0.2.2.2.2.2.2.2.2.2.2.2)then let r2:=ya7 a0.2.1 a1;bif(!r2)then some (([],false,()),()) else zkt (yrN (((a1,()),((),()),((),()),((),()),((a0.2.2.1.length:Int),()),((),()),()),((a0.1,a0.2.1.1,a0.2.1.2,a0.2.2.1,a0.2.2.2.1,a0.2.2.2.2.1,a0.2.2.2.2.2.1,a0.2.2.2.2.2.2.1,a0.2.2.2.2.2.2.2.1,a0.2.2.2.2.2.2.2.2.1,a0.2.2.2.2.2.2.2.2.2.1,a0.2.2.2.2.2.2.2.2.2.2.1,a0.2.2.2.2.2.2.2.2.2.2.2,()),()),(([]:List Int),()))) (fun y4 =>bif(leb 0 y4.1.2.1.1)then let r6:=yfA y4.2.2.1 y4.1.2.1.1;bif(inb y4.1.2.1.1 y4.2.2.1.length)then some (((y4.2.2.1.set (y4.1.2.1.1).toNat r6),true,()),()) else none else some ((y4.2.2.1,true,()),())) (fun y4 =>some (([],y4.1.2.1.1,()),())) else some (([],false,()),()) else some (([],false,()),())
theorem yYP:ConOk prog 138 ⟨yt3,yDI,fun x=>yyf x.1 x.2.1⟩:=zkI (yUy) func138 ntmps138.symm fun x=>by kernel_rfl
def yhy (a0:dA) (a1:Int):List Int×Bool:=bif yM a0&&(!a0.2.2.2.2.2.2.2.2.2.2.2&&yaj a0.2.1 a1)then yK a0 a1 else([],false)
theorem y1s (a0:dA) (a1:Int) (hk:zjx yt3 (a0,a1,())):yyf a0 a1=(fun n=>some ((n.1,n.2,()),())) (yhy a0 a1):=by
 unfold yyf yhy yU;rw[yHG];cases ha:yM a0
 ·rfl
 have hg:=yj.1 (yen ha);have hl:=yF0 ha
 have h1:yrN (yOz a1 a0.2.2.1.length a0 [])=some (bif ye8 (fun(i:Nat)=>yD a0 i a1) a0.2.1.1.toNat then .inr (yOI false)else .inl (yOt (yJ (fun(i:Nat)=>yD a0 i a1) a0.2.1.1.toNat) (yal a0 a1 a0.2.1.1.toNat))) :=
  zji (step:=ydm) (fun i=>yqd a1 (yJ (fun(i:Nat)=>yD a0 i a1) i) a0.2.2.1.length i a0 (yal a0 a1 i)) a0.2.1.1.toNat (fun i=> !yD a0 i a1&&leb 0 (yJ (fun(i:Nat)=>yD a0 i a1) i)) _ _ (fun i hi=>by
   simp only[ydm,yqd,yqJ,zky (show(i:Int)<a0.2.2.1.length by omega),cond_true,wq ((i:Int)+1) (by omega) (by omega),Int.natCast_add,Int.natCast_one,Int.toNat_natCast,zkX,yIL a0 i a1 (zkR (show i<a0.2.2.1.length by omega)),yh7,zkH,yJ];rw[zkF.2 (show((yal a0 a1 i).length+ [yjE a0 i a1].length)*8≤140737488355328 by simp only[List.length_cons,List.length_nil,yfG]; omega),yJ6]
   cases yD a0 i a1<;>cases leb 0 (yJ (fun(i:Nat)=>yD a0 i a1) i)<;>rfl) (by simp only[ydm,yqd,yqJ,zk3 (show(a0.2.2.1.length:Int)≤(a0.2.1.1.toNat:Int)by omega),cond_false]) _ (by show _<18446744073709551616; omega)
 rw[h1];cases a0.2.2.2.2.2.2.2.2.2.2.2
 ·cases yaj a0.2.1 a1
  ·rfl
  ·unfold yK
   cases ye8 (fun(i:Nat)=>yD a0 i a1) a0.2.1.1.toNat
   ·simp only[cond_false,zkN,yfA]
    cases hm:leb 0 (yJ (fun(i:Nat)=>yD a0 i a1) a0.2.1.1.toNat)
    ·rfl
    ·obtain⟨h2,h3⟩:=yZ3 a0 a1 a0.2.1.1.toNat hm
     rw[h2,h3]; rfl
   ·rfl
 ·rfl
def yxN:Con:=⟨yt3,yDI,fun x=>(fun n=>some ((n.1,n.2,()),())) (yhy x.1 x.2.1)⟩
theorem yJT:ConOk prog 138 yxN:=(yYP).mono (fun x r hk h=>(y1s x.1 x.2.1 hk).trans h)
def yPS:Code:=(f63.body).getD .skip
def yP9:Env:=zkw TT [(55,ybW),(95,yeT),(111,ynr),(138,yxN),(139,yfw)] []
theorem yKl:FrOk prog ⟨yP9,73,fun _=>none⟩ yPS:=zkA mixed yf ⟨yes,yjr,yx0,yJT,yj0,trivial⟩
abbrev ylf:List Par:= [.rd tA]
abbrev yrY:List OT:= [⟨false,tA,oD⟩,⟨false,tI,.fz⟩]
def yoB (a0:dA):Option (zaY yrY×zak ylf) :=let r1:=yax a0;let r2:=yU a0;bif(!r2)then some ((r1,1,()),()) else bif a0.2.2.2.2.2.2.2.2.2.2.1 then some ((r1,6,()),()) else bif(!(a0.2.2.2.1==(-1)))then bif(inb a0.2.2.2.1 a0.2.2.1.length)then bif(!((((nth a0.2.2.1 a0.2.2.2.1 ([],[],false,[])).2).2).1))then bif(a0.2.2.2.2.1==a0.2.1.2)then some ((r1,2,()),()) else let r3:=yhy a0 a0.2.2.2.2.1;bif(!(!r3.2))then bif a0.2.2.2.2.2.2.2.2.2.2.2 then some ((r1,5,()),()) else let r4:=yh5 a0.2.2.2.2.1;bif(inb a0.2.2.2.1 r3.1.length)then bnd (yc9 r1 a0.2.2.2.1 r4 ([(nth r3.1 a0.2.2.2.1 0)]:List Int)) fun r5 =>bif(!r5.1.1)then some ((r5.2.1,6,()),()) else some (((r5.2.1.1,r5.2.1.2.1,r5.2.1.2.2.1,r5.2.1.2.2.2.1,(i64.wrap (r5.2.1.2.2.2.2.1+1)),r5.2.1.2.2.2.2.2),0,()),()) else none else some ((r1,5,()),()) else some ((r1,2,()),()) else none else some ((r1,2,()),())
theorem yMz:ConOk prog 63 ⟨ylf,yrY,fun x=>yoB x.1⟩:=zkI (yKl) func63 ntmps63.symm fun x=>by kernel_rfl
def yc8 (a0:dA):dA×Int:=ybO a0
theorem yOP (a0:dA) (hk:zjx ylf (a0,())):yoB a0=(fun n=>some ((n.1,n.2,()),())) (yc8 a0):=by
 unfold yoB yc8 ybO;simp only[yax,yU,yhy,yxX];cases ha:yM a0
 ·rfl
 have hg:=yj.1 (yen ha);have hb:=yZG ha;cases hd:ya a0
 ·rw[show a0.2.2.2.2.2.2.2.2.2.2.1=false from hd]
  cases hl:(a0.2.2.2.1== -1)
  ·have hi:=yX5 ha (beq_eq_false_iff_ne.1 hl)
   have hS:leb a0.2.1.2 a0.2.2.2.2.1=(a0.2.2.2.2.1==a0.2.1.2):=by rw[Bool.eq_iff_iff,zj7,beq_iff_eq]; omega
   rw[hi,hS];cases(nth a0.2.2.1 a0.2.2.2.1 yc).2.2.1
   ·cases hbs:(a0.2.2.2.2.1==a0.2.1.2)
    ·have hne:=beq_eq_false_iff_ne.1 hbs
     cases hbr:a0.2.2.2.2.2.2.2.2.2.2.2
     ·rw[yad.2 (show ye a0.2.1=true∧0≤a0.2.2.2.2.1∧a0.2.2.2.2.1≤a0.2.1.2-1 from⟨yen ha,by omega,by omega⟩)]
      simp only[Bool.not_false,Bool.not_true,Bool.and_self,cond_true,cond_false,Bool.false_or,Bool.or_false];unfold yY;cases hw:(yK a0 a0.2.2.2.2.1).2
      ·rfl
      ·rw[yHm hw,y5M ha (beq_eq_false_iff_ne.1 hl),yj2 a0 a0.2.2.2.1 (yu a0.2.2.2.2.1) [nth (yK a0 a0.2.2.2.2.1).1 a0.2.2.2.1 0] (by unfold ybR; rw[hi,hd]; rfl)]
       simp only[zkH,ybQ];show(bif !(!(ya (yL a0)))then some ((yL a0,6,()),())else some ((yW0 (yL a0),0,()),()))=_;cases ya (yL a0)<;>rfl
     ·rfl
    ·rfl
   ·rfl
  ·rfl
 ·rw[show a0.2.2.2.2.2.2.2.2.2.2.1=true from hd]; rfl
def yn1:Con:=⟨ylf,yrY,fun x=>(fun n=>some ((n.1,n.2,()),())) (yc8 x.1)⟩
theorem yCx:ConOk prog 63 yn1:=(yMz).mono (fun x r hk h=>(yOP x.1 hk).trans h)
def y0o:Code:=(f131.body).getD .skip
def y0W:Env:=zkw TT [] []
theorem yQE:FrOk prog ⟨y0W,4,fun _=>none⟩ y0o:=zkA mixed yf trivial
abbrev yAd:List Par:= [.rd tB]
abbrev yAE:List OT:= [⟨false,tI,.fz⟩]
def yG5 (a0:Bool):Option (zaY yAE×zak yAd) :=bif a0 then some ((0,()),()) else some ((6,()),())
theorem yVU:ConOk prog 131 ⟨yAd,yAE,fun x=>yG5 x.1⟩:=zkI (yQE) func131 ntmps131.symm fun x=>by kernel_rfl
def yf2 (a0:Bool):Int :=bif a0 then 0 else 6
def yuS:Con:=⟨yAd,yAE,fun x=>(fun n=>some ((n,()),())) (yf2 x.1)⟩
theorem yYi (a0:Bool):yG5 a0=(fun n=>some ((n,()),())) (yf2 a0):=zkV (p:=fun(n:Int)=>((n,()),())) (zkG (p:=fun(n:Int)=>((n,()),())) rfl rfl)
theorem yIB:ConOk prog 131 yuS:=(yVU).mono (fun x r _ h=>(yYi x.1).trans h)
def y13:Code:=(f64.body).getD .skip
def y2j:Env:=zkw TT [(55,ybW),(95,yeT),(99,yn0),(107,yjU),(131,yuS)] []
theorem yUm:FrOk prog ⟨y2j,57,fun _=>none⟩ y13:=zkA mixed yf ⟨yes,yjr,yCw,ysp,yIB,trivial⟩
abbrev ytY:List Par:= [.rd tA]
abbrev yDB:List OT:= [⟨false,tA,oD⟩,⟨false,tI,.fz⟩]
def yyb (a0:dA):Option (zaY yDB×zak ytY) :=let r1:=yax a0;let r2:=yU a0;bif(!r2)then some ((r1,1,()),()) else bif a0.2.2.2.2.2.2.2.2.2.2.1 then some ((r1,6,()),()) else bif(!(a0.2.2.2.1==(-1)))then bif(inb a0.2.2.2.1 a0.2.2.1.length)then bif(!((((nth a0.2.2.1 a0.2.2.2.1 ([],[],false,[])).2).2).1))then bif(ltb a0.2.2.2.2.1 a0.2.1.2)then some ((r1,2,()),()) else bif a0.2.2.2.2.2.2.2.2.2.2.2 then some ((r1,5,()),()) else bif(leb 59990 a0.2.2.2.2.2.2.2.1)then some ((r1,7,()),()) else bnd (yhF r1) fun r3 =>bif(!r3.1.1)then some ((r3.2.1,6,()),()) else bnd (yaN (r3.2.1.1,r3.2.1.2.1,r3.2.1.2.2.1,(-1),0,r3.2.1.2.2.2.2.2)) fun r4 =>let r5:=yf2 r4.1.1;some ((r4.2.1,r5,()),()) else some ((r1,2,()),()) else none else some ((r1,2,()),())
theorem yYI:ConOk prog 64 ⟨ytY,yDB,fun x=>yyb x.1⟩:=zkI (yUm) func64 ntmps64.symm fun x=>by kernel_rfl
def yhv (a0:dA):dA×Int:=yeJ a0
theorem y1l (a0:dA) (hk:zjx ytY (a0,())):yyb a0=(fun n=>some ((n.1,n.2,()),())) (yhv a0):=by
 unfold yyb yhv yeJ;simp only[yax,yU];cases ha:yM a0
 ·rfl
 cases hd:ya a0
 ·rw[yCy a0 (by unfold yhH; rw[hd]; rfl),show a0.2.2.2.2.2.2.2.2.2.2.1=false from hd]
  cases hl:(a0.2.2.2.1== -1)
  ·rw[yX5 ha (beq_eq_false_iff_ne.1 hl)]
   have key:(bnd (some ((!(ya (ym a0)),()),(ym a0,()))) fun r3=>bif !r3.1.1 then some ((r3.2.1,6,()),())else bnd (yaN (yG r3.2.1)) fun r4=>some ((r4.2.1,yf2 r4.1.1,()),()))=some (((yxH a0).1,(yxH a0).2,()),()):=by
    simp only[zkH];unfold yxH yf2;cases hc:ya (ym a0)
    ·have hm:yaN (yG (ym a0))=some ((!(ya (yn (yG (ym a0)))),()),(yn (yG (ym a0)),())):=ysr _ (by unfold yd2; rw[show ya (yG (ym a0))=ya (ym a0)from rfl,hc]; rfl)
     rw[hm];simp only[zkH];cases ya (yn (yG (ym a0)))<;>rfl
    ·rfl
   cases(nth a0.2.2.1 a0.2.2.2.1 yc).2.2.1<;>cases ltb a0.2.2.2.2.1 a0.2.1.2<;>cases a0.2.2.2.2.2.2.2.2.2.2.2<;>cases leb 59990 a0.2.2.2.2.2.2.2.1<;>first | rfl | exact key
  ·rfl
 ·rw[show a0.2.2.2.2.2.2.2.2.2.2.1=true from hd]; rfl
def yxK:Con:=⟨ytY,yDB,fun x=>(fun n=>some ((n.1,n.2,()),())) (yhv x.1)⟩
theorem yJQ:ConOk prog 64 yxK:=(yYI).mono (fun x r hk h=>(y1l x.1 hk).trans h)
def y0k:Code:=(f184.body).getD .skip
def y0S:Env:=zkw TT [(81,yR)] []
theorem yQy:FrOk prog ⟨y0S,10,fun _=>none⟩ y0k:=zkA mixed yf ⟨yac,trivial⟩
abbrev yrk:List Par:= [.rd tI]
abbrev yAz:List OT:= [⟨false,tM,oA⟩]
def yvE (a0:Int):Option (zaY yAz×zak yrk) :=let r1:=yi a0 1 20;bif(!r1)then some ((([],[],false,[]),()),()) else bif(zks a0 24)then some ((((List.replicate (a0).toNat ([]:List Int)),[],false,[]),()),()) else none
theorem yVP:ConOk prog 184 ⟨yrk,yAz,fun x=>yvE x.1⟩:=zkI (yQy) func184 ntmps184.symm fun x=>by kernel_rfl
def yl4 (a0:Int):dM:=yaM a0
theorem yYd (a0:Int) (hk:zjx yrk (a0,())):yvE a0=(fun n=>some ((n,()),())) (yl4 a0):=by
 unfold yvE yl4 yaM;simp only[yar,ybX];cases hc:(leb 1 a0&&leb a0 20)
 ·rfl
 ·rw[Bool.and_eq_true,zj7,zj7]at hc
  rw[zkM.2 (show 0≤a0∧a0*((24:Nat):Int)≤140737488355328 by omega)]; rfl
def yGk:Con:=⟨yrk,yAz,fun x=>(fun n=>some ((n,()),())) (yl4 x.1)⟩
theorem yY9:ConOk prog 184 yGk:=(yVP).mono (fun x r hk h=>(yYd x.1 hk).trans h)
def y2a:Code:=(f121.body).getD .skip
def y2n:Env:=zkw TT [(55,ybW),(95,yeT),(107,yjU),(128,yr2),(131,yuS),(184,yGk)] []
theorem yUw:FrOk prog ⟨y2n,55,fun _=>none⟩ y2a:=zkA mixed yf ⟨yes,yjr,ysp,yGT,yIB,yY9,trivial⟩
abbrev yt2:List Par:= [.rd tA]
abbrev yDH:List OT:= [⟨false,tA,oD⟩,⟨false,tI,.fz⟩]
def yye (a0:dA):Option (zaY yDH×zak yt2) :=let r1:=yax a0;let r2:=yU a0;bif(!r2)then some ((r1,1,()),()) else bif a0.2.2.2.2.2.2.2.2.2.2.1 then some ((r1,6,()),()) else bif(!(a0.2.2.2.1==(-1)))then bif(inb a0.2.2.2.1 a0.2.2.1.length)then bif(!((((nth a0.2.2.1 a0.2.2.2.1 ([],[],false,[])).2).2).1))then some ((r1,2,()),()) else bif a0.2.2.2.2.2.2.2.2.2.2.2 then some ((r1,5,()),()) else bif(leb 59990 a0.2.2.2.2.2.2.2.1)then some ((r1,7,()),()) else let r3:=ygQ a0.2.1;let r4:=yl4 r3;bif(inb a0.2.2.2.1 r1.2.2.1.length)then bnd (yaN (r1.1,r1.2.1,(r1.2.2.1.set (a0.2.2.2.1).toNat r4),r1.2.2.2.1,0,r1.2.2.2.2.2)) fun r5 =>let r6:=yf2 r5.1.1;some ((r5.2.1,r6,()),()) else none else none else some ((r1,2,()),())
theorem yYO:ConOk prog 121 ⟨yt2,yDH,fun x=>yye x.1⟩:=zkI (yUw) func121 ntmps121.symm fun x=>by kernel_rfl
def yor (a0:dA):dA×Int:=yaE a0
theorem y1r (a0:dA) (hk:zjx yt2 (a0,())):yye a0=(fun n=>some ((n.1,n.2,()),())) (yor a0):=by
 unfold yye yor yaE;simp only[yax,yU];cases ha:yM a0
 ·rfl
 have hg:=yj.1 (yen ha);cases hd:ya a0
 ·rw[show a0.2.2.2.2.2.2.2.2.2.2.1=false from hd]
  cases hl:(a0.2.2.2.1== -1)
  ·have hi:=yX5 ha (beq_eq_false_iff_ne.1 hl)
   have hm:yaN (yp a0)=some ((!(ya (yn (yp a0))),()),(yn (yp a0),())):=ysr (yp a0) (by unfold yd2; rw[show ya (yp a0)=ya a0 from rfl,hd]; rfl);simp only[ygQ,wq (6+a0.2.1.2) (by omega) (by omega),hi,yl4];rw[show yaN (a0.1,a0.2.1,a0.2.2.1.set a0.2.2.2.1.toNat (yaM (6+a0.2.1.2)),a0.2.2.2.1,0,a0.2.2.2.2.2)=_ from hm];simp only[zkH,yf2];cases(nth a0.2.2.1 a0.2.2.2.1 yc).2.2.1<;>cases a0.2.2.2.2.2.2.2.2.2.2.2<;>cases leb 59990 a0.2.2.2.2.2.2.2.1<;>first | rfl | (cases ya (yn (yp a0))<;>rfl)
  ·rfl
 ·rw[show a0.2.2.2.2.2.2.2.2.2.2.1=true from hd]; rfl
def yIe:Con:=⟨yt2,yDH,fun x=>(fun n=>some ((n.1,n.2,()),())) (yor x.1)⟩
theorem y1O:ConOk prog 121 yIe:=(yYO).mono (fun x r hk h=>(y1r x.1 hk).trans h)
def ymN:Code:=(f46.body).getD .skip
def ytB:Env:=zkw TT [(63,yn1),(64,yxK),(121,yIe)] []
theorem yLq:FrOk prog ⟨ytB,34,fun _=>none⟩ ymN:=zkA mixed yf ⟨yCx,yJQ,y1O,trivial⟩
def yBq:Nat→Option Seg:=fun _=>none
def ybH:Shape:=⟨[(2,false,[.ptr 64 0]),(4,false,[.ptr 4416 0]),(5,false,[ii])],[(64,oK),(4416,oI)],[(800000000,tM,oA),(800000001,tW,oE)]⟩
def yfn:Shape:=⟨[(2,false,[.ptr 64 0]),(4,false,[.ptr 4416 0]),(5,false,[ii])],[(64,oK),(4416,oI)],[(800000000,tM,oA),(800000001,tW,oE)]⟩
def yfd:Shape:=⟨[(2,false,[.ptr 64 0]),(4,false,[.ptr 4416 0]),(5,false,[ii])],[(64,oK),(4416,oI)],[(800000000,tM,oA),(800000001,tW,oE)]⟩
def yiU:Shape:=⟨[],[],[]⟩
abbrev ycs (v0:Int) (v1 v2:dA):(ybH).X:=((((),()),((),()),(v0,()),()),((v1.1,v1.2.1.1,v1.2.1.2,(),v1.2.2.2.1,v1.2.2.2.2.1,v1.2.2.2.2.2.1,v1.2.2.2.2.2.2.1,v1.2.2.2.2.2.2.2.1,(),v1.2.2.2.2.2.2.2.2.2.1,v1.2.2.2.2.2.2.2.2.2.2.1,v1.2.2.2.2.2.2.2.2.2.2.2,()),(v2.1,v2.2.1.1,v2.2.1.2,(),v2.2.2.2.1,v2.2.2.2.2.1,v2.2.2.2.2.2.1,v2.2.2.2.2.2.2.1,v2.2.2.2.2.2.2.2.1,(),v2.2.2.2.2.2.2.2.2.2.1,v2.2.2.2.2.2.2.2.2.2.2.1,v2.2.2.2.2.2.2.2.2.2.2.2,()),()),(v2.2.2.1,v2.2.2.2.2.2.2.2.2.1,()))
abbrev ywG (v0:Int) (v1 v2:dA):(yfn).X:=((((),()),((),()),(v0,()),()),((v1.1,v1.2.1.1,v1.2.1.2,(),v1.2.2.2.1,v1.2.2.2.2.1,v1.2.2.2.2.2.1,v1.2.2.2.2.2.2.1,v1.2.2.2.2.2.2.2.1,(),v1.2.2.2.2.2.2.2.2.2.1,v1.2.2.2.2.2.2.2.2.2.2.1,v1.2.2.2.2.2.2.2.2.2.2.2,()),(v2.1,v2.2.1.1,v2.2.1.2,(),v2.2.2.2.1,v2.2.2.2.2.1,v2.2.2.2.2.2.1,v2.2.2.2.2.2.2.1,v2.2.2.2.2.2.2.2.1,(),v2.2.2.2.2.2.2.2.2.2.1,v2.2.2.2.2.2.2.2.2.2.2.1,v2.2.2.2.2.2.2.2.2.2.2.2,()),()),(v2.2.2.1,v2.2.2.2.2.2.2.2.2.1,()))
abbrev ywC (v0:Int) (v1 v2:dA):(yfd).X:=((((),()),((),()),(v0,()),()),((v1.1,v1.2.1.1,v1.2.1.2,(),v1.2.2.2.1,v1.2.2.2.2.1,v1.2.2.2.2.2.1,v1.2.2.2.2.2.2.1,v1.2.2.2.2.2.2.2.1,(),v1.2.2.2.2.2.2.2.2.2.1,v1.2.2.2.2.2.2.2.2.2.2.1,v1.2.2.2.2.2.2.2.2.2.2.2,()),(v2.1,v2.2.1.1,v2.2.1.2,(),v2.2.2.2.1,v2.2.2.2.2.1,v2.2.2.2.2.2.1,v2.2.2.2.2.2.2.1,v2.2.2.2.2.2.2.2.1,(),v2.2.2.2.2.2.2.2.2.2.1,v2.2.2.2.2.2.2.2.2.2.2.1,v2.2.2.2.2.2.2.2.2.2.2.2,()),()),(v2.2.2.1,v2.2.2.2.2.2.2.2.2.1,()))
def yeK (v0 v1 v2 v3 v4 v5 v6 v7 v8 v9:Int) (v10 v11:Bool) (v12 v13 v14 v15 v16 v17 v18 v19 v20:Int) (v21 v22:Bool) (v23:List dM) (v24:List dW):Option ((ybH).X ⊕ ((yfd).X ⊕ (yiU).X)) :=bif(v0==0)then bif(ltb v16 v14)then let r3:=yc8 (v12,(v13,v14),v23,v15,v16,v17,v18,v19,v24,v20,v21,v22);some (.inl ((((),()),((),()),(r3.2,()),()),((v1,v2,v3,(),v4,v5,v6,v7,v8,(),v9,v10,v11,()),(r3.1.1,r3.1.2.1.1,r3.1.2.1.2,(),r3.1.2.2.2.1,r3.1.2.2.2.2.1,r3.1.2.2.2.2.2.1,r3.1.2.2.2.2.2.2.1,r3.1.2.2.2.2.2.2.2.1,(),r3.1.2.2.2.2.2.2.2.2.2.1,r3.1.2.2.2.2.2.2.2.2.2.2.1,r3.1.2.2.2.2.2.2.2.2.2.2.2,()),()),(r3.1.2.2.1,r3.1.2.2.2.2.2.2.2.2.1,()))) else some (.inr (.inl ((((),()),((),()),(v0,()),()),((v1,v2,v3,(),v4,v5,v6,v7,v8,(),v9,v10,v11,()),(v12,v13,v14,(),v15,v16,v17,v18,v19,(),v20,v21,v22,()),()),(v23,v24,())))) else some (.inr (.inl ((((),()),((),()),(v0,()),()),((v1,v2,v3,(),v4,v5,v6,v7,v8,(),v9,v10,v11,()),(v12,v13,v14,(),v15,v16,v17,v18,v19,(),v20,v21,v22,()),()),(v23,v24,()))))
def yas (x:(ybH).X):=yeK x.1.2.2.1.1 x.2.1.1.1 x.2.1.1.2.1 x.2.1.1.2.2.1 x.2.1.1.2.2.2.2.1 x.2.1.1.2.2.2.2.2.1 x.2.1.1.2.2.2.2.2.2.1 x.2.1.1.2.2.2.2.2.2.2.1 x.2.1.1.2.2.2.2.2.2.2.2.1 x.2.1.1.2.2.2.2.2.2.2.2.2.2.1 x.2.1.1.2.2.2.2.2.2.2.2.2.2.2.1 x.2.1.1.2.2.2.2.2.2.2.2.2.2.2.2.1 x.2.1.2.1.1 x.2.1.2.1.2.1 x.2.1.2.1.2.2.1 x.2.1.2.1.2.2.2.2.1 x.2.1.2.1.2.2.2.2.2.1 x.2.1.2.1.2.2.2.2.2.2.1 x.2.1.2.1.2.2.2.2.2.2.2.1 x.2.1.2.1.2.2.2.2.2.2.2.2.1 x.2.1.2.1.2.2.2.2.2.2.2.2.2.2.1 x.2.1.2.1.2.2.2.2.2.2.2.2.2.2.2.1 x.2.1.2.1.2.2.2.2.2.2.2.2.2.2.2.2.1 x.2.2.1 x.2.2.2.1
def ywi (x:(yfn).X):(ybH).X:=((((),()),((),()),(x.1.2.2.1.1,()),()),((x.2.1.1.1,x.2.1.1.2.1,x.2.1.1.2.2.1,(),x.2.1.1.2.2.2.2.1,x.2.1.1.2.2.2.2.2.1,x.2.1.1.2.2.2.2.2.2.1,x.2.1.1.2.2.2.2.2.2.2.1,x.2.1.1.2.2.2.2.2.2.2.2.1,(),x.2.1.1.2.2.2.2.2.2.2.2.2.2.1,x.2.1.1.2.2.2.2.2.2.2.2.2.2.2.1,x.2.1.1.2.2.2.2.2.2.2.2.2.2.2.2.1,()),(x.2.1.2.1.1,x.2.1.2.1.2.1,x.2.1.2.1.2.2.1,(),x.2.1.2.1.2.2.2.2.1,x.2.1.2.1.2.2.2.2.2.1,x.2.1.2.1.2.2.2.2.2.2.1,x.2.1.2.1.2.2.2.2.2.2.2.1,x.2.1.2.1.2.2.2.2.2.2.2.2.1,(),x.2.1.2.1.2.2.2.2.2.2.2.2.2.2.1,x.2.1.2.1.2.2.2.2.2.2.2.2.2.2.2.1,x.2.1.2.1.2.2.2.2.2.2.2.2.2.2.2.2.1,()),()),(x.2.2.1,x.2.2.2.1,()))
def yyT:Code:=(zd7 ymN 64 56).getD .skip
theorem yK2:zd7 ymN 64 14=some (.block 0 (.loop yyT)):=by kernel_rfl
theorem yMN (x:(ybH).X):zhu ⟨ytB,34,yBq⟩ 0 yyT 56 ybH yfd yiU x=yas x:=by kernel_rfl
def ywt (x:(yfn).X):Nat:=18446744073709551616
def yie (x:(yfn).X):Option ((yfd).X ⊕ (yiU).X):=zF yas (ywt x) (ywi x)
def ywN:Seg:=⟨yfn,yfd,yiU,yie⟩
def yNp:Nat→Option Seg:=fun q=>bif Nat.beq q 14 then some ywN else yBq q
theorem yLr:FrOk prog ⟨ytB,34,yNp⟩ ymN:=(yLq).loop (sg:=ywN) ybH ywi (by decide) yK2 yas ywt (by decide) (fun _=>rfl) (fun x r _ h=>h) yMN
abbrev ymX:List Par:= [.rd tA]
abbrev yuj:List OT:= [⟨false,tA,oD⟩,⟨false,tI,.fz⟩]
def yqq (a0:dA):Option (zaY yuj×zak ymX) :=let r1:=yor a0;zkt (yie ((((),()),((),()),(r1.2,()),()),((0,0,0,(),0,0,0,0,0,(),0,false,false,()),(r1.1.1,r1.1.2.1.1,r1.1.2.1.2,(),r1.1.2.2.2.1,r1.1.2.2.2.2.1,r1.1.2.2.2.2.2.1,r1.1.2.2.2.2.2.2.1,r1.1.2.2.2.2.2.2.2.1,(),r1.1.2.2.2.2.2.2.2.2.2.1,r1.1.2.2.2.2.2.2.2.2.2.2.1,r1.1.2.2.2.2.2.2.2.2.2.2.2,()),()),(r1.1.2.2.1,r1.1.2.2.2.2.2.2.2.2.1,()))) (fun y3 =>bif(y3.1.2.2.1.1 !=0)then some (((y3.2.1.2.1.1,(y3.2.1.2.1.2.1,y3.2.1.2.1.2.2.1),y3.2.2.1,y3.2.1.2.1.2.2.2.2.1,y3.2.1.2.1.2.2.2.2.2.1,y3.2.1.2.1.2.2.2.2.2.2.1,y3.2.1.2.1.2.2.2.2.2.2.2.1,y3.2.1.2.1.2.2.2.2.2.2.2.2.1,y3.2.2.2.1,y3.2.1.2.1.2.2.2.2.2.2.2.2.2.2.1,y3.2.1.2.1.2.2.2.2.2.2.2.2.2.2.2.1,y3.2.1.2.1.2.2.2.2.2.2.2.2.2.2.2.2.1),y3.1.2.2.1.1,()),()) else let r5:=yhv (y3.2.1.2.1.1,(y3.2.1.2.1.2.1,y3.2.1.2.1.2.2.1),y3.2.2.1,y3.2.1.2.1.2.2.2.2.1,y3.2.1.2.1.2.2.2.2.2.1,y3.2.1.2.1.2.2.2.2.2.2.1,y3.2.1.2.1.2.2.2.2.2.2.2.1,y3.2.1.2.1.2.2.2.2.2.2.2.2.1,y3.2.2.2.1,y3.2.1.2.1.2.2.2.2.2.2.2.2.2.2.1,y3.2.1.2.1.2.2.2.2.2.2.2.2.2.2.2.1,y3.2.1.2.1.2.2.2.2.2.2.2.2.2.2.2.2.1);some ((r5.1,r5.2,()),())) (fun y3 =>none)
theorem yOV:ConOk prog 46 ⟨ymX,yuj,fun x=>yqq x.1⟩:=zkI (yLr) func46 ntmps46.symm fun x=>by kernel_rfl
def yjg (a0:dA):dA×Int:=yc7 a0
theorem yJO (c:Int) (a:dA) (fuel:Nat) (hc:(c==0)=false) (hf:0<fuel):zF yas fuel (ycs c yai a)=some (.inl (ywC c yai a)):=by
 obtain⟨fuel,rfl⟩: ∃m,fuel=m+1:=⟨fuel-1,by omega⟩;simp only[zF,yas,ycs,yeK,hc,cond_false]
theorem y1i: ∀(n:Nat) (a:dA) (fuel:Nat),(a.2.1.2-a.2.2.2.2.1).toNat≤n→n+1<fuel→zF yas fuel (ycs 0 yai a)=some (.inl (ywC (yfL n a).2 yai (yfL n a).1)):=by
 intro n
 induction n with
 | zero =>
  intro a fuel h hf;obtain⟨fuel,rfl⟩: ∃m,fuel=m+1:=⟨fuel-1,by omega⟩;simp only[zF,yas,ycs,yeK,beq_self_eq_true,cond_true,zk3 (show a.2.1.2≤a.2.2.2.2.1 by omega),cond_false];rfl
 | succ n ih =>
  intro a fuel h hf;obtain⟨fuel,rfl⟩: ∃m,fuel=m+1:=⟨fuel-1,by omega⟩;cases hS:ltb a.2.2.2.2.1 a.2.1.2
  ·rw[y3G hS]
   simp only[zF,yas,ycs,yeK,beq_self_eq_true,cond_true,hS,cond_false]
  ·unfold yfL
   rw[hS,cond_true];simp only[zF,yas,ycs,yeK,beq_self_eq_true,hS,cond_true,zkX,yc8];cases hc:((ybO a).2 !=0)
   ·have h0:=bne_eq_false_iff_eq.1 hc
    obtain⟨_,h1,h2,h3⟩:=y5c h0;rw[h0];exact ih (ybO a).1 fuel (by rw[h2,h3]; omega) (by omega)
   ·exact yJO (ybO a).2 (ybO a).1 fuel (beq_eq_false_iff_ne.2 (bne_iff_ne.1 hc)) (by omega)
theorem yRW (a0:dA) (hk:zjx ymX (a0,())):yqq a0=(fun n=>some ((n.1,n.2,()),())) (yjg a0):=by
 unfold yqq yjg yc7;simp only[yor];cases hc:((yaE a0).2 !=0)
 ·have h0:=bne_eq_false_iff_eq.1 hc
  obtain⟨h1,h2,h3⟩:=y4A h0;have hg:=yj.1 h3;have hl:=y1i 8 (yaE a0).1 18446744073709551616 (by rw[h1,h2]; omega) (by omega);rw[← h0]at hl;refine(congrArg (fun z=>zkt z _ _) (show yie (ywG (yaE a0).2 yai (yaE a0).1)=_ from hl)).trans ?_;simp only[zkN,yhv,zkX,cond_false];cases((yfL 8 (yaE a0).1).2 !=0)<;>rfl
 ·have hl:=yJO (yaE a0).2 (yaE a0).1 18446744073709551616 (beq_eq_false_iff_ne.2 (bne_iff_ne.1 hc)) (by omega)
  refine(congrArg (fun z=>zkt z _ _) (show yie (ywG (yaE a0).2 yai (yaE a0).1)=_ from hl)).trans ?_;simp only[zkN,zkX,hc,cond_true]
def yBN:Con:=⟨ymX,yuj,fun x=>(fun n=>some ((n.1,n.2,()),())) (yjg x.1)⟩
theorem ySI:ConOk prog 46 yBN:=(yOV).mono (fun x r hk h=>(yRW x.1 hk).trans h)
def ytm:Code:=(f122.body).getD .skip
def yDk:Env:=zkw TT [(141,yuU),(185,yps)] []
theorem yUz:FrOk prog ⟨yDk,33,fun _=>none⟩ ytm:=zkA mixed yf ⟨yID,yBb,trivial⟩
def yHU:Nat→Option Seg:=fun _=>none
def ydD:Shape:=⟨[(1,false,[ii]),(2,false,[.ptr 0 0]),(6,false,[.at 800000000]),(13,false,[ii]),(14,false,[ii])],[(0,oJ)],[(800000000,tI,.fz)]⟩
def yiH:Shape:=⟨[(1,false,[ii]),(2,false,[.ptr 0 0]),(6,false,[.at 800000000]),(13,false,[ii]),(14,false,[.ci .i64 0])],[(0,oJ)],[(800000000,tI,.fz)]⟩
def yis:Shape:=⟨[(6,false,[.at 800000000])],[],[(800000000,tI,.fz)]⟩
def yi0:Shape:=⟨[(4,false,[ii]),(5,false,[.bool])],[],[]⟩
abbrev ysf (v0 v1 v2:Int) (v3:dA) (v4:List Int):(ydD).X:=(((v0,()),((),()),((),()),(v1,()),(v2,()),()),((v3.1,v3.2.1.1,v3.2.1.2,v3.2.2.1,v3.2.2.2.1,v3.2.2.2.2.1,v3.2.2.2.2.2.1,v3.2.2.2.2.2.2.1,v3.2.2.2.2.2.2.2.1,v3.2.2.2.2.2.2.2.2.1,v3.2.2.2.2.2.2.2.2.2.1,v3.2.2.2.2.2.2.2.2.2.2.1,v3.2.2.2.2.2.2.2.2.2.2.2,()),()),(v4,()))
abbrev yRB (v0 v1:Int) (v2:dA) (v3:List Int):(yiH).X:=(((v0,()),((),()),((),()),(v1,()),((),()),()),((v2.1,v2.2.1.1,v2.2.1.2,v2.2.2.1,v2.2.2.2.1,v2.2.2.2.2.1,v2.2.2.2.2.2.1,v2.2.2.2.2.2.2.1,v2.2.2.2.2.2.2.2.1,v2.2.2.2.2.2.2.2.2.1,v2.2.2.2.2.2.2.2.2.2.1,v2.2.2.2.2.2.2.2.2.2.2.1,v2.2.2.2.2.2.2.2.2.2.2.2,()),()),(v3,()))
abbrev yE2 (v0:List Int):(yis).X:=((((),()),()),(),(v0,()))
abbrev yRP (v0:Int) (v1:Bool):(yi0).X:=(((v0,()),(v1,()),()),(),())
def ysP (v0 v1 v2 v3 v4 v5:Int) (v6:List dM) (v7 v8 v9 v10 v11:Int) (v12:List dW) (v13:Int) (v14 v15:Bool) (v16:List Int):Option ((ydD).X ⊕ ((yis).X ⊕ (yi0).X)) :=bif(ltb v2 v1)then bnd (ymc (v3,(v4,v5),v6,v7,v8,v9,v10,v11,v12,v13,v14,v15) v2 v0) fun r2 =>bif(!r2.1.2.1)then some (.inr (.inr (((0,()),(false,()),()),(),()))) else bif(zkl v16.length ([r2.1.1]:List Int).length 8)then some (.inl (((v0,()),((),()),((),()),(v1,()),((i64.wrap (v2+1)),()),()),((v3,v4,v5,v6,v7,v8,v9,v10,v11,v12,v13,v14,v15,()),()),((v16++([r2.1.1]:List Int)),()))) else none else some (.inr (.inl ((((),()),()),(),(v16,()))))
def yed (x:(ydD).X):=ysP x.1.1.1 x.1.2.2.2.1.1 x.1.2.2.2.2.1.1 x.2.1.1.1 x.2.1.1.2.1 x.2.1.1.2.2.1 x.2.1.1.2.2.2.1 x.2.1.1.2.2.2.2.1 x.2.1.1.2.2.2.2.2.1 x.2.1.1.2.2.2.2.2.2.1 x.2.1.1.2.2.2.2.2.2.2.1 x.2.1.1.2.2.2.2.2.2.2.2.1 x.2.1.1.2.2.2.2.2.2.2.2.2.1 x.2.1.1.2.2.2.2.2.2.2.2.2.2.1 x.2.1.1.2.2.2.2.2.2.2.2.2.2.2.1 x.2.1.1.2.2.2.2.2.2.2.2.2.2.2.2.1 x.2.2.1
def yEy (x:(yiH).X):(ydD).X:=(((x.1.1.1,()),((),()),((),()),(x.1.2.2.2.1.1,()),(0,()),()),((x.2.1.1.1,x.2.1.1.2.1,x.2.1.1.2.2.1,x.2.1.1.2.2.2.1,x.2.1.1.2.2.2.2.1,x.2.1.1.2.2.2.2.2.1,x.2.1.1.2.2.2.2.2.2.1,x.2.1.1.2.2.2.2.2.2.2.1,x.2.1.1.2.2.2.2.2.2.2.2.1,x.2.1.1.2.2.2.2.2.2.2.2.2.1,x.2.1.1.2.2.2.2.2.2.2.2.2.2.1,x.2.1.1.2.2.2.2.2.2.2.2.2.2.2.1,x.2.1.1.2.2.2.2.2.2.2.2.2.2.2.2.1,()),()),(x.2.2.1,()))
def yF7:Code:=(zd7 ytm 64 116).getD .skip
theorem yT4:zd7 ytm 64 29=some (.block 0 (.loop yF7)):=by kernel_rfl
theorem yWL (x:(ydD).X):zhu ⟨yDk,33,yHU⟩ 0 yF7 116 ydD yis yi0 x=yed x:=by kernel_rfl
def yEP (x:(yiH).X):Nat:=18446744073709551616
def ytN (x:(yiH).X):Option ((yis).X ⊕ (yi0).X):=zF yed (yEP x) (yEy x)
def yFv:Seg:=⟨yiH,yis,yi0,ytN⟩
def yXk:Nat→Option Seg:=fun q=>bif Nat.beq q 29 then some yFv else yHU q
theorem yUA:FrOk prog ⟨yDk,33,yXk⟩ ytm:=(yUz).loop (sg:=yFv) ydD yEy (by decide) yT4 yed yEP (by decide) (fun _=>rfl) (fun x r _ h=>h) yWL
abbrev yt4:List Par:= [.rd tA,.rd tI]
abbrev yDJ:List OT:= [⟨false,tI,.fz⟩,⟨false,tB,.fz⟩]
def yyg (a0:dA) (a1:Int):Option (zaY yDJ×zak yt4) :=zkt (ytN (((a1,()),((),()),((),()),((a0.2.2.1.length:Int),()),((),()),()),((a0.1,a0.2.1.1,a0.2.1.2,a0.2.2.1,a0.2.2.2.1,a0.2.2.2.2.1,a0.2.2.2.2.2.1,a0.2.2.2.2.2.2.1,a0.2.2.2.2.2.2.2.1,a0.2.2.2.2.2.2.2.2.1,a0.2.2.2.2.2.2.2.2.2.1,a0.2.2.2.2.2.2.2.2.2.2.1,a0.2.2.2.2.2.2.2.2.2.2.2,()),()),(([]:List Int),()))) (fun y2 =>let r4:=ycN y2.2.2.1;some ((r4,true,()),())) (fun y2 =>some ((y2.1.1.1,y2.1.2.1.1,()),()))
theorem yYQ:ConOk prog 122 ⟨yt4,yDJ,fun x=>yyg x.1 x.2.1⟩:=zkI (yUA) func122 ntmps122.symm fun x=>by kernel_rfl
def yhz (a0:dA) (a1:Int):Int×Bool:=ygL a0 a1
theorem y1t (a0:dA) (a1:Int) (hk:zjx yt4 (a0,a1,())):yyg a0 a1=(fun n=>some ((n.1,n.2,()),())) (yhz a0 a1):=by
 have hb:a0.2.2.1.length*80≤2^47:=hk.1.2.2.1.1
 have h1:ytN (yRB a1 a0.2.2.1.length a0 [])=some (bif yD0 a0 a1 then .inl (yE2 ((List.range a0.2.2.1.length).foldl (fun n (i:Nat)=>n++ [yjE a0 i a1]) []))else .inr (yRP 0 false)) :=
  zhU (step:=yed) a0.2.2.1.length (fun i s=>ysf a1 a0.2.2.1.length i a0 s) (fun(i:Nat)=>yD a0 i a1) (fun n (i:Nat)=>n++ [yjE a0 i a1]) (fun i s=>s.length=i) (fun s=> .inl (yE2 s)) _ (fun i s hi hs=>⟨by
   simp only[yed,ysf,ysP,zky (show(i:Int)<a0.2.2.1.length by omega),cond_true,wq ((i:Int)+1) (by omega) (by omega),Int.natCast_add,Int.natCast_one,Int.toNat_natCast,zkX,yIL a0 i a1 (zkR hi),yh7,zkH];rw[show zkl s.length ([yjE a0 i a1]:List Int).length 8=true from zkF.2 (by simp only[List.length_cons,List.length_nil]; omega)]
   cases yD a0 i a1<;>rfl,fun _=>by simp[hs]⟩) (fun s _=>by simp only[yed,ysf,ysP,zk3 (Int.le_refl _),cond_false]) [] rfl _ (by show _<18446744073709551616; omega)
 unfold yyg yhz ygL ycN;rw[h1,ypv,List.nil_append];cases yD0 a0 a1<;>rfl
def yxO:Con:=⟨yt4,yDJ,fun x=>(fun n=>some ((n.1,n.2,()),())) (yhz x.1 x.2.1)⟩
theorem yJU:ConOk prog 122 yxO:=(yYQ).mono (fun x r hk h=>(y1t x.1 x.2.1 hk).trans h)
def yyz:Code:=(f47.body).getD .skip
def yHn:Env:=zkw TT [(55,ybW),(122,yxO)] []
theorem yXS:FrOk prog ⟨yHn,29,fun _=>none⟩ yyz:=zkA mixed yf ⟨yes,yJU,trivial⟩
def yJG:Nat→Option Seg:=fun _=>none
def yeN:Shape:=⟨[(1,false,[.ptr 0 0]),(3,false,[ii]),(13,false,[ii]),(14,false,[ii])],[(0,oJ)],[]⟩
def ykk:Shape:=⟨[(1,false,[.ptr 0 0]),(3,false,[.ci .i64 0]),(13,false,[ii]),(14,false,[.ci .i64 0])],[(0,oJ)],[]⟩
def ykf:Shape:=⟨[(3,false,[ii])],[],[]⟩
def ypp:Shape:=⟨[],[],[]⟩
abbrev yvn (v0 v1 v2:Int) (v3:dA):(yeN).X:=((((),()),(v0,()),(v1,()),(v2,()),()),((v3.1,v3.2.1.1,v3.2.1.2,v3.2.2.1,v3.2.2.2.1,v3.2.2.2.2.1,v3.2.2.2.2.2.1,v3.2.2.2.2.2.2.1,v3.2.2.2.2.2.2.2.1,v3.2.2.2.2.2.2.2.2.1,v3.2.2.2.2.2.2.2.2.2.1,v3.2.2.2.2.2.2.2.2.2.2.1,v3.2.2.2.2.2.2.2.2.2.2.2,()),()),())
abbrev yVc (v0:Int) (v1:dA):(ykk).X:=((((),()),((),()),(v0,()),((),()),()),((v1.1,v1.2.1.1,v1.2.1.2,v1.2.2.1,v1.2.2.2.1,v1.2.2.2.2.1,v1.2.2.2.2.2.1,v1.2.2.2.2.2.2.1,v1.2.2.2.2.2.2.2.1,v1.2.2.2.2.2.2.2.2.1,v1.2.2.2.2.2.2.2.2.2.1,v1.2.2.2.2.2.2.2.2.2.2.1,v1.2.2.2.2.2.2.2.2.2.2.2,()),()),())
abbrev yU8 (v0:Int):(ykf).X:=(((v0,()),()),(),())
def yv0 (v0 v1 v2 v3 v4 v5:Int) (v6:List dM) (v7 v8 v9 v10 v11:Int) (v12:List dW) (v13:Int) (v14 v15:Bool):Option ((yeN).X ⊕ ((ykf).X ⊕ (ypp).X)) :=bif(ltb v2 v1)then let r3:=yhz (v3,(v4,v5),v6,v7,v8,v9,v10,v11,v12,v13,v14,v15) v2;bif(!r3.2)then some (.inl ((((),()),((i64.wrap (v0+1)),()),(v1,()),((i64.wrap (v2+1)),()),()),((v3,v4,v5,v6,v7,v8,v9,v10,v11,v12,v13,v14,v15,()),()),())) else some (.inl ((((),()),(v0,()),(v1,()),((i64.wrap (v2+1)),()),()),((v3,v4,v5,v6,v7,v8,v9,v10,v11,v12,v13,v14,v15,()),()),())) else some (.inr (.inl (((v0,()),()),(),())))
def ye0 (x:(yeN).X):=yv0 x.1.2.1.1 x.1.2.2.1.1 x.1.2.2.2.1.1 x.2.1.1.1 x.2.1.1.2.1 x.2.1.1.2.2.1 x.2.1.1.2.2.2.1 x.2.1.1.2.2.2.2.1 x.2.1.1.2.2.2.2.2.1 x.2.1.1.2.2.2.2.2.2.1 x.2.1.1.2.2.2.2.2.2.2.1 x.2.1.1.2.2.2.2.2.2.2.2.1 x.2.1.1.2.2.2.2.2.2.2.2.2.1 x.2.1.1.2.2.2.2.2.2.2.2.2.2.1 x.2.1.1.2.2.2.2.2.2.2.2.2.2.2.1 x.2.1.1.2.2.2.2.2.2.2.2.2.2.2.2.1
def yGB (x:(ykk).X):(yeN).X:=((((),()),(0,()),(x.1.2.2.1.1,()),(0,()),()),((x.2.1.1.1,x.2.1.1.2.1,x.2.1.1.2.2.1,x.2.1.1.2.2.2.1,x.2.1.1.2.2.2.2.1,x.2.1.1.2.2.2.2.2.1,x.2.1.1.2.2.2.2.2.2.1,x.2.1.1.2.2.2.2.2.2.2.1,x.2.1.1.2.2.2.2.2.2.2.2.1,x.2.1.1.2.2.2.2.2.2.2.2.2.1,x.2.1.1.2.2.2.2.2.2.2.2.2.2.1,x.2.1.1.2.2.2.2.2.2.2.2.2.2.2.1,x.2.1.1.2.2.2.2.2.2.2.2.2.2.2.2.1,()),()),())
def yH9:Code:=(zd7 yyz 64 244).getD .skip
theorem yXG:zd7 yyz 64 61=some (.block 0 (.loop yH9)):=by kernel_rfl
theorem yZu (x:(yeN).X):zhu ⟨yHn,29,yJG⟩ 0 yH9 244 yeN ykf ypp x=ye0 x:=by kernel_rfl
def yGH (x:(ykk).X):Nat:=18446744073709551616
def yxb (x:(ykk).X):Option ((ykf).X ⊕ (ypp).X):=zF ye0 (yGH x) (yGB x)
def yHh:Seg:=⟨ykk,ykf,ypp,yxb⟩
def y0J:Nat→Option Seg:=fun q=>bif Nat.beq q 61 then some yHh else yJG q
theorem yXT:FrOk prog ⟨yHn,29,y0J⟩ yyz:=(yXS).loop (sg:=yHh) yeN yGB (by decide) yXG ye0 yGH (by decide) (fun _=>rfl) (fun x r _ h=>h) yZu
abbrev yyD:List Par:= [.rd tA]
abbrev yHu:List OT:= [⟨false,tI,.fz⟩]
def yBh (a0:dA):Option (zaY yHu×zak yyD) :=let r1:=yU a0;bif(!r1)then some ((0,()),()) else zkt (yxb ((((),()),((),()),(a0.2.1.2,()),((),()),()),((a0.1,a0.2.1.1,a0.2.1.2,a0.2.2.1,a0.2.2.2.1,a0.2.2.2.2.1,a0.2.2.2.2.2.1,a0.2.2.2.2.2.2.1,a0.2.2.2.2.2.2.2.1,a0.2.2.2.2.2.2.2.2.1,a0.2.2.2.2.2.2.2.2.2.1,a0.2.2.2.2.2.2.2.2.2.2.1,a0.2.2.2.2.2.2.2.2.2.2.2,()),()),())) (fun y3 =>some ((y3.1.1.1,()),())) (fun y3 =>none)
theorem y1I:ConOk prog 47 ⟨yyD,yHu,fun x=>yBh x.1⟩:=zkI (yXT) func47 ntmps47.symm fun x=>by kernel_rfl
def yjA (a0:dA):Int:=y2z a0
theorem y2U (a0:dA) (hk:zjx yyD (a0,())):yBh a0=(fun n=>some ((n,()),())) (yjA a0):=by
 unfold yBh yjA y2z yU;cases ha:yM a0
 ·rfl
 have hg:=yj.1 (yen ha)
 have h1:yxb (yVc a0.2.1.2 a0)=some (.inl (yU8 ((ydx (fun(s:Nat)=>(ygL a0 s).2) a0.2.1.2.toNat:Nat):Int))) :=
  zkL (step:=ye0) (fun i=>yvn ((ydx (fun(s:Nat)=>(ygL a0 s).2) i:Nat):Int) a0.2.1.2 i a0) a0.2.1.2.toNat _ (fun i hi=>by
   have:=y5L (fun(s:Nat)=>(ygL a0 s).2) i;simp only[ye0,yvn,yv0,zky (show(i:Int)<a0.2.1.2 by omega),cond_true,wq ((i:Int)+1) (by omega) (by omega),Int.natCast_add,Int.natCast_one,Int.toNat_natCast,zkX,yhz,ylu,wq (((ydx (fun(s:Nat)=>(ygL a0 s).2) i:Nat):Int)+1) (by omega) (by omega)]
   cases(ygL a0 i).2<;>rfl) (by simp only[ye0,yvn,yv0,zk3 (show a0.2.1.2≤(a0.2.1.2.toNat:Int)by omega),cond_false]) _ (by show _<18446744073709551616; omega)
 rw[h1]; rfl
def yJK:Con:=⟨yyD,yHu,fun x=>(fun n=>some ((n,()),())) (yjA x.1)⟩
theorem y21:ConOk prog 47 yJK:=(y1I).mono (fun x r hk h=>(y2U x.1 hk).trans h)
def yyA:Code:=(f48.body).getD .skip
def yHo:Env:=zkw TT [(122,yxO)] []
theorem yXU:FrOk prog ⟨yHo,28,fun _=>none⟩ yyA:=zkA mixed yf ⟨yJU,trivial⟩
def yJH:Nat→Option Seg:=fun _=>none
def yeO:Shape:=⟨[(1,false,[.ptr 0 0]),(3,false,[ii])],[(0,oJ)],[]⟩
def ykl:Shape:=⟨[(1,false,[.ptr 0 0]),(3,false,[.ci .i64 0])],[(0,oJ)],[]⟩
def ykg:Shape:=⟨[],[],[]⟩
def ykq:Shape:=⟨[(2,false,[.bool])],[],[]⟩
abbrev yvo (v0:Int) (v1:dA):(yeO).X:=((((),()),(v0,()),()),((v1.1,v1.2.1.1,v1.2.1.2,v1.2.2.1,v1.2.2.2.1,v1.2.2.2.2.1,v1.2.2.2.2.2.1,v1.2.2.2.2.2.2.1,v1.2.2.2.2.2.2.2.1,v1.2.2.2.2.2.2.2.2.1,v1.2.2.2.2.2.2.2.2.2.1,v1.2.2.2.2.2.2.2.2.2.2.1,v1.2.2.2.2.2.2.2.2.2.2.2,()),()),())
abbrev yVd (v0:dA):(ykl).X:=((((),()),((),()),()),((v0.1,v0.2.1.1,v0.2.1.2,v0.2.2.1,v0.2.2.2.1,v0.2.2.2.2.1,v0.2.2.2.2.2.1,v0.2.2.2.2.2.2.1,v0.2.2.2.2.2.2.2.1,v0.2.2.2.2.2.2.2.2.1,v0.2.2.2.2.2.2.2.2.2.1,v0.2.2.2.2.2.2.2.2.2.2.1,v0.2.2.2.2.2.2.2.2.2.2.2,()),()),())
abbrev yU9  :(ykg).X:=((),(),())
abbrev yVh (v0:Bool):(ykq).X:=(((v0,()),()),(),())
def yv1 (v0 v1 v2 v3:Int) (v4:List dM) (v5 v6 v7 v8 v9:Int) (v10:List dW) (v11:Int) (v12 v13:Bool):Option ((yeO).X ⊕ ((ykg).X ⊕ (ykq).X)) :=bif(ltb v0 v3)then bif(ltb v0 20)then let r2:=yhz (v1,(v2,v3),v4,v5,v6,v7,v8,v9,v10,v11,v12,v13) v0;bif r2.2 then bif(r2.1 !=0)then some (.inr (.inr (((false,()),()),(),()))) else some (.inl ((((),()),((i64.wrap (v0+1)),()),()),((v1,v2,v3,v4,v5,v6,v7,v8,v9,v10,v11,v12,v13,()),()),())) else some (.inl ((((),()),((i64.wrap (v0+1)),()),()),((v1,v2,v3,v4,v5,v6,v7,v8,v9,v10,v11,v12,v13,()),()),())) else some (.inr (.inl ((),(),()))) else some (.inr (.inl ((),(),())))
def ye1 (x:(yeO).X):=yv1 x.1.2.1.1 x.2.1.1.1 x.2.1.1.2.1 x.2.1.1.2.2.1 x.2.1.1.2.2.2.1 x.2.1.1.2.2.2.2.1 x.2.1.1.2.2.2.2.2.1 x.2.1.1.2.2.2.2.2.2.1 x.2.1.1.2.2.2.2.2.2.2.1 x.2.1.1.2.2.2.2.2.2.2.2.1 x.2.1.1.2.2.2.2.2.2.2.2.2.1 x.2.1.1.2.2.2.2.2.2.2.2.2.2.1 x.2.1.1.2.2.2.2.2.2.2.2.2.2.2.1 x.2.1.1.2.2.2.2.2.2.2.2.2.2.2.2.1
def yGC (x:(ykl).X):(yeO).X:=((((),()),(0,()),()),((x.2.1.1.1,x.2.1.1.2.1,x.2.1.1.2.2.1,x.2.1.1.2.2.2.1,x.2.1.1.2.2.2.2.1,x.2.1.1.2.2.2.2.2.1,x.2.1.1.2.2.2.2.2.2.1,x.2.1.1.2.2.2.2.2.2.2.1,x.2.1.1.2.2.2.2.2.2.2.2.1,x.2.1.1.2.2.2.2.2.2.2.2.2.1,x.2.1.1.2.2.2.2.2.2.2.2.2.2.1,x.2.1.1.2.2.2.2.2.2.2.2.2.2.2.1,x.2.1.1.2.2.2.2.2.2.2.2.2.2.2.2.1,()),()),())
def yIa:Code:=(zd7 yyA 64 52).getD .skip
theorem yXH:zd7 yyA 64 13=some (.block 0 (.loop yIa)):=by kernel_rfl
theorem yZv (x:(yeO).X):zhu ⟨yHo,28,yJH⟩ 0 yIa 52 yeO ykg ykq x=ye1 x:=by kernel_rfl
def yGI (x:(ykl).X):Nat:=18446744073709551616
def yxc (x:(ykl).X):Option ((ykg).X ⊕ (ykq).X):=zF ye1 (yGI x) (yGC x)
def yHi:Seg:=⟨ykl,ykg,ykq,yxc⟩
def y0K:Nat→Option Seg:=fun q=>bif Nat.beq q 13 then some yHi else yJH q
theorem yXV:FrOk prog ⟨yHo,28,y0K⟩ yyA:=(yXU).loop (sg:=yHi) yeO yGC (by decide) yXH ye1 yGI (by decide) (fun _=>rfl) (fun x r _ h=>h) yZv
abbrev yyE:List Par:= [.rd tA]
abbrev yHv:List OT:= [⟨false,tB,.fz⟩]
def yBi (a0:dA):Option (zaY yHv×zak yyE) :=zkt (yxc ((((),()),((),()),()),((a0.1,a0.2.1.1,a0.2.1.2,a0.2.2.1,a0.2.2.2.1,a0.2.2.2.2.1,a0.2.2.2.2.2.1,a0.2.2.2.2.2.2.1,a0.2.2.2.2.2.2.2.1,a0.2.2.2.2.2.2.2.2.1,a0.2.2.2.2.2.2.2.2.2.1,a0.2.2.2.2.2.2.2.2.2.2.1,a0.2.2.2.2.2.2.2.2.2.2.2,()),()),())) (fun y2 =>some ((true,()),())) (fun y2 =>some ((y2.1.1.1,()),()))
theorem y1J:ConOk prog 48 ⟨yyE,yHv,fun x=>yBi x.1⟩:=zkI (yXV) func48 ntmps48.symm fun x=>by kernel_rfl
def yq2 (a0:dA):Bool:=y1X a0
theorem y2V (a0:dA) (hk:zjx yyE (a0,())):yBi a0=(fun n=>some ((n,()),())) (yq2 a0):=by
 have h1:yxc (yVd a0)=some (bif(List.range (min a0.2.1.2.toNat 20)).any (fun(s:Nat)=>(ygL a0 s).2&&(ygL a0 s).1 !=0)then .inr (yVh false)else .inl yU9) :=
  zji (step:=ye1) (fun i=>yvo i a0) (min a0.2.1.2.toNat 20) _ _ _ (fun i hi=>by
   simp only[ye1,yvo,yv1,zky (show(i:Int)<a0.2.1.2 by omega),cond_true,wq ((i:Int)+1) (by omega) (by omega),Int.natCast_add,Int.natCast_one,Int.toNat_natCast,zky (show(i:Int)<20 by omega),zkX,yhz]
   cases(ygL a0 i).2<;>cases((ygL a0 i).1 !=0)<;>rfl) (by
   simp only[ye1,yvo,yv1];by_cases h:a0.2.1.2≤((min a0.2.1.2.toNat 20:Nat):Int)
   ·rw[zk3 h]; rfl
   ·rw[zky (by omega),zk3 (show(20:Int)≤((min a0.2.1.2.toNat 20:Nat):Int)by omega)]; rfl) _ (by show _<18446744073709551616; omega)
 unfold yBi yq2 y1X;rw[h1,List.all_eq_not_any_not]; simp only[Bool.not_not];cases(List.range (min a0.2.1.2.toNat 20)).any (fun(s:Nat)=>(ygL a0 s).2&&(ygL a0 s).1 !=0)<;>rfl
def yJL:Con:=⟨yyE,yHv,fun x=>(fun n=>some ((n,()),())) (yq2 x.1)⟩
theorem y22:ConOk prog 48 yJL:=(y1J).mono (fun x r hk h=>(y2V x.1 hk).trans h)
def ymQ:Code:=(f49.body).getD .skip
def ytE:Env:=zkw TT [] []
theorem yLE:FrOk prog ⟨ytE,26,fun _=>none⟩ ymQ:=zkA mixed yf trivial
def yBt:Nat→Option Seg:=fun _=>none
def ydb:Shape:=⟨[(0,false,[.br tI]),(1,false,[.br tI]),(5,false,[ii])],[],[]⟩
def yiJ:Shape:=⟨[(0,false,[.br tI]),(1,false,[.br tI]),(5,false,[.ci .i64 0])],[],[]⟩
def yiu:Shape:=⟨[],[],[]⟩
def yi2:Shape:=⟨[(4,false,[.bool])],[],[]⟩
def ymJ (v0 v1:List Int) (v2:Int):Option ((ydb).X ⊕ ((yiu).X ⊕ (yi2).X)) :=bif(ltb v2 (v0.length:Int))then bif(inb v2 v0.length)then bif(inb v2 v1.length)then bif((nth v0 v2 0) !=(nth v1 v2 0))then some (.inr (.inr (((false,()),()),(),()))) else some (.inl (((v0,()),(v1,()),((i64.wrap (v2+1)),()),()),(),())) else none else none else some (.inr (.inl ((),(),())))
def yb5 (x:(ydb).X):=ymJ x.1.1.1 x.1.2.1.1 x.1.2.2.1.1
def ywm (x:(yiJ).X):(ydb).X:=(((x.1.1.1,()),(x.1.2.1.1,()),(0,()),()),(),())
def yyX:Code:=(zd7 ymQ 64 116).getD .skip
theorem yK6:zd7 ymQ 64 29=some (.block 0 (.loop yyX)):=by kernel_rfl
theorem yMR (x:(ydb).X):zhu ⟨ytE,26,yBt⟩ 0 yyX 116 ydb yiu yi2 x=yb5 x:=by kernel_rfl
def ywx (x:(yiJ).X):Nat:=18446744073709551616
def ynN (x:(yiJ).X):Option ((yiu).X ⊕ (yi2).X):=zF yb5 (ywx x) (ywm x)
def ywR:Seg:=⟨yiJ,yiu,yi2,ynN⟩
def yNs:Nat→Option Seg:=fun q=>bif Nat.beq q 29 then some ywR else yBt q
theorem yLF:FrOk prog ⟨ytE,26,yNs⟩ ymQ:=(yLE).loop (sg:=ywR) ydb ywm (by decide) yK6 yb5 ywx (by decide) (fun _=>rfl) (fun x r _ h=>h) yMR
abbrev ym6:List Par:= [.rd tL,.rd tL]
abbrev yuu:List OT:= [⟨false,tB,.fz⟩]
def yqz (a0 a1:List Int):Option (zaY yuu×zak ym6) :=bif((a0.length:Int) !=(a1.length:Int))then some ((false,()),()) else zkt (ynN (((a0,()),(a1,()),((),()),()),(),())) (fun y0 =>some ((true,()),())) (fun y0 =>some ((y0.1.1.1,()),()))
theorem yO6:ConOk prog 49 ⟨ym6,yuu,fun x=>yqz x.1 x.2.1⟩:=zkI (yLF) func49 ntmps49.symm fun x=>by kernel_rfl
def yco (a0 a1:List Int):Bool:=decide (a0=a1)
theorem yR7 (a0 a1:List Int) (hk:zjx ym6 (a0,a1,())):yqz a0 a1=(fun n=>some ((n,()),())) (yco a0 a1):=by
 have hb:a0.length*8≤2^47:=hk.1.1
 have hl:a0.length=a1.length→ynN (((a0,()),(a1,()),((),()),()),(),())=some (bif(List.range a0.length).any (fun i=>a0.getD i 0 !=a1.getD i 0)then .inr (((false,()),()),(),())else .inl ((),(),())):=fun hL =>
  zji (step:=yb5) (fun i=>(((a0,()),(a1,()),((i:Int),()),()),(),())) a0.length (fun i=>a0.getD i 0 !=a1.getD i 0) _ _ (fun i hi=>by
   simp only[yb5,ymJ,zkR hi,zkR (hL ▸ hi),zkS,zky (show(i:Int)<a0.length by omega),cond_true,wq ((i:Int)+1) (by omega) (by omega),Int.natCast_add,Int.natCast_one]
   cases(a0.getD i 0 !=a1.getD i 0)<;>rfl) (by simp only[yb5,ymJ,zk3 (Int.le_refl _),cond_false]) _ (by show _<18446744073709551616; omega)
 unfold yqz yco;by_cases h:a0.length=a1.length
 ·rw[show((a0.length:Int) !=(a1.length:Int))=false by simp[h],zkZ,hl h]
  by_cases e:a0=a1
  ·subst e
   have:(List.range a0.length).any (fun i=>a0.getD i 0 !=a0.getD i 0)=false:=by simp
   rw[this,decide_eq_true rfl];rfl
  ·have:(List.range a0.length).any (fun i=>a0.getD i 0 !=a1.getD i 0)=true:=by
    rcases Bool.eq_false_or_eq_true ((List.range a0.length).any (fun i=>a0.getD i 0 !=a1.getD i 0))with h2 | h2
    ·exact h2
    ·refine absurd (List.ext_getElem h fun i h3 h4=> ?_) e
     rw[List.any_eq_false]at h2;have:=h2 i (List.mem_range.2 h3);simpa [h3,h4]using this
   rw[this,decide_eq_false e];rfl
 ·rw[show((a0.length:Int) !=(a1.length:Int))=true from bne_iff_ne.2 (by omega),zk0,decide_eq_false (fun e=>h (congrArg _ e))]
theorem yBl (a:List Int):yco a a=true:=by unfold yco; simp
def yBV:Con:=⟨ym6,yuu,fun x=>(fun n=>some ((n,()),())) (yco x.1 x.2.1)⟩
theorem ySQ:ConOk prog 49 yBV:=(yO6).mono (fun x r hk h=>(yR7 x.1 x.2.1 hk).trans h)
def yo6:Code:=(f79.body).getD .skip
def yxa:Env:=zkw TT [(72,yaP),(80,ypt)] []
theorem yOq:FrOk prog ⟨yxa,19,fun _=>none⟩ yo6:=zkA mixed yf ⟨ybw,yBc,trivial⟩
def yDh:Nat→Option Seg:=fun _=>none
def ycl:Shape:=⟨[(0,false,[.ptr 1000000000 0]),(3,false,[.at 800000000]),(4,false,[ii])],[(1000000000,oU)],[(800000000,tI,.fz)]⟩
def ygu:Shape:=⟨[(0,false,[.ptr 1000000000 0]),(3,false,[.at 800000000]),(4,false,[.ci .i64 0])],[(1000000000,oU)],[(800000000,tI,.fz)]⟩
def ygi:Shape:=⟨[(3,false,[.at 800000000])],[(1000000000,oU)],[(800000000,tI,.fz)]⟩
def yjT:Shape:=⟨[],[],[]⟩
abbrev yop (v0:Int) (v1:dU) (v2:List Int):(ycl).X:=((((),()),((),()),(v0,()),()),((v1.1,v1.2.1,v1.2.2,()),()),(v2,()))
abbrev yMl (v0:dU) (v1:List Int):(ygu).X:=((((),()),((),()),((),()),()),((v0.1,v0.2.1,v0.2.2,()),()),(v1,()))
abbrev yL9 (v0:dU) (v1:List Int):(ygi).X:=((((),()),()),((v0.1,v0.2.1,v0.2.2,()),()),(v1,()))
def yoT (v0:Int) (v1:List Int) (v2 v3:Int) (v4:List Int):Option ((ycl).X ⊕ ((ygi).X ⊕ (yjT).X)) :=bif(ltb v0 5)then bnd (yl (v1,v2,v3) 4096) fun r3 =>bnd (yeZ r3.2.1 ([0,1,2,3,5,7,1048575,r3.1.1]:List Int)) fun r4 =>bif(zkl v4.length ([r4.1.1]:List Int).length 8)then some (.inl ((((),()),((),()),((i64.wrap (v0+1)),()),()),((r4.2.1.1,r4.2.1.2.1,r4.2.1.2.2,()),()),((v4++([r4.1.1]:List Int)),()))) else none else some (.inr (.inl ((((),()),()),((v1,v2,v3,()),()),(v4,()))))
def ycH (x:(ycl).X):=yoT x.1.2.2.1.1 x.2.1.1.1 x.2.1.1.2.1 x.2.1.1.2.2.1 x.2.2.1
def yzj (x:(ygu).X):(ycl).X:=((((),()),((),()),(0,()),()),((x.2.1.1.1,x.2.1.1.2.1,x.2.1.1.2.2.1,()),()),(x.2.2.1,()))
def yBL:Code:=(zd7 yo6 64 116).getD .skip
theorem yNN:zd7 yo6 64 29=some (.block 0 (.loop yBL)):=by kernel_rfl
theorem yPA (x:(ycl).X):zhu ⟨yxa,19,yDh⟩ 0 yBL 116 ycl ygi yjT x=ycH x:=by kernel_rfl
def yzy (x:(ygu).X):Nat:=18446744073709551616
def yp0 (x:(ygu).X):Option ((ygi).X ⊕ (yjT).X):=zF ycH (yzy x) (yzj x)
def yzY:Seg:=⟨ygu,ygi,yjT,yp0⟩
def yP6:Nat→Option Seg:=fun q=>bif Nat.beq q 29 then some yzY else yDh q
theorem yOr:FrOk prog ⟨yxa,19,yP6⟩ yo6:=(yOq).loop (sg:=yzY) ycl yzj (by decide) yNN ycH yzy (by decide) (fun _=>rfl) (fun x r _ h=>h) yPA
abbrev yxn:List Par:= [.pt tU .fz]
abbrev yxG:List OT:= [⟨false,tL,oG⟩]
def yhK (a0:dU):Option (zaY yxG×zak yxn) :=zkt (yp0 ((((),()),((),()),((),()),()),((a0.1,a0.2.1,a0.2.2,()),()),(([]:List Int),()))) (fun y4 =>some ((y4.2.2.1,()),((y4.2.1.1.1,y4.2.1.1.2.1,y4.2.1.1.2.2.1),()))) (fun y4 =>none)
theorem ySG:ConOk prog 79 ⟨yxn,yxG,fun x=>yhK x.1⟩:=zkI (yOr) func79 ntmps79.symm fun x=>by kernel_rfl
def yEr:Con:=⟨yxn,yxG,fun x=>yhK x.1⟩
theorem yWB:ConOk prog 79 yEr:=ySG
theorem yPC: ∀(n:Nat) (u:dU) (l:List Int) (fuel:Nat),n≤5→n<fuel→ybV u→n+l.length≤1000 →
  ∃(u':dU) (l':List Int),zF ycH fuel (yop (5-(n:Int)) u l)=some (.inl (yL9 u' l'))∧ybV u'∧l'.length=n+l.length
 | 0,u,l,fuel+1,_,_,hu,_=>⟨u,l,by simp only[zF,ycH,yop,yoT]; rfl,hu,by omega⟩
 | n+1,u,l,fuel+1,hn,hf,hu,hl=>by
  obtain⟨x,u1,e1,_,d1⟩:=yaV u 4096 hu;obtain⟨y,u2,e2,_,d2⟩:=y2D u1 [0,1,2,3,5,7,1048575,x] d1 (by simp);obtain⟨u',l',e3,d3,h3⟩:=yPC n u2 (l++ [y]) fuel (by omega) (by omega) d2 (by rw[List.length_append]; simp only[List.length_cons,List.length_nil]; omega);refine⟨u',l',?_,d3,by rw[h3,List.length_append]; simp only[List.length_cons,List.length_nil]; omega⟩;rw[← e3,zF]
  simp only[ycH,yop,yoT,zky (show(5-((n+1:Nat):Int))<5 by omega),cond_true,zkX,e1,e2,zkH,wq ((5-((n+1:Nat):Int))+1) (by omega) (by omega),show(5-((n+1:Nat):Int))+1=5-(n:Int)by omega,wq (5-(n:Int)) (by omega) (by omega),
   zkF.2 (show(l.length+ [y].length)*8≤140737488355328 by simp only[List.length_cons,List.length_nil]; omega)]
theorem y4i (u:dU) (h:ybV u): ∃(l:List Int) (u':dU),yhK u=some ((l,()),(u',()))∧l.length=5∧ybV u':=by
 obtain⟨u',l',e,d,hl⟩:=yPC 5 u [] 18446744073709551616 (by omega) (by omega) h (by simp);unfold yhK;refine⟨l',u',?_,by rw[hl]; rfl,d⟩;exact(congrArg (fun z=>zkt z _ _) (show yp0 (yMl u [])=_ from e)).trans rfl
def y0C:Code:=(f83.body).getD .skip
def y1a:Env:=zkw TT [(72,yaP)] []
theorem yQX:FrOk prog ⟨y1a,9,fun _=>none⟩ y0C:=zkA mixed yf ⟨ybw,trivial⟩
abbrev yAn:List Par:= [.pt tU .fz,.rd tI]
abbrev yAT:List OT:= [⟨false,tB,.fz⟩]
def ycq (a0:dU) (a1:Int):Option (zaY yAT×zak yAn) :=bnd (yl a0 a1) fun r1 =>some (((r1.1.1==0),()),(r1.2.1,()))
theorem yWa:ConOk prog 83 ⟨yAn,yAT,fun x=>ycq x.1 x.2.1⟩:=zkI (yQX) func83 ntmps83.symm fun x=>by kernel_rfl
def yGt:Con:=⟨yAn,yAT,fun x=>ycq x.1 x.2.1⟩
theorem yZi:ConOk prog 83 yGt:=yWa
theorem y3I (u:dU) (n:Int) (h:ybV u): ∃(r:Bool) (u':dU),ycq u n=some ((r,()),(u',()))∧ybV u':=by
 unfold ycq;obtain⟨r,u1,e1,_,d1⟩:=yaV u n h;simp only[e1,zkH];exact⟨_,_,rfl,d1⟩
def ymT:Code:=(f112.body).getD .skip
def ytH:Env:=zkw TT [(76,yja),(82,yP),(160,ygN),(161,yxR)] []
theorem yLN:FrOk prog ⟨ytH,68,fun _=>none⟩ ymT:=zkA mixed yf ⟨ypG,yaa,yme,yJX,trivial⟩
def yBw:Nat→Option Seg:=fun _=>none
def ybn:Shape:=⟨[(1,false,[ii]),(4,false,[.ptr 64 0]),(5,false,[.ptr 4224 0]),(6,false,[ii])],[(64,oO),(4224,oN)],[(800000000,tL,.fz),(800000001,tW,oF),(800000002,tI,.fz)]⟩
def yeH:Shape:=⟨[(1,false,[ii]),(4,false,[.ptr 64 0]),(5,false,[.ptr 4224 0]),(6,false,[ii])],[(64,oO),(4224,oN)],[(800000000,tL,.fz),(800000001,tW,oF),(800000002,tI,.fz)]⟩
def yeB:Shape:=⟨[(1,false,[ii]),(4,false,[.ptr 64 0]),(5,false,[.ptr 4224 0]),(6,false,[ii])],[(64,oO),(4224,oN)],[(800000000,tL,.fz),(800000001,tW,oF),(800000002,tI,.fz)]⟩
def yhP:Shape:=⟨[],[],[]⟩
abbrev ylz (v0 v1:Int) (v2 v3:dM):(ybn).X:=(((v0,()),((),()),((),()),(v1,()),()),(((),(),v2.2.2.1,(),()),((),(),v3.2.2.1,(),()),()),(v3.1,v3.2.1,v3.2.2.2,()))
abbrev yJn (v0 v1:Int) (v2 v3:dM):(yeH).X:=(((v0,()),((),()),((),()),(v1,()),()),(((),(),v2.2.2.1,(),()),((),(),v3.2.2.1,(),()),()),(v3.1,v3.2.1,v3.2.2.2,()))
abbrev yJh (v0 v1:Int) (v2 v3:dM):(yeB).X:=(((v0,()),((),()),((),()),(v1,()),()),(((),(),v2.2.2.1,(),()),((),(),v3.2.2.1,(),()),()),(v3.1,v3.2.1,v3.2.2.2,()))
def ylN (v0 v1:Int) (v2 v3:Bool) (v4:List (List Int)) (v5:List dW) (v6:List Int):Option ((ybn).X ⊕ ((yeB).X ⊕ (yhP).X)) :=bif(ltb 0 v1)then bif(inb (i64.wrap (v1-1)) v6.length)then bif(ltb v0 (nth v6 (i64.wrap (v1-1)) 0))then bif(inb (i64.wrap (v1-1)) v6.length)then bif(inb v1 v6.length)then some (.inl (((v0,()),((),()),((),()),((i64.wrap (v1-1)),()),()),(((),(),v2,(),()),((),(),v3,(),()),()),(v4,v5,(v6.set (v1).toNat (nth v6 (i64.wrap (v1-1)) 0)),()))) else none else none else some (.inr (.inl (((v0,()),((),()),((),()),(v1,()),()),(((),(),v2,(),()),((),(),v3,(),()),()),(v4,v5,v6,())))) else none else some (.inr (.inl (((v0,()),((),()),((),()),(v1,()),()),(((),(),v2,(),()),((),(),v3,(),()),()),(v4,v5,v6,()))))
def ybC (x:(ybn).X):=ylN x.1.1.1 x.1.2.2.2.1.1 x.2.1.1.2.2.1 x.2.1.2.1.2.2.1 x.2.2.1 x.2.2.2.1 x.2.2.2.2.1
def yu7 (x:(yeH).X):(ybn).X:=(((x.1.1.1,()),((),()),((),()),(x.1.2.2.2.1.1,()),()),(((),(),x.2.1.1.2.2.1,(),()),((),(),x.2.1.2.1.2.2.1,(),()),()),(x.2.2.1,x.2.2.2.1,x.2.2.2.2.1,()))
def ywa:Code:=(zd7 ymT 64 504).getD .skip
theorem yKc:zd7 ymT 64 126=some (.block 0 (.loop ywa)):=by kernel_rfl
theorem yKR (x:(ybn).X):zhu ⟨ytH,68,yBw⟩ 0 ywa 504 ybn yeB yhP x=ybC x:=by kernel_rfl
def yvg (x:(yeH).X):Nat:=18446744073709551616
def ymp (x:(yeH).X):Option ((yeB).X ⊕ (yhP).X):=zF ybC (yvg x) (yu7 x)
def yvY:Seg:=⟨yeH,yeB,yhP,ymp⟩
def yNv:Nat→Option Seg:=fun q=>bif Nat.beq q 126 then some yvY else yBw q
theorem yLO:FrOk prog ⟨ytH,68,yNv⟩ ymT:=(yLN).loop (sg:=yvY) ybn yu7 (by decide) yKc ybC yvg (by decide) (fun _=>rfl) (fun x r _ h=>h) yKR
abbrev ym9:List Par:= [.rd tM,.rd tI]
abbrev yuA:List OT:= [⟨false,tM,oC⟩]
def yqC (a0:dM) (a1:Int):Option (zaY yuA×zak ym9) :=let r1:=yaS a0;let r2:=yaX a0;bif(!(!r2))then let r3:=yb a1 0 (i64.wrap ((a0.1.length:Int)-1));bif(!(!r3))then let r4:=yhC a0.2.2.2 a1;bif r4 then some ((r1,()),()) else bif(zkl r1.2.2.2.length ([a1]:List Int).length 8)then zkt (ymp (((a1,()),((),()),((),()),((i64.wrap (((r1.2.2.2++([a1]:List Int)).length:Int)-1)),()),()),(((),(),false,(),()),((),(),r1.2.2.1,(),()),()),(r1.1,r1.2.1,(r1.2.2.2++([a1]:List Int)),()))) (fun y4 =>bif(inb y4.1.2.2.2.1.1 y4.2.2.2.2.1.length)then some (((y4.2.2.1,y4.2.2.2.1,y4.2.1.2.1.2.2.1,(y4.2.2.2.2.1.set (y4.1.2.2.2.1.1).toNat y4.1.1.1)),()),()) else none) (fun y4 =>none) else none else some ((r1,()),()) else some ((r1,()),())
theorem yPc:ConOk prog 112 ⟨ym9,yuA,fun x=>yqC x.1 x.2.1⟩:=zkI (yLO) func112 ntmps112.symm fun x=>by kernel_rfl
def yny (a0:dM) (a1:Int):dM:=spoil a0 a1
theorem yWZ (n:Int) (m:dM) (p:List Int) (hp: ∀x∈p,x<n): ∀(j:Nat) (q1 q2:List Int) (x:Int) (fuel:Nat),q1.length=j→j<fuel→(∀y∈q1,n<y)→p.length+q1.length≤1000 →
  ∃(x':Int) (q':List Int),q1++q2=q'∧zF ybC fuel (ylz n ((p.length+q1.length:Nat):Int) yc (m.1,m.2.1,m.2.2.1,(p++q1)++x::q2))=some (.inl (yJh n (p.length:Nat) yc (m.1,m.2.1,m.2.2.1,p++x'::q')))
 | 0,q1,q2,x,fuel+1,hj,hf,hq,hb=>by
  have:q1= []:=List.length_eq_zero_iff.1 hj;subst this;refine⟨x,q2,rfl,?_⟩;simp only[zF,ybC,ylz,ylN,List.length_nil,Nat.add_zero,List.append_nil];rcases List.eq_nil_or_concat p with rfl | ⟨P,y,rfl⟩
  ·rfl
  ·have hy:=hp y (by simp)
   simp only[List.concat_eq_append,List.length_append,List.length_cons,List.length_nil,List.append_assoc,List.cons_append,List.nil_append]at hb ⊢
   rw[zky (show(0:Int)<((P.length+(0+1):Nat):Int)by omega),wq (((P.length+(0+1):Nat):Int)-1) (by omega) (by omega),show((P.length+(0+1):Nat):Int)-1=(P.length:Nat)by omega,
    zkR (by simp),zkS,y3X,zk3 (show y≤n by omega)]
   rfl
 | j+1,q1,q2,x,fuel+1,hj,hf,hq,hb=>by
  rcases List.eq_nil_or_concat q1 with rfl | ⟨Q,y,rfl⟩
  ·cases hj
  ·rw[List.concat_eq_append]at hj hq hb ⊢
   have hQ:Q.length=j:=by simpa using hj
   have hy:=hq y (by simp);obtain⟨x',q',e1,e2⟩:=yWZ n m p hp j Q (y::q2) y fuel hQ (by omega) (fun z hz=>hq z (by simp[hz])) (by simp at hb; omega);refine⟨x',q',by rw[← e1]; simp,?_⟩;rw[← e2];have ea:((p++(Q++ [y]))++x::q2)=(p++Q)++y::x::q2:=by simp
   have el:p.length+(Q++ [y]).length=(p++Q).length+1:=by simp; omega
   have el2:p.length+Q.length=(p++Q).length:=by simp
   have hb2:(p++Q).length≤1000:=by simp at hb ⊢; omega
   rw[ea,el,el2];generalize p++Q=A at hb2;rw[zF];simp only[ybC,ylz,ylN]
   have es:(A++y::x::q2).set (A.length+1) y=A++y::y::q2:=by
    have:=y32 (A++ [y]) x y q2;simp at this ⊢
   rw[zky (show(0:Int)<((A.length+1:Nat):Int)by omega),wq (((A.length+1:Nat):Int)-1) (by omega) (by omega),show((A.length+1:Nat):Int)-1=(A.length:Nat)by omega,zkR (show A.length<(A++y::x::q2).length by simp),zkS,y3X,zky hy,
    zkR (show A.length+1<(A++y::x::q2).length by simp),Int.toNat_natCast,es]
   rfl
theorem ySb (a0:dM) (a1:Int) (hk:zjx ym9 (a0,a1,())):yqC a0 a1=(fun n=>some ((n,()),())) (yny a0 a1):=by
 unfold yqC yny spoil;simp only[yaS,yaX,ybX,yhC];cases hm:yx a0
 ·rfl
 obtain⟨h1,h2,h3,h4,h5,h6⟩:=ycM hm;rw[ys1]at h3;have hlen:=yXL h3.2 (lo:=0) (n:=a0.1.length) h3.1 (by omega);rw[wq ((a0.1.length:Int)-1) (by omega) (by omega)]
 have hi:(leb 0 a1&&leb a1 ((a0.1.length:Int)-1))=inb a1 a0.1.length:=by
  rw[Bool.eq_iff_iff,Bool.and_eq_true,zj7,zj7,zj6]; omega
 rw[hi];cases hin:inb a1 a0.1.length
 ·rfl
 cases hh:a0.2.2.2.any (· ==a1)
 ·have hn:a1∉a0.2.2.2:=fun h=>by
   have:=List.any_eq_false.1 hh a1 h;simp at this
  have hsp:=y3b h3.2 hn;have hp: ∀x∈a0.2.2.2.filter (fun x=>ltb x a1),x<a1:=fun x hx=>zka.1 (List.mem_filter.1 hx).2
  have hq: ∀x∈a0.2.2.2.filter (fun x=>ltb a1 x),a1<x:=fun x hx=>zka.1 (List.mem_filter.1 hx).2
  unfold yvk;generalize a0.2.2.2.filter (fun x=>ltb x a1)=P at hsp hp;generalize a0.2.2.2.filter (fun x=>ltb a1 x)=Q at hsp hq;have hPQ:P.length+Q.length=a0.2.2.2.length:=by rw[hsp,List.length_append]
  obtain⟨x',q',e1,e2⟩:=yWZ a1 a0 P hp Q.length Q [] a1 18446744073709551616 rfl (by omega) hq (by omega);rw[List.append_nil]at e1;subst e1;simp only[cond_true,cond_false,Bool.not_true,Bool.not_false,Bool.and_self]
  rw[zkF.2 (show(a0.2.2.2.length+ [a1].length)*8≤140737488355328 by simp only[List.length_cons,List.length_nil]; omega),wr (show -9223372036854775808≤((a0.2.2.2++ [a1]).length:Int)-1 by omega) (by simp only[List.length_append,List.length_cons,List.length_nil]; omega),
   show((a0.2.2.2++ [a1]).length:Int)-1=((P.length+Q.length:Nat):Int)by simp only[List.length_append,List.length_cons,List.length_nil]; omega,hsp,cond_true]
  refine(congrArg (fun z=>zkt z _ _) (show ymp (yJn a1 ((P.length+Q.length:Nat):Int) yc (a0.1,a0.2.1,a0.2.2.1,(P++Q)++ [a1]))=_ from e2)).trans ?_;simp only[zkN];show(bif inb (P.length:Int) (P++x'::Q).length then some (((a0.1,a0.2.1,a0.2.2.1,(P++x'::Q).set (P.length:Int).toNat a1),()),())else none)=_;rw[zkR (by simp),Int.toNat_natCast,y32]; rfl
 ·rfl
def yBZ:Con:=⟨ym9,yuA,fun x=>(fun n=>some ((n,()),())) (yny x.1 x.2.1)⟩
theorem ySU:ConOk prog 112 yBZ:=(yPc).mono (fun x r hk h=>(ySb x.1 x.2.1 hk).trans h)
end
end Go.Tf
