/- Functions of the program, and what they come to. -/
import Derived.Test.YtolmneojjjpnjaaGreatBuiltTornF2
namespace Go.Tf
noncomputable section
open Go.Proofs Go.Proofs.Tryz IntKind
set_option synthInstance.maxHeartbeats 400000
set_option synthInstance.maxSize 10000
set_option linter.unusedVariables false
set_option linter.unusedSimpArgs false
set_option maxRecDepth 100000
def y0F:Code:=(f178.body).getD .skip
def y1d:Env:=zkw TT [] []
theorem yQ9:FrOk prog ⟨y1d,6,fun _=>none⟩ y0F:=zkA mixed yf trivial
abbrev yAr:List Par:= [.rd tG]
abbrev yAY:List OT:= [⟨false,tI,.fz⟩]
def yHf (a0:dG):Option (zaY yAY×zak yAr) :=some (((i64.wrap (6+a0.2)),()),())
theorem yWh:ConOk prog 178 ⟨yAr,yAY,fun x=>yHf x.1⟩:=zkI (yQ9) func178 ntmps178.symm fun x=>by kernel_rfl
def ycU (a0:dG):Int :=(i64.wrap (6+a0.2))
def ynu:Con:=⟨yAr,yAY,fun x=>(fun n=>some ((n,()),())) (ycU x.1)⟩
theorem yYB (a0:dG):yHf a0=(fun n=>some ((n,()),())) (ycU a0):=zkV (p:=fun(n:Int)=>((n,()),())) rfl
theorem yx2:ConOk prog 178 ynu:=(yWh).mono (fun x r _ h=>(yYB x.1).trans h)
def yrc:Code:=(f151.body).getD .skip
def yz5:Env:=zkw TT [(160,ygN),(178,ynu)] []
theorem yQ7:FrOk prog ⟨yz5,51,fun _=>none⟩ yrc:=zkA mixed yf ⟨yme,yx2,trivial⟩
def yFW:Nat→Option Seg:=fun _=>none
def yc5:Shape:=⟨[(1,false,[.ptr 0 0]),(3,false,[ii])],[(0,oJ)],[]⟩
def yhm:Shape:=⟨[(1,false,[.ptr 0 0]),(3,false,[.ci .i64 0])],[(0,oJ)],[]⟩
def yhb:Shape:=⟨[(1,false,[.ptr 0 0])],[(0,oJ)],[]⟩
def yhr:Shape:=⟨[(2,false,[.bool])],[],[]⟩
abbrev yqj (v0:Int) (v1:dA):(yc5).X:=((((),()),(v0,()),()),((v1.1,v1.2.1.1,v1.2.1.2,v1.2.2.1,v1.2.2.2.1,v1.2.2.2.2.1,v1.2.2.2.2.2.1,v1.2.2.2.2.2.2.1,v1.2.2.2.2.2.2.2.1,v1.2.2.2.2.2.2.2.2.1,v1.2.2.2.2.2.2.2.2.2.1,v1.2.2.2.2.2.2.2.2.2.2.1,v1.2.2.2.2.2.2.2.2.2.2.2,()),()),())
abbrev yOG (v0:dA):(yhm).X:=((((),()),((),()),()),((v0.1,v0.2.1.1,v0.2.1.2,v0.2.2.1,v0.2.2.2.1,v0.2.2.2.2.1,v0.2.2.2.2.2.1,v0.2.2.2.2.2.2.1,v0.2.2.2.2.2.2.2.1,v0.2.2.2.2.2.2.2.2.1,v0.2.2.2.2.2.2.2.2.2.1,v0.2.2.2.2.2.2.2.2.2.2.1,v0.2.2.2.2.2.2.2.2.2.2.2,()),()),())
abbrev yOx (v0:dA):(yhb).X:=((((),()),()),((v0.1,v0.2.1.1,v0.2.1.2,v0.2.2.1,v0.2.2.2.1,v0.2.2.2.2.1,v0.2.2.2.2.2.1,v0.2.2.2.2.2.2.1,v0.2.2.2.2.2.2.2.1,v0.2.2.2.2.2.2.2.2.1,v0.2.2.2.2.2.2.2.2.2.1,v0.2.2.2.2.2.2.2.2.2.2.1,v0.2.2.2.2.2.2.2.2.2.2.2,()),()),())
abbrev yOK (v0:Bool):(yhr).X:=(((v0,()),()),(),())
def yqQ (v0 v1 v2 v3:Int) (v4:List dM) (v5 v6 v7 v8 v9:Int) (v10:List dW) (v11:Int) (v12 v13:Bool):Option ((yc5).X ⊕ ((yhb).X ⊕ (yhr).X)) :=bif(ltb v0 (v4.length:Int))then bif(inb v0 v4.length)then let r3:=yaX ((nth v4 v0 ([],[],false,[])).1,((nth v4 v0 ([],[],false,[])).2).1,(((nth v4 v0 ([],[],false,[])).2).2));bif(!(!r3))then let r4:=ycU (v2,v3);bif(!((((nth v4 v0 ([],[],false,[])).1).length:Int) !=r4))then bif(((nth v4 v0 ([],[],false,[])).2).2).1 then bif(v0 !=v5)then bif(!v13)then some (.inr (.inr (((false,()),()),(),()))) else some (.inl ((((),()),((i64.wrap (v0+1)),()),()),((v1,v2,v3,v4,v5,v6,v7,v8,v9,v10,v11,v12,v13,()),()),())) else some (.inl ((((),()),((i64.wrap (v0+1)),()),()),((v1,v2,v3,v4,v5,v6,v7,v8,v9,v10,v11,v12,v13,()),()),())) else some (.inl ((((),()),((i64.wrap (v0+1)),()),()),((v1,v2,v3,v4,v5,v6,v7,v8,v9,v10,v11,v12,v13,()),()),())) else some (.inr (.inr (((false,()),()),(),()))) else some (.inr (.inr (((false,()),()),(),()))) else none else some (.inr (.inl ((((),()),()),((v1,v2,v3,v4,v5,v6,v7,v8,v9,v10,v11,v12,v13,()),()),())))
def ydt (x:(yc5).X):=yqQ x.1.2.1.1 x.2.1.1.1 x.2.1.1.2.1 x.2.1.1.2.2.1 x.2.1.1.2.2.2.1 x.2.1.1.2.2.2.2.1 x.2.1.1.2.2.2.2.2.1 x.2.1.1.2.2.2.2.2.2.1 x.2.1.1.2.2.2.2.2.2.2.1 x.2.1.1.2.2.2.2.2.2.2.2.1 x.2.1.1.2.2.2.2.2.2.2.2.2.1 x.2.1.1.2.2.2.2.2.2.2.2.2.2.1 x.2.1.1.2.2.2.2.2.2.2.2.2.2.2.1 x.2.1.1.2.2.2.2.2.2.2.2.2.2.2.2.1
def yCe (x:(yhm).X):(yc5).X:=((((),()),(0,()),()),((x.2.1.1.1,x.2.1.1.2.1,x.2.1.1.2.2.1,x.2.1.1.2.2.2.1,x.2.1.1.2.2.2.2.1,x.2.1.1.2.2.2.2.2.1,x.2.1.1.2.2.2.2.2.2.1,x.2.1.1.2.2.2.2.2.2.2.1,x.2.1.1.2.2.2.2.2.2.2.2.1,x.2.1.1.2.2.2.2.2.2.2.2.2.1,x.2.1.1.2.2.2.2.2.2.2.2.2.2.1,x.2.1.1.2.2.2.2.2.2.2.2.2.2.2.1,x.2.1.1.2.2.2.2.2.2.2.2.2.2.2.2.1,()),()),())
def yEb:Code:=(zd7 yrc 64 52).getD .skip
theorem yQk:zd7 yrc 64 13=some (.block 0 (.loop yEb)):=by kernel_rfl
theorem yTc (x:(yc5).X):zhu ⟨yz5,51,yFW⟩ 0 yEb 52 yc5 yhb yhr x=ydt x:=by kernel_rfl
def yCp (x:(yhm).X):Nat:=18446744073709551616
def yrU (x:(yhm).X):Option ((yhb).X ⊕ (yhr).X):=zF ydt (yCp x) (yCe x)
def yCM:Seg:=⟨yhm,yhb,yhr,yrU⟩
def yTG:Nat→Option Seg:=fun q=>bif Nat.beq q 13 then some yCM else yFW q
theorem yQ8:FrOk prog ⟨yz5,51,yTG⟩ yrc:=(yQ7).loop (sg:=yCM) yc5 yCe (by decide) yQk ydt yCp (by decide) (fun _=>rfl) (fun x r _ h=>h) yTc
abbrev ylU:List Par:= [.rd tA]
abbrev yry:List OT:= [⟨false,tB,.fz⟩]
def yvP (a0:dA):Option (zaY yry×zak ylU) :=zkt (yrU ((((),()),((),()),()),((a0.1,a0.2.1.1,a0.2.1.2,a0.2.2.1,a0.2.2.2.1,a0.2.2.2.2.1,a0.2.2.2.2.2.1,a0.2.2.2.2.2.2.1,a0.2.2.2.2.2.2.2.1,a0.2.2.2.2.2.2.2.2.1,a0.2.2.2.2.2.2.2.2.2.1,a0.2.2.2.2.2.2.2.2.2.2.1,a0.2.2.2.2.2.2.2.2.2.2.2,()),()),())) (fun y4 =>some ((((y4.2.1.1.2.2.2.1.length:Int)==y4.2.1.1.2.1),()),())) (fun y4 =>some ((y4.1.1.1,()),()))
theorem yWg:ConOk prog 151 ⟨ylU,yry,fun x=>yvP x.1⟩:=zkI (yQ8) func151 ntmps151.symm fun x=>by kernel_rfl
def yma (a0:dA):Bool:=yl0 a0
def yBf (a0:dA):Bool:=ye a0.2.1
theorem yYA (a0:dA) (hk:zjx ylU (a0,())) (hq:yBf a0=true):yvP a0=(fun n=>some ((n,()),())) (yma a0):=by
 have hb:a0.2.2.1.length*80≤2^47:=hk.1.2.2.1.1;have hg:=yj.1 hq
 have h1:yrU (yOG a0)=some (bif(List.range a0.2.2.1.length).any (yhu a0)then .inr (yOK false)else .inl (yOx a0)) :=
  zji (step:=ydt) (fun i=>yqj i a0) a0.2.2.1.length (yhu a0) _ _ (fun i hi=>by
   simp only[ydt,yqj,yqQ,zky (show(i:Int)<a0.2.2.1.length by omega),cond_true,wq ((i:Int)+1) (by omega) (by omega),Int.natCast_add,Int.natCast_one,Int.toNat_natCast,zkR hi,zkX,yaX,yhu,ycU,wq (6+a0.2.1.2) (by omega) (by omega),yc]
   cases yx (nth a0.2.2.1 i ([],[],false,[]))<;>cases(((nth a0.2.2.1 i ([],[],false,[])).1.length:Int) !=6+a0.2.1.2)<;>cases(nth a0.2.2.1 i ([],[],false,[])).2.2.1<;>cases((i:Int) !=a0.2.2.2.1)<;>cases a0.2.2.2.2.2.2.2.2.2.2.2<;>rfl) (by simp only[ydt,yqj,yqQ,zk3 (Int.le_refl _),cond_false]) _ (by show _<18446744073709551616; omega)
 unfold yvP yma yl0;rw[h1];cases(List.range a0.2.2.1.length).any (yhu a0)<;>rfl
def yrE (a0:dA):Option (zaY yry×zak ylU):=bif yBf a0 then(fun n=>some ((n,()),())) (yma a0)else none
theorem yZs (a0:dA) (h:yBf a0=true):yrE a0=(fun n=>some ((n,()),())) (yma a0):=by unfold yrE; rw[h]; rfl
def yGx:Con:=⟨ylU,yry,fun x=>yrE x.1⟩
theorem yZm:ConOk prog 151 yGx:=(yWg).mono (fun x r hk h=>zkY h (fun hq=>yYA x.1 hk hq))
def y2b:Code:=(f78.body).getD .skip
def y2o:Env:=zkw TT [(82,yP),(150,ygM),(151,yGx),(152,yEp)] []
theorem yUD:FrOk prog ⟨y2o,78,fun _=>none⟩ y2b:=zkA mixed yf ⟨yaa,ymd,yZm,yWz,trivial⟩
abbrev yt7:List Par:= [.rd tA]
abbrev yDL:List OT:= [⟨false,tB,.fz⟩]
def yyi (a0:dA):Option (zaY yDL×zak yt7) :=let r1:=ye a0.2.1;bif(!(!r1))then let r2:=yb a0.1 1 60000;bif(!(!r2))then bnd (yrE a0) fun r3 =>bif(!(!r3.1.1))then bnd (ypD a0) fun r4 =>bif(!r4.1.1)then some ((false,()),()) else let r5:=yb a0.2.2.2.1 (-1) (i64.wrap (a0.2.1.1-1));bif(!(!r5))then let r6:=yb a0.2.2.2.2.1 0 a0.2.1.2;bif(!(!r6))then bif(a0.2.2.2.1==(-1))then bif(a0.2.2.2.2.1 !=0)then some ((false,()),()) else let r7:=yb a0.2.2.2.2.2.2.1 0 60000;bif r7 then let r8:=yb a0.2.2.2.2.2.1 a0.2.2.2.2.2.2.1 60000;bif r8 then bif(leb a0.2.2.2.2.2.1 (i64.wrap (a0.2.2.2.2.2.2.1+4)))then let r9:=yb a0.2.2.2.2.2.2.2.1 0 60000;bif r9 then let r10:=yb a0.2.2.2.2.2.2.2.2.2.1 (-1) 1000;some ((r10,()),()) else some ((false,()),()) else some ((false,()),()) else some ((false,()),()) else some ((false,()),()) else let r11:=yb a0.2.2.2.2.2.2.1 0 60000;bif r11 then let r12:=yb a0.2.2.2.2.2.1 a0.2.2.2.2.2.2.1 60000;bif r12 then bif(leb a0.2.2.2.2.2.1 (i64.wrap (a0.2.2.2.2.2.2.1+4)))then let r13:=yb a0.2.2.2.2.2.2.2.1 0 60000;bif r13 then let r14:=yb a0.2.2.2.2.2.2.2.2.2.1 (-1) 1000;some ((r14,()),()) else some ((false,()),()) else some ((false,()),()) else some ((false,()),()) else some ((false,()),()) else some ((false,()),()) else some ((false,()),()) else some ((false,()),()) else some ((false,()),()) else some ((false,()),())
theorem yYS:ConOk prog 78 ⟨yt7,yDL,fun x=>yyi x.1⟩:=zkI (yUD) func78 ntmps78.symm fun x=>by kernel_rfl
def ykG (a0:dA):Bool:=yM a0
theorem y1v (a0:dA) (hk:zjx yt7 (a0,())):yyi a0=(fun n=>some ((n,()),())) (ykG a0):=by
 unfold yyi ykG yM;simp only[ybX];cases hg:ye a0.2.1
 ·rfl
 have hg2:=yj.1 hg;rw[yZs a0 hg,yWF a0 hg,wq (a0.2.1.1-1) (by omega) (by omega)];simp only[zkH,yma,ykL,Bool.not_not,cond_true];cases(leb 1 a0.1&&leb a0.1 60000)
 ·rfl
 cases yl0 a0
 ·rfl
 cases ya2 a0.2.1 a0.2.2.2.2.2.2.2.2.1
 ·rfl
 cases(leb (-1) a0.2.2.2.1&&leb a0.2.2.2.1 (a0.2.1.1-1))
 ·rfl
 cases(leb 0 a0.2.2.2.2.1&&leb a0.2.2.2.2.1 a0.2.1.2)
 ·rfl
 have ht:(leb 0 a0.2.2.2.2.2.2.1&&leb a0.2.2.2.2.2.2.1 60000)=true→i64.wrap (a0.2.2.2.2.2.2.1+4)=a0.2.2.2.2.2.2.1+4:=fun h=>by
  rw[Bool.and_eq_true,zj7,zj7]at h;exact wr (by omega) (by omega)
 cases hT:(leb 0 a0.2.2.2.2.2.2.1&&leb a0.2.2.2.2.2.2.1 60000)
 ·cases(a0.2.2.2.1== -1)<;>cases(a0.2.2.2.2.1 !=0)<;>rfl
 rw[ht hT];cases(leb a0.2.2.2.2.2.2.1 a0.2.2.2.2.2.1&&leb a0.2.2.2.2.2.1 60000)
 ·cases(a0.2.2.2.1== -1)<;>cases(a0.2.2.2.2.1 !=0)<;>rfl
 cases leb a0.2.2.2.2.2.1 (a0.2.2.2.2.2.2.1+4)
 ·cases(a0.2.2.2.1== -1)<;>cases(a0.2.2.2.2.1 !=0)<;>rfl
 cases(leb 0 a0.2.2.2.2.2.2.2.1&&leb a0.2.2.2.2.2.2.2.1 60000)<;>cases(a0.2.2.2.1== -1)<;>cases(a0.2.2.2.2.1 !=0)<;>rfl
def yIf:Con:=⟨yt7,yDL,fun x=>(fun n=>some ((n,()),())) (ykG x.1)⟩
theorem y1P:ConOk prog 78 yIf:=(yYS).mono (fun x r hk h=>(y1v x.1 hk).trans h)
def yW8:Code:=(f143.body).getD .skip
def yXx:Env:=zkw TT [(76,yja)] [(12288,(.pr .fz .fz))]
theorem yN9:FrOk prog ⟨yXx,10,fun _=>none⟩ yW8:=zkA mixed yf ⟨ypG,trivial⟩
abbrev yxj:List Par:= [.rd tM]
abbrev yxz:List OT:= [⟨false,tM,oC⟩]
def yFo (a0:dM):Option (zaY yxz×zak yxj) :=let r1:=yaS a0;some (((r1.1,([]:List dW),true,r1.2.2.2),()),())
theorem ySt:ConOk prog 143 ⟨yxj,yxz,fun x=>yFo x.1⟩:=zkI (yN9) func143 ntmps143.symm fun x=>by kernel_rfl
def ypy (a0:dM):dM :=let r1:=yaS a0;(r1.1,([]:List dW),true,r1.2.2.2)
def yEk:Con:=⟨yxj,yxz,fun x=>(fun n=>some ((n,()),())) (ypy x.1)⟩
theorem yVw (a0:dM):yFo a0=(fun n=>some ((n,()),())) (ypy a0):=zkV (p:=fun(n:dM)=>((n,()),())) rfl
theorem yWu:ConOk prog 143 yEk:=(ySt).mono (fun x r _ h=>(yVw x.1).trans h)
def yXb:Code:=(f108.body).getD .skip
def yXA:Env:=zkw TT [(143,yEk),(174,ynv)] []
theorem yOe:FrOk prog ⟨yXA,62,fun _=>none⟩ yXb:=zkA mixed yf ⟨yWu,yx3,trivial⟩
abbrev yj9:List Par:= [.pt tA oB,.rd tI]
abbrev ypj:List OT:= []
def ysE (a0:dA) (a1:Int):Option (zaY ypj×zak yj9) :=bif(inb a1 a0.2.2.1.length)then let r1:=ypy ((nth a0.2.2.1 a1 ([],[],false,[])).1,((nth a0.2.2.1 a1 ([],[],false,[])).2).1,(((nth a0.2.2.1 a1 ([],[],false,[])).2).2));bif(inb a1 a0.2.2.1.length)then bif(!(a0.2.2.2.1==(-1)))then bif(a0.2.2.2.1==a1)then bif(!a0.2.2.2.2.2.2.2.2.2.2.1)then bif(!a0.2.2.2.2.2.2.2.2.2.2.2)then bif(ltb a0.2.2.2.2.2.2.2.1 60000)then let r2:=ybc (a0.1,a0.2.1,(a0.2.2.1.set (a1).toNat r1),a1,0,a0.2.2.2.2.2);some ((),(r2,())) else some ((),((a0.1,a0.2.1,(a0.2.2.1.set (a1).toNat r1),a1,0,a0.2.2.2.2.2),())) else some ((),((a0.1,a0.2.1,(a0.2.2.1.set (a1).toNat r1),a1,0,a0.2.2.2.2.2),())) else some ((),((a0.1,a0.2.1,(a0.2.2.1.set (a1).toNat r1),a1,0,a0.2.2.2.2.2),())) else bif(!a0.2.2.2.2.2.2.2.2.2.2.1)then some ((),((a0.1,a0.2.1,(a0.2.2.1.set (a1).toNat r1),a0.2.2.2.1,a0.2.2.2.2.1,a0.2.2.2.2.2.1,a0.2.2.2.2.2.2.1,a0.2.2.2.2.2.2.2.1,a0.2.2.2.2.2.2.2.2.1,a0.2.2.2.2.2.2.2.2.2.1,a0.2.2.2.2.2.2.2.2.2.2.1,true),())) else some ((),((a0.1,a0.2.1,(a0.2.2.1.set (a1).toNat r1),a0.2.2.2.1,a0.2.2.2.2.1,a0.2.2.2.2.2.1,a0.2.2.2.2.2.2.1,a0.2.2.2.2.2.2.2.1,a0.2.2.2.2.2.2.2.2.1,a0.2.2.2.2.2.2.2.2.2.1,a0.2.2.2.2.2.2.2.2.2.2.1,true),())) else bif(!a0.2.2.2.2.2.2.2.2.2.2.1)then bif(!a0.2.2.2.2.2.2.2.2.2.2.2)then bif(ltb a0.2.2.2.2.2.2.2.1 60000)then let r3:=ybc (a0.1,a0.2.1,(a0.2.2.1.set (a1).toNat r1),a1,0,a0.2.2.2.2.2);some ((),(r3,())) else some ((),((a0.1,a0.2.1,(a0.2.2.1.set (a1).toNat r1),a1,0,a0.2.2.2.2.2),())) else some ((),((a0.1,a0.2.1,(a0.2.2.1.set (a1).toNat r1),a1,0,a0.2.2.2.2.2),())) else some ((),((a0.1,a0.2.1,(a0.2.2.1.set (a1).toNat r1),a1,0,a0.2.2.2.2.2),())) else none else none
theorem ySx:ConOk prog 108 ⟨yj9,ypj,fun x=>ysE x.1 x.2.1⟩:=zkI (yOe) func108 ntmps108.symm fun x=>by kernel_rfl
def ykK (a0:dA) (a1:Int):dA:=ycr a0 a1
def yx7 (a0:dA) (a1:Int):Bool:=inb a1 a0.2.2.1.length
theorem yVA (a0:dA) (a1:Int) (hk:zjx yj9 (a0,a1,())) (hq:yx7 a0 a1=true):ysE a0 a1=(fun n=>some ((),(n,()))) (ykK a0 a1):=by
 have hq:inb a1 a0.2.2.1.length=true:=hq;unfold ysE ykK ycr yZ yUk yeU ya;simp only[hq,zkX,ypy,yaS,ybc];cases(a0.2.2.2.1== -1)<;>cases(a0.2.2.2.1==a1)<;>cases a0.2.2.2.2.2.2.2.2.2.2.1<;>cases a0.2.2.2.2.2.2.2.2.2.2.2<;>cases ltb a0.2.2.2.2.2.2.2.1 60000<;>rfl
def ygT (a0:dA) (a1:Int):Option (zaY ypj×zak yj9):=bif yx7 a0 a1 then(fun n=>some ((),(n,()))) (ykK a0 a1)else none
theorem yGY (a0:dA) (a1:Int) (h:yx7 a0 a1=true):ygT a0 a1=(fun n=>some ((),(n,()))) (ykK a0 a1):=by unfold ygT; rw[h]; rfl
def yr3:Con:=⟨yj9,ypj,fun x=>ygT x.1 x.2.1⟩
theorem yGU:ConOk prog 108 yr3:=(ySx).mono (fun x r hk h=>zkY h (fun hq=>yVA x.1 x.2.1 hk hq))
def yq9:Code:=(f177.body).getD .skip
def yz2:Env:=zkw TT [(82,yP)] [(28864,.fz),(28928,.fz)]
theorem yQR:FrOk prog ⟨yz2,22,fun _=>none⟩ yq9:=zkA mixed yf ⟨yaa,trivial⟩
def yFS:Nat→Option Seg:=fun _=>none
def ycZ:Shape:=⟨[(0,false,[ii]),(2,false,[.ptr 0 0]),(3,false,[.ptr 12352 0]),(4,false,[ii])],[(0,oO),(12352,[.at 800000000,.nil,.bool,.nil])],[(800000000,tL,.fz)]⟩
def yhg:Shape:=⟨[(0,false,[ii]),(2,false,[.ptr 0 0]),(3,false,[.ptr 12352 0]),(4,false,[.ci .i64 0])],[(0,oO),(12352,[.at 800000000,.nil,.bool,.nil])],[(800000000,tL,.fz)]⟩
def yg5:Shape:=⟨[(2,false,[.ptr 0 0]),(3,false,[.ptr 12352 0])],[(0,oO),(12352,[.at 800000000,.nil,.bool,.nil])],[(800000000,tL,.fz)]⟩
def yll:Shape:=⟨[],[],[]⟩
abbrev yqe (v0 v1:Int) (v2 v3:dM):(ycZ).X:=(((v0,()),((),()),((),()),(v1,()),()),(((),(),v2.2.2.1,(),()),((),(),v3.2.2.1,(),()),()),(v3.1,()))
abbrev yOB (v0:Int) (v1 v2:dM):(yhg).X:=(((v0,()),((),()),((),()),((),()),()),(((),(),v1.2.2.1,(),()),((),(),v2.2.2.1,(),()),()),(v2.1,()))
abbrev yOu (v0 v1:dM):(yg5).X:=((((),()),((),()),()),(((),(),v0.2.2.1,(),()),((),(),v1.2.2.1,(),()),()),(v1.1,()))
def yqL (v0 v1:Int) (v2 v3:Bool) (v4:List (List Int)):Option ((ycZ).X ⊕ ((yg5).X ⊕ (yll).X)) :=bif(ltb v1 v0)then bif(zkl v4.length ([([]:List Int)]:List (List Int)).length 24)then some (.inl (((v0,()),((),()),((),()),((i64.wrap (v1+1)),()),()),(((),(),v2,(),()),((),(),v3,(),()),()),((v4++([([]:List Int)]:List (List Int))),()))) else none else some (.inr (.inl ((((),()),((),()),()),(((),(),v2,(),()),((),(),v3,(),()),()),(v4,()))))
def ydo (x:(ycZ).X):=yqL x.1.1.1 x.1.2.2.2.1.1 x.2.1.1.2.2.1 x.2.1.2.1.2.2.1 x.2.2.1
def yB8 (x:(yhg).X):(ycZ).X:=(((x.1.1.1,()),((),()),((),()),(0,()),()),(((),(),x.2.1.1.2.2.1,(),()),((),(),x.2.1.2.1.2.2.1,(),()),()),(x.2.2.1,()))
def yD5:Code:=(zd7 yq9 64 244).getD .skip
theorem yQe:zd7 yq9 64 61=some (.block 0 (.loop yD5)):=by kernel_rfl
theorem yS6 (x:(ycZ).X):zhu ⟨yz2,22,yFS⟩ 0 yD5 244 ycZ yg5 yll x=ydo x:=by kernel_rfl
def yCj (x:(yhg).X):Nat:=18446744073709551616
def yrP (x:(yhg).X):Option ((yg5).X ⊕ (yll).X):=zF ydo (yCj x) (yB8 x)
def yCG:Seg:=⟨yhg,yg5,yll,yrP⟩
def yTC:Nat→Option Seg:=fun q=>bif Nat.beq q 61 then some yCG else yFS q
theorem yQS:FrOk prog ⟨yz2,22,yTC⟩ yq9:=(yQR).loop (sg:=yCG) ycZ yB8 (by decide) yQe ydo yCj (by decide) (fun _=>rfl) (fun x r _ h=>h) yS6
abbrev yrq:List Par:= [.rd tI]
abbrev yAO:List OT:= [⟨false,tM,oC⟩]
def yvL (a0:Int):Option (zaY yAO×zak yrq) :=let r1:=yb a0 1 20;bif(!r1)then some ((([],[],false,[]),()),()) else zkt (yrP (((a0,()),((),()),((),()),((),()),()),(((),(),false,(),()),((),(),false,(),()),()),([],()))) (fun y1 =>some (((y1.2.2.1,[],y1.2.1.2.1.2.2.1,[]),()),())) (fun y1 =>none)
theorem yV5:ConOk prog 177 ⟨yrq,yAO,fun x=>yvL x.1⟩:=zkI (yQS) func177 ntmps177.symm fun x=>by kernel_rfl
def yeq (a0:Int):dM:=yaM a0
theorem yYt (a0:Int) (hk:zjx yrq (a0,())):yvL a0=(fun n=>some ((n,()),())) (yeq a0):=by
 unfold yvL yeq yaM;simp only[ybX];cases hc:(leb 1 a0&&leb a0 20)
 ·rfl
 ·rw[Bool.and_eq_true,zj7,zj7]at hc
  have h1:yrP (yOB a0 yc yc)=some (.inl (yOu yc (List.replicate a0.toNat [],[],false,[]))) :=
   zkL (step:=ydo) (fun i=>yqe a0 i yc (List.replicate i [],[],false,[])) a0.toNat _ (fun i hi=>by
    simp only[ydo,yqe,yqL,zky (show(i:Int)<a0 by omega),cond_true,wq ((i:Int)+1) (by omega) (by omega),Int.natCast_add,Int.natCast_one,Int.toNat_natCast]
    rw[zkF.2 (show((List.replicate i ([]:List Int)).length+([[]]:List (List Int)).length)*24≤140737488355328 by simp only[List.length_cons,List.length_nil,List.length_replicate]; omega),← List.replicate_succ']; rfl) (by simp only[ydo,yqe,yqL,zk3 (show a0≤(a0.toNat:Int)by omega),cond_false]) _ (by show _<18446744073709551616; omega)
  rw[h1]; rfl
def yuY:Con:=⟨yrq,yAO,fun x=>(fun n=>some ((n,()),())) (yeq x.1)⟩
theorem yIG:ConOk prog 177 yuY:=(yV5).mono (fun x r hk h=>(yYt x.1 hk).trans h)
def yfT:Code:=(f115.body).getD .skip
def ylQ:Env:=zkw TT [(82,yP),(113,yfM),(144,yqa),(150,ygM),(177,yuY),(178,ynu)] [(53440,(.pr (.ow .fz) (.pr (.ow (.pr .fz .fz)) (.pr .fz (.ow .fz))))),(53504,(.pr (.ow .fz) (.pr (.ow (.pr .fz .fz)) (.pr .fz (.ow .fz)))))]
theorem yQK:FrOk prog ⟨ylQ,60,fun _=>none⟩ yfT:=zkA mixed yf ⟨yaa,ykS,yFg,ymd,yIG,yx2,trivial⟩
def yFR:Nat→Option Seg:=fun _=>none
def ybm:Shape:=⟨[(0,false,[ii]),(3,false,[.ptr 0 0]),(4,false,[.ptr 64 0]),(5,false,[.ptr 12480 0]),(6,false,[ii]),(7,false,[.ptr 28864 0]),(8,false,[ii])],[(0,[ii,ii]),(64,oK),(12480,oP),(28864,oV)],[(800000000,tM,oC),(800000001,tL,.fz),(800000002,tW,oF),(800000003,tI,.fz)]⟩
def yeG:Shape:=⟨[(0,false,[ii]),(3,false,[.ptr 0 0]),(4,false,[.ptr 64 0]),(5,false,[.ptr 12480 0]),(6,false,[ii]),(7,false,[.ptr 28864 0]),(8,false,[.ci .i64 0])],[(0,[ii,ii]),(64,oK),(12480,oP),(28864,oV)],[(800000000,tM,oC),(800000001,tL,.fz),(800000002,tW,oF),(800000003,tI,.fz)]⟩
def yeA:Shape:=⟨[(0,false,[ii]),(3,false,[.ptr 0 0]),(4,false,[.ptr 64 0]),(5,false,[.ptr 12480 0]),(6,false,[ii]),(7,false,[.ptr 28864 0])],[(0,[ii,ii]),(64,oK),(12480,oP),(28864,oV)],[(800000000,tM,oC),(800000001,tL,.fz),(800000002,tW,oF),(800000003,tI,.fz)]⟩
def yhO:Shape:=⟨[],[],[]⟩
abbrev yly (v0 v1 v2:Int) (v3:dG) (v4 v5:dA) (v6:dM):(ybm).X:=(((v0,()),((),()),((),()),((),()),(v1,()),((),()),(v2,()),()),((v3.1,v3.2,()),(v4.1,v4.2.1.1,v4.2.1.2,(),v4.2.2.2.1,v4.2.2.2.2.1,v4.2.2.2.2.2.1,v4.2.2.2.2.2.2.1,v4.2.2.2.2.2.2.2.1,(),v4.2.2.2.2.2.2.2.2.2.1,v4.2.2.2.2.2.2.2.2.2.2.1,v4.2.2.2.2.2.2.2.2.2.2.2,()),(v5.1,v5.2.1.1,v5.2.1.2,(),v5.2.2.2.1,v5.2.2.2.2.1,v5.2.2.2.2.2.1,v5.2.2.2.2.2.2.1,v5.2.2.2.2.2.2.2.1,(),v5.2.2.2.2.2.2.2.2.2.1,v5.2.2.2.2.2.2.2.2.2.2.1,v5.2.2.2.2.2.2.2.2.2.2.2,()),((),(),v6.2.2.1,(),()),()),(v5.2.2.1,v6.1,v6.2.1,v6.2.2.2,()))
abbrev yJm (v0 v1:Int) (v2:dG) (v3 v4:dA) (v5:dM):(yeG).X:=(((v0,()),((),()),((),()),((),()),(v1,()),((),()),((),()),()),((v2.1,v2.2,()),(v3.1,v3.2.1.1,v3.2.1.2,(),v3.2.2.2.1,v3.2.2.2.2.1,v3.2.2.2.2.2.1,v3.2.2.2.2.2.2.1,v3.2.2.2.2.2.2.2.1,(),v3.2.2.2.2.2.2.2.2.2.1,v3.2.2.2.2.2.2.2.2.2.2.1,v3.2.2.2.2.2.2.2.2.2.2.2,()),(v4.1,v4.2.1.1,v4.2.1.2,(),v4.2.2.2.1,v4.2.2.2.2.1,v4.2.2.2.2.2.1,v4.2.2.2.2.2.2.1,v4.2.2.2.2.2.2.2.1,(),v4.2.2.2.2.2.2.2.2.2.1,v4.2.2.2.2.2.2.2.2.2.2.1,v4.2.2.2.2.2.2.2.2.2.2.2,()),((),(),v5.2.2.1,(),()),()),(v4.2.2.1,v5.1,v5.2.1,v5.2.2.2,()))
abbrev yvu (v0 v1:Int) (v2:dG) (v3 v4:dA) (v5:dM):(yeA).X:=(((v0,()),((),()),((),()),((),()),(v1,()),((),()),()),((v2.1,v2.2,()),(v3.1,v3.2.1.1,v3.2.1.2,(),v3.2.2.2.1,v3.2.2.2.2.1,v3.2.2.2.2.2.1,v3.2.2.2.2.2.2.1,v3.2.2.2.2.2.2.2.1,(),v3.2.2.2.2.2.2.2.2.2.1,v3.2.2.2.2.2.2.2.2.2.2.1,v3.2.2.2.2.2.2.2.2.2.2.2,()),(v4.1,v4.2.1.1,v4.2.1.2,(),v4.2.2.2.1,v4.2.2.2.2.1,v4.2.2.2.2.2.1,v4.2.2.2.2.2.2.1,v4.2.2.2.2.2.2.2.1,(),v4.2.2.2.2.2.2.2.2.2.1,v4.2.2.2.2.2.2.2.2.2.2.1,v4.2.2.2.2.2.2.2.2.2.2.2,()),((),(),v5.2.2.1,(),()),()),(v4.2.2.1,v5.1,v5.2.1,v5.2.2.2,()))
def ylM (v0 v1 v2 v3 v4 v5 v6 v7 v8 v9 v10 v11 v12 v13:Int) (v14 v15:Bool) (v16 v17 v18 v19 v20 v21 v22 v23 v24:Int) (v25 v26 v27:Bool) (v28:List dM) (v29:List (List Int)) (v30:List dW) (v31:List Int):Option ((ybm).X ⊕ ((yeA).X ⊕ (yhO).X)) :=bif(ltb v2 v4)then let r13:=ybU v2;bif(inb r13 v29.length)then some (.inl (((v0,()),((),()),((),()),((),()),(v1,()),((),()),((i64.wrap (v2+1)),()),()),((v3,v4,()),(v5,v6,v7,(),v8,v9,v10,v11,v12,(),v13,v14,v15,()),(v16,v17,v18,(),v19,v20,v21,v22,v23,(),v24,v25,v26,()),((),(),v27,(),()),()),(v28,(v29.set (r13).toNat ([0]:List Int)),v30,v31,()))) else none else some (.inr (.inl (((v0,()),((),()),((),()),((),()),(v1,()),((),()),()),((v3,v4,()),(v5,v6,v7,(),v8,v9,v10,v11,v12,(),v13,v14,v15,()),(v16,v17,v18,(),v19,v20,v21,v22,v23,(),v24,v25,v26,()),((),(),v27,(),()),()),(v28,v29,v30,v31,()))))
def ybB (x:(ybm).X):=ylM x.1.1.1 x.1.2.2.2.2.1.1 x.1.2.2.2.2.2.2.1.1 x.2.1.1.1 x.2.1.1.2.1 x.2.1.2.1.1 x.2.1.2.1.2.1 x.2.1.2.1.2.2.1 x.2.1.2.1.2.2.2.2.1 x.2.1.2.1.2.2.2.2.2.1 x.2.1.2.1.2.2.2.2.2.2.1 x.2.1.2.1.2.2.2.2.2.2.2.1 x.2.1.2.1.2.2.2.2.2.2.2.2.1 x.2.1.2.1.2.2.2.2.2.2.2.2.2.2.1 x.2.1.2.1.2.2.2.2.2.2.2.2.2.2.2.1 x.2.1.2.1.2.2.2.2.2.2.2.2.2.2.2.2.1 x.2.1.2.2.1.1 x.2.1.2.2.1.2.1 x.2.1.2.2.1.2.2.1 x.2.1.2.2.1.2.2.2.2.1 x.2.1.2.2.1.2.2.2.2.2.1 x.2.1.2.2.1.2.2.2.2.2.2.1 x.2.1.2.2.1.2.2.2.2.2.2.2.1 x.2.1.2.2.1.2.2.2.2.2.2.2.2.1 x.2.1.2.2.1.2.2.2.2.2.2.2.2.2.2.1 x.2.1.2.2.1.2.2.2.2.2.2.2.2.2.2.2.1 x.2.1.2.2.1.2.2.2.2.2.2.2.2.2.2.2.2.1 x.2.1.2.2.2.1.2.2.1 x.2.2.1 x.2.2.2.1 x.2.2.2.2.1 x.2.2.2.2.2.1
def yu6 (x:(yeG).X):(ybm).X:=(((x.1.1.1,()),((),()),((),()),((),()),(x.1.2.2.2.2.1.1,()),((),()),(0,()),()),((x.2.1.1.1,x.2.1.1.2.1,()),(x.2.1.2.1.1,x.2.1.2.1.2.1,x.2.1.2.1.2.2.1,(),x.2.1.2.1.2.2.2.2.1,x.2.1.2.1.2.2.2.2.2.1,x.2.1.2.1.2.2.2.2.2.2.1,x.2.1.2.1.2.2.2.2.2.2.2.1,x.2.1.2.1.2.2.2.2.2.2.2.2.1,(),x.2.1.2.1.2.2.2.2.2.2.2.2.2.2.1,x.2.1.2.1.2.2.2.2.2.2.2.2.2.2.2.1,x.2.1.2.1.2.2.2.2.2.2.2.2.2.2.2.2.1,()),(x.2.1.2.2.1.1,x.2.1.2.2.1.2.1,x.2.1.2.2.1.2.2.1,(),x.2.1.2.2.1.2.2.2.2.1,x.2.1.2.2.1.2.2.2.2.2.1,x.2.1.2.2.1.2.2.2.2.2.2.1,x.2.1.2.2.1.2.2.2.2.2.2.2.1,x.2.1.2.2.1.2.2.2.2.2.2.2.2.1,(),x.2.1.2.2.1.2.2.2.2.2.2.2.2.2.2.1,x.2.1.2.2.1.2.2.2.2.2.2.2.2.2.2.2.1,x.2.1.2.2.1.2.2.2.2.2.2.2.2.2.2.2.2.1,()),((),(),x.2.1.2.2.2.1.2.2.1,(),()),()),(x.2.2.1,x.2.2.2.1,x.2.2.2.2.1,x.2.2.2.2.2.1,()))
def yv9:Code:=(zd7 yfT 64 125236).getD .skip
theorem yKb:zd7 yfT 64 31309=some (.block 2 (.loop yv9)):=by kernel_rfl
theorem yKQ (x:(ybm).X):zhu ⟨ylQ,60,yFR⟩ 2 yv9 125236 ybm yeA yhO x=ybB x:=by kernel_rfl
def yvf (x:(yeG).X):Nat:=18446744073709551616
def ymo (x:(yeG).X):Option ((yeA).X ⊕ (yhO).X):=zF ybB (yvf x) (yu6 x)
def yvX:Seg:=⟨yeG,yeA,yhO,ymo⟩
def ytw:Nat→Option Seg:=fun q=>bif Nat.beq q 31309 then some yvX else yFR q
theorem yQL:FrOk prog ⟨ylQ,60,ytw⟩ yfT:=(yQK).loop (sg:=yvX) ybm yu6 (by decide) yKb ybB yvf (by decide) (fun _=>rfl) (fun x r _ h=>h) yKQ
def ycY:Shape:=⟨[(0,false,[ii]),(3,false,[.ptr 0 0]),(4,false,[.ptr 64 0]),(5,false,[.ptr 12480 0]),(6,false,[ii])],[(0,[ii,ii]),(64,oK),(12480,oP)],[(800000000,tM,oC)]⟩
def yhf:Shape:=⟨[(0,false,[ii]),(3,false,[.ptr 0 0]),(4,false,[.ptr 64 0]),(5,false,[.ptr 12480 0]),(6,false,[.ci .i64 0])],[(0,[ii,ii]),(64,oK),(12480,oP)],[(800000000,tM,oC)]⟩
def yg4:Shape:=⟨[(4,false,[.ptr 64 0]),(5,false,[.ptr 12480 0])],[(64,oK),(12480,oP)],[(800000000,tM,oC)]⟩
def ylk:Shape:=⟨[],[],[]⟩
abbrev yjW (v0 v1:Int) (v2:dG) (v3 v4:dA):(ycY).X:=(((v0,()),((),()),((),()),((),()),(v1,()),()),((v2.1,v2.2,()),(v3.1,v3.2.1.1,v3.2.1.2,(),v3.2.2.2.1,v3.2.2.2.2.1,v3.2.2.2.2.2.1,v3.2.2.2.2.2.2.1,v3.2.2.2.2.2.2.2.1,(),v3.2.2.2.2.2.2.2.2.2.1,v3.2.2.2.2.2.2.2.2.2.2.1,v3.2.2.2.2.2.2.2.2.2.2.2,()),(v4.1,v4.2.1.1,v4.2.1.2,(),v4.2.2.2.1,v4.2.2.2.2.1,v4.2.2.2.2.2.1,v4.2.2.2.2.2.2.1,v4.2.2.2.2.2.2.2.1,(),v4.2.2.2.2.2.2.2.2.2.1,v4.2.2.2.2.2.2.2.2.2.2.1,v4.2.2.2.2.2.2.2.2.2.2.2,()),()),(v4.2.2.1,()))
abbrev yOA (v0:Int) (v1:dG) (v2 v3:dA):(yhf).X:=(((v0,()),((),()),((),()),((),()),((),()),()),((v1.1,v1.2,()),(v2.1,v2.2.1.1,v2.2.1.2,(),v2.2.2.2.1,v2.2.2.2.2.1,v2.2.2.2.2.2.1,v2.2.2.2.2.2.2.1,v2.2.2.2.2.2.2.2.1,(),v2.2.2.2.2.2.2.2.2.2.1,v2.2.2.2.2.2.2.2.2.2.2.1,v2.2.2.2.2.2.2.2.2.2.2.2,()),(v3.1,v3.2.1.1,v3.2.1.2,(),v3.2.2.2.1,v3.2.2.2.2.1,v3.2.2.2.2.2.1,v3.2.2.2.2.2.2.1,v3.2.2.2.2.2.2.2.1,(),v3.2.2.2.2.2.2.2.2.2.1,v3.2.2.2.2.2.2.2.2.2.2.1,v3.2.2.2.2.2.2.2.2.2.2.2,()),()),(v3.2.2.1,()))
abbrev yCr (v0 v1:dA):(yg4).X:=((((),()),((),()),()),((v0.1,v0.2.1.1,v0.2.1.2,(),v0.2.2.2.1,v0.2.2.2.2.1,v0.2.2.2.2.2.1,v0.2.2.2.2.2.2.1,v0.2.2.2.2.2.2.2.1,(),v0.2.2.2.2.2.2.2.2.2.1,v0.2.2.2.2.2.2.2.2.2.2.1,v0.2.2.2.2.2.2.2.2.2.2.2,()),(v1.1,v1.2.1.1,v1.2.1.2,(),v1.2.2.2.1,v1.2.2.2.2.1,v1.2.2.2.2.2.1,v1.2.2.2.2.2.2.1,v1.2.2.2.2.2.2.2.1,(),v1.2.2.2.2.2.2.2.2.2.1,v1.2.2.2.2.2.2.2.2.2.2.1,v1.2.2.2.2.2.2.2.2.2.2.2,()),()),(v1.2.2.1,()))
def yqK (v0 v1 v2 v3 v4 v5 v6 v7 v8 v9 v10 v11 v12:Int) (v13 v14:Bool) (v15 v16 v17 v18 v19 v20 v21 v22 v23:Int) (v24 v25:Bool) (v26:List dM):Option ((ycY).X ⊕ ((yg4).X ⊕ (ylk).X)) :=bif(ltb v1 v2)then let r15:=ycU (v2,v3);let r16:=yeq r15;let r17:=yo (v0,0,v1,v2,v3,0,(-1),0);bif(inb 0 r16.1.length)then zkt (ymo (((v0,()),((),()),((),()),((),()),(v1,()),((),()),((),()),()),((v2,v3,()),(v4,v5,v6,(),v7,v8,v9,v10,v11,(),v12,v13,v14,()),(v15,v16,v17,(),v18,v19,v20,v21,v22,(),v23,v24,v25,()),((),(),r16.2.2.1,(),()),()),(v26,(r16.1.set (0:Int).toNat r17),r16.2.1,r16.2.2.2,()))) (fun y17 =>bif(zkl y17.2.2.1.length ([(y17.2.2.2.1,y17.2.2.2.2.1,y17.2.1.2.2.2.1.2.2.1,y17.2.2.2.2.2.1)]:List dM).length 80)then some (.inl (((y17.1.1.1,()),((),()),((),()),((),()),((i64.wrap (y17.1.2.2.2.2.1.1+1)),()),()),((y17.2.1.1.1,y17.2.1.1.2.1,()),(y17.2.1.2.1.1,y17.2.1.2.1.2.1,y17.2.1.2.1.2.2.1,(),y17.2.1.2.1.2.2.2.2.1,y17.2.1.2.1.2.2.2.2.2.1,y17.2.1.2.1.2.2.2.2.2.2.1,y17.2.1.2.1.2.2.2.2.2.2.2.1,y17.2.1.2.1.2.2.2.2.2.2.2.2.1,(),y17.2.1.2.1.2.2.2.2.2.2.2.2.2.2.1,y17.2.1.2.1.2.2.2.2.2.2.2.2.2.2.2.1,y17.2.1.2.1.2.2.2.2.2.2.2.2.2.2.2.2.1,()),(y17.2.1.2.2.1.1,y17.2.1.2.2.1.2.1,y17.2.1.2.2.1.2.2.1,(),y17.2.1.2.2.1.2.2.2.2.1,y17.2.1.2.2.1.2.2.2.2.2.1,y17.2.1.2.2.1.2.2.2.2.2.2.1,y17.2.1.2.2.1.2.2.2.2.2.2.2.1,y17.2.1.2.2.1.2.2.2.2.2.2.2.2.1,(),y17.2.1.2.2.1.2.2.2.2.2.2.2.2.2.2.1,y17.2.1.2.2.1.2.2.2.2.2.2.2.2.2.2.2.1,y17.2.1.2.2.1.2.2.2.2.2.2.2.2.2.2.2.2.1,()),()),((y17.2.2.1++([(y17.2.2.2.1,y17.2.2.2.2.1,y17.2.1.2.2.2.1.2.2.1,y17.2.2.2.2.2.1)]:List dM)),()))) else none) (fun y17 =>some (.inr (.inr ((),(),())))) else none else some (.inr (.inl ((((),()),((),()),()),((v4,v5,v6,(),v7,v8,v9,v10,v11,(),v12,v13,v14,()),(v15,v16,v17,(),v18,v19,v20,v21,v22,(),v23,v24,v25,()),()),(v26,()))))
def ydn (x:(ycY).X):=yqK x.1.1.1 x.1.2.2.2.2.1.1 x.2.1.1.1 x.2.1.1.2.1 x.2.1.2.1.1 x.2.1.2.1.2.1 x.2.1.2.1.2.2.1 x.2.1.2.1.2.2.2.2.1 x.2.1.2.1.2.2.2.2.2.1 x.2.1.2.1.2.2.2.2.2.2.1 x.2.1.2.1.2.2.2.2.2.2.2.1 x.2.1.2.1.2.2.2.2.2.2.2.2.1 x.2.1.2.1.2.2.2.2.2.2.2.2.2.2.1 x.2.1.2.1.2.2.2.2.2.2.2.2.2.2.2.1 x.2.1.2.1.2.2.2.2.2.2.2.2.2.2.2.2.1 x.2.1.2.2.1.1 x.2.1.2.2.1.2.1 x.2.1.2.2.1.2.2.1 x.2.1.2.2.1.2.2.2.2.1 x.2.1.2.2.1.2.2.2.2.2.1 x.2.1.2.2.1.2.2.2.2.2.2.1 x.2.1.2.2.1.2.2.2.2.2.2.2.1 x.2.1.2.2.1.2.2.2.2.2.2.2.2.1 x.2.1.2.2.1.2.2.2.2.2.2.2.2.2.2.1 x.2.1.2.2.1.2.2.2.2.2.2.2.2.2.2.2.1 x.2.1.2.2.1.2.2.2.2.2.2.2.2.2.2.2.2.1 x.2.2.1
def yB7 (x:(yhf).X):(ycY).X:=(((x.1.1.1,()),((),()),((),()),((),()),(0,()),()),((x.2.1.1.1,x.2.1.1.2.1,()),(x.2.1.2.1.1,x.2.1.2.1.2.1,x.2.1.2.1.2.2.1,(),x.2.1.2.1.2.2.2.2.1,x.2.1.2.1.2.2.2.2.2.1,x.2.1.2.1.2.2.2.2.2.2.1,x.2.1.2.1.2.2.2.2.2.2.2.1,x.2.1.2.1.2.2.2.2.2.2.2.2.1,(),x.2.1.2.1.2.2.2.2.2.2.2.2.2.2.1,x.2.1.2.1.2.2.2.2.2.2.2.2.2.2.2.1,x.2.1.2.1.2.2.2.2.2.2.2.2.2.2.2.2.1,()),(x.2.1.2.2.1.1,x.2.1.2.2.1.2.1,x.2.1.2.2.1.2.2.1,(),x.2.1.2.2.1.2.2.2.2.1,x.2.1.2.2.1.2.2.2.2.2.1,x.2.1.2.2.1.2.2.2.2.2.2.1,x.2.1.2.2.1.2.2.2.2.2.2.2.1,x.2.1.2.2.1.2.2.2.2.2.2.2.2.1,(),x.2.1.2.2.1.2.2.2.2.2.2.2.2.2.2.1,x.2.1.2.2.1.2.2.2.2.2.2.2.2.2.2.2.1,x.2.1.2.2.1.2.2.2.2.2.2.2.2.2.2.2.2.1,()),()),(x.2.2.1,()))
def yD4:Code:=(zd7 yfT 64 244).getD .skip
theorem yQd:zd7 yfT 64 61=some (.block 0 (.loop yD4)):=by kernel_rfl
theorem yS5 (x:(ycY).X):zhu ⟨ylQ,60,ytw⟩ 0 yD4 244 ycY yg4 ylk x=ydn x:=by kernel_rfl
def yCi (x:(yhf).X):Nat:=18446744073709551616
def yrO (x:(yhf).X):Option ((yg4).X ⊕ (ylk).X):=zF ydn (yCi x) (yB7 x)
def yCF:Seg:=⟨yhf,yg4,ylk,yrO⟩
def yTB:Nat→Option Seg:=fun q=>bif Nat.beq q 61 then some yCF else ytw q
theorem yQM:FrOk prog ⟨ylQ,60,yTB⟩ yfT:=(yQL).loop (sg:=yCF) ycY yB7 (by decide) yQd ydn yCi (by decide) (fun _=>rfl) (fun x r _ h=>h) yS5
abbrev yrn:List Par:= [.rd tI,.rd tG]
abbrev yAJ:List OT:= [⟨false,tA,oB⟩]
def yvI (a0:Int) (a1:dG):Option (zaY yAJ×zak yrn) :=let r1:=ye a1;bif(!(!r1))then let r2:=yb a0 1 60000;bif(!r2)then some (((0,(0,0),[],0,0,0,0,0,[],0,false,false),()),()) else zkt (yrO (((a0,()),((),()),((),()),((),()),((),()),()),((a1.1,a1.2,()),(0,0,0,(),0,0,0,0,0,(),0,false,false,()),(a0,a1.1,a1.2,(),(-1),0,0,0,0,(),(-1),false,false,()),()),([],()))) (fun y18 =>some (((y18.2.1.2.1.1,(y18.2.1.2.1.2.1,y18.2.1.2.1.2.2.1),y18.2.2.1,y18.2.1.2.1.2.2.2.2.1,y18.2.1.2.1.2.2.2.2.2.1,y18.2.1.2.1.2.2.2.2.2.2.1,y18.2.1.2.1.2.2.2.2.2.2.2.1,y18.2.1.2.1.2.2.2.2.2.2.2.2.1,[],y18.2.1.2.1.2.2.2.2.2.2.2.2.2.2.1,y18.2.1.2.1.2.2.2.2.2.2.2.2.2.2.2.1,y18.2.1.2.1.2.2.2.2.2.2.2.2.2.2.2.2.1),()),())) (fun y18 =>none) else some (((0,(0,0),[],0,0,0,0,0,[],0,false,false),()),())
theorem yV0:ConOk prog 115 ⟨yrn,yAJ,fun x=>yvI x.1 x.2.1⟩:=zkI (yQM) func115 ntmps115.symm fun x=>by kernel_rfl
def yf4 (a0:Int) (a1:dG):dA:=ycK a0 a1
theorem yYo (a0:Int) (a1:dG) (hk:zjx yrn (a0,a1,())):yvI a0 a1=(fun n=>some ((n,()),())) (yf4 a0 a1):=by
 unfold yvI yf4 ycK;simp only[ybX];cases hg:ye a1
 ·rfl
 cases hid:(leb 1 a0&&leb a0 60000)
 ·rfl
 have hge:=yj.1 hg
 have inner: ∀(i:Int) (a:dA),ymo (yJm a0 i a1 yai a (yjp a0 a1 i))=some (.inl (yvu a0 i a1 yai a (yV a0 a1 i))):=fun i a =>
  zkD (step:=ybB) a1.2.toNat (fun s m=>yly a0 i s a1 yai a m) ypA (fun _ m=>(m.1.length:Int)=6+a1.2) (fun m=> .inl (yvu a0 i a1 yai a m)) (fun s m hs hm=>⟨by
   simp only[ybB,yly,ylM,zky (show(s:Int)<a1.2 by omega),cond_true,wq ((s:Int)+1) (by omega) (by omega),Int.natCast_add,Int.natCast_one,Int.toNat_natCast,ygV];have hd:yu (s:Int)=((s+6:Nat):Int):=by unfold yu; rw[zk2 (show(0:Int)≤s by omega),zk2 (show(s:Int)≤1099511627776 by omega)]; rfl
   rw[hd,zkR (show s+6<m.1.length by omega),Int.toNat_natCast]; rfl,by show((m.1.set _ _).length:Int)=_; rw[List.length_set]; exact hm⟩) (fun m hm=>by simp only[ybB,yly,ylM,show((a1.2.toNat:Nat):Int)=a1.2 by omega,zk3 (Int.le_refl _),cond_false]) (yjp a0 a1 i) (by
   unfold yjp yaM;rw[zk2 (show 1≤6+a1.2 by omega),zk2 (show 6+a1.2≤20 by omega)];show(((List.replicate (6+a1.2).toNat ([]:List Int)).set 0 _).length:Int)=_
   rw[List.length_set,List.length_replicate]; omega) 18446744073709551616 (by omega)
 have hmn:yeq (ycU a1)=yaM (6+a1.2):=by
  unfold yeq ycU;rw[wr (by omega) (by omega)]
 have h0:inb 0 (yaM (6+a1.2)).1.length=true:=by
  unfold yaM;rw[zk2 (show 1≤6+a1.2 by omega),zk2 (show 6+a1.2≤20 by omega)];show inb 0 (List.replicate (6+a1.2).toNat ([]:List Int)).length=true;rw[List.length_replicate,zj6]; omega
 have outer:yrO (yOA a0 a1 yai (yD1 a0 a1))=some (.inl (yCr yai ((List.range a1.1.toNat).foldl (fun a (i:Nat)=>yDW a (yV a0 a1 i)) (yD1 a0 a1)))) :=
  zkD (step:=ydn) a1.1.toNat (fun i a=>yjW a0 i a1 yai a) (fun a i=>yDW a (yV a0 a1 i)) (fun i a=>a.2.2.1.length=i) (fun a=> .inl (yCr yai a)) (fun i a hi ha=>⟨by
   simp only[ydn,yjW,yqK,zky (show(i:Int)<a1.1 by omega),cond_true,wq ((i:Int)+1) (by omega) (by omega),Int.natCast_add,Int.natCast_one,zkX,hmn,h0];refine(congrArg (fun z=>zkt z _ _) (inner i a)).trans ?_;simp only[zkN];show(bif zkl a.2.2.1.length [yV a0 a1 i].length 80 then _ else _)=_;rw[zkF.2 (show(a.2.2.1.length+ [yV a0 a1 i].length)*80≤140737488355328 by simp only[List.length_cons,List.length_nil]; omega)];simp only[cond_true];show some (Sum.inl (yjW a0 (i64.wrap ((i:Int)+1)) a1 yai (yDW a (yV a0 a1 i))))=_
   rw[wq ((i:Int)+1) (by omega) (by omega)],by show(a.2.2.1++ [_]).length=_; rw[List.length_append,ha]; rfl⟩) (fun a ha=>by simp only[ydn,yjW,yqK,show((a1.1.toNat:Nat):Int)=a1.1 by omega,zk3 (Int.le_refl _),cond_false]) (yD1 a0 a1) rfl 18446744073709551616 (by omega)
 have hdr: ∀(l:List Nat) (a:dA),a.2.2.2.2.2.2.2.2.1= []→(l.foldl (fun a (i:Nat)=>yDW a (yV a0 a1 i)) a).2.2.2.2.2.2.2.2.1= []:=by
  intro l
  induction l with
  | nil=>intro a h; exact h
  | cons x t ih=>intro a h; exact ih _ h
 have h:=hdr (List.range a1.1.toNat) (yD1 a0 a1) rfl;simp only[Bool.not_true,Bool.not_false,cond_true,cond_false,Bool.and_self];refine(congrArg (fun z=>zkt z _ _) outer).trans ?_;generalize (List.range a1.1.toNat).foldl (fun a (i:Nat)=>yDW a (yV a0 a1 i)) (yD1 a0 a1)=R at h;simp only[zkN];show some ((((R.1,R.2.1,R.2.2.1,R.2.2.2.1,R.2.2.2.2.1,R.2.2.2.2.2.1,R.2.2.2.2.2.2.1,R.2.2.2.2.2.2.2.1,[],R.2.2.2.2.2.2.2.2.2):dA),()),())=some ((R,()),());rw[← h]
def yuW:Con:=⟨yrn,yAJ,fun x=>(fun n=>some ((n,()),())) (yf4 x.1 x.2.1)⟩
theorem yIE:ConOk prog 115 yuW:=(yV0).mono (fun x r hk h=>(yYo x.1 x.2.1 hk).trans h)
def y2g:Code:=(f116.body).getD .skip
def y2t:Env:=zkw TT [(72,yaP)] []
theorem yUS:FrOk prog ⟨y2t,10,fun _=>none⟩ y2g:=zkA mixed yf ⟨ybw,trivial⟩
abbrev yDz:List Par:= [.pt tU .fz]
abbrev yDU:List OT:= [⟨false,tG,oF⟩]
def ygU (a0:dU):Option (zaY yDU×zak yDz) :=bnd (yl a0 3) fun r1 =>bnd (yl r1.2.1 4) fun r2 =>some ((((i64.wrap (3+r1.1.1)),(i64.wrap (1+r2.1.1))),()),(r2.2.1,()))
theorem yY1:ConOk prog 116 ⟨yDz,yDU,fun x=>ygU x.1⟩:=zkI (yUS) func116 ntmps116.symm fun x=>by kernel_rfl
def yxS:Con:=⟨yDz,yDU,fun x=>ygU x.1⟩
theorem yJY:ConOk prog 116 yxS:=yY1
theorem y2E (u:dU) (h:ybV u): ∃(g:dG) (u':dU),ygU u=some ((g,()),(u',()))∧ye g=true∧ybV u':=by
 unfold ygU;obtain⟨r1,u1,e1,q1,d1⟩:=yaV u 3 h;obtain⟨r2,u2,e2,q2,d2⟩:=yaV u1 4 d1;simp only[e1,e2,zkH];refine⟨_,_,rfl,?_,d2⟩;have:=q1.2.1 (by omega); have:=q2.2.1 (by omega); have:=q1.1; have:=q2.1;rw[wr (by omega) (by omega),wr (by omega) (by omega)];exact yj.2 ⟨⟨by show 3≤3+r1; omega,by show 3+r1≤5; omega⟩,by show 1≤1+r2; omega,by show 1+r2≤8; omega⟩
def y0u:Code:=(f119.body).getD .skip
def y02:Env:=zkw TT [(150,ygM)] []
theorem yQN:FrOk prog ⟨y02,12,fun _=>none⟩ y0u:=zkA mixed yf ⟨ymd,trivial⟩
abbrev yAi:List Par:= [.rd tG]
abbrev yAK:List OT:= [⟨false,tI,.fz⟩]
def yHa (a0:dG):Option (zaY yAK×zak yAi) :=let r1:=ye a0;bif(!r1)then some ((0,()),()) else some (((i64.wrap (a0.2*(i64.wrap (a0.1-1)))),()),())
theorem yV1:ConOk prog 119 ⟨yAi,yAK,fun x=>yHa x.1⟩:=zkI (yQN) func119 ntmps119.symm fun x=>by kernel_rfl
def yB (a0:dG):Int :=let r1:=ye a0;bif(!r1)then 0 else (i64.wrap (a0.2*(i64.wrap (a0.1-1))))
def yi9:Con:=⟨yAi,yAK,fun x=>(fun n=>some ((n,()),())) (yB x.1)⟩
theorem yYp (a0:dG):yHa a0=(fun n=>some ((n,()),())) (yB a0):=zkV (p:=fun(n:Int)=>((n,()),())) (zkG (p:=fun(n:Int)=>((n,()),())) rfl rfl)
theorem ypF:ConOk prog 119 yi9:=(yV1).mono (fun x r _ h=>(yYp x.1).trans h)
theorem yZC (a:Int×Int):0≤yB a∧yB a≤32:=by
 unfold yB;cases h:ye a
 ·simp
 ·obtain⟨⟨h1,h2⟩,h3,h4⟩:=yj.1 h
  have h5:0≤a.2*(a.1-1):=Int.mul_nonneg (by omega) (by omega);have h6:a.2*(a.1-1)≤8*4:=Int.mul_le_mul h4 (by omega) (by omega) (by omega);simp only[Bool.not_true,cond_false,wq (a.1-1) (by omega) (by omega),wq (a.2*(a.1-1)) (by omega) (by omega)];omega
theorem yyu {a:Int×Int} (h:ye a=true):yB a=a.2*(a.1-1):=by
 unfold yB;obtain⟨⟨h1,h2⟩,h3,h4⟩:=yj.1 h;have h5:0≤a.2*(a.1-1):=Int.mul_nonneg (by omega) (by omega);have h6:a.2*(a.1-1)≤8*4:=Int.mul_le_mul h4 (by omega) (by omega) (by omega);simp only[h,Bool.not_true,cond_false,wq (a.1-1) (by omega) (by omega),wq (a.2*(a.1-1)) (by omega) (by omega)]
def yam (l:List dW) (s:Int):Int:=yan (fun e:dW=>e.1==s) l
def yhR (g:dG) (b:Int):Bool:=leb 0 b&&leb b (yB g-1)
def ybS (g:dG) (b:Int):Int:=bif yhR g b then b.tdiv (g.1-1)else -1
def yxY (g:dG) (b:Int):Int:=bif yhR g b then b.tmod (g.1-1)else -1
theorem yF2 {g:dG} {b:Int} (h:yhR g b=true):ye g=true∧(0≤b.tdiv (g.1-1)∧b.tdiv (g.1-1)≤g.2-1)∧(0≤b.tmod (g.1-1)∧b.tmod (g.1-1)≤g.1-2):=by
 simp only[yhR,Bool.and_eq_true,zj7]at h;cases hg:ye g
 ·have:yB g=0:=by unfold yB; rw[hg]; rfl
  omega
 ·rw[yyu hg]at h
  have h2:=yj.1 hg;rw[Int.tdiv_eq_ediv_of_nonneg h.1,Int.tmod_eq_emod_of_nonneg h.1];have h3:=Int.ediv_lt_of_lt_mul (show 0<g.1-1 by omega) (show b<g.2*(g.1-1)by omega);have h4:=Int.ediv_nonneg h.1 (show 0≤g.1-1 by omega);have h5:=Int.emod_nonneg b (show g.1-1≠0 by omega);have h6:=Int.emod_lt_of_pos b (show 0<g.1-1 by omega);exact⟨rfl,⟨h4,by omega⟩,h5,by omega⟩
theorem yHP {g:dG} {b:Int} (h:yhR g b=true):yaj g (ybS g b)=true:=by
 obtain⟨h1,h2,_⟩:=yF2 h;unfold ybS;rw[h,cond_true,yad];exact⟨h1,h2⟩
def ybi (a:dA) (s:Int):List Int×Bool:=bif leb 0 (yam a.2.2.2.2.2.2.2.2.1 s)then((nth a.2.2.2.2.2.2.2.2.1 (yam a.2.2.2.2.2.2.2.2.1 s) (0,[])).2,true)else bif a.2.2.2.2.2.2.2.2.2.2.2 then([],false)else yrA a s
theorem y5C {a:dA} (h:yM a=true) {i:Nat} (hi:i<a.2.2.2.2.2.2.2.2.1.length):(0≤(nth a.2.2.2.2.2.2.2.2.1 i (0,[])).1∧(nth a.2.2.2.2.2.2.2.2.1 i (0,[])).1≤a.2.1.2-1)∧((nth a.2.2.2.2.2.2.2.2.1 i (0,[])).2.length:Int)=a.2.1.1-1∧(nth a.2.2.2.2.2.2.2.2.1 i (0,[])).2.all isW=true∧(0<i→(nth a.2.2.2.2.2.2.2.2.1 ((i-1:Nat):Int) (0,[])).1<(nth a.2.2.2.2.2.2.2.2.1 i (0,[])).1):=by
 have h1:ya2 a.2.1 a.2.2.2.2.2.2.2.2.1=true:=by simp only[yM,Bool.and_eq_true]at h; exact h.2.2.2.1
 simp only[ya2,Bool.not_eq_true',List.any_eq_false,List.mem_range]at h1;have h2:=h1 i hi;simp only[yh3,Bool.not_eq_true,Bool.or_eq_false_iff,Bool.not_eq_false',bne_eq_false_iff_eq,Bool.and_eq_true,Bool.and_eq_false_iff,decide_eq_false_iff_not,zj7]at h2;refine⟨h2.1,h2.2.1,h2.2.2.1,fun h0=> ?_⟩;rcases h2.2.2.2 with h3 | h3
 ·exact absurd h0 h3
 ·have:=mt zk2 (by rw[h3]; simp: ¬leb (nth a.2.2.2.2.2.2.2.2.1 i (0,[])).1 (nth a.2.2.2.2.2.2.2.2.1 ((i-1:Nat):Int) (0,[])).1=true)
  omega
theorem yBm {a:dA} {s:Int} (h:yM a=true) (hs:yaj a.2.1 s=true) (h2:(ybi a s).2=true):((ybi a s).1.length:Int)=a.2.1.1-1:=by
 have hg:=yj.1 (yen h);unfold ybi at h2 ⊢;cases hk:leb 0 (yam a.2.2.2.2.2.2.2.2.1 s)
 ·rw[hk]at h2
  simp only[cond_false]at h2 ⊢;cases hb:a.2.2.2.2.2.2.2.2.2.2.2
  ·rw[hb]at h2
   simp only[cond_false]at h2 ⊢;unfold yrA at h2 ⊢;cases hw:(yK a s).2
   ·rw[hw]at h2; cases h2
   ·simp only[cond_true,List.length_map,List.length_range]; omega
  ·rw[hb]at h2; cases h2
 ·have h3:=zj6.1 (yn9 (d:=((0,[]):dW)) hk).1
  have:=(y5C h (i:=(yam a.2.2.2.2.2.2.2.2.1 s).toNat) (by unfold yam; omega)).2.1;rw[show(((yam a.2.2.2.2.2.2.2.2.1 s).toNat:Nat):Int)=yam a.2.2.2.2.2.2.2.2.1 s by have:=zj7.1 hk; omega]at this;exact this
theorem y4H (g:dG) (b:Int):yb b 0 (i64.wrap (yB g-1))=yhR g b:=by
 have:=yZC g;rw[wr (by omega) (by omega),ybX]; rfl
def yyC:Code:=(f215.body).getD .skip
def yHq:Env:=zkw TT [] []
theorem yX0:FrOk prog ⟨yHq,22,fun _=>none⟩ yyC:=zkA mixed yf trivial
def yJJ:Nat→Option Seg:=fun _=>none
def yeR:Shape:=⟨[(1,false,[ii]),(2,false,[.ptr 0 0]),(5,false,[ii])],[(0,oJ)],[]⟩
def yko:Shape:=⟨[(1,false,[ii]),(2,false,[.ptr 0 0]),(5,false,[.ci .i64 0])],[(0,oJ)],[]⟩
def ykj:Shape:=⟨[],[],[]⟩
def yks:Shape:=⟨[(4,false,[ii])],[],[]⟩
abbrev yvr (v0 v1:Int) (v2:dA):(yeR).X:=(((v0,()),((),()),(v1,()),()),((v2.1,v2.2.1.1,v2.2.1.2,v2.2.2.1,v2.2.2.2.1,v2.2.2.2.2.1,v2.2.2.2.2.2.1,v2.2.2.2.2.2.2.1,v2.2.2.2.2.2.2.2.1,v2.2.2.2.2.2.2.2.2.1,v2.2.2.2.2.2.2.2.2.2.1,v2.2.2.2.2.2.2.2.2.2.2.1,v2.2.2.2.2.2.2.2.2.2.2.2,()),()),())
abbrev yVg (v0:Int) (v1:dA):(yko).X:=(((v0,()),((),()),((),()),()),((v1.1,v1.2.1.1,v1.2.1.2,v1.2.2.1,v1.2.2.2.1,v1.2.2.2.2.1,v1.2.2.2.2.2.1,v1.2.2.2.2.2.2.1,v1.2.2.2.2.2.2.2.1,v1.2.2.2.2.2.2.2.2.1,v1.2.2.2.2.2.2.2.2.2.1,v1.2.2.2.2.2.2.2.2.2.2.1,v1.2.2.2.2.2.2.2.2.2.2.2,()),()),())
abbrev yVb  :(ykj).X:=((),(),())
abbrev yGR (v0:Int):(yks).X:=(((v0,()),()),(),())
def yv4 (v0 v1 v2 v3 v4:Int) (v5:List dM) (v6 v7 v8 v9 v10:Int) (v11:List dW) (v12:Int) (v13 v14:Bool):Option ((yeR).X ⊕ ((ykj).X ⊕ (yks).X)) :=bif(ltb v1 (v11.length:Int))then bif(inb v1 v11.length)then bif((nth v11 v1 (0,[])).1==v0)then some (.inr (.inr (((v1,()),()),(),()))) else some (.inl (((v0,()),((),()),((i64.wrap (v1+1)),()),()),((v2,v3,v4,v5,v6,v7,v8,v9,v10,v11,v12,v13,v14,()),()),())) else none else some (.inr (.inl ((),(),())))
def ye4 (x:(yeR).X):=yv4 x.1.1.1 x.1.2.2.1.1 x.2.1.1.1 x.2.1.1.2.1 x.2.1.1.2.2.1 x.2.1.1.2.2.2.1 x.2.1.1.2.2.2.2.1 x.2.1.1.2.2.2.2.2.1 x.2.1.1.2.2.2.2.2.2.1 x.2.1.1.2.2.2.2.2.2.2.1 x.2.1.1.2.2.2.2.2.2.2.2.1 x.2.1.1.2.2.2.2.2.2.2.2.2.1 x.2.1.1.2.2.2.2.2.2.2.2.2.2.1 x.2.1.1.2.2.2.2.2.2.2.2.2.2.2.1 x.2.1.1.2.2.2.2.2.2.2.2.2.2.2.2.1
def yGF (x:(yko).X):(yeR).X:=(((x.1.1.1,()),((),()),(0,()),()),((x.2.1.1.1,x.2.1.1.2.1,x.2.1.1.2.2.1,x.2.1.1.2.2.2.1,x.2.1.1.2.2.2.2.1,x.2.1.1.2.2.2.2.2.1,x.2.1.1.2.2.2.2.2.2.1,x.2.1.1.2.2.2.2.2.2.2.1,x.2.1.1.2.2.2.2.2.2.2.2.1,x.2.1.1.2.2.2.2.2.2.2.2.2.1,x.2.1.1.2.2.2.2.2.2.2.2.2.2.1,x.2.1.1.2.2.2.2.2.2.2.2.2.2.2.1,x.2.1.1.2.2.2.2.2.2.2.2.2.2.2.2.1,()),()),())
def yId:Code:=(zd7 yyC 64 52).getD .skip
theorem yXK:zd7 yyC 64 13=some (.block 0 (.loop yId)):=by kernel_rfl
theorem yZy (x:(yeR).X):zhu ⟨yHq,22,yJJ⟩ 0 yId 52 yeR ykj yks x=ye4 x:=by kernel_rfl
def yGL (x:(yko).X):Nat:=18446744073709551616
def yxf (x:(yko).X):Option ((ykj).X ⊕ (yks).X):=zF ye4 (yGL x) (yGF x)
def yHl:Seg:=⟨yko,ykj,yks,yxf⟩
def y0M:Nat→Option Seg:=fun q=>bif Nat.beq q 13 then some yHl else yJJ q
theorem yX1:FrOk prog ⟨yHq,22,y0M⟩ yyC:=(yX0).loop (sg:=yHl) yeR yGF (by decide) yXK ye4 yGL (by decide) (fun _=>rfl) (fun x r _ h=>h) yZy
abbrev yyG:List Par:= [.rd tA,.rd tI]
abbrev yHz:List OT:= [⟨false,tI,.fz⟩]
def yBk (a0:dA) (a1:Int):Option (zaY yHz×zak yyG) :=zkt (yxf (((a1,()),((),()),((),()),()),((a0.1,a0.2.1.1,a0.2.1.2,a0.2.2.1,a0.2.2.2.1,a0.2.2.2.2.1,a0.2.2.2.2.2.1,a0.2.2.2.2.2.2.1,a0.2.2.2.2.2.2.2.1,a0.2.2.2.2.2.2.2.2.1,a0.2.2.2.2.2.2.2.2.2.1,a0.2.2.2.2.2.2.2.2.2.2.1,a0.2.2.2.2.2.2.2.2.2.2.2,()),()),())) (fun y0 =>some (((-1),()),())) (fun y0 =>some ((y0.1.1.1,()),()))
theorem y1N:ConOk prog 215 ⟨yyG,yHz,fun x=>yBk x.1 x.2.1⟩:=zkI (yX1) func215 ntmps215.symm fun x=>by kernel_rfl
def yjB (a0:dA) (a1:Int):Int:=yam a0.2.2.2.2.2.2.2.2.1 a1
theorem y2Z (a0:dA) (a1:Int) (hk:zjx yyG (a0,a1,())):yBk a0 a1=(fun n=>some ((n,()),())) (yjB a0 a1):=by
 have hb:a0.2.2.2.2.2.2.2.2.1.length*32≤2^47:=hk.1.2.2.2.2.2.2.2.2.1.1
 have h1:yxf (yVg a1 a0)=some (bif leb 0 (yam a0.2.2.2.2.2.2.2.2.1 a1)then .inr (yGR (yam a0.2.2.2.2.2.2.2.2.1 a1))else .inl yVb) :=
  yL0 (step:=ye4) a0.2.2.2.2.2.2.2.2.1 (0,[]) (fun i=>yvr a1 i a0) (fun e:dW=>e.1==a1) (fun i=> .inr (yGR i)) _ (fun i hi=>by
   simp only[ye4,yvr,yv4,zky (show(i:Int)<a0.2.2.2.2.2.2.2.2.1.length by omega),cond_true,wq ((i:Int)+1) (by omega) (by omega),Int.natCast_add,Int.natCast_one,Int.toNat_natCast,zkR hi,zkS]
   cases((a0.2.2.2.2.2.2.2.2.1.getD i (0,[])).1==a1)<;>rfl) (by simp only[ye4,yvr,yv4,zk3 (Int.le_refl _),cond_false]) _ (by show _<18446744073709551616; omega)
 unfold yBk yjB;rw[h1];cases h:leb 0 (yam a0.2.2.2.2.2.2.2.2.1 a1)
 ·rw[show yam a0.2.2.2.2.2.2.2.2.1 a1= -1 from yX2 h]; rfl
 ·rfl
def yA5:Con:=⟨yyG,yHz,fun x=>(fun n=>some ((n,()),())) (yjB x.1 x.2.1)⟩
theorem yMG:ConOk prog 215 yA5:=(y1N).mono (fun x r hk h=>(y2Z x.1 x.2.1 hk).trans h)
def y0I:Code:=(f216.body).getD .skip
def y1g:Env:=zkw TT [(78,yIf),(82,yP),(200,yht)] []
theorem yRc:FrOk prog ⟨y1g,48,fun _=>none⟩ y0I:=zkA mixed yf ⟨y1P,yaa,ynC,trivial⟩
abbrev yAs:List Par:= [.rd tA,.rd tI,.rd tL]
abbrev yA0:List OT:= [⟨false,tI,.fz⟩]
def yHg (a0:dA) (a1:Int) (a2:List Int):Option (zaY yA0×zak yAs) :=let r1:=ykG a0;bif(!(!r1))then bif(!((a2.length:Int) !=(i64.wrap (a0.2.1.1-1))))then let r2:=yay a2;bif(!r2)then some ((1,()),()) else bif a0.2.2.2.2.2.2.2.2.2.2.1 then some ((6,()),()) else let r3:=yb a1 0 (i64.wrap (a0.2.1.2-1));bif(!r3)then some ((2,()),()) else bif a0.2.2.2.2.2.2.2.2.2.2.2 then some ((5,()),()) else bif(!(leb 60000 a0.2.2.2.2.2.1))then bif(leb 59990 a0.2.2.2.2.2.2.2.1)then some ((7,()),()) else some ((0,()),()) else some ((7,()),()) else some ((1,()),()) else some ((1,()),())
theorem yWk:ConOk prog 216 ⟨yAs,yA0,fun x=>yHg x.1 x.2.1 x.2.2.1⟩:=zkI (yRc) func216 ntmps216.symm fun x=>by kernel_rfl
def yap (a0:dA) (a1:Int) (a2:List Int):Int :=let r1:=ykG a0;bif(!(!r1))then bif(!((a2.length:Int) !=(i64.wrap (a0.2.1.1-1))))then let r2:=yay a2;bif(!r2)then 1 else bif a0.2.2.2.2.2.2.2.2.2.2.1 then 6 else let r3:=yb a1 0 (i64.wrap (a0.2.1.2-1));bif(!r3)then 2 else bif a0.2.2.2.2.2.2.2.2.2.2.2 then 5 else bif(!(leb 60000 a0.2.2.2.2.2.1))then bif(leb 59990 a0.2.2.2.2.2.2.2.1)then 7 else 0 else 7 else 1 else 1
def yGz:Con:=⟨yAs,yA0,fun x=>(fun n=>some ((n,()),())) (yap x.1 x.2.1 x.2.2.1)⟩
theorem yYD (a0:dA) (a1:Int) (a2:List Int):yHg a0 a1 a2=(fun n=>some ((n,()),())) (yap a0 a1 a2):=zkV (p:=fun(n:Int)=>((n,()),())) (zkG (p:=fun(n:Int)=>((n,()),())) (zkG (p:=fun(n:Int)=>((n,()),())) (zkG (p:=fun(n:Int)=>((n,()),())) rfl (zkG (p:=fun(n:Int)=>((n,()),())) rfl (zkG (p:=fun(n:Int)=>((n,()),())) rfl (zkG (p:=fun(n:Int)=>((n,()),())) rfl (zkG (p:=fun(n:Int)=>((n,()),())) (zkG (p:=fun(n:Int)=>((n,()),())) rfl rfl) rfl))))) rfl) rfl)
theorem yZo:ConOk prog 216 yGz:=(yWk).mono (fun x r _ h=>(yYD x.1 x.2.1 x.2.2.1).trans h)
def yM7 (l:List dW) (k:Nat):List dW:=l.take k++l.drop (k+1)
def yaK (a:dA) (s:Int):Int×dA :=bif ltb (yam a.2.2.2.2.2.2.2.2.1 s) 0 then(0,a)else bif yap a s (nth a.2.2.2.2.2.2.2.2.1 (yam a.2.2.2.2.2.2.2.2.1 s) (0,[])).2 !=0 then(yap a s (nth a.2.2.2.2.2.2.2.2.1 (yam a.2.2.2.2.2.2.2.2.1 s) (0,[])).2,a)else bif(yN a s (nth a.2.2.2.2.2.2.2.2.1 (yam a.2.2.2.2.2.2.2.2.1 s) (0,[])).2).1==0 then (0,yyt (yN a s (nth a.2.2.2.2.2.2.2.2.1 (yam a.2.2.2.2.2.2.2.2.1 s) (0,[])).2).2 (yM7 a.2.2.2.2.2.2.2.2.1 (yam a.2.2.2.2.2.2.2.2.1 s).toNat)) else yN a s (nth a.2.2.2.2.2.2.2.2.1 (yam a.2.2.2.2.2.2.2.2.1 s) (0,[])).2
theorem yy1 {a:dA} {s:Int} {d:List Int} (h:yap a s d=0):yM a=true∧(d.length:Int)=a.2.1.1-1∧d.all isW=true∧ya a=false∧yaj a.2.1 s=true∧a.2.2.2.2.2.2.2.2.2.2.2=false∧a.2.2.2.2.2.1<60000∧a.2.2.2.2.2.2.2.1<59990:=by
 unfold yap at h;simp only[ykG,yrI,ybX]at h;cases ha:yM a
 ·rw[ha]at h; exact absurd (show(1:Int)=0 from h) (by decide)
 have hg:=yj.1 (yen ha);rw[ha,wq (a.2.1.1-1) (by omega) (by omega),wq (a.2.1.2-1) (by omega) (by omega)]at h;cases hl:((d.length:Int) !=a.2.1.1-1)
 ·cases hw:d.all isW
  ·rw[hl,hw]at h; exact absurd (show(1:Int)=0 from h) (by decide)
  cases hd:a.2.2.2.2.2.2.2.2.2.2.1
  ·cases hs:(leb 0 s&&leb s (a.2.1.2-1))
   ·rw[hl,hw,hd,hs]at h; exact absurd (show(2:Int)=0 from h) (by decide)
   cases hb:a.2.2.2.2.2.2.2.2.2.2.2
   ·cases h6:leb 60000 a.2.2.2.2.2.1
    ·cases h7:leb 59990 a.2.2.2.2.2.2.2.1
     ·have e6: ¬(60000≤a.2.2.2.2.2.1):=fun g=>by rw[zk2 g]at h6; cases h6
      have e7: ¬(59990≤a.2.2.2.2.2.2.2.1):=fun g=>by rw[zk2 g]at h7; cases h7
      exact⟨rfl,bne_eq_false_iff_eq.1 hl,rfl,hd,by unfold yaj; rw[yen ha,hs]; rfl,rfl,by omega,by omega⟩
     ·rw[hl,hw,hd,hs,hb,h6,h7]at h; exact absurd (show(7:Int)=0 from h) (by decide)
    ·rw[hl,hw,hd,hs,hb,h6]at h; exact absurd (show(7:Int)=0 from h) (by decide)
   ·rw[hl,hw,hd,hs,hb]at h; exact absurd (show(5:Int)=0 from h) (by decide)
  ·rw[hl,hw,hd]at h; exact absurd (show(6:Int)=0 from h) (by decide)
 ·rw[hl]at h; exact absurd (show(1:Int)=0 from h) (by decide)
theorem yZL (a:dA):(yz a).2.2.2.2.2.2.2.2.1=a.2.2.2.2.2.2.2.2.1:=by
 unfold yz;cases leb 4 (i64.wrap (a.2.2.2.2.2.1-a.2.2.2.2.2.2.1))
 ·rfl
 ·exact yHD a
theorem y3B (a:dA):(yO a).2.2.2.2.2.2.2.2.1=a.2.2.2.2.2.2.2.2.1:=rfl
theorem y3E (a:dA) (s:Int) (d:List Int):(yN a s d).2.2.2.2.2.2.2.2.2.1=a.2.2.2.2.2.2.2.2.1:=by
 unfold yN;have h2:=(yUj (ybs (yz a) ((yz a).2.2.2.2.2.1,s,d))).trans (yZL a);generalize yr (yz a) ((yz a).2.2.2.2.2.1,s,d)=R at h2 ⊢;have h3:=(yUj (yeo (yO R) s d)).trans ((y3B R).trans h2);generalize yI (yO R) s d=Q at h3 ⊢;cases ya (yz a)
 ·cases ya R
  ·exact h3
  ·exact h2
 ·exact yZL a
theorem y4N {l:List dW} {k:Int} (h0:0≤k) (h1:k<(l.length:Int)):(([]:List dW)++((l.drop (0:Int).toNat).take (k-0).toNat))++((l.drop (k+1).toNat).take ((l.length:Int)-(k+1)).toNat)=yM7 l k.toNat:=by
 unfold yM7;rw[List.nil_append,show(0:Int).toNat=0 from rfl,List.drop_zero,Int.sub_zero,show(k+1).toNat=k.toNat+1 by omega,List.take_of_length_le (l:=l.drop (k.toNat+1)) (by rw[List.length_drop]; omega)]
def yh0 (_:Nat) (a:dA):dA ⊕ (Int×dA):=bif(yaK a (nth a.2.2.2.2.2.2.2.2.1 0 (0,[])).1).1 !=0 then .inr (yaK a (nth a.2.2.2.2.2.2.2.2.1 0 (0,[])).1)else .inl (yaK a (nth a.2.2.2.2.2.2.2.2.1 0 (0,[])).1).2
def yHA (a:dA):Int×dA:=goE yh0 (fun b=>(0,b)) a.2.2.2.2.2.2.2.2.1.length 0 a
theorem y4j {e:dW} {l:List dW}:yam (e::l) e.1=0:=by
 unfold yam;rw[yCT,show(e.1==e.1)=true from beq_self_eq_true _]; rfl
theorem y4k {a:dA} (h:0<a.2.2.2.2.2.2.2.2.1.length) (h0:(yaK a (nth a.2.2.2.2.2.2.2.2.1 0 (0,[])).1).1=0):(yaK a (nth a.2.2.2.2.2.2.2.2.1 0 (0,[])).1).2.2.2.2.2.2.2.2.2.1=a.2.2.2.2.2.2.2.2.1.drop 1:=by
 unfold yaK at h0 ⊢
 have hk:yam a.2.2.2.2.2.2.2.2.1 (nth a.2.2.2.2.2.2.2.2.1 0 (0,[])).1=0:=by
  cases hl:a.2.2.2.2.2.2.2.2.1 with
  | nil=>rw[hl]at h; exact absurd h (Nat.lt_irrefl 0)
  | cons e l=>exact y4j
 rw[hk]at h0 ⊢;generalize (nth a.2.2.2.2.2.2.2.2.1 0 (0,[])).2=D at h0 ⊢;generalize (nth a.2.2.2.2.2.2.2.2.1 0 (0,[])).1=s at h0 ⊢;cases hc:(yap a s D !=0)
 ·rw[hc]at h0
  cases hr:((yN a s D).1==0)
  ·rw[hr]at h0
   exact absurd (show(yN a s D).1=0 from h0) (beq_eq_false_iff_ne.1 hr)
  ·rfl
 ·rw[hc]at h0
  exact absurd (show yap a s D=0 from h0) (bne_iff_ne.1 hc)
def y1W (g:dG) (e:dW):Prop:=(0≤e.1∧e.1≤g.2-1)∧(e.2.length:Int)=g.1-1∧e.2.all isW=true
theorem yy5 {g:dG} {l:List dW}:ya2 g l=true↔(∀e∈l,y1W g e)∧l.Pairwise (fun x y=>x.1<y.1):=by
 have bad: ∀i,yh3 g l i=false↔y1W g (nth l i (0,[]))∧(0<i→(nth l ((i-1:Nat):Int) (0,[])).1<(nth l i (0,[])).1):=by
  intro i;unfold yh3 y1W;simp only[Bool.or_eq_false_iff,Bool.not_eq_false',bne_eq_false_iff_eq,Bool.and_eq_true,Bool.and_eq_false_iff,decide_eq_false_iff_not,zj7];constructor
  ·rintro⟨h1,h2,h3,h4⟩
   refine⟨⟨h1,h2,h3⟩,fun h0=> ?_⟩;rcases h4 with h4 | h4
   ·exact absurd h0 h4
   ·have:=mt zk2 (by rw[h4]; simp: ¬leb (nth l i (0,[])).1 (nth l ((i-1:Nat):Int) (0,[])).1=true)
    omega
  ·rintro⟨⟨h1,h2,h3⟩,h4⟩
   refine⟨h1,h2,h3,?_⟩;by_cases h0:0<i
   ·exact .inr (zk1 (by have:=h4 h0; omega))
   ·exact .inl h0
 unfold ya2;simp only[Bool.not_eq_true',List.any_eq_false,List.mem_range,Bool.not_eq_true,bad];constructor
 ·intro h
  refine⟨fun e he=> ?_,?_⟩
  ·obtain⟨i,hi,rfl⟩:=List.getElem_of_mem he
   have:=(h i hi).1;rwa[zkS,zkJ hi]at this
  ·rw[List.pairwise_iff_getElem]
   have step: ∀(d i:Nat) (hi:i<l.length) (hj:i+d+1<l.length),l[i].1<l[i+d+1].1:=by
    intro d
    induction d with
    | zero =>
     intro i hi hj;have:=(h (i+1) hj).2 (by omega);rwa[Nat.add_sub_cancel,zkS,zkS,zkJ hi,zkJ hj]at this
    | succ d ih =>
     intro i hi hj;have h1:=ih i hi (by omega);have:=(h (i+d+1+1) hj).2 (by omega);rw[Nat.add_sub_cancel,zkS,zkS,zkJ (show i+d+1<l.length by omega),zkJ (show i+d+1+1<l.length from hj)]at this;exact Int.lt_trans h1 this
   intro i j hi hj hij;have:=step (j-i-1) i hi (by omega);have e:i+(j-i-1)+1=j:=by omega
   simp only[e]at this;exact this
 ·rintro⟨h1,h2⟩ i hi
  rw[List.pairwise_iff_getElem]at h2;refine⟨by rw[zkS,zkJ hi]; exact h1 _ (List.getElem_mem hi),fun h0=> ?_⟩;rw[zkS,zkS,zkJ hi,zkJ (show i-1<l.length by omega)];exact h2 (i-1) i (by omega) hi (by omega)
theorem yZO {g:dG} {l:List dW} (k:Nat) (h:ya2 g l=true):ya2 g (yM7 l k)=true:=by
 rw[yy5]at h ⊢
 have hs:(yM7 l k).Sublist l:=by
  unfold yM7;have:(l.take k++l.drop (k+1)).Sublist (l.take k++l.drop k):=List.Sublist.append_left (by rw[← List.drop_drop]; exact List.drop_sublist _ _) _;rwa[List.take_append_drop]at this
 exact⟨fun e he=>h.1 e (hs.subset he),h.2.sublist hs⟩
theorem y24 (e:dW): ∀(l acc:List dW),l.foldl (ycP e) (true,acc)=(true,acc++l.filter (fun x=>x.1 !=e.1))
 | [],acc=>by simp
 | x::t,acc=>by
  rw[List.foldl_cons];have:ycP e (true,acc) x=(true,acc++(bif x.1 !=e.1 then[x]else[])):=rfl;rw[this,y24 e t,List.filter_cons];cases x.1 !=e.1<;>simp
theorem y49 {e:dW} {l:List dW} (h:l.Pairwise (fun x y=>x.1<y.1)):yMI l e=l.filter (fun x=>ltb x.1 e.1)++e::l.filter (fun x=>ltb e.1 x.1):=by
 have: ∀(l acc:List dW),l.Pairwise (fun x y=>x.1<y.1)→(bif(l.foldl (ycP e) (false,acc)).1 then(l.foldl (ycP e) (false,acc)).2 else(l.foldl (ycP e) (false,acc)).2++ [e])=acc++(l.filter (fun x=>ltb x.1 e.1)++e::l.filter (fun x=>ltb e.1 x.1)):=by
  intro l
  induction l with
  | nil=>intro acc _; simp
  | cons x t ih =>
   intro acc h;obtain⟨hx,ht⟩:=List.pairwise_cons.1 h;rw[List.foldl_cons];by_cases hle:e.1≤x.1
   ·have h1:ycP e (false,acc) x=(true,(acc++ [e])++(bif x.1 !=e.1 then[x]else[])):=by
     unfold ycP; rw[zk2 hle]; rfl
    have h2:t.filter (fun x=>x.1 !=e.1)=t:=List.filter_eq_self.2 (fun y hy=>bne_iff_ne.2 (by have:=hx y hy; omega));have h3:t.filter (fun x=>ltb x.1 e.1)= []:=List.filter_eq_nil_iff.2 (fun y hy=>by rw[zk3 (by have:=hx y hy; omega)]; simp);have h4:t.filter (fun x=>ltb e.1 x.1)=t:=List.filter_eq_self.2 (fun y hy=>zky (by have:=hx y hy; omega));rw[h1,y24,h2,List.filter_cons,List.filter_cons,h3,h4,zk3 (show e.1≤x.1 by omega)];by_cases he:x.1=e.1
    ·rw[show(x.1 !=e.1)=false from bne_eq_false_iff_eq.2 he,zk3 (show x.1≤e.1 by omega)]; simp
    ·rw[show(x.1 !=e.1)=true from bne_iff_ne.2 he,zky (show e.1<x.1 by omega)]; simp
   ·have h1:ycP e (false,acc) x=(false,acc++ [x]):=by
     unfold ycP; rw[zk1 (show x.1<e.1 by omega),show(x.1 !=e.1)=true from bne_iff_ne.2 (by omega)]; rfl
    rw[h1,ih _ ht,List.filter_cons,List.filter_cons,zky (show x.1<e.1 by omega),zk3 (show x.1≤e.1 by omega)];simp
 have:=this l [] h;rw[List.nil_append]at this;exact this
theorem yZP {g:dG} {l:List dW} {e:dW} (h:ya2 g l=true) (he:y1W g e):ya2 g (yMI l e)=true:=by
 rw[yy5]at h ⊢;rw[y49 h.2];refine⟨fun x hx=> ?_,?_⟩
 ·rcases List.mem_append.1 hx with h1 | h1
  ·exact h.1 x (List.mem_filter.1 h1).1
  ·rcases List.mem_cons.1 h1 with rfl | h1
   ·exact he
   ·exact h.1 x (List.mem_filter.1 h1).1
 ·rw[List.pairwise_append,List.pairwise_cons]
  refine⟨h.2.filter _,⟨fun y hy=>zka.1 (List.mem_filter.1 hy).2,h.2.filter _⟩,fun x hx y hy=> ?_⟩;have h1:=zka.1 (List.mem_filter.1 hx).2;rcases List.mem_cons.1 hy with rfl | hy
  ·exact h1
  ·exact Int.lt_trans h1 (zka.1 (List.mem_filter.1 hy).2)
theorem yn4 {g:dG} {l:List dW} (h:ya2 g l=true) (hg:ye g=true):l.length≤8:=by
 rw[yy5]at h;have hg:=yj.1 hg
 have:=yXL (l:=l.map (fun e=>e.1)) (lo:=0) (n:=g.2) (by rw[List.pairwise_map]; exact h.2) (fun x hx=>by
  obtain⟨e,he,rfl⟩:=List.mem_map.1 hx
  have:=(h.1 e he).1; omega) (by omega)
 rw[List.length_map]at this;omega
def y0y:Code:=(f207.body).getD .skip
def y06:Env:=zkw TT [(162,yIg)] []
theorem yQT:FrOk prog ⟨y06,18,fun _=>none⟩ y0y:=zkA mixed yf ⟨y1Q,trivial⟩
abbrev yrr:List Par:= [.rd tN]
abbrev yAP:List OT:= [⟨false,tL,oG⟩]
def yvM (a0:dN):Option (zaY yAP×zak yrr) :=let r1:=y9 a0;bif(!r1)then some ((([]:List Int),()),()) else bif(zkl ([21322,a0.1,a0.2.1,(a0.2.2.length:Int)]:List Int).length a0.2.2.length 8)then some (((([21322,a0.1,a0.2.1,(a0.2.2.length:Int)]:List Int)++a0.2.2),()),()) else none
theorem yV6:ConOk prog 207 ⟨yrr,yAP,fun x=>yvM x.1⟩:=zkI (yQT) func207 ntmps207.symm fun x=>by kernel_rfl
def yl9 (a0:dN):List Int:=yaf a0
theorem yYu (a0:dN) (hk:zjx yrr (a0,())):yvM a0=(fun n=>some ((n,()),())) (yl9 a0):=by
 unfold yvM yl9 yaf;cases hr:y9 a0
 ·rfl
 ·have:=(yte.1 hr).2.2.1
  rw[zkF.2 (show(([21322,a0.1,a0.2.1,(a0.2.2.length:Int)]:List Int).length+a0.2.2.length)*8≤140737488355328 by simp only[List.length_cons,List.length_nil]; omega)]; rfl
def yGq:Con:=⟨yrr,yAP,fun x=>(fun n=>some ((n,()),())) (yl9 x.1)⟩
theorem yZf:ConOk prog 207 yGq:=(yV6).mono (fun x r hk h=>(yYu x.1 hk).trans h)
def ytr:Code:=(f169.body).getD .skip
def yDp:Env:=zkw TT [(91,yGr),(206,ykv),(207,yGq),(208,ynw)] []
theorem yUU:FrOk prog ⟨yDp,24,fun _=>none⟩ ytr:=zkA mixed yf ⟨yZg,yrG,yZf,yx4,trivial⟩
def yH0:Nat→Option Seg:=fun _=>none
def ydK:Shape:=⟨[(0,false,[.ptr 1000000000 0]),(3,false,[.ptr 0 0]),(4,false,[ii])],[(0,[ii,ii,.br tI]),(1000000000,oI)],[(800000000,tM,oC),(800000001,tW,oF)]⟩
def yiP:Shape:=⟨[(0,false,[.ptr 1000000000 0]),(3,false,[.ptr 0 0]),(4,false,[.ci .i64 0])],[(0,[ii,ii,.br tI]),(1000000000,oI)],[(800000000,tM,oC),(800000001,tW,oF)]⟩
def yiA:Shape:=⟨[(0,false,[.ptr 1000000000 0])],[(1000000000,oI)],[(800000000,tM,oC),(800000001,tW,oF)]⟩
def ynm:Shape:=⟨[],[],[]⟩
abbrev ysm (v0:Int) (v1:dN) (v2:dA):(ydK).X:=((((),()),((),()),(v0,()),()),((v1.1,v1.2.1,v1.2.2,()),(v2.1,v2.2.1.1,v2.2.1.2,(),v2.2.2.2.1,v2.2.2.2.2.1,v2.2.2.2.2.2.1,v2.2.2.2.2.2.2.1,v2.2.2.2.2.2.2.2.1,(),v2.2.2.2.2.2.2.2.2.2.1,v2.2.2.2.2.2.2.2.2.2.2.1,v2.2.2.2.2.2.2.2.2.2.2.2,()),()),(v2.2.2.1,v2.2.2.2.2.2.2.2.2.1,()))
abbrev yRI (v0:dN) (v1:dA):(yiP).X:=((((),()),((),()),((),()),()),((v0.1,v0.2.1,v0.2.2,()),(v1.1,v1.2.1.1,v1.2.1.2,(),v1.2.2.2.1,v1.2.2.2.2.1,v1.2.2.2.2.2.1,v1.2.2.2.2.2.2.1,v1.2.2.2.2.2.2.2.1,(),v1.2.2.2.2.2.2.2.2.2.1,v1.2.2.2.2.2.2.2.2.2.2.1,v1.2.2.2.2.2.2.2.2.2.2.2,()),()),(v1.2.2.1,v1.2.2.2.2.2.2.2.2.1,()))
abbrev yE6 (v0:dA):(yiA).X:=((((),()),()),((v0.1,v0.2.1.1,v0.2.1.2,(),v0.2.2.2.1,v0.2.2.2.2.1,v0.2.2.2.2.2.1,v0.2.2.2.2.2.2.1,v0.2.2.2.2.2.2.2.1,(),v0.2.2.2.2.2.2.2.2.2.1,v0.2.2.2.2.2.2.2.2.2.2.1,v0.2.2.2.2.2.2.2.2.2.2.2,()),()),(v0.2.2.1,v0.2.2.2.2.2.2.2.2.1,()))
def ysW (v0 v1 v2:Int) (v3:List Int) (v4 v5 v6 v7 v8 v9 v10 v11 v12:Int) (v13 v14:Bool) (v15:List dM) (v16:List dW):Option ((ydK).X ⊕ ((yiA).X ⊕ (ynm).X)) :=bif(ltb v0 (v15.length:Int))then let r4:=yg v1;let r5:=yl9 (v1,v2,v3);bnd (yfD (v4,(v5,v6),v15,v7,v8,v9,v10,v11,v16,v12,v13,v14) v0 r4 r5) fun r6 =>some (.inl ((((),()),((),()),((i64.wrap (v0+1)),()),()),((v1,v2,v3,()),(r6.2.1.1,r6.2.1.2.1.1,r6.2.1.2.1.2,(),r6.2.1.2.2.2.1,r6.2.1.2.2.2.2.1,r6.2.1.2.2.2.2.2.1,r6.2.1.2.2.2.2.2.2.1,r6.2.1.2.2.2.2.2.2.2.1,(),r6.2.1.2.2.2.2.2.2.2.2.2.1,r6.2.1.2.2.2.2.2.2.2.2.2.2.1,r6.2.1.2.2.2.2.2.2.2.2.2.2.2,()),()),(r6.2.1.2.2.1,r6.2.1.2.2.2.2.2.2.2.2.1,()))) else some (.inr (.inl ((((),()),()),((v4,v5,v6,(),v7,v8,v9,v10,v11,(),v12,v13,v14,()),()),(v15,v16,()))))
def yek (x:(ydK).X):=ysW x.1.2.2.1.1 x.2.1.1.1 x.2.1.1.2.1 x.2.1.1.2.2.1 x.2.1.2.1.1 x.2.1.2.1.2.1 x.2.1.2.1.2.2.1 x.2.1.2.1.2.2.2.2.1 x.2.1.2.1.2.2.2.2.2.1 x.2.1.2.1.2.2.2.2.2.2.1 x.2.1.2.1.2.2.2.2.2.2.2.1 x.2.1.2.1.2.2.2.2.2.2.2.2.1 x.2.1.2.1.2.2.2.2.2.2.2.2.2.2.1 x.2.1.2.1.2.2.2.2.2.2.2.2.2.2.2.1 x.2.1.2.1.2.2.2.2.2.2.2.2.2.2.2.2.1 x.2.2.1 x.2.2.2.1
def yEG (x:(yiP).X):(ydK).X:=((((),()),((),()),(0,()),()),((x.2.1.1.1,x.2.1.1.2.1,x.2.1.1.2.2.1,()),(x.2.1.2.1.1,x.2.1.2.1.2.1,x.2.1.2.1.2.2.1,(),x.2.1.2.1.2.2.2.2.1,x.2.1.2.1.2.2.2.2.2.1,x.2.1.2.1.2.2.2.2.2.2.1,x.2.1.2.1.2.2.2.2.2.2.2.1,x.2.1.2.1.2.2.2.2.2.2.2.2.1,(),x.2.1.2.1.2.2.2.2.2.2.2.2.2.2.1,x.2.1.2.1.2.2.2.2.2.2.2.2.2.2.2.1,x.2.1.2.1.2.2.2.2.2.2.2.2.2.2.2.2.1,()),()),(x.2.2.1,x.2.2.2.1,()))
def yGf:Code:=(zd7 ytr 64 52).getD .skip
theorem yUc:zd7 ytr 64 13=some (.block 0 (.loop yGf)):=by kernel_rfl
theorem yWT (x:(ydK).X):zhu ⟨yDp,24,yH0⟩ 0 yGf 52 ydK yiA ynm x=yek x:=by kernel_rfl
def yEX (x:(yiP).X):Nat:=18446744073709551616
def ytV (x:(yiP).X):Option ((yiA).X ⊕ (ynm).X):=zF yek (yEX x) (yEG x)
def yFD:Seg:=⟨yiP,yiA,ynm,ytV⟩
def yXq:Nat→Option Seg:=fun q=>bif Nat.beq q 13 then some yFD else yH0 q
theorem yUV:FrOk prog ⟨yDp,24,yXq⟩ ytr:=(yUU).loop (sg:=yFD) ydK yEG (by decide) yUc yek yEX (by decide) (fun _=>rfl) (fun x r _ h=>h) yWT
abbrev yug:List Par:= [.pt tA oB,.rd tN]
abbrev yDV:List OT:= []
def yyn (a0:dA) (a1:dN):Option (zaY yDV×zak yug) :=zkt (ytV ((((),()),((),()),((),()),()),((a1.1,a1.2.1,a1.2.2,()),(a0.1,a0.2.1.1,a0.2.1.2,(),a0.2.2.2.1,a0.2.2.2.2.1,a0.2.2.2.2.2.1,a0.2.2.2.2.2.2.1,a0.2.2.2.2.2.2.2.1,(),a0.2.2.2.2.2.2.2.2.2.1,a0.2.2.2.2.2.2.2.2.2.2.1,a0.2.2.2.2.2.2.2.2.2.2.2,()),()),(a0.2.2.1,a0.2.2.2.2.2.2.2.2.1,()))) (fun y6 =>let r8:=yer (y6.2.1.1.1,(y6.2.1.1.2.1,y6.2.1.1.2.2.1),y6.2.2.1,y6.2.1.1.2.2.2.2.1,y6.2.1.1.2.2.2.2.2.1,y6.2.1.1.2.2.2.2.2.2.1,y6.2.1.1.2.2.2.2.2.2.2.1,y6.2.1.1.2.2.2.2.2.2.2.2.1,y6.2.2.2.1,y6.2.1.1.2.2.2.2.2.2.2.2.2.2.1,y6.2.1.1.2.2.2.2.2.2.2.2.2.2.2.1,y6.2.1.1.2.2.2.2.2.2.2.2.2.2.2.2.1);some ((),(r8,()))) (fun y6 =>none)
theorem yY3:ConOk prog 169 ⟨yug,yDV,fun x=>yyn x.1 x.2.1⟩:=zkI (yUV) func169 ntmps169.symm fun x=>by kernel_rfl
def ykM (a0:dA) (a1:dN):dA:=yr a0 a1
theorem y1E (a0:dA) (a1:dN) (hk:zjx yug (a0,a1,())):yyn a0 a1=(fun n=>some ((),(n,()))) (ykM a0 a1):=by
 have hb:a0.2.2.1.length*80≤2^47:=hk.1.2.2.1.1
 have h1:ytV (yRI a1 a0)=some (.inl (yE6 ((List.range a0.2.2.1.length).foldl (ybd a1) a0))) :=
  zkD (step:=yek) a0.2.2.1.length (fun i s=>ysm i a1 s) (ybd a1) (fun _ s=>s.2.2.1.length=a0.2.2.1.length) (fun s=> .inl (yE6 s)) (fun i s hi hs=>⟨by
   simp only[yek,ysm,ysW,hs,zky (show(i:Int)<a0.2.2.1.length by omega),cond_true,wq ((i:Int)+1) (by omega) (by omega),Int.natCast_add,Int.natCast_one,Int.toNat_natCast,zkX,yl9];rw[ymf s i (yg a1.1) (yaf a1) (zkR (by rw[hs]; exact hi))]
   rfl,(ylI a1 s i).trans hs⟩) (fun s hs=>by simp only[yek,ysm,ysW,hs,zk3 (Int.le_refl _),cond_false]) a0 rfl _ (by show _<18446744073709551616; omega)
 unfold yyn ykM yr;exact(congrArg (fun z=>zkt z _ _) h1).trans rfl
def yIi:Con:=⟨yug,yDV,fun x=>(fun n=>some ((),(n,()))) (ykM x.1 x.2.1)⟩
theorem y1S:ConOk prog 169 yIi:=(yY3).mono (fun x r hk h=>(y1E x.1 x.2.1 hk).trans h)
def yTx:Code:=(f229.body).getD .skip
def yTY:Env:=zkw TT [(82,yP),(150,ygM)] []
theorem yLS:FrOk prog ⟨yTY,14,fun _=>none⟩ yTx:=zkA mixed yf ⟨yaa,ymd,trivial⟩
abbrev yuf:List Par:= [.rd tG,.rd tI]
abbrev yuD:List OT:= [⟨false,tB,.fz⟩]
def yCC (a0:dG) (a1:Int):Option (zaY yuD×zak yuf) :=let r1:=ye a0;bif r1 then let r2:=yb a1 0 (i64.wrap (a0.2-1));some ((r2,()),()) else some ((false,()),())
theorem yPg:ConOk prog 229 ⟨yuf,yuD,fun x=>yCC x.1 x.2.1⟩:=zkI (yLS) func229 ntmps229.symm fun x=>by kernel_rfl
def yfP (a0:dG) (a1:Int):Bool :=let r1:=ye a0;bif r1 then let r2:=yb a1 0 (i64.wrap (a0.2-1));r2 else false
def yqb:Con:=⟨yuf,yuD,fun x=>(fun n=>some ((n,()),())) (yfP x.1 x.2.1)⟩
theorem ySf (a0:dG) (a1:Int):yCC a0 a1=(fun n=>some ((n,()),())) (yfP a0 a1):=zkV (p:=fun(n:Bool)=>((n,()),())) (zkG (p:=fun(n:Bool)=>((n,()),())) rfl rfl)
theorem yFh:ConOk prog 229 yqb:=(yPg).mono (fun x r _ h=>(ySf x.1 x.2.1).trans h)
theorem yPN (g:dG) (s:Int):yfP g s=yaj g s:=by
 unfold yfP yaj;cases hg:ye g
 ·rfl
 have:=yj.1 hg;rw[ybX,wr (by omega) (by omega)]; rfl
def yTs:Code:=(f209.body).getD .skip
def yTT:Env:=zkw TT [(229,yqb)] []
theorem yLL:FrOk prog ⟨yTT,17,fun _=>none⟩ yTs:=zkA mixed yf ⟨yFh,trivial⟩
abbrev ym8:List Par:= [.rd tG,.rd tI]
abbrev yuy:List OT:= [⟨false,tI,.fz⟩]
def yqB (a0:dG) (a1:Int):Option (zaY yuy×zak ym8) :=let r1:=yfP a0 a1;bif(!r1)then some (((-1),()),()) else bif(a0.1 !=0)then some (((i64.wrap ((i64.wrap (a0.1-1))-(a1.tmod a0.1))),()),()) else none
theorem yPa:ConOk prog 209 ⟨ym8,yuy,fun x=>yqB x.1 x.2.1⟩:=zkI (yLL) func209 ntmps209.symm fun x=>by kernel_rfl
def yd0 (a0:dG) (a1:Int):Int:=yk a0 a1
theorem yR9 (a0:dG) (a1:Int) (hk:zjx ym8 (a0,a1,())):yqB a0 a1=(fun n=>some ((n,()),())) (yd0 a0 a1):=by
 unfold yqB yd0;rw[yPN];cases hs:yaj a0 a1
 ·unfold yk; rw[hs]; rfl
 ·have h1:=yad.1 hs
  have h2:=yj.1 h1.1;have h3:=yk6 hs;have h4:yk a0 a1=a0.1-1-a1.tmod a0.1:=by unfold yk; rw[hs]; rfl
  rw[show(a0.1 !=0)=true from bne_iff_ne.2 (by omega),wq (a0.1-1) (by omega) (by omega),wq (a0.1-1-a1.tmod a0.1) (by omega) (by omega),h4]; rfl
def yp9:Con:=⟨ym8,yuy,fun x=>(fun n=>some ((n,()),())) (yd0 x.1 x.2.1)⟩
theorem yFf:ConOk prog 209 yp9:=(yPa).mono (fun x r hk h=>(yR9 x.1 x.2.1 hk).trans h)
def yto:Code:=(f230.body).getD .skip
def yDm:Env:=zkw TT [] []
theorem yUL:FrOk prog ⟨yDm,18,fun _=>none⟩ yto:=zkA mixed yf trivial
def yHX:Nat→Option Seg:=fun _=>none
def ydH:Shape:=⟨[(0,false,[.br tI]),(3,false,[ii]),(4,false,[ii])],[],[]⟩
def yiM:Shape:=⟨[(0,false,[.br tI]),(3,false,[.ci .i64 0]),(4,false,[.ci .i64 0])],[],[]⟩
def yix:Shape:=⟨[(3,false,[ii])],[],[]⟩
def ynj:Shape:=⟨[],[],[]⟩
abbrev ysj (v0:List Int) (v1 v2:Int):(ydH).X:=(((v0,()),(v1,()),(v2,()),()),(),())
abbrev yRF (v0:List Int):(yiM).X:=(((v0,()),((),()),((),()),()),(),())
abbrev yE4 (v0:Int):(yix).X:=(((v0,()),()),(),())
def ysT (v0:List Int) (v1 v2:Int):Option ((ydH).X ⊕ ((yix).X ⊕ (ynj).X)) :=bif(ltb v2 (v0.length:Int))then bif(inb v2 v0.length)then some (.inl (((v0,()),((i64.wrap ((BitVec.ofInt IntKind.i64.bits v1 ^^^ BitVec.ofInt IntKind.i64.bits (nth v0 v2 0)).toNat:Int)),()),((i64.wrap (v2+1)),()),()),(),())) else none else some (.inr (.inl (((v1,()),()),(),())))
def yeh (x:(ydH).X):=ysT x.1.1.1 x.1.2.1.1 x.1.2.2.1.1
def yEC (x:(yiM).X):(ydH).X:=(((x.1.1.1,()),(0,()),(0,()),()),(),())
def yGb:Code:=(zd7 yto 64 116).getD .skip
theorem yT8:zd7 yto 64 29=some (.block 0 (.loop yGb)):=by kernel_rfl
theorem yWP (x:(ydH).X):zhu ⟨yDm,18,yHX⟩ 0 yGb 116 ydH yix ynj x=yeh x:=by kernel_rfl
def yET (x:(yiM).X):Nat:=18446744073709551616
def ytR (x:(yiM).X):Option ((yix).X ⊕ (ynj).X):=zF yeh (yET x) (yEC x)
def yFz:Seg:=⟨yiM,yix,ynj,ytR⟩
def yXn:Nat→Option Seg:=fun q=>bif Nat.beq q 29 then some yFz else yHX q
theorem yUM:FrOk prog ⟨yDm,18,yXn⟩ yto:=(yUL).loop (sg:=yFz) ydH yEC (by decide) yT8 yeh yET (by decide) (fun _=>rfl) (fun x r _ h=>h) yWP
abbrev yuc:List Par:= [.rd tL]
abbrev yDQ:List OT:= [⟨false,tI,.fz⟩]
def yyk (a0:List Int):Option (zaY yDQ×zak yuc) :=zkt (ytR (((a0,()),((),()),((),()),()),(),())) (fun y0 =>some ((y0.1.1.1,()),())) (fun y0 =>none)
theorem yYX:ConOk prog 230 ⟨yuc,yDQ,fun x=>yyk x.1⟩:=zkI (yUM) func230 ntmps230.symm fun x=>by kernel_rfl
def ykJ (a0:List Int):Int:=yaF a0
theorem y1A (a0:List Int) (hk:zjx yuc (a0,())):yyk a0=(fun n=>some ((n,()),())) (ykJ a0):=by
 have hb:a0.length*8≤2^47:=hk.1.1
 have h1:ytR (yRF a0)=some (.inl (yE4 (yaF a0))) :=
  zkx (step:=yeh) a0 0 (fun i s=>ysj a0 s i) xw (fun _ _=>True) (fun s=> .inl (yE4 s)) (fun i s hi _=>⟨by
   simp only[yeh,ysj,ysT,zky (show(i:Int)<a0.length by omega),cond_true,wq ((i:Int)+1) (by omega) (by omega),Int.natCast_add,Int.natCast_one,Int.toNat_natCast,zkR hi,zkS]; rfl,trivial⟩) (fun s _=>by simp only[yeh,ysj,ysT,zk3 (Int.le_refl _),cond_false]) 0 trivial _ (by show _<18446744073709551616; omega)
 unfold yyk ykJ;rw[h1]; rfl
def yIh:Con:=⟨yuc,yDQ,fun x=>(fun n=>some ((n,()),())) (ykJ x.1)⟩
theorem y1R:ConOk prog 230 yIh:=(yYX).mono (fun x r hk h=>(y1A x.1 hk).trans h)
def yNl:Code:=(f210.body).getD .skip
def yNz:Env:=zkw TT [(230,yIh)] []
theorem yJc:FrOk prog ⟨yNz,5,fun _=>none⟩ yNl:=zkA mixed yf ⟨y1R,trivial⟩
abbrev yp3:List Par:= [.rd tL]
abbrev yp6:List OT:= [⟨false,tI,.fz⟩]
def ywJ (a0:List Int):Option (zaY yp6×zak yp3) :=let r1:=ykJ a0;some ((r1,()),())
theorem yKI:ConOk prog 210 ⟨yp3,yp6,fun x=>ywJ x.1⟩:=zkI (yJc) func210 ntmps210.symm fun x=>by kernel_rfl
def yjZ (a0:List Int):Int :=let r1:=ykJ a0;r1
def ywe:Con:=⟨yp3,yp6,fun x=>(fun n=>some ((n,()),())) (yjZ x.1)⟩
theorem yMu (a0:List Int):ywJ a0=(fun n=>some ((n,()),())) (yjZ a0):=zkV (p:=fun(n:Int)=>((n,()),())) rfl
theorem yME:ConOk prog 210 ywe:=(yKI).mono (fun x r _ h=>(yMu x.1).trans h)
def y0x:Code:=(f211.body).getD .skip
def y05:Env:=zkw TT [(82,yP)] []
theorem yQQ:FrOk prog ⟨y05,34,fun _=>none⟩ y0x:=zkA mixed yf ⟨yaa,trivial⟩
abbrev yrp:List Par:= [.rd tA,.rd tI,.rd tI]
abbrev yAN:List OT:= [⟨false,tB,.fz⟩]
def yvK (a0:dA) (a1 a2:Int):Option (zaY yAN×zak yrp) :=let r1:=yb a1 0 (i64.wrap ((a0.2.2.1.length:Int)-1));bif r1 then bif(inb a1 a0.2.2.1.length)then bif(!((((nth a0.2.2.1 a1 ([],[],false,[])).2).2).1))then bif(!(a1 !=a0.2.2.2.1))then some (((ltb a2 a0.2.2.2.2.1),()),()) else some ((true,()),()) else some ((false,()),()) else none else some ((false,()),())
theorem yV4:ConOk prog 211 ⟨yrp,yAN,fun x=>yvK x.1 x.2.1 x.2.2.1⟩:=zkI (yQQ) func211 ntmps211.symm fun x=>by kernel_rfl
def yep (a0:dA) (a1 a2:Int):Bool:=ycL a0 a1 a2
theorem yYs (a0:dA) (a1 a2:Int) (hk:zjx yrp (a0,a1,a2,())):yvK a0 a1 a2=(fun n=>some ((n,()),())) (yep a0 a1 a2):=by
 have hb:a0.2.2.1.length*80≤2^47:=hk.1.2.2.1.1;unfold yvK yep ycL yc;rw[yoa (show a0.2.2.1.length≤1152921504606846976 by omega)];cases inb a1 a0.2.2.1.length
 ·rfl
 ·cases(nth a0.2.2.1 a1 ([],[],false,[])).2.2.1<;>cases(a1 !=a0.2.2.2.1)<;>rfl
def yuX:Con:=⟨yrp,yAN,fun x=>(fun n=>some ((n,()),())) (yep x.1 x.2.1 x.2.2.1)⟩
theorem yIF:ConOk prog 211 yuX:=(yV4).mono (fun x r hk h=>(yYs x.1 x.2.1 x.2.2.1 hk).trans h)
def yrd:Code:=(f170.body).getD .skip
def yz6:Env:=zkw TT [(113,yfM),(206,ykv),(209,yp9),(210,ywe),(211,yuX)] []
theorem yRd:FrOk prog ⟨yz6,61,fun _=>none⟩ yrd:=zkA mixed yf ⟨ykS,yrG,yFf,yME,yIF,trivial⟩
def yFX:Nat→Option Seg:=fun _=>none
def ydJ:Shape:=⟨[(0,false,[.ptr 1000000000 0]),(1,false,[ii]),(2,false,[.br tI]),(6,false,[ii]),(7,false,[ii])],[(1000000000,oI)],[(800000000,tM,oC),(800000001,tW,oF)]⟩
def yiO:Shape:=⟨[(0,false,[.ptr 1000000000 0]),(1,false,[ii]),(2,false,[.br tI]),(6,false,[ii]),(7,false,[.ci .i64 0])],[(1000000000,oI)],[(800000000,tM,oC),(800000001,tW,oF)]⟩
def yiz:Shape:=⟨[],[(1000000000,oI)],[(800000000,tM,oC),(800000001,tW,oF)]⟩
def ynl:Shape:=⟨[],[],[]⟩
abbrev ysl (v0:Int) (v1:List Int) (v2 v3:Int) (v4:dA):(ydJ).X:=((((),()),(v0,()),(v1,()),(v2,()),(v3,()),()),((v4.1,v4.2.1.1,v4.2.1.2,(),v4.2.2.2.1,v4.2.2.2.2.1,v4.2.2.2.2.2.1,v4.2.2.2.2.2.2.1,v4.2.2.2.2.2.2.2.1,(),v4.2.2.2.2.2.2.2.2.2.1,v4.2.2.2.2.2.2.2.2.2.2.1,v4.2.2.2.2.2.2.2.2.2.2.2,()),()),(v4.2.2.1,v4.2.2.2.2.2.2.2.2.1,()))
abbrev yRH (v0:Int) (v1:List Int) (v2:Int) (v3:dA):(yiO).X:=((((),()),(v0,()),(v1,()),(v2,()),((),()),()),((v3.1,v3.2.1.1,v3.2.1.2,(),v3.2.2.2.1,v3.2.2.2.2.1,v3.2.2.2.2.2.1,v3.2.2.2.2.2.2.1,v3.2.2.2.2.2.2.2.1,(),v3.2.2.2.2.2.2.2.2.2.1,v3.2.2.2.2.2.2.2.2.2.2.1,v3.2.2.2.2.2.2.2.2.2.2.2,()),()),(v3.2.2.1,v3.2.2.2.2.2.2.2.2.1,()))
abbrev yE5 (v0:dA):(yiz).X:=((),((v0.1,v0.2.1.1,v0.2.1.2,(),v0.2.2.2.1,v0.2.2.2.2.1,v0.2.2.2.2.2.1,v0.2.2.2.2.2.2.1,v0.2.2.2.2.2.2.2.1,(),v0.2.2.2.2.2.2.2.2.2.1,v0.2.2.2.2.2.2.2.2.2.2.1,v0.2.2.2.2.2.2.2.2.2.2.2,()),()),(v0.2.2.1,v0.2.2.2.2.2.2.2.2.1,()))
def ysV (v0:Int) (v1:List Int) (v2 v3 v4 v5 v6 v7 v8 v9 v10 v11 v12:Int) (v13 v14:Bool) (v15:List dM) (v16:List dW):Option ((ydJ).X ⊕ ((yiz).X ⊕ (ynl).X)) :=bif(ltb v3 (v15.length:Int))then let r9:=yjZ v1;bif(v3 !=v2)then bif(v5 !=0)then bif(inb ((i64.wrap ((i64.wrap ((i64.wrap (v3-v2))-1))+v5)).tmod v5) v1.length)then let r10:=yep (v4,(v5,v6),v15,v7,v8,v9,v10,v11,v16,v12,v13,v14) v3 v0;bif r10 then let r11:=ybU v0;bnd (yfD (v4,(v5,v6),v15,v7,v8,v9,v10,v11,v16,v12,v13,v14) v3 r11 ([(nth v1 ((i64.wrap ((i64.wrap ((i64.wrap (v3-v2))-1))+v5)).tmod v5) 0)]:List Int)) fun r12 =>some (.inl ((((),()),(v0,()),(v1,()),(v2,()),((i64.wrap (v3+1)),()),()),((r12.2.1.1,r12.2.1.2.1.1,r12.2.1.2.1.2,(),r12.2.1.2.2.2.1,r12.2.1.2.2.2.2.1,r12.2.1.2.2.2.2.2.1,r12.2.1.2.2.2.2.2.2.1,r12.2.1.2.2.2.2.2.2.2.1,(),r12.2.1.2.2.2.2.2.2.2.2.2.1,r12.2.1.2.2.2.2.2.2.2.2.2.2.1,r12.2.1.2.2.2.2.2.2.2.2.2.2.2,()),()),(r12.2.1.2.2.1,r12.2.1.2.2.2.2.2.2.2.2.1,()))) else some (.inl ((((),()),(v0,()),(v1,()),(v2,()),((i64.wrap (v3+1)),()),()),((v4,v5,v6,(),v7,v8,v9,v10,v11,(),v12,v13,v14,()),()),(v15,v16,()))) else none else none else let r13:=yep (v4,(v5,v6),v15,v7,v8,v9,v10,v11,v16,v12,v13,v14) v3 v0;bif r13 then let r14:=ybU v0;bnd (yfD (v4,(v5,v6),v15,v7,v8,v9,v10,v11,v16,v12,v13,v14) v3 r14 ([r9]:List Int)) fun r15 =>some (.inl ((((),()),(v0,()),(v1,()),(v2,()),((i64.wrap (v3+1)),()),()),((r15.2.1.1,r15.2.1.2.1.1,r15.2.1.2.1.2,(),r15.2.1.2.2.2.1,r15.2.1.2.2.2.2.1,r15.2.1.2.2.2.2.2.1,r15.2.1.2.2.2.2.2.2.1,r15.2.1.2.2.2.2.2.2.2.1,(),r15.2.1.2.2.2.2.2.2.2.2.2.1,r15.2.1.2.2.2.2.2.2.2.2.2.2.1,r15.2.1.2.2.2.2.2.2.2.2.2.2.2,()),()),(r15.2.1.2.2.1,r15.2.1.2.2.2.2.2.2.2.2.1,()))) else some (.inl ((((),()),(v0,()),(v1,()),(v2,()),((i64.wrap (v3+1)),()),()),((v4,v5,v6,(),v7,v8,v9,v10,v11,(),v12,v13,v14,()),()),(v15,v16,()))) else some (.inr (.inl ((),((v4,v5,v6,(),v7,v8,v9,v10,v11,(),v12,v13,v14,()),()),(v15,v16,()))))
def yej (x:(ydJ).X):=ysV x.1.2.1.1 x.1.2.2.1.1 x.1.2.2.2.1.1 x.1.2.2.2.2.1.1 x.2.1.1.1 x.2.1.1.2.1 x.2.1.1.2.2.1 x.2.1.1.2.2.2.2.1 x.2.1.1.2.2.2.2.2.1 x.2.1.1.2.2.2.2.2.2.1 x.2.1.1.2.2.2.2.2.2.2.1 x.2.1.1.2.2.2.2.2.2.2.2.1 x.2.1.1.2.2.2.2.2.2.2.2.2.2.1 x.2.1.1.2.2.2.2.2.2.2.2.2.2.2.1 x.2.1.1.2.2.2.2.2.2.2.2.2.2.2.2.1 x.2.2.1 x.2.2.2.1
def yEF (x:(yiO).X):(ydJ).X:=((((),()),(x.1.2.1.1,()),(x.1.2.2.1.1,()),(x.1.2.2.2.1.1,()),(0,()),()),((x.2.1.1.1,x.2.1.1.2.1,x.2.1.1.2.2.1,(),x.2.1.1.2.2.2.2.1,x.2.1.1.2.2.2.2.2.1,x.2.1.1.2.2.2.2.2.2.1,x.2.1.1.2.2.2.2.2.2.2.1,x.2.1.1.2.2.2.2.2.2.2.2.1,(),x.2.1.1.2.2.2.2.2.2.2.2.2.2.1,x.2.1.1.2.2.2.2.2.2.2.2.2.2.2.1,x.2.1.1.2.2.2.2.2.2.2.2.2.2.2.2.1,()),()),(x.2.2.1,x.2.2.2.1,()))
def yGe:Code:=(zd7 yrd 64 28).getD .skip
theorem yUb:zd7 yrd 64 7=some (.block 0 (.loop yGe)):=by kernel_rfl
theorem yWS (x:(ydJ).X):zhu ⟨yz6,61,yFX⟩ 0 yGe 28 ydJ yiz ynl x=yej x:=by kernel_rfl
def yEW (x:(yiO).X):Nat:=18446744073709551616
def ytU (x:(yiO).X):Option ((yiz).X ⊕ (ynl).X):=zF yej (yEW x) (yEF x)
def yFC:Seg:=⟨yiO,yiz,ynl,ytU⟩
def yTH:Nat→Option Seg:=fun q=>bif Nat.beq q 7 then some yFC else yFX q
theorem yRe:FrOk prog ⟨yz6,61,yTH⟩ yrd:=(yRd).loop (sg:=yFC) ydJ yEF (by decide) yUb yej yEW (by decide) (fun _=>rfl) (fun x r _ h=>h) yWS
abbrev ylV:List Par:= [.pt tA oB,.rd tI,.rd tL]
abbrev yrz:List OT:= []
def yvR (a0:dA) (a1:Int) (a2:List Int):Option (zaY yrz×zak ylV) :=let r1:=yd0 a0.2.1 a1;zkt (ytU ((((),()),(a1,()),(a2,()),(r1,()),((),()),()),((a0.1,a0.2.1.1,a0.2.1.2,(),a0.2.2.2.1,a0.2.2.2.2.1,a0.2.2.2.2.2.1,a0.2.2.2.2.2.2.1,a0.2.2.2.2.2.2.2.1,(),a0.2.2.2.2.2.2.2.2.2.1,a0.2.2.2.2.2.2.2.2.2.2.1,a0.2.2.2.2.2.2.2.2.2.2.2,()),()),(a0.2.2.1,a0.2.2.2.2.2.2.2.2.1,()))) (fun y15 =>some ((),((y15.2.1.1.1,(y15.2.1.1.2.1,y15.2.1.1.2.2.1),y15.2.2.1,y15.2.1.1.2.2.2.2.1,y15.2.1.1.2.2.2.2.2.1,y15.2.1.1.2.2.2.2.2.2.1,y15.2.1.1.2.2.2.2.2.2.2.1,y15.2.1.1.2.2.2.2.2.2.2.2.1,y15.2.2.2.1,y15.2.1.1.2.2.2.2.2.2.2.2.2.2.1,y15.2.1.1.2.2.2.2.2.2.2.2.2.2.2.1,y15.2.1.1.2.2.2.2.2.2.2.2.2.2.2.2.1),()))) (fun y15 =>none)
theorem yWl:ConOk prog 170 ⟨ylV,yrz,fun x=>yvR x.1 x.2.1 x.2.2.1⟩:=zkI (yRe) func170 ntmps170.symm fun x=>by kernel_rfl
def yrC (a0:dA) (a1:Int) (a2:List Int):dA:=yI a0 a1 a2
def ymg (a0:dA) (a1:Int) (a2:List Int):Bool:=yaj a0.2.1 a1&&((a2.length:Int)==a0.2.1.1-1&&(a0.2.2.1.length:Int)==a0.2.1.1)
theorem yYE (a0:dA) (a1:Int) (a2:List Int) (hk:zjx ylV (a0,a1,a2,())) (hq:ymg a0 a1 a2=true):yvR a0 a1 a2=(fun n=>some ((),(n,()))) (yrC a0 a1 a2):=by
 simp only[ymg,Bool.and_eq_true,beq_iff_eq]at hq;have hg:=yj.1 (yad.1 hq.1).1;have hp:=yk6 hq.1
 have h1:ytU (yRH a1 a2 (yk a0.2.1 a1) a0)=some (.inl (yE5 (yI a0 a1 a2))) :=
  zkD (step:=yej) a0.2.2.1.length (fun i s=>ysl a1 a2 (yk a0.2.1 a1) i s) (ybe (yk a0.2.1 a1) a0.2.1.1 a1 a2) (fun _ s=>s.2.2.1.length=a0.2.2.1.length∧s.2.1=a0.2.1) (fun s=> .inl (yE5 s)) (fun i s hi hs=>⟨by
   have hN:s.2.1.1=a0.2.1.1:=by rw[hs.2]
   simp only[yej,ysl,ysV,hs.1,zky (show(i:Int)<a0.2.2.1.length by omega),cond_true,wq ((i:Int)+1) (by omega) (by omega),Int.natCast_add,Int.natCast_one,Int.toNat_natCast,zkX,ykJ,yjZ,yep,ygV,ybe,ycS];rw[← hN];by_cases he:(i:Int)=yk a0.2.1 a1
   ·rw[show((i:Int) !=yk a0.2.1 a1)=false by simp[he],show((i:Int)==yk a0.2.1 a1)=true from beq_iff_eq.2 he]
    rw[ymf s i (yu a1) [yaF a2] (zkR (by rw[hs.1]; exact hi))];cases ycL s i a1<;>rfl
   ·have hd:=y65 (N:=s.2.1.1) (i:=i) (p:=yk a0.2.1 a1) ⟨by omega,by omega⟩ ⟨by omega,by omega⟩ ⟨hp.1,by omega⟩ he
    rw[show((i:Int) !=yk a0.2.1 a1)=true from bne_iff_ne.2 he,show((i:Int)==yk a0.2.1 a1)=false from beq_eq_false_iff_ne.2 he,show(s.2.1.1 !=0)=true from bne_iff_ne.2 (by omega),
     wq ((i:Int)-yk a0.2.1 a1) (by omega) (by omega),wq ((i:Int)-yk a0.2.1 a1-1) (by omega) (by omega),wq ((i:Int)-yk a0.2.1 a1-1+s.2.1.1) (by omega) (by omega),zj6.2 (show 0≤((i:Int)-yk a0.2.1 a1-1+s.2.1.1).tmod s.2.1.1∧((i:Int)-yk a0.2.1 a1-1+s.2.1.1).tmod s.2.1.1<a2.length by omega)]
    rw[ymf s i (yu a1) [nth a2 (((i:Int)-yk a0.2.1 a1-1+s.2.1.1).tmod s.2.1.1) 0] (zkR (by rw[hs.1]; exact hi))]
    cases ycL s i a1<;>rfl,(yqU _ _ _ _ s i).trans hs.1,(yQ (yLf _ _ _ _ s i)).trans hs.2⟩) (fun s hs=>by simp only[yej,ysl,ysV,hs.1,zk3 (Int.le_refl _),cond_false]) a0 ⟨rfl,rfl⟩ _ (by show _<18446744073709551616; omega)
 unfold yvR yrC yd0;exact(congrArg (fun z=>zkt z _ _) h1).trans rfl
def yh8 (a0:dA) (a1:Int) (a2:List Int):Option (zaY yrz×zak ylV):=bif ymg a0 a1 a2 then(fun n=>some ((),(n,()))) (yrC a0 a1 a2)else none
theorem yZt (a0:dA) (a1:Int) (a2:List Int) (h:ymg a0 a1 a2=true):yh8 a0 a1 a2=(fun n=>some ((),(n,()))) (yrC a0 a1 a2):=by unfold yh8; rw[h]; rfl
def yGA:Con:=⟨ylV,yrz,fun x=>yh8 x.1 x.2.1 x.2.2.1⟩
theorem yZp:ConOk prog 170 yGA:=(yWl).mono (fun x r hk h=>zkY h (fun hq=>yYE x.1 x.2.1 x.2.2.1 hk hq))
def yXe:Code:=(f171.body).getD .skip
def yXD:Env:=zkw TT [(174,ynv),(208,ynw)] []
theorem yOn:FrOk prog ⟨yXD,17,fun _=>none⟩ yXe:=zkA mixed yf ⟨yx3,yx4,trivial⟩
abbrev yxm:List Par:= [.pt tA oB]
abbrev yxF:List OT:= []
def yFq (a0:dA):Option (zaY yxF×zak yxm) :=let r1:=yer a0;bif r1.2.2.2.2.2.2.2.2.2.2.1 then some ((),(r1,())) else let r2:=ybc (r1.1,r1.2.1,r1.2.2.1,r1.2.2.2.1,r1.2.2.2.2.1,r1.2.2.2.2.2.1,r1.2.2.2.2.2.1,r1.2.2.2.2.2.2.2);some ((),(r2,()))
theorem ySD:ConOk prog 171 ⟨yxm,yxF,fun x=>yFq x.1⟩:=zkI (yOn) func171 ntmps171.symm fun x=>by kernel_rfl
def ygS (a0:dA):dA :=let r1:=yer a0;bif r1.2.2.2.2.2.2.2.2.2.2.1 then r1 else let r2:=ybc (r1.1,r1.2.1,r1.2.2.1,r1.2.2.2.1,r1.2.2.2.2.1,r1.2.2.2.2.2.1,r1.2.2.2.2.2.1,r1.2.2.2.2.2.2.2);r2
def yr5:Con:=⟨yxm,yxF,fun x=>(fun n=>some ((),(n,()))) (ygS x.1)⟩
theorem yVF (a0:dA):yFq a0=(fun n=>some ((),(n,()))) (ygS a0):=zkV (p:=fun(n:dA)=>((),(n,()))) (zkG (p:=fun(n:dA)=>((),(n,()))) rfl rfl)
theorem yGW:ConOk prog 171 yr5:=(ySD).mono (fun x r _ h=>(yVF x.1).trans h)
theorem yJ5 (a:dA):ygS a=ym a:=by
 unfold ygS ym yer ybc;show(bif ya (yd a)then yd a else yn (yT (yd a)))=_;rfl
def yXf:Code:=(f217.body).getD .skip
def yXE:Env:=zkw TT [(169,yIi),(170,yGA),(171,yr5)] []
theorem yOo:FrOk prog ⟨yXE,54,fun _=>none⟩ yXf:=zkA mixed yf ⟨y1S,yZp,yGW,trivial⟩
abbrev ykd:List Par:= [.pt tA oB,.rd tI,.rd tL]
abbrev ypn:List OT:= [⟨false,tI,.fz⟩]
def ysJ (a0:dA) (a1:Int) (a2:List Int):Option (zaY ypn×zak ykd) :=bif(leb 4 (i64.wrap (a0.2.2.2.2.2.1-a0.2.2.2.2.2.2.1)))then let r1:=ygS a0;bif r1.2.2.2.2.2.2.2.2.2.2.1 then some ((6,()),(r1,())) else bif(zkl ([]:List Int).length a2.length 8)then let r2:=ykM r1 (r1.2.2.2.2.2.1,a1,(([]:List Int)++a2));bif r2.2.2.2.2.2.2.2.2.2.2.1 then some ((6,()),(r2,())) else bnd (yh8 (r2.1,r2.2.1,r2.2.2.1,r2.2.2.2.1,r2.2.2.2.2.1,(i64.wrap (r2.2.2.2.2.2.1+1)),r2.2.2.2.2.2.2) a1 a2) fun r3 =>bif r3.2.1.2.2.2.2.2.2.2.2.2.2.1 then some ((6,()),(r3.2.1,())) else some ((0,()),(r3.2.1,())) else none else bif a0.2.2.2.2.2.2.2.2.2.2.1 then some ((6,()),(a0,())) else bif(zkl ([]:List Int).length a2.length 8)then let r4:=ykM a0 (a0.2.2.2.2.2.1,a1,(([]:List Int)++a2));bif r4.2.2.2.2.2.2.2.2.2.2.1 then some ((6,()),(r4,())) else bnd (yh8 (r4.1,r4.2.1,r4.2.2.1,r4.2.2.2.1,r4.2.2.2.2.1,(i64.wrap (r4.2.2.2.2.2.1+1)),r4.2.2.2.2.2.2) a1 a2) fun r5 =>bif r5.2.1.2.2.2.2.2.2.2.2.2.2.1 then some ((6,()),(r5.2.1,())) else some ((0,()),(r5.2.1,())) else none
theorem ySE:ConOk prog 217 ⟨ykd,ypn,fun x=>ysJ x.1 x.2.1 x.2.2.1⟩:=zkI (yOo) func217 ntmps217.symm fun x=>by kernel_rfl
def ykN (a0:dA) (a1:Int) (a2:List Int):Int×dA:=yN a0 a1 a2
def ykU (a0:dA) (a1:Int) (a2:List Int):Bool:=yaj a0.2.1 a1&&((a2.length:Int)==a0.2.1.1-1&&(a0.2.2.1.length:Int)==a0.2.1.1)
theorem yVG (a0:dA) (a1:Int) (a2:List Int) (hk:zjx ykd (a0,a1,a2,())) (hq:ykU a0 a1 a2=true):ysJ a0 a1 a2=(fun n=>some ((n.1,()),(n.2,()))) (ykN a0 a1 a2):=by
 have hq':=hq;simp only[ykU,Bool.and_eq_true,beq_iff_eq]at hq;have hg:=yj.1 (yad.1 hq.1).1;have hap:zkl ([]:List Int).length a2.length 8=true:=zkF.2 (by simp only[List.length_nil]; omega)
 have key: ∀b:dA,b.2.1=a0.2.1→b.2.2.1.length=a0.2.2.1.length→yh8 (yO (yr b (b.2.2.2.2.2.1,a1,a2))) a1 a2=some ((),(yI (yO (yr b (b.2.2.2.2.2.1,a1,a2))) a1 a2,())):=fun b h1 h2=>yZt _ _ _ (by
  unfold ymg;rw[show(yO (yr b (b.2.2.2.2.2.1,a1,a2))).2.1=a0.2.1 from(yQ (ybs _ _)).trans h1,show(yO (yr b (b.2.2.2.2.2.1,a1,a2))).2.2.1.length=a0.2.2.1.length from(yNg _ _).trans h2]
  exact hq')
 unfold ysJ ykN yN yz;simp only[yJ5,ykM,List.nil_append,hap,cond_true];cases leb 4 (i64.wrap (a0.2.2.2.2.2.1-a0.2.2.2.2.2.2.1))
 ·have hd:=key a0 rfl rfl
  simp only[cond_false];generalize yr a0 (a0.2.2.2.2.2.1,a1,a2)=R at hd ⊢;generalize yI (yO R) a1 a2=Q at hd ⊢;unfold yO at hd;simp only[cond_false,hd,zkH];unfold ya;cases a0.2.2.2.2.2.2.2.2.2.2.1
  ·cases R.2.2.2.2.2.2.2.2.2.2.1
   ·cases Q.2.2.2.2.2.2.2.2.2.2.1<;>rfl
   ·rfl
  ·rfl
 ·have hd:=key (ym a0) (yZK a0) (y4K a0)
  simp only[cond_true];generalize ym a0=C at hd ⊢;generalize yr C (C.2.2.2.2.2.1,a1,a2)=R at hd ⊢;generalize yI (yO R) a1 a2=Q at hd ⊢;unfold yO at hd;simp only[cond_true,hd,zkH];unfold ya;cases C.2.2.2.2.2.2.2.2.2.2.1
  ·cases R.2.2.2.2.2.2.2.2.2.2.1
   ·cases Q.2.2.2.2.2.2.2.2.2.2.1<;>rfl
   ·rfl
  ·rfl
def ypE (a0:dA) (a1:Int) (a2:List Int):Option (zaY ypn×zak ykd):=bif ykU a0 a1 a2 then(fun n=>some ((n.1,()),(n.2,()))) (ykN a0 a1 a2)else none
theorem yWG (a0:dA) (a1:Int) (a2:List Int) (h:ykU a0 a1 a2=true):ypE a0 a1 a2=(fun n=>some ((n.1,()),(n.2,()))) (ykN a0 a1 a2):=by unfold ypE; rw[h]; rfl
def yEq:Con:=⟨ykd,ypn,fun x=>ypE x.1 x.2.1 x.2.2.1⟩
theorem yWA:ConOk prog 217 yEq:=(ySE).mono (fun x r hk h=>zkY h (fun hq=>yVG x.1 x.2.1 x.2.2.1 hk hq))
def yXg:Code:=(f179.body).getD .skip
def yXF:Env:=zkw TT [(215,yA5),(216,yGz),(217,yEq)] [(36928,(.pr .fz .fz))]
theorem yOp:FrOk prog ⟨yXF,63,fun _=>none⟩ yXg:=zkA mixed yf ⟨yMG,yZo,yWA,trivial⟩
abbrev yke:List Par:= [.pt tA oB,.rd tI]
abbrev ypo:List OT:= [⟨false,tI,.fz⟩]
def ysK (a0:dA) (a1:Int):Option (zaY ypo×zak yke) :=let r1:=yjB a0 a1;bif(ltb r1 0)then some ((0,()),(a0,())) else bif(inb r1 a0.2.2.2.2.2.2.2.2.1.length)then let r2:=yap a0 a1 ((nth a0.2.2.2.2.2.2.2.2.1 r1 (0,[])).2);bif(r2 !=0)then some ((r2,()),(a0,())) else bif(inb r1 a0.2.2.2.2.2.2.2.2.1.length)then bnd (ypE a0 a1 ((nth a0.2.2.2.2.2.2.2.2.1 r1 (0,[])).2)) fun r3 =>bif(r3.1.1==0)then bif(zj0 0 r1 r3.2.1.2.2.2.2.2.2.2.2.1.length)then bif(zkl ([]:List dW).length ((r3.2.1.2.2.2.2.2.2.2.2.1.drop (0:Int).toNat).take (r1-0).toNat).length 32)then bif(zj0 (i64.wrap (r1+1)) (r3.2.1.2.2.2.2.2.2.2.2.1.length:Int) r3.2.1.2.2.2.2.2.2.2.2.1.length)then bif(zkl (([]:List dW)++((r3.2.1.2.2.2.2.2.2.2.2.1.drop (0:Int).toNat).take (r1-0).toNat)).length ((r3.2.1.2.2.2.2.2.2.2.2.1.drop ((i64.wrap (r1+1))).toNat).take ((r3.2.1.2.2.2.2.2.2.2.2.1.length:Int)-(i64.wrap (r1+1))).toNat).length 32)then some ((r3.1.1,()),((r3.2.1.1,r3.2.1.2.1,r3.2.1.2.2.1,r3.2.1.2.2.2.1,r3.2.1.2.2.2.2.1,r3.2.1.2.2.2.2.2.1,r3.2.1.2.2.2.2.2.2.1,r3.2.1.2.2.2.2.2.2.2.1,((([]:List dW)++((r3.2.1.2.2.2.2.2.2.2.2.1.drop (0:Int).toNat).take (r1-0).toNat))++((r3.2.1.2.2.2.2.2.2.2.2.1.drop ((i64.wrap (r1+1))).toNat).take ((r3.2.1.2.2.2.2.2.2.2.2.1.length:Int)-(i64.wrap (r1+1))).toNat)),r3.2.1.2.2.2.2.2.2.2.2.2),())) else none else none else none else none else some ((r3.1.1,()),(r3.2.1,())) else none else none
theorem ySF:ConOk prog 179 ⟨yke,ypo,fun x=>ysK x.1 x.2.1⟩:=zkI (yOp) func179 ntmps179.symm fun x=>by kernel_rfl
def ykO (a0:dA) (a1:Int):Int×dA:=yaK a0 a1
def yya (a0:dA) (a1:Int):Bool:=decide (a0.2.2.2.2.2.2.2.2.1.length≤1000)
theorem yVH (a0:dA) (a1:Int) (hk:zjx yke (a0,a1,())) (hq:yya a0 a1=true):ysK a0 a1=(fun n=>some ((n.1,()),(n.2,()))) (ykO a0 a1):=by
 have hq:=of_decide_eq_true hq;unfold ysK ykO yaK;simp only[yjB];cases h0:ltb (yam a0.2.2.2.2.2.2.2.2.1 a1) 0
 ·have h1:=zkW h0
  have hi:inb (yam a0.2.2.2.2.2.2.2.2.1 a1) a0.2.2.2.2.2.2.2.2.1.length=true:=(yn9 (d:=((0:Int),([]:List Int))) (zk2 h1)).1;simp only[hi,cond_true,cond_false];generalize hD:(nth a0.2.2.2.2.2.2.2.2.1 (yam a0.2.2.2.2.2.2.2.2.1 a1) (0,[])).2=D;cases hc:(yap a0 a1 D !=0)
  ·obtain⟨ha,hl,hw,hd,hs,hb,_⟩:=yy1 (bne_eq_false_iff_eq.1 hc)
   rw[yWG a0 a1 D (by unfold ykU; rw[hs,hl,yF0 ha]; simp)];simp only[zkH,cond_false,ykN,y3E];have hk:=zj6.1 hi;cases hr:((yN a0 a1 D).1==0)
   ·rfl
   ·generalize yam a0.2.2.2.2.2.2.2.2.1 a1=K at h1 hk
    rw[wq (K+1) (by omega) (by omega),zkz.2 (show(0:Int)≤0∧0≤K∧K≤(a0.2.2.2.2.2.2.2.2.1.length:Int)by omega),zkz.2 (show 0≤K+1∧K+1≤(a0.2.2.2.2.2.2.2.2.1.length:Int)∧(a0.2.2.2.2.2.2.2.2.1.length:Int)≤(a0.2.2.2.2.2.2.2.2.1.length:Int)by omega),
     zkF.2 (by rw[List.length_take,List.length_drop,List.length_nil]; omega),zkF.2 (by rw[List.length_append,List.length_take,List.length_take,List.length_drop,List.length_drop,List.length_nil]; omega),y4N h1 hk.2]
    rw[beq_iff_eq.1 hr]; rfl
  ·rfl
 ·rfl
def ydk (a0:dA) (a1:Int):Option (zaY ypo×zak yke):=bif yya a0 a1 then(fun n=>some ((n.1,()),(n.2,()))) (ykO a0 a1)else none
theorem yG0 (a0:dA) (a1:Int) (h:yya a0 a1=true):ydk a0 a1=(fun n=>some ((n.1,()),(n.2,()))) (ykO a0 a1):=by unfold ydk; rw[h]; rfl
def yr6:Con:=⟨yke,ypo,fun x=>ydk x.1 x.2.1⟩
theorem yGX:ConOk prog 179 yr6:=(ySF).mono (fun x r hk h=>zkY h (fun hq=>yVH x.1 x.2.1 hk hq))
def yts:Code:=(f117.body).getD .skip
def yDq:Env:=zkw TT [(179,yr6)] []
theorem yUW:FrOk prog ⟨yDq,22,fun _=>none⟩ yts:=zkA mixed yf ⟨yGX,trivial⟩
def yH1:Nat→Option Seg:=fun _=>none
def yeQ:Shape:=⟨[(0,false,[.ptr 1000000000 0])],[(1000000000,oI)],[(800000000,tM,oC),(800000001,tW,oF)]⟩
def ykn:Shape:=⟨[(0,false,[.ptr 1000000000 0])],[(1000000000,oI)],[(800000000,tM,oC),(800000001,tW,oF)]⟩
def yki:Shape:=⟨[],[(1000000000,oI)],[(800000000,tM,oC),(800000001,tW,oF)]⟩
def ykr:Shape:=⟨[(2,false,[ii])],[(1000000000,oI)],[(800000000,tM,oC),(800000001,tW,oF)]⟩
abbrev yvq (v0:dA):(yeQ).X:=((((),()),()),((v0.1,v0.2.1.1,v0.2.1.2,(),v0.2.2.2.1,v0.2.2.2.2.1,v0.2.2.2.2.2.1,v0.2.2.2.2.2.2.1,v0.2.2.2.2.2.2.2.1,(),v0.2.2.2.2.2.2.2.2.2.1,v0.2.2.2.2.2.2.2.2.2.2.1,v0.2.2.2.2.2.2.2.2.2.2.2,()),()),(v0.2.2.1,v0.2.2.2.2.2.2.2.2.1,()))
abbrev yVf (v0:dA):(ykn).X:=((((),()),()),((v0.1,v0.2.1.1,v0.2.1.2,(),v0.2.2.2.1,v0.2.2.2.2.1,v0.2.2.2.2.2.1,v0.2.2.2.2.2.2.1,v0.2.2.2.2.2.2.2.1,(),v0.2.2.2.2.2.2.2.2.2.1,v0.2.2.2.2.2.2.2.2.2.2.1,v0.2.2.2.2.2.2.2.2.2.2.2,()),()),(v0.2.2.1,v0.2.2.2.2.2.2.2.2.1,()))
abbrev yVa (v0:dA):(yki).X:=((),((v0.1,v0.2.1.1,v0.2.1.2,(),v0.2.2.2.1,v0.2.2.2.2.1,v0.2.2.2.2.2.1,v0.2.2.2.2.2.2.1,v0.2.2.2.2.2.2.2.1,(),v0.2.2.2.2.2.2.2.2.2.1,v0.2.2.2.2.2.2.2.2.2.2.1,v0.2.2.2.2.2.2.2.2.2.2.2,()),()),(v0.2.2.1,v0.2.2.2.2.2.2.2.2.1,()))
abbrev yVi (v0:Int) (v1:dA):(ykr).X:=(((v0,()),()),((v1.1,v1.2.1.1,v1.2.1.2,(),v1.2.2.2.1,v1.2.2.2.2.1,v1.2.2.2.2.2.1,v1.2.2.2.2.2.2.1,v1.2.2.2.2.2.2.2.1,(),v1.2.2.2.2.2.2.2.2.2.1,v1.2.2.2.2.2.2.2.2.2.2.1,v1.2.2.2.2.2.2.2.2.2.2.2,()),()),(v1.2.2.1,v1.2.2.2.2.2.2.2.2.1,()))
def yv3 (v0 v1 v2 v3 v4 v5 v6 v7 v8:Int) (v9 v10:Bool) (v11:List dM) (v12:List dW):Option ((yeQ).X ⊕ ((yki).X ⊕ (ykr).X)) :=bif(ltb 0 (v12.length:Int))then bif(inb 0 v12.length)then bnd (ydk (v0,(v1,v2),v11,v3,v4,v5,v6,v7,v12,v8,v9,v10) ((nth v12 0 (0,[])).1)) fun r2 =>bif(r2.1.1 !=0)then some (.inr (.inr (((r2.1.1,()),()),((r2.2.1.1,r2.2.1.2.1.1,r2.2.1.2.1.2,(),r2.2.1.2.2.2.1,r2.2.1.2.2.2.2.1,r2.2.1.2.2.2.2.2.1,r2.2.1.2.2.2.2.2.2.1,r2.2.1.2.2.2.2.2.2.2.1,(),r2.2.1.2.2.2.2.2.2.2.2.2.1,r2.2.1.2.2.2.2.2.2.2.2.2.2.1,r2.2.1.2.2.2.2.2.2.2.2.2.2.2,()),()),(r2.2.1.2.2.1,r2.2.1.2.2.2.2.2.2.2.2.1,())))) else some (.inl ((((),()),()),((r2.2.1.1,r2.2.1.2.1.1,r2.2.1.2.1.2,(),r2.2.1.2.2.2.1,r2.2.1.2.2.2.2.1,r2.2.1.2.2.2.2.2.1,r2.2.1.2.2.2.2.2.2.1,r2.2.1.2.2.2.2.2.2.2.1,(),r2.2.1.2.2.2.2.2.2.2.2.2.1,r2.2.1.2.2.2.2.2.2.2.2.2.2.1,r2.2.1.2.2.2.2.2.2.2.2.2.2.2,()),()),(r2.2.1.2.2.1,r2.2.1.2.2.2.2.2.2.2.2.1,()))) else none else some (.inr (.inl ((),((v0,v1,v2,(),v3,v4,v5,v6,v7,(),v8,v9,v10,()),()),(v11,v12,()))))
def ye3 (x:(yeQ).X):=yv3 x.2.1.1.1 x.2.1.1.2.1 x.2.1.1.2.2.1 x.2.1.1.2.2.2.2.1 x.2.1.1.2.2.2.2.2.1 x.2.1.1.2.2.2.2.2.2.1 x.2.1.1.2.2.2.2.2.2.2.1 x.2.1.1.2.2.2.2.2.2.2.2.1 x.2.1.1.2.2.2.2.2.2.2.2.2.2.1 x.2.1.1.2.2.2.2.2.2.2.2.2.2.2.1 x.2.1.1.2.2.2.2.2.2.2.2.2.2.2.2.1 x.2.2.1 x.2.2.2.1
def yGE (x:(ykn).X):(yeQ).X:=((((),()),()),((x.2.1.1.1,x.2.1.1.2.1,x.2.1.1.2.2.1,(),x.2.1.1.2.2.2.2.1,x.2.1.1.2.2.2.2.2.1,x.2.1.1.2.2.2.2.2.2.1,x.2.1.1.2.2.2.2.2.2.2.1,x.2.1.1.2.2.2.2.2.2.2.2.1,(),x.2.1.1.2.2.2.2.2.2.2.2.2.2.1,x.2.1.1.2.2.2.2.2.2.2.2.2.2.2.1,x.2.1.1.2.2.2.2.2.2.2.2.2.2.2.2.1,()),()),(x.2.2.1,x.2.2.2.1,()))
def yIc:Code:=(zd7 yts 64 24).getD .skip
theorem yXJ:zd7 yts 64 6=some (.block 0 (.loop yIc)):=by kernel_rfl
theorem yZx (x:(yeQ).X):zhu ⟨yDq,22,yH1⟩ 0 yIc 24 yeQ yki ykr x=ye3 x:=by kernel_rfl
def yGK (x:(ykn).X):Nat:=18446744073709551616
def yxe (x:(ykn).X):Option ((yki).X ⊕ (ykr).X):=zF ye3 (yGK x) (yGE x)
def yHk:Seg:=⟨ykn,yki,ykr,yxe⟩
def yXr:Nat→Option Seg:=fun q=>bif Nat.beq q 6 then some yHk else yH1 q
theorem yUX:FrOk prog ⟨yDq,22,yXr⟩ yts:=(yUW).loop (sg:=yHk) yeQ yGE (by decide) yXJ ye3 yGK (by decide) (fun _=>rfl) (fun x r _ h=>h) yZx
abbrev ynS:List Par:= [.pt tA oB]
abbrev yuF:List OT:= [⟨false,tI,.fz⟩]
def yyo (a0:dA):Option (zaY yuF×zak ynS) :=zkt (yxe ((((),()),()),((a0.1,a0.2.1.1,a0.2.1.2,(),a0.2.2.2.1,a0.2.2.2.2.1,a0.2.2.2.2.2.1,a0.2.2.2.2.2.2.1,a0.2.2.2.2.2.2.2.1,(),a0.2.2.2.2.2.2.2.2.2.1,a0.2.2.2.2.2.2.2.2.2.2.1,a0.2.2.2.2.2.2.2.2.2.2.2,()),()),(a0.2.2.1,a0.2.2.2.2.2.2.2.2.1,()))) (fun y2 =>some ((0,()),((y2.2.1.1.1,(y2.2.1.1.2.1,y2.2.1.1.2.2.1),y2.2.2.1,y2.2.1.1.2.2.2.2.1,y2.2.1.1.2.2.2.2.2.1,y2.2.1.1.2.2.2.2.2.2.1,y2.2.1.1.2.2.2.2.2.2.2.1,y2.2.1.1.2.2.2.2.2.2.2.2.1,y2.2.2.2.1,y2.2.1.1.2.2.2.2.2.2.2.2.2.2.1,y2.2.1.1.2.2.2.2.2.2.2.2.2.2.2.1,y2.2.1.1.2.2.2.2.2.2.2.2.2.2.2.2.1),()))) (fun y2 =>some ((y2.1.1.1,()),((y2.2.1.1.1,(y2.2.1.1.2.1,y2.2.1.1.2.2.1),y2.2.2.1,y2.2.1.1.2.2.2.2.1,y2.2.1.1.2.2.2.2.2.1,y2.2.1.1.2.2.2.2.2.2.1,y2.2.1.1.2.2.2.2.2.2.2.1,y2.2.1.1.2.2.2.2.2.2.2.2.1,y2.2.2.2.1,y2.2.1.1.2.2.2.2.2.2.2.2.2.2.1,y2.2.1.1.2.2.2.2.2.2.2.2.2.2.2.1,y2.2.1.1.2.2.2.2.2.2.2.2.2.2.2.2.1),())))
theorem yY4:ConOk prog 117 ⟨ynS,yuF,fun x=>yyo x.1⟩:=zkI (yUX) func117 ntmps117.symm fun x=>by kernel_rfl
def you (a0:dA):Int×dA:=yHA a0
def yFj (a0:dA):Bool:=decide (a0.2.2.2.2.2.2.2.2.1.length≤1000)
theorem y1F (a0:dA) (hk:zjx ynS (a0,())) (hq:yFj a0=true):yyo a0=(fun n=>some ((n.1,()),(n.2,()))) (you a0):=by
 have hq:=of_decide_eq_true hq
 have h1:=zkC (step:=ye3) a0.2.2.2.2.2.2.2.2.1.length (fun _ s=>yvq s) yh0 (fun i s=>s.2.2.2.2.2.2.2.2.1.length+i=a0.2.2.2.2.2.2.2.2.1.length) (fun b=>(0,b))
  (fun r=>bif r.1==0 then .inl (yVa r.2)else .inr (yVi r.1 r.2)) (fun i s hi hs=>by
   have hp:0<s.2.2.2.2.2.2.2.2.1.length:=by omega
   constructor
   ·simp only[ye3,yvq,yv3,zkX,zky (show(0:Int)<(s.2.2.2.2.2.2.2.2.1.length:Int)by omega),cond_true,show inb 0 s.2.2.2.2.2.2.2.2.1.length=true from zkR (i:=0) hp]
    rw[yG0 s (nth s.2.2.2.2.2.2.2.2.1 0 (0,[])).1 (decide_eq_true (show s.2.2.2.2.2.2.2.2.1.length≤1000 by omega))];simp only[zkH,ykO];unfold yh0;generalize yaK s (nth s.2.2.2.2.2.2.2.2.1 0 (0,[])).1=R;cases hr:(R.1 !=0)
    ·rfl
    ·simp only[cond_true]
     rw[show(R.1==0)=false from beq_eq_false_iff_ne.2 (bne_iff_ne.1 hr)]; rfl
   ·intro s' h
    unfold yh0 at h;cases hr:((yaK s (nth s.2.2.2.2.2.2.2.2.1 0 (0,[])).1).1 !=0)
    ·rw[hr]at h
     simp only[cond_false,Sum.inl.injEq]at h;rw[← h,y4k hp (bne_eq_false_iff_eq.1 hr),List.length_drop]; omega
    ·rw[hr]at h; cases h) (fun s hs=>by
   simp only[ye3,yvq,yv3,show ltb 0 (s.2.2.2.2.2.2.2.2.1.length:Int)=false from zk3 (by omega)]; rfl) a0 rfl 18446744073709551616 (by omega)
 unfold yyo you yHA;refine(congrArg (fun z=>zkt z _ _) (show yxe (yVf a0)=_ from h1)).trans ?_;generalize goE yh0 (fun b=>(0,b)) a0.2.2.2.2.2.2.2.2.1.length 0 a0=R;cases hr:(R.1==0)
 ·rfl
 ·simp only[cond_true,zkN,zkX]
  rw[show R.1=0 from beq_iff_eq.1 hr]
def ykR (a0:dA):Option (zaY yuF×zak ynS):=bif yFj a0 then(fun n=>some ((n.1,()),(n.2,()))) (you a0)else none
theorem yJ1 (a0:dA) (h:yFj a0=true):ykR a0=(fun n=>some ((n.1,()),(n.2,()))) (you a0):=by unfold ykR; rw[h]; rfl
def yxT:Con:=⟨ynS,yuF,fun x=>ykR x.1⟩
theorem yJZ:ConOk prog 117 yxT:=(yY4).mono (fun x r hk h=>zkY h (fun hq=>y1F x.1 hk hq))
def yTu:Code:=(f180.body).getD .skip
def yTV:Env:=zkw TT [(82,yP),(119,yi9)] []
theorem yLP:FrOk prog ⟨yTV,16,fun _=>none⟩ yTu:=zkA mixed yf ⟨yaa,ypF,trivial⟩
abbrev yna:List Par:= [.rd tG,.rd tI]
abbrev yuB:List OT:= [⟨false,tI,.fz⟩]
def yqD (a0:dG) (a1:Int):Option (zaY yuB×zak yna) :=let r1:=yB a0;let r2:=yb a1 0 (i64.wrap (r1-1));bif(!r2)then some (((-1),()),()) else bif((i64.wrap (a0.1-1)) !=0)then some (((i64.wrap (a1.tdiv (i64.wrap (a0.1-1)))),()),()) else none
theorem yPd:ConOk prog 180 ⟨yna,yuB,fun x=>yqD x.1 x.2.1⟩:=zkI (yLP) func180 ntmps180.symm fun x=>by kernel_rfl
def yjm (a0:dG) (a1:Int):Int:=ybS a0 a1
theorem ySc (a0:dG) (a1:Int) (hk:zjx yna (a0,a1,())):yqD a0 a1=(fun n=>some ((n,()),())) (yjm a0 a1):=by
 unfold yqD yjm ybS;simp only[y4H];cases hb:yhR a0 a1
 ·rfl
 ·obtain⟨h1,h2,h3⟩:=yF2 hb
  have h4:=yj.1 h1;rw[wq (a0.1-1) (by omega) (by omega),show(a0.1-1 !=0)=true from bne_iff_ne.2 (by omega),wr (by omega) (by omega)]; rfl
def yB0:Con:=⟨yna,yuB,fun x=>(fun n=>some ((n,()),())) (yjm x.1 x.2.1)⟩
theorem ySV:ConOk prog 180 yB0:=(yPd).mono (fun x r hk h=>(ySc x.1 x.2.1 hk).trans h)
def ytq:Code:=(f161.body).getD .skip
def yDo:Env:=zkw TT [] []
theorem yUQ:FrOk prog ⟨yDo,18,fun _=>none⟩ ytq:=zkA mixed yf trivial
def yHZ:Nat→Option Seg:=fun _=>none
def ydI:Shape:=⟨[(0,false,[.br tI]),(1,false,[ii]),(5,false,[ii])],[],[]⟩
def yiN:Shape:=⟨[(0,false,[.br tI]),(1,false,[ii]),(5,false,[.ci .i64 0])],[],[]⟩
def yiy:Shape:=⟨[],[],[]⟩
def yi7:Shape:=⟨[(4,false,[.bool])],[],[]⟩
abbrev ysk (v0:List Int) (v1 v2:Int):(ydI).X:=(((v0,()),(v1,()),(v2,()),()),(),())
abbrev yRG (v0:List Int) (v1:Int):(yiN).X:=(((v0,()),(v1,()),((),()),()),(),())
abbrev yRv  :(yiy).X:=((),(),())
abbrev yRS (v0:Bool):(yi7).X:=(((v0,()),()),(),())
def ysU (v0:List Int) (v1 v2:Int):Option ((ydI).X ⊕ ((yiy).X ⊕ (yi7).X)) :=bif(ltb v2 (v0.length:Int))then bif(inb v2 v0.length)then bif((nth v0 v2 0)==v1)then some (.inr (.inr (((true,()),()),(),()))) else some (.inl (((v0,()),(v1,()),((i64.wrap (v2+1)),()),()),(),())) else none else some (.inr (.inl ((),(),())))
def yei (x:(ydI).X):=ysU x.1.1.1 x.1.2.1.1 x.1.2.2.1.1
def yEE (x:(yiN).X):(ydI).X:=(((x.1.1.1,()),(x.1.2.1.1,()),(0,()),()),(),())
def yGd:Code:=(zd7 ytq 64 52).getD .skip
theorem yUa:zd7 ytq 64 13=some (.block 0 (.loop yGd)):=by kernel_rfl
theorem yWR (x:(ydI).X):zhu ⟨yDo,18,yHZ⟩ 0 yGd 52 ydI yiy yi7 x=yei x:=by kernel_rfl
def yEV (x:(yiN).X):Nat:=18446744073709551616
def ytT (x:(yiN).X):Option ((yiy).X ⊕ (yi7).X):=zF yei (yEV x) (yEE x)
def yFB:Seg:=⟨yiN,yiy,yi7,ytT⟩
def yXp:Nat→Option Seg:=fun q=>bif Nat.beq q 13 then some yFB else yHZ q
theorem yUR:FrOk prog ⟨yDo,18,yXp⟩ ytq:=(yUQ).loop (sg:=yFB) ydI yEE (by decide) yUa yei yEV (by decide) (fun _=>rfl) (fun x r _ h=>h) yWR
abbrev yue:List Par:= [.rd tL,.rd tI]
abbrev yDT:List OT:= [⟨false,tB,.fz⟩]
def yyl (a0:List Int) (a1:Int):Option (zaY yDT×zak yue) :=zkt (ytT (((a0,()),(a1,()),((),()),()),(),())) (fun y0 =>some ((false,()),())) (fun y0 =>some ((y0.1.1.1,()),()))
theorem yY0:ConOk prog 161 ⟨yue,yDT,fun x=>yyl x.1 x.2.1⟩:=zkI (yUR) func161 ntmps161.symm fun x=>by kernel_rfl
def yhC (a0:List Int) (a1:Int):Bool:=a0.any (· ==a1)
theorem y1C (a0:List Int) (a1:Int) (hk:zjx yue (a0,a1,())):yyl a0 a1=(fun n=>some ((n,()),())) (yhC a0 a1):=by
 have hb:a0.length*8≤2^47:=hk.1.1
 have h1:ytT (yRG a0 a1)=some (bif a0.all (· !=a1)then .inl yRv else .inr (yRS true)) :=
  zj9 (step:=yei) a0 0 (fun i=>ysk a0 a1 i) (· !=a1) _ _ (fun i hi=>by
   simp only[yei,ysk,ysU,zky (show(i:Int)<a0.length by omega),cond_true,wq ((i:Int)+1) (by omega) (by omega),Int.natCast_add,Int.natCast_one,Int.toNat_natCast,zkR hi,zkS,bne]
   cases(a0.getD i 0==a1)<;>rfl) (by simp only[yei,ysk,ysU,zk3 (Int.le_refl _),cond_false]) _ (by show _<18446744073709551616; omega)
 unfold yyl yhC;rw[h1,show a0.any (· ==a1)= !(a0.all (· !=a1))by simp[List.all_eq_not_any_not,bne]];cases a0.all (· !=a1)<;>rfl
def yxR:Con:=⟨yue,yDT,fun x=>(fun n=>some ((n,()),())) (yhC x.1 x.2.1)⟩
theorem yJX:ConOk prog 161 yxR:=(yY0).mono (fun x r hk h=>(y1C x.1 x.2.1 hk).trans h)
def yo2:Code:=(f90.body).getD .skip
def yw6:Env:=zkw TT [(82,yP),(160,ygN),(161,yxR)] []
theorem yOb:FrOk prog ⟨yw6,60,fun _=>none⟩ yo2:=zkA mixed yf ⟨yaa,yme,yJX,trivial⟩
def yDd:Nat→Option Seg:=fun _=>none
def yci:Shape:=⟨[(1,false,[ii]),(2,false,[.ptr 0 0]),(6,false,[.br tI]),(7,false,[ii])],[(0,oL)],[]⟩
def ygr:Shape:=⟨[(1,false,[ii]),(2,false,[.ptr 0 0]),(6,false,[.br tI]),(7,false,[.ci .i64 0])],[(0,oL)],[]⟩
def ygf:Shape:=⟨[(6,false,[.br tI])],[],[]⟩
def yjR:Shape:=⟨[],[],[]⟩
abbrev yom (v0:Int) (v1:List Int) (v2:Int) (v3:dM):(yci).X:=(((v0,()),((),()),(v1,()),(v2,()),()),((v3.1,v3.2.1,v3.2.2.1,v3.2.2.2,()),()),())
abbrev yMi (v0:Int) (v1:List Int) (v2:dM):(ygr).X:=(((v0,()),((),()),(v1,()),((),()),()),((v2.1,v2.2.1,v2.2.2.1,v2.2.2.2,()),()),())
abbrev yzG (v0:List Int):(ygf).X:=(((v0,()),()),(),())
def yoP (v0:Int) (v1:List Int) (v2:Int) (v3:List (List Int)) (v4:List dW) (v5:Bool) (v6:List Int):Option ((yci).X ⊕ ((ygf).X ⊕ (yjR).X)) :=bif(ltb v2 (v4.length:Int))then bif(inb v2 v4.length)then bif((nth v4 v2 (0,[])).1==v0)then bif(inb v2 v4.length)then some (.inl (((v0,()),((),()),((nth v4 v2 (0,[])).2,()),((i64.wrap (v2+1)),()),()),((v3,v4,v5,v6,()),()),())) else none else some (.inl (((v0,()),((),()),(v1,()),((i64.wrap (v2+1)),()),()),((v3,v4,v5,v6,()),()),())) else none else some (.inr (.inl (((v1,()),()),(),())))
def ycD (x:(yci).X):=yoP x.1.1.1 x.1.2.2.1.1 x.1.2.2.2.1.1 x.2.1.1.1 x.2.1.1.2.1 x.2.1.1.2.2.1 x.2.1.1.2.2.2.1
def yzf (x:(ygr).X):(yci).X:=(((x.1.1.1,()),((),()),(x.1.2.2.1.1,()),(0,()),()),((x.2.1.1.1,x.2.1.1.2.1,x.2.1.1.2.2.1,x.2.1.1.2.2.2.1,()),()),())
def yBH:Code:=(zd7 yo2 64 244).getD .skip
theorem yNJ:zd7 yo2 64 61=some (.block 0 (.loop yBH)):=by kernel_rfl
theorem yPw (x:(yci).X):zhu ⟨yw6,60,yDd⟩ 0 yBH 244 yci ygf yjR x=ycD x:=by kernel_rfl
def yzu (x:(ygr).X):Nat:=18446744073709551616
def ypW (x:(ygr).X):Option ((ygf).X ⊕ (yjR).X):=zF ycD (yzu x) (yzf x)
def yzU:Seg:=⟨ygr,ygf,yjR,ypW⟩
def yP2:Nat→Option Seg:=fun q=>bif Nat.beq q 61 then some yzU else yDd q
theorem yOc:FrOk prog ⟨yw6,60,yP2⟩ yo2:=(yOb).loop (sg:=yzU) yci yzf (by decide) yNJ ycD yzu (by decide) (fun _=>rfl) (fun x r _ h=>h) yPw
abbrev ypf:List Par:= [.rd tM,.rd tI]
abbrev yxB:List OT:= [⟨false,tL,oG⟩,⟨false,tB,.fz⟩]
def ysD (a0:dM) (a1:Int):Option (zaY yxB×zak ypf) :=let r1:=yaX a0;bif(!(!r1))then bif(!a0.2.2.1)then let r2:=yb a1 0 (i64.wrap ((a0.1.length:Int)-1));bif(!(!r2))then let r3:=yhC a0.2.2.2 a1;bif r3 then some ((([]:List Int),false,()),()) else bif(inb a1 a0.1.length)then zkt (ypW (((a1,()),((),()),((nth a0.1 a1 []),()),((),()),()),((a0.1,a0.2.1,a0.2.2.1,a0.2.2.2,()),()),())) (fun y3 =>bif(zkl ([]:List Int).length y3.1.1.1.length 8)then some (((([]:List Int)++y3.1.1.1),true,()),()) else none) (fun y3 =>none) else none else some ((([]:List Int),false,()),()) else some ((([]:List Int),false,()),()) else some ((([]:List Int),false,()),())
theorem ySv:ConOk prog 90 ⟨ypf,yxB,fun x=>ysD x.1 x.2.1⟩:=zkI (yOc) func90 ntmps90.symm fun x=>by kernel_rfl
def ykI (a0:dM) (a1:Int):List Int×Bool:=yW a0 a1
theorem yVy (a0:dM) (a1:Int) (hk:zjx ypf (a0,a1,())):ysD a0 a1=(fun n=>some ((n.1,n.2,()),())) (ykI a0 a1):=by
 have hb1:a0.1.length*24≤2^47:=hk.1.1.1;have hb2:a0.2.1.length*32≤2^47:=hk.1.2.1.1
 have h1: ∀s,ypW (yMi a1 s a0)=some (.inl (yzG (yhE a1 a0.2.1 s))):=fun s =>
  zkx (step:=ycD) a0.2.1 (0,[]) (fun i s=>yom a1 s i a0) (fun s w=>bif w.1==a1 then w.2 else s) (fun _ _=>True) (fun s=> .inl (yzG s)) (fun i s hi _=>⟨by
   simp only[ycD,yom,yoP,zky (show(i:Int)<a0.2.1.length by omega),cond_true,wq ((i:Int)+1) (by omega) (by omega),Int.natCast_add,Int.natCast_one,Int.toNat_natCast,zkR hi,zkS]
   cases((a0.2.1.getD i (0,[])).1==a1)<;>rfl,trivial⟩) (fun s _=>by simp only[ycD,yom,yoP,zk3 (Int.le_refl _),cond_false]) s trivial _ (by show _<18446744073709551616; omega)
 unfold ysD ykI yW ys4;rw[yoa (show a0.1.length≤1152921504606846976 by omega)];unfold yaX yhC;simp only[h1,zkN,List.nil_append];cases yx a0
 ·rfl
 cases a0.2.2.1
 ·cases hi:inb a1 a0.1.length
  ·rfl
  ·cases a0.2.2.2.any (· ==a1)
   ·have hs:(yhE a1 a0.2.1 (nth a0.1 a1 [])).length*8≤2^47 :=
     yJp (P:=fun s=>s.length*8≤2^47) (yIw (P:=fun s:List Int=>s.length*8≤2^47) hi fun x hx=>(hk.1.1.2 x hx).1) fun w hw=>(hk.1.2.1.2 w hw).2.1
    simp only[Bool.not_true,Bool.not_false,cond_true,cond_false,Bool.true_and,show zkl ([]:List Int).length (yhE a1 a0.2.1 (nth a0.1 a1 [])).length 8=true from zkF.2 (by rw[List.length_nil]; omega)]
   ·rfl
 ·rfl
def yEm:Con:=⟨ypf,yxB,fun x=>(fun n=>some ((n.1,n.2,()),())) (ykI x.1 x.2.1)⟩
theorem yWw:ConOk prog 90 yEm:=(ySv).mono (fun x r hk h=>(yVy x.1 x.2.1 hk).trans h)
def y0H:Code:=(f246.body).getD .skip
def y1f:Env:=zkw TT [(90,yEm),(113,yfM),(211,yuX)] []
theorem yRb:FrOk prog ⟨y1f,36,fun _=>none⟩ y0H:=zkA mixed yf ⟨yWw,ykS,yIF,trivial⟩
abbrev yrt:List Par:= [.rd tA,.rd tI,.rd tI]
abbrev yAZ:List OT:= [⟨false,tI,.fz⟩,⟨false,tB,.fz⟩]
def yvQ (a0:dA) (a1 a2:Int):Option (zaY yAZ×zak yrt) :=let r1:=yep a0 a1 a2;bif(!r1)then some ((0,false,()),()) else bif(inb a1 a0.2.2.1.length)then let r2:=ybU a2;let r3:=ykI ((nth a0.2.2.1 a1 ([],[],false,[])).1,((nth a0.2.2.1 a1 ([],[],false,[])).2).1,(((nth a0.2.2.1 a1 ([],[],false,[])).2).2)) r2;bif(!(!r3.2))then bif((r3.1.length:Int) !=1)then some ((0,false,()),()) else bif(inb 0 r3.1.length)then some (((nth r3.1 0 0),true,()),()) else none else some ((0,false,()),()) else none
theorem yWj:ConOk prog 246 ⟨yrt,yAZ,fun x=>yvQ x.1 x.2.1 x.2.2.1⟩:=zkI (yRb) func246 ntmps246.symm fun x=>by kernel_rfl
def ymb (a0:dA) (a1 a2:Int):Int×Bool:=(yjE a0 a1 a2,yD a0 a1 a2)
theorem yYC (a0:dA) (a1 a2:Int) (hk:zjx yrt (a0,a1,a2,())):yvQ a0 a1 a2=(fun n=>some ((n.1,n.2,()),())) (ymb a0 a1 a2):=by
 unfold yvQ ymb yjE yep;simp only[zkX,ygV,ykI];rw[show yD a0 a1 a2=(ycL a0 a1 a2&&((ydw a0 a1 a2).2&&((ydw a0 a1 a2).1.length:Int)==1))from rfl];rw[show yW (nth a0.2.2.1 a1 ([],[],false,[])) (yu a2)=ydw a0 a1 a2 from rfl];cases hl:ycL a0 a1 a2
 ·rfl
 ·rw[show inb a1 a0.2.2.1.length=true by unfold ycL at hl; exact(Bool.and_eq_true_iff.1 hl).1]
  cases(ydw a0 a1 a2).2
  ·rfl
  ·rw[bne]
   cases h1:(((ydw a0 a1 a2).1.length:Int)==1)
   ·rfl
   ·rw[show inb 0 (ydw a0 a1 a2).1.length=true from zj6.2 (by have:=beq_iff_eq.1 h1; omega)]; rfl
def yGy:Con:=⟨yrt,yAZ,fun x=>(fun n=>some ((n.1,n.2,()),())) (ymb x.1 x.2.1 x.2.2.1)⟩
theorem yZn:ConOk prog 246 yGy:=(yWj).mono (fun x r hk h=>(yYC x.1 x.2.1 x.2.2.1 hk).trans h)
end
end Go.Tf
