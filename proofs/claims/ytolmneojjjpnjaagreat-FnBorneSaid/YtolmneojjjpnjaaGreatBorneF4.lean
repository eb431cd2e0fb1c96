/- Functions of the program, and what they come to. -/
import Derived.Test.YtolmneojjjpnjaaGreatBorneF3
namespace Go.Tf
noncomputable section
open Go.Proofs Go.Proofs.Tryz IntKind
set_option synthInstance.maxHeartbeats 400000
set_option synthInstance.maxSize 10000
set_option linter.unusedVariables false
set_option linter.unusedSimpArgs false
set_option maxRecDepth 100000
def ypl:Code:=(f218.body).getD .skip
def yxb:Env:=zkw TT [(227,yqb),(242,yDb)] []
theorem yMR:FrOk prog ⟨yxb,41,fun _=>none⟩ ypl:=zkA mixed yc ⟨yDG,yUB,trivial⟩
def yCL:Nat→Option Seg:=fun _=>none
def ycu:Shape:=⟨[(1,false,[.int .i64]),(2,false,[.ptr 0 0]),(6,false,[.at 800000000]),(7,false,[.bool]),(8,false,[.at 800000001]),(9,false,[.int .i64])],[(0,[.int .i64,.int .i64,.int .i64,.br tM,.int .i64,.int .i64,.int .i64,.int .i64,.int .i64,.br tW,.int .i64,.bool,.bool])],[(800000000,tI,.fz),(800000001,tI,.fz)]⟩
def ygr:Shape:=⟨[(1,false,[.int .i64]),(2,false,[.ptr 0 0]),(6,false,[.at 800000000]),(7,false,[.bool]),(8,false,[.at 800000001]),(9,false,[.ci .i64 0])],[(0,[.int .i64,.int .i64,.int .i64,.br tM,.int .i64,.int .i64,.int .i64,.int .i64,.int .i64,.br tW,.int .i64,.bool,.bool])],[(800000000,tI,.fz),(800000001,tI,.fz)]⟩
def ygh:Shape:=⟨[(7,false,[.bool]),(8,false,[.at 800000000])],[],[(800000000,tI,.fz)]⟩
def yjW:Shape:=⟨[],[],[]⟩
abbrev yfH (v0:Int) (v1:Bool) (v2:Int) (v3:dA) (v4 v5:List Int):(ycu).X:=(((v0,()),((),()),((),()),(v1,()),((),()),(v2,()),()),((v3.1,v3.2.1.1,v3.2.1.2,v3.2.2.1,v3.2.2.2.1,v3.2.2.2.2.1,v3.2.2.2.2.2.1,v3.2.2.2.2.2.2.1,v3.2.2.2.2.2.2.2.1,v3.2.2.2.2.2.2.2.2.1,v3.2.2.2.2.2.2.2.2.2.1,v3.2.2.2.2.2.2.2.2.2.2.1,v3.2.2.2.2.2.2.2.2.2.2.2,()),()),(v4,v5,()))
abbrev yzr (v0:Int) (v1:Bool) (v2:dA) (v3 v4:List Int):(ygr).X:=(((v0,()),((),()),((),()),(v1,()),((),()),((),()),()),((v2.1,v2.2.1.1,v2.2.1.2,v2.2.2.1,v2.2.2.2.1,v2.2.2.2.2.1,v2.2.2.2.2.2.1,v2.2.2.2.2.2.2.1,v2.2.2.2.2.2.2.2.1,v2.2.2.2.2.2.2.2.2.1,v2.2.2.2.2.2.2.2.2.2.1,v2.2.2.2.2.2.2.2.2.2.2.1,v2.2.2.2.2.2.2.2.2.2.2.2,()),()),(v3,v4,()))
abbrev yoB (v0:Bool) (v1:List Int):(ygh).X:=(((v0,()),((),()),()),(),(v1,()))
def yiO (v0:Int) (v1:Bool) (v2 v3 v4 v5:Int) (v6:List dM) (v7 v8 v9 v10 v11:Int) (v12:List dW) (v13:Int) (v14 v15:Bool) (v16 v17:List Int):Option ((ycu).X ⊕ ((ygh).X ⊕ (yjW).X)) :=bif(ltb v2 (i64.wrap (v4-1)))then bif v1 then let r3:=ykF (v4,v5) v0 v2;bif(inb r3 v16.length)then bif(zkl v17.length ([(nth v16 r3 0)]:List Int).length 8)then some (.inl (((v0,()),((),()),((),()),(v1,()),((),()),((i64.wrap (v2+1)),()),()),((v3,v4,v5,v6,v7,v8,v9,v10,v11,v12,v13,v14,v15,()),()),(v16,(v17++([(nth v16 r3 0)]:List Int)),()))) else none else none else some (.inr (.inl (((v1,()),((),()),()),(),(v17,())))) else some (.inr (.inl (((v1,()),((),()),()),(),(v17,()))))
def yay (x:(ycu).X):=yiO x.1.1.1 x.1.2.2.2.1.1 x.1.2.2.2.2.2.1.1 x.2.1.1.1 x.2.1.1.2.1 x.2.1.1.2.2.1 x.2.1.1.2.2.2.1 x.2.1.1.2.2.2.2.1 x.2.1.1.2.2.2.2.2.1 x.2.1.1.2.2.2.2.2.2.1 x.2.1.1.2.2.2.2.2.2.2.1 x.2.1.1.2.2.2.2.2.2.2.2.1 x.2.1.1.2.2.2.2.2.2.2.2.2.1 x.2.1.1.2.2.2.2.2.2.2.2.2.2.1 x.2.1.1.2.2.2.2.2.2.2.2.2.2.2.1 x.2.1.1.2.2.2.2.2.2.2.2.2.2.2.2.1 x.2.2.1 x.2.2.2.1
def yy9 (x:(ygr).X):(ycu).X:=(((x.1.1.1,()),((),()),((),()),(x.1.2.2.2.1.1,()),((),()),(0,()),()),((x.2.1.1.1,x.2.1.1.2.1,x.2.1.1.2.2.1,x.2.1.1.2.2.2.1,x.2.1.1.2.2.2.2.1,x.2.1.1.2.2.2.2.2.1,x.2.1.1.2.2.2.2.2.2.1,x.2.1.1.2.2.2.2.2.2.2.1,x.2.1.1.2.2.2.2.2.2.2.2.1,x.2.1.1.2.2.2.2.2.2.2.2.2.1,x.2.1.1.2.2.2.2.2.2.2.2.2.2.1,x.2.1.1.2.2.2.2.2.2.2.2.2.2.2.1,x.2.1.1.2.2.2.2.2.2.2.2.2.2.2.2.1,()),()),(x.2.2.1,x.2.2.2.1,()))
def yAW:Code:=(zd7 ypl 64 244).getD .skip
theorem yMb:zd7 ypl 64 61=some (.block 0 (.loop yAW)):=by kernel_rfl
theorem yOT (x:(ycu).X):zhu ⟨yxb,41,yCL⟩ 0 yAW 244 ycu ygh yjW x=yay x:=by kernel_rfl
def yzj (x:(ygr).X):Nat:=18446744073709551616
def yjN (x:(ygr).X):Option ((ygh).X ⊕ (yjW).X):=zF yay (yzj x) (yy9 x)
def yzD:Seg:=⟨ygr,ygh,yjW,yjN⟩
def yPi:Nat→Option Seg:=fun q=>bif Nat.beq q 61 then some yzD else yCL q
theorem yMS:FrOk prog ⟨yxb,41,yPi⟩ ypl:=(yMR).loop (sg:=yzD) ycu yy9 (by decide) yMb yay yzj (by decide) (fun _=>rfl) (fun x r _ h=>h) yOT
abbrev ykq:List Par:= [.rd tA,.rd tI]
abbrev ypF:List OT:= [⟨false,tL,(.ow .fz)⟩,⟨false,tB,.fz⟩]
def yty (a0:dA) (a1:Int):Option (zaY ypF×zak ykq) :=bnd (yjv a0 a1) fun r1 =>zkt (yjN (((a1,()),((),()),((),()),(r1.1.2.1,()),((),()),((),()),()),((a0.1,a0.2.1.1,a0.2.1.2,a0.2.2.1,a0.2.2.2.1,a0.2.2.2.2.1,a0.2.2.2.2.2.1,a0.2.2.2.2.2.2.1,a0.2.2.2.2.2.2.2.1,a0.2.2.2.2.2.2.2.2.1,a0.2.2.2.2.2.2.2.2.2.1,a0.2.2.2.2.2.2.2.2.2.2.1,a0.2.2.2.2.2.2.2.2.2.2.2,()),()),(r1.1.1,([]:List Int),()))) (fun y3 =>some ((y3.2.2.1,y3.1.1.1,()),())) (fun y3 =>none)
theorem yRI:ConOk prog 218 ⟨ykq,ypF,fun x=>yty x.1 x.2.1⟩:=zkI (yMS) func218 ntmps218.symm fun x=>by kernel_rfl
def ypK (a0:dA) (a1:Int):List Int×Bool:=ynO a0 a1
def yyl (a0:dA) (a1:Int):Bool:=yX a0.2.1 a1
theorem yT0 (a0:dA) (a1:Int) (hk:zjx ykq (a0,a1,())) (hq:yyl a0 a1=true):yty a0 a1=(fun n=>some ((n.1,n.2,()),())) (ypK a0 a1):=by
 have hs:yX a0.2.1 a1=true:=hq;have hg:=yk.1 (yaq.1 hs).1;unfold yty ypK ynO;rw[yDJ a0 a1 (yaq.1 hs).1,yf2];simp only[zkH];cases hw:(yJ a0 a1).2
 ·have h1:yjN (yzr a1 false a0 (yJ a0 a1).1 [])=some (.inl (yoB false [])) :=
   zkL (step:=yay) (fun i=>yfH a1 false i a0 (yJ a0 a1).1 []) 0 _ (fun i hi=>absurd hi (Nat.not_lt_zero _)) (by
    simp only[yay,yfH,yiO,cond_false]
    cases ltb ((0:Nat):Int) (i64.wrap (a0.2.1.1-1))<;>rfl) _ (by show _<18446744073709551616; omega)
  rw[h1]; rfl
 ·have hL:=yI2 hw
  have h1:yjN (yzr a1 true a0 (yJ a0 a1).1 [])=some (.inl (yoB true ((List.range (a0.2.1.1-1).toNat).foldl (fun l (i:Nat)=>l++ [nth (yJ a0 a1).1 (ybl a0.2.1 a1 i) 0]) []))) :=
   zkD (step:=yay) (a0.2.1.1-1).toNat (fun i s=>yfH a1 true i a0 (yJ a0 a1).1 s) (fun l (i:Nat)=>l++ [nth (yJ a0 a1).1 (ybl a0.2.1 a1 i) 0]) (fun i s=>s.length=i) (fun s=> .inl (yoB true s)) (fun i s hi hs2=>⟨by
    have hd:=yTr hs (show(0:Int)≤i by omega) (show(i:Int)≤a0.2.1.1-2 by omega);simp only[yay,yfH,yiO,wq (a0.2.1.1-1) (by omega) (by omega),zky (show(i:Int)<a0.2.1.1-1 by omega),cond_true,wq ((i:Int)+1) (by omega) (by omega),Int.natCast_add,Int.natCast_one,Int.toNat_natCast,zkX,ykF,zj6.2 (show 0≤ybl a0.2.1 a1 i∧ybl a0.2.1 a1 i<(yJ a0 a1).1.length by omega)]
    rw[zkF.2 (show(s.length+ [nth (yJ a0 a1).1 (ybl a0.2.1 a1 i) 0].length)*8≤140737488355328 by simp only[List.length_cons,List.length_nil]; omega)]; rfl,by simp[hs2]⟩) (fun s hs2=>by simp only[yay,yfH,yiO,wq (a0.2.1.1-1) (by omega) (by omega),zk3 (show a0.2.1.1-1≤((a0.2.1.1-1).toNat:Int)by omega),cond_false]) [] rfl _ (by show _<18446744073709551616; omega)
  rw[h1,ysZ]; rfl
def ypN (a0:dA) (a1:Int):Option (zaY ypF×zak ykq):=bif yyl a0 a1 then(fun n=>some ((n.1,n.2,()),())) (ypK a0 a1)else none
theorem yUS (a0:dA) (a1:Int) (h:yyl a0 a1=true):ypN a0 a1=(fun n=>some ((n.1,n.2,()),())) (ypK a0 a1):=by unfold ypN; rw[h]; rfl
def yDj:Con:=⟨ykq,ypF,fun x=>ypN x.1 x.2.1⟩
theorem yUJ:ConOk prog 218 yDj:=(yRI).mono (fun x r hk h=>zkY h (fun hq=>yT0 x.1 x.2.1 hk hq))
def yPd:Code:=(f181.body).getD .skip
def yPC:Env:=zkw TT [(215,yyc),(218,yDj)] []
theorem yHZ:FrOk prog ⟨yPC,28,fun _=>none⟩ yPd:=zkA mixed yc ⟨yIJ,yUJ,trivial⟩
abbrev yhl:List Par:= [.rd tA,.rd tI]
abbrev ylR:List OT:= [⟨false,tL,(.ow .fz)⟩,⟨false,tB,.fz⟩]
def yoZ (a0:dA) (a1:Int):Option (zaY ylR×zak yhl) :=let r1:=yip a0 a1;bif(leb 0 r1)then bif(inb r1 a0.2.2.2.2.2.2.2.2.1.length)then bif(zkl ([]:List Int).length ((nth a0.2.2.2.2.2.2.2.2.1 r1 (0,[])).2).length 8)then some (((([]:List Int)++((nth a0.2.2.2.2.2.2.2.2.1 r1 (0,[])).2)),true,()),()) else none else none else bif a0.2.2.2.2.2.2.2.2.2.2.2 then some ((([]:List Int),false,()),()) else bnd (ypN a0 a1) fun r2 =>some ((r2.1.1,r2.1.2.1,()),())
theorem yLe:ConOk prog 181 ⟨yhl,ylR,fun x=>yoZ x.1 x.2.1⟩:=zkI (yHZ) func181 ntmps181.symm fun x=>by kernel_rfl
def yic (a0:dA) (a1:Int):List Int×Bool:=yz a0 a1
def ytm (a0:dA) (a1:Int):Bool:=yX a0.2.1 a1
theorem yNZ (a0:dA) (a1:Int) (hk:zjx yhl (a0,a1,())) (hq:ytm a0 a1=true):yoZ a0 a1=(fun n=>some ((n.1,n.2,()),())) (yic a0 a1):=by
 unfold yoZ yic yz yip;rw[yUS a0 a1 hq];simp only[List.nil_append];cases h:leb 0 (yx a0.2.2.2.2.2.2.2.2.1 a1)
 ·cases a0.2.2.2.2.2.2.2.2.2.2.2<;>rfl
 ·have h1:=(yj4 (d:=((0,[]):dW)) h).1
  have h2:(nth a0.2.2.2.2.2.2.2.2.1 (yx a0.2.2.2.2.2.2.2.2.1 a1) (0,[])).2.length*8≤2^47:=yvr (P:=fun x:dW=>x.2.length*8≤2^47) h1 (fun x hx=>(hk.1.2.2.2.2.2.2.2.2.1.2 x hx).2.1);rw[show inb (yx a0.2.2.2.2.2.2.2.2.1 a1) a0.2.2.2.2.2.2.2.2.1.length=true from h1,zkF.2 (show(([]:List Int).length+(nth a0.2.2.2.2.2.2.2.2.1 (yx a0.2.2.2.2.2.2.2.2.1 a1) (0,[])).2.length)*8≤140737488355328 by rw[List.length_nil]; omega)]; rfl
def ymd (a0:dA) (a1:Int):Option (zaY ylR×zak yhl):=bif ytm a0 a1 then(fun n=>some ((n.1,n.2,()),())) (yic a0 a1)else none
theorem yOM (a0:dA) (a1:Int) (h:ytm a0 a1=true):ymd a0 a1=(fun n=>some ((n.1,n.2,()),())) (yic a0 a1):=by unfold ymd; rw[h]; rfl
def yy2:Con:=⟨yhl,ylR,fun x=>ymd x.1 x.2.1⟩
theorem yOK:ConOk prog 181 yy2:=(yLe).mono (fun x r hk h=>zkY h (fun hq=>yNZ x.1 x.2.1 hk hq))
def ySK:Code:=(f182.body).getD .skip
def yTe:Env:=zkw TT [(82,yw),(119,yl4)] []
theorem yKd:FrOk prog ⟨yTe,16,fun _=>none⟩ ySK:=zkA mixed yc ⟨yC,yvu,trivial⟩
abbrev ynD:List Par:= [.rd tG,.rd tI]
abbrev yu8:List OT:= [⟨false,tI,.fz⟩]
def yqG (a0:dG) (a1:Int):Option (zaY yu8×zak ynD) :=let r1:=yh a0;let r2:=ya a1 0 (i64.wrap (r1-1));bif(!r2)then some (((-1),()),()) else bif((i64.wrap (a0.1-1)) !=0)then some (((a1.tmod (i64.wrap (a0.1-1))),()),()) else none
theorem yOj:ConOk prog 182 ⟨ynD,yu8,fun x=>yqG x.1 x.2.1⟩:=zkI (yKd) func182 ntmps182.symm fun x=>by kernel_rfl
def yjk (a0:dG) (a1:Int):Int:=ybr a0 a1
theorem yQ4 (a0:dG) (a1:Int) (hk:zjx ynD (a0,a1,())):yqG a0 a1=(fun n=>some ((n,()),())) (yjk a0 a1):=by
 unfold yqG yjk ybr;simp only[yXB];cases hb:ybQ a0 a1
 ·rfl
 ·obtain⟨h1,h2,h3⟩:=yjE hb
  have h4:=yk.1 h1;rw[wq (a0.1-1) (by omega) (by omega),show(a0.1-1 !=0)=true from bne_iff_ne.2 (by omega)]; rfl
def yBc:Con:=⟨ynD,yu8,fun x=>(fun n=>some ((n,()),())) (yjk x.1 x.2.1)⟩
theorem yR5:ConOk prog 182 yBc:=(yOj).mono (fun x r hk h=>(yQ4 x.1 x.2.1 hk).trans h)
def yrw:Code:=(f183.body).getD .skip
def yAk:Env:=zkw TT [] [(4096,(.pr .fz .fz)),(28800,(.pr .fz .fz)),(41472,(.pr .fz .fz)),(49280,(.pr .fz .fz))]
theorem yQx:FrOk prog ⟨yAk,67,fun _=>none⟩ yrw:=zkA mixed yc trivial
def yEw:Nat→Option Seg:=fun _=>none
def ydc:Shape:=⟨[(0,false,[.ptr 1000000000 0]),(3,false,[.ptr 0 0]),(4,false,[.at 800000000]),(5,false,[.bool]),(6,false,[.int .i64])],[(0,[.int .i64,.fz tI]),(1000000000,[.int .i64,.int .i64,.int .i64,.at 800000001,.int .i64,.int .i64,.int .i64,.int .i64,.int .i64,.at 800000002,.int .i64,.bool,.bool])],[(800000000,tW,(.pr .fz .fz)),(800000001,tM,(.pr (.ow .fz) (.pr (.ow (.pr .fz .fz)) (.pr .fz (.ow .fz))))),(800000002,tW,(.pr .fz .fz))]⟩
def yhN:Shape:=⟨[(0,false,[.ptr 1000000000 0]),(3,false,[.ptr 0 0]),(4,false,[.at 800000000]),(5,false,[.cb false]),(6,false,[.ci .i64 0])],[(0,[.int .i64,.fz tI]),(1000000000,[.int .i64,.int .i64,.int .i64,.at 800000001,.int .i64,.int .i64,.int .i64,.int .i64,.int .i64,.at 800000002,.int .i64,.bool,.bool])],[(800000000,tW,(.pr .fz .fz)),(800000001,tM,(.pr (.ow .fz) (.pr (.ow (.pr .fz .fz)) (.pr .fz (.ow .fz))))),(800000002,tW,(.pr .fz .fz))]⟩
def yhz:Shape:=⟨[(0,false,[.ptr 1000000000 0]),(3,false,[.ptr 0 0]),(4,false,[.at 800000000]),(5,false,[.bool])],[(0,[.int .i64,.fz tI]),(1000000000,[.int .i64,.int .i64,.int .i64,.at 800000001,.int .i64,.int .i64,.int .i64,.int .i64,.int .i64,.at 800000002,.int .i64,.bool,.bool])],[(800000000,tW,(.pr .fz .fz)),(800000001,tM,(.pr (.ow .fz) (.pr (.ow (.pr .fz .fz)) (.pr .fz (.ow .fz))))),(800000002,tW,(.pr .fz .fz))]⟩
def ylY:Shape:=⟨[],[],[]⟩
abbrev yqq (v0:Bool) (v1:Int) (v2:dW) (v3:dA) (v4:List dW):(ydc).X:=((((),()),((),()),((),()),(v0,()),(v1,()),()),((v2.1,v2.2,()),(v3.1,v3.2.1.1,v3.2.1.2,(),v3.2.2.2.1,v3.2.2.2.2.1,v3.2.2.2.2.2.1,v3.2.2.2.2.2.2.1,v3.2.2.2.2.2.2.2.1,(),v3.2.2.2.2.2.2.2.2.2.1,v3.2.2.2.2.2.2.2.2.2.2.1,v3.2.2.2.2.2.2.2.2.2.2.2,()),()),(v4,v3.2.2.1,v3.2.2.2.2.2.2.2.2.1,()))
abbrev yNt (v0:dW) (v1:dA) (v2:List dW):(yhN).X:=((((),()),((),()),((),()),((),()),((),()),()),((v0.1,v0.2,()),(v1.1,v1.2.1.1,v1.2.1.2,(),v1.2.2.2.1,v1.2.2.2.2.1,v1.2.2.2.2.2.1,v1.2.2.2.2.2.2.1,v1.2.2.2.2.2.2.2.1,(),v1.2.2.2.2.2.2.2.2.2.1,v1.2.2.2.2.2.2.2.2.2.2.1,v1.2.2.2.2.2.2.2.2.2.2.2,()),()),(v2,v1.2.2.1,v1.2.2.2.2.2.2.2.2.1,()))
abbrev yNg (v0:Bool) (v1:dW) (v2:dA) (v3:List dW):(yhz).X:=((((),()),((),()),((),()),(v0,()),()),((v1.1,v1.2,()),(v2.1,v2.2.1.1,v2.2.1.2,(),v2.2.2.2.1,v2.2.2.2.2.1,v2.2.2.2.2.2.1,v2.2.2.2.2.2.2.1,v2.2.2.2.2.2.2.2.1,(),v2.2.2.2.2.2.2.2.2.2.1,v2.2.2.2.2.2.2.2.2.2.2.1,v2.2.2.2.2.2.2.2.2.2.2.2,()),()),(v3,v2.2.2.1,v2.2.2.2.2.2.2.2.2.1,()))
def yq1 (v0:Bool) (v1 v2:Int) (v3:List Int) (v4 v5 v6 v7 v8 v9 v10 v11 v12:Int) (v13 v14:Bool) (v15:List dW) (v16:List dM) (v17:List dW):Option ((ydc).X ⊕ ((yhz).X ⊕ (ylY).X)) :=bif(ltb v1 (v17.length:Int))then bif(!v0)then bif(inb v1 v17.length)then bif(leb v2 ((nth v17 v1 (0,[])).1))then bif(zkl v15.length ([(v2,v3)]:List dW).length 32)then bif(inb v1 v17.length)then bif((nth v17 v1 (0,[])).1 !=v2)then bif(inb v1 v17.length)then bif(zkl (v15++([(v2,v3)]:List dW)).length ([(nth v17 v1 (0,[]))]:List dW).length 32)then some (.inl ((((),()),((),()),((),()),(true,()),((i64.wrap (v1+1)),()),()),((v2,v3,()),(v4,v5,v6,(),v7,v8,v9,v10,v11,(),v12,v13,v14,()),()),(((v15++([(v2,v3)]:List dW))++([(nth v17 v1 (0,[]))]:List dW)),v16,v17,()))) else none else none else some (.inl ((((),()),((),()),((),()),(true,()),((i64.wrap (v1+1)),()),()),((v2,v3,()),(v4,v5,v6,(),v7,v8,v9,v10,v11,(),v12,v13,v14,()),()),((v15++([(v2,v3)]:List dW)),v16,v17,()))) else none else none else bif(inb v1 v17.length)then bif((nth v17 v1 (0,[])).1 !=v2)then bif(inb v1 v17.length)then bif(zkl v15.length ([(nth v17 v1 (0,[]))]:List dW).length 32)then some (.inl ((((),()),((),()),((),()),(v0,()),((i64.wrap (v1+1)),()),()),((v2,v3,()),(v4,v5,v6,(),v7,v8,v9,v10,v11,(),v12,v13,v14,()),()),((v15++([(nth v17 v1 (0,[]))]:List dW)),v16,v17,()))) else none else none else some (.inl ((((),()),((),()),((),()),(v0,()),((i64.wrap (v1+1)),()),()),((v2,v3,()),(v4,v5,v6,(),v7,v8,v9,v10,v11,(),v12,v13,v14,()),()),(v15,v16,v17,()))) else none else none else bif(inb v1 v17.length)then bif((nth v17 v1 (0,[])).1 !=v2)then bif(inb v1 v17.length)then bif(zkl v15.length ([(nth v17 v1 (0,[]))]:List dW).length 32)then some (.inl ((((),()),((),()),((),()),(v0,()),((i64.wrap (v1+1)),()),()),((v2,v3,()),(v4,v5,v6,(),v7,v8,v9,v10,v11,(),v12,v13,v14,()),()),((v15++([(nth v17 v1 (0,[]))]:List dW)),v16,v17,()))) else none else none else some (.inl ((((),()),((),()),((),()),(v0,()),((i64.wrap (v1+1)),()),()),((v2,v3,()),(v4,v5,v6,(),v7,v8,v9,v10,v11,(),v12,v13,v14,()),()),(v15,v16,v17,()))) else none else some (.inr (.inl ((((),()),((),()),((),()),(v0,()),()),((v2,v3,()),(v4,v5,v6,(),v7,v8,v9,v10,v11,(),v12,v13,v14,()),()),(v15,v16,v17,()))))
def ydI (x:(ydc).X):=yq1 x.1.2.2.2.1.1 x.1.2.2.2.2.1.1 x.2.1.1.1 x.2.1.1.2.1 x.2.1.2.1.1 x.2.1.2.1.2.1 x.2.1.2.1.2.2.1 x.2.1.2.1.2.2.2.2.1 x.2.1.2.1.2.2.2.2.2.1 x.2.1.2.1.2.2.2.2.2.2.1 x.2.1.2.1.2.2.2.2.2.2.2.1 x.2.1.2.1.2.2.2.2.2.2.2.2.1 x.2.1.2.1.2.2.2.2.2.2.2.2.2.2.1 x.2.1.2.1.2.2.2.2.2.2.2.2.2.2.2.1 x.2.1.2.1.2.2.2.2.2.2.2.2.2.2.2.2.1 x.2.2.1 x.2.2.2.1 x.2.2.2.2.1
def yBy (x:(yhN).X):(ydc).X:=((((),()),((),()),((),()),(false,()),(0,()),()),((x.2.1.1.1,x.2.1.1.2.1,()),(x.2.1.2.1.1,x.2.1.2.1.2.1,x.2.1.2.1.2.2.1,(),x.2.1.2.1.2.2.2.2.1,x.2.1.2.1.2.2.2.2.2.1,x.2.1.2.1.2.2.2.2.2.2.1,x.2.1.2.1.2.2.2.2.2.2.2.1,x.2.1.2.1.2.2.2.2.2.2.2.2.1,(),x.2.1.2.1.2.2.2.2.2.2.2.2.2.2.1,x.2.1.2.1.2.2.2.2.2.2.2.2.2.2.2.1,x.2.1.2.1.2.2.2.2.2.2.2.2.2.2.2.2.1,()),()),(x.2.2.1,x.2.2.2.1,x.2.2.2.2.1,()))
def yC5:Code:=(zd7 yrw 64 244).getD .skip
theorem yPQ:zd7 yrw 64 61=some (.block 0 (.loop yC5)):=by kernel_rfl
theorem ySu (x:(ydc).X):zhu ⟨yAk,67,yEw⟩ 0 yC5 244 ydc yhz ylY x=ydI x:=by kernel_rfl
def yBN (x:(yhN).X):Nat:=18446744073709551616
def yrY (x:(yhN).X):Option ((yhz).X ⊕ (ylY).X):=zF ydI (yBN x) (yBy x)
def yCy:Seg:=⟨yhN,yhz,ylY,yrY⟩
def yS2:Nat→Option Seg:=fun q=>bif Nat.beq q 61 then some yCy else yEw q
theorem yQy:FrOk prog ⟨yAk,67,yS2⟩ yrw:=(yQx).loop (sg:=yCy) ydc yBy (by decide) yPQ ydI yBN (by decide) (fun _=>rfl) (fun x r _ h=>h) ySu
abbrev ymv:List Par:= [.pt tA (.pr .fz (.pr (.pr .fz .fz) (.pr (.ow (.pr (.ow .fz) (.pr (.ow (.pr .fz .fz)) (.pr .fz (.ow .fz))))) (.pr .fz (.pr .fz (.pr .fz (.pr .fz (.pr .fz (.pr (.ow (.pr .fz .fz)) (.pr .fz (.pr .fz .fz))))))))))),.kp tW .fz]
abbrev ysB:List OT:= []
def yvO (a0:dA) (a1:dW):Option (zaY ysB×zak ymv) :=zkt (yrY ((((),()),((),()),((),()),((),()),((),()),()),((a1.1,a1.2,()),(a0.1,a0.2.1.1,a0.2.1.2,(),a0.2.2.2.1,a0.2.2.2.2.1,a0.2.2.2.2.2.1,a0.2.2.2.2.2.2.1,a0.2.2.2.2.2.2.2.1,(),a0.2.2.2.2.2.2.2.2.2.1,a0.2.2.2.2.2.2.2.2.2.2.1,a0.2.2.2.2.2.2.2.2.2.2.2,()),()),(([]:List dW),a0.2.2.1,a0.2.2.2.2.2.2.2.2.1,()))) (fun y0 =>bif(!y0.1.2.2.2.1.1)then bif(zkl y0.2.2.1.length ([(y0.2.1.1.1,y0.2.1.1.2.1)]:List dW).length 32)then some ((),((y0.2.1.2.1.1,(y0.2.1.2.1.2.1,y0.2.1.2.1.2.2.1),y0.2.2.2.1,y0.2.1.2.1.2.2.2.2.1,y0.2.1.2.1.2.2.2.2.2.1,y0.2.1.2.1.2.2.2.2.2.2.1,y0.2.1.2.1.2.2.2.2.2.2.2.1,y0.2.1.2.1.2.2.2.2.2.2.2.2.1,(y0.2.2.1++([(y0.2.1.1.1,y0.2.1.1.2.1)]:List dW)),y0.2.1.2.1.2.2.2.2.2.2.2.2.2.2.1,y0.2.1.2.1.2.2.2.2.2.2.2.2.2.2.2.1,y0.2.1.2.1.2.2.2.2.2.2.2.2.2.2.2.2.1),())) else none else some ((),((y0.2.1.2.1.1,(y0.2.1.2.1.2.1,y0.2.1.2.1.2.2.1),y0.2.2.2.1,y0.2.1.2.1.2.2.2.2.1,y0.2.1.2.1.2.2.2.2.2.1,y0.2.1.2.1.2.2.2.2.2.2.1,y0.2.1.2.1.2.2.2.2.2.2.2.1,y0.2.1.2.1.2.2.2.2.2.2.2.2.1,y0.2.2.1,y0.2.1.2.1.2.2.2.2.2.2.2.2.2.2.1,y0.2.1.2.1.2.2.2.2.2.2.2.2.2.2.2.1,y0.2.1.2.1.2.2.2.2.2.2.2.2.2.2.2.2.1),()))) (fun y0 =>none)
theorem yUu:ConOk prog 183 ⟨ymv,ysB,fun x=>yvO x.1 x.2.1⟩:=zkI (yQy) func183 ntmps183.symm fun x=>by kernel_rfl
def yth (a0:dA) (a1:dW):dA:=yCk a0 (yFg a0.2.2.2.2.2.2.2.2.1 a1)
def yCa (a0:dA) (a1:dW):Bool:=decide (a0.2.2.2.2.2.2.2.2.1.length≤1000)
theorem yWN (a0:dA) (a1:dW) (hk:zjx ymv (a0,a1,())) (hq:yCa a0 a1=true):yvO a0 a1=(fun n=>some ((),(n,()))) (yth a0 a1):=by
 have hq:=of_decide_eq_true hq
 have h1:=zkx (step:=ydI) a0.2.2.2.2.2.2.2.2.1 (0,[]) (fun i s=>yqq s.1 i a1 a0 s.2) (ycj a1) (fun i s=>s.2.length≤i*2) (fun s=> .inl (yNg s.1 a1 a0 s.2)) (fun i s hi hs=>by
  constructor
  ·simp only[ydI,yqq,yq1,zky (show(i:Int)<a0.2.2.2.2.2.2.2.2.1.length by omega),cond_true,wq ((i:Int)+1) (by omega) (by omega),Int.natCast_add,Int.natCast_one,Int.toNat_natCast,zkR hi,zkX,zkS,ycj,zkF.2 (show(s.2.length+ [a1].length)*32≤140737488355328 by simp only[List.length_cons,List.length_nil]; omega),
    show ∀x:dW,zkl s.2.length [x].length 32=true from fun x=>zkF.2 (by simp only[List.length_cons,List.length_nil]; omega),show ∀x:dW,zkl (s.2++ [a1]).length [x].length 32=true from fun x=>zkF.2 (by simp only[List.length_append,List.length_cons,List.length_nil]; omega)]
   cases s.1<;>cases leb a1.1 (a0.2.2.2.2.2.2.2.2.1.getD i (0,[])).1<;>cases((a0.2.2.2.2.2.2.2.2.1.getD i (0,[])).1 !=a1.1)<;>simp
  ·unfold ycj
   have: ∀(b c:Bool) (x:dW),((bif b then s.2++ [a1]else s.2)++(bif c then[x]else[])).length≤(i+1)*2:=fun b c x=>by
    cases b<;>cases c<;>simp<;>omega
   exact this _ _ _) (fun s hs=>by simp only[ydI,yqq,yq1,zk3 (Int.le_refl _),cond_false]) (false,[]) (Nat.zero_le _) 18446744073709551616 (by omega)
 have hl:((a0.2.2.2.2.2.2.2.2.1.foldl (ycj a1) (false,[])).2).length≤2000:=by
  have: ∀(l:List dW) (s:Bool×List dW),((l.foldl (ycj a1) s).2).length≤s.2.length+l.length*2:=by
   intro l
   induction l with
   | nil=>intro s; simp
   | cons x t ih =>
    intro s;rw[List.foldl_cons];have:=ih (ycj a1 s x)
    have h2:(ycj a1 s x).2.length≤s.2.length+2:=by
     unfold ycj;cases(!s.1&&leb a1.1 x.1)<;>cases(x.1 !=a1.1)<;>simp
    simp only[List.length_cons]; omega
  have:=this a0.2.2.2.2.2.2.2.2.1 (false,[]);simp only[List.length_nil]at this;omega
 unfold yvO yth yFg;refine(congrArg (fun z=>zkt z _ _) (show yrY (yNt a1 a0 [])=_ from h1)).trans ?_;generalize a0.2.2.2.2.2.2.2.2.1.foldl (ycj a1) (false,[])=R at hl;simp only[zkN,zkX];cases hr:R.1
 ·rw[zkF.2 (show(R.2.length+ [a1].length)*32≤140737488355328 by simp only[List.length_cons,List.length_nil]; omega)]; rfl
 ·rfl
def ytj (a0:dA) (a1:dW):Option (zaY ysB×zak ymv):=bif yCa a0 a1 then(fun n=>some ((),(n,()))) (yth a0 a1)else none
theorem yW5 (a0:dA) (a1:dW) (h:yCa a0 a1=true):ytj a0 a1=(fun n=>some ((),(n,()))) (yth a0 a1):=by unfold ytj; rw[h]; rfl
def yEP:Con:=⟨ymv,ysB,fun x=>ytj x.1 x.2.1⟩
theorem yW2:ConOk prog 183 yEP:=(yUu).mono (fun x r hk h=>zkY h (fun hq=>yWN x.1 x.2.1 hk hq))
def yXo:Code:=(f118.body).getD .skip
def yXA:Env:=zkw TT [(180,yyZ),(181,yy2),(182,yBc),(183,yEP)] []
theorem yQz:FrOk prog ⟨yXA,40,fun _=>none⟩ yXo:=zkA mixed yc ⟨yOH,yOK,yR5,yW2,trivial⟩
abbrev ymw:List Par:= [.pt tA (.pr .fz (.pr (.pr .fz .fz) (.pr (.ow (.pr (.ow .fz) (.pr (.ow (.pr .fz .fz)) (.pr .fz (.ow .fz))))) (.pr .fz (.pr .fz (.pr .fz (.pr .fz (.pr .fz (.pr (.ow (.pr .fz .fz)) (.pr .fz (.pr .fz .fz))))))))))),.rd tI,.rd tI]
abbrev ysC:List OT:= [⟨false,tI,.fz⟩]
def yvP (a0:dA) (a1 a2:Int):Option (zaY ysC×zak ymw) :=let r1:=yia a0.2.1 a1;bnd (ymd a0 r1) fun r2 =>bif(!r2.1.2.1)then some ((5,()),(a0,())) else let r3:=yjk a0.2.1 a1;bif(inb r3 r2.1.1.length)then bnd (ytj a0 (r1,(r2.1.1.set (r3).toNat a2))) fun r4 =>some ((0,()),(r4.2.1,())) else none
theorem yUv:ConOk prog 118 ⟨ymw,ysC,fun x=>yvP x.1 x.2.1 x.2.2.1⟩:=zkI (yQz) func118 ntmps118.symm fun x=>by kernel_rfl
def ykP (a:dA) (b n:Int):Int×dA:=bif(yz a (yD a.2.1 b)).2 then(0,yCk a (yFg a.2.2.2.2.2.2.2.2.1 (yD a.2.1 b,(yz a (yD a.2.1 b)).1.set (ybr a.2.1 b).toNat n)))else(5,a)
def yti (a0:dA) (a1 a2:Int):Int×dA:=ykP a0 a1 a2
def ymY (a0:dA) (a1 a2:Int):Bool:=yP a0&&(ybQ a0.2.1 a1&&decide (a0.2.2.2.2.2.2.2.2.1.length≤1000))
theorem yWO (a0:dA) (a1 a2:Int) (hk:zjx ymw (a0,a1,a2,())) (hq:ymY a0 a1 a2=true):yvP a0 a1 a2=(fun n=>some ((n.1,()),(n.2,()))) (yti a0 a1 a2):=by
 simp only[ymY,Bool.and_eq_true]at hq;have hs:=ykT hq.2.1;obtain⟨hg,_,hi⟩:=yjE hq.2.1;unfold yvP yti ykP;simp only[yia,yjk];rw[yOM a0 (yD a0.2.1 a1) hs];simp only[zkH,yic];cases hn:(yz a0 (yD a0.2.1 a1)).2
 ·rfl
 ·have hl:=ykS hq.1 hs hn
  have hx:ybr a0.2.1 a1=a1.tmod (a0.2.1.1-1):=by unfold ybr; rw[hq.2.1]; rfl
  rw[zj6.2 (show 0≤ybr a0.2.1 a1∧ybr a0.2.1 a1<(yz a0 (yD a0.2.1 a1)).1.length by omega),yW5 _ _ hq.2.2];rfl
def yeM (a0:dA) (a1 a2:Int):Option (zaY ysC×zak ymw):=bif ymY a0 a1 a2 then(fun n=>some ((n.1,()),(n.2,()))) (yti a0 a1 a2)else none
theorem yW6 (a0:dA) (a1 a2:Int) (h:ymY a0 a1 a2=true):yeM a0 a1 a2=(fun n=>some ((n.1,()),(n.2,()))) (yti a0 a1 a2):=by unfold yeM; rw[h]; rfl
def yEQ:Con:=⟨ymw,ysC,fun x=>yeM x.1 x.2.1 x.2.2.1⟩
theorem yW3:ConOk prog 118 yEQ:=(yUv).mono (fun x r hk h=>zkY h (fun hq=>yWO x.1 x.2.1 x.2.2.1 hk hq))
def yVP:Code:=(f147.body).getD .skip
def yWj:Env:=zkw TT [] []
theorem yMJ:FrOk prog ⟨yWj,58,fun _=>none⟩ yVP:=zkA mixed yc trivial
abbrev yxu:List Par:= [.pt tU .fz]
abbrev yxY:List OT:= [⟨false,tI,.fz⟩]
def ybW (a0:dU):Option (zaY yxY×zak yxu) :=bif(ltb a0.2.1 (a0.1.length:Int))then bif(inb a0.2.1 a0.1.length)then some (((i64.wrap ((BitVec.ofInt IntKind.i64.bits (i64.wrap ((i64.wrap ((BitVec.ofInt IntKind.i64.bits (i64.wrap ((BitVec.ofInt IntKind.i64.bits ((i64.wrap ((i64.wrap (a0.2.2*6364136223846793005))+1442695040888963407)).fdiv (2^(min (33:Int).toNat IntKind.i64.bits))) ^^^ BitVec.ofInt IntKind.i64.bits ((i64.wrap ((i64.wrap (a0.2.2*6364136223846793005))+1442695040888963407)).fdiv (2^(min (47:Int).toNat IntKind.i64.bits)))).toNat:Int)) &&& BitVec.ofInt IntKind.i64.bits 255).toNat:Int))+(i64.wrap (nth a0.1 a0.2.1 0)))) &&& BitVec.ofInt IntKind.i64.bits 255).toNat:Int)),()),((a0.1,(i64.wrap (a0.2.1+1)),(i64.wrap ((i64.wrap (a0.2.2*6364136223846793005))+1442695040888963407))),())) else none else some (((i64.wrap ((BitVec.ofInt IntKind.i64.bits (i64.wrap ((BitVec.ofInt IntKind.i64.bits ((i64.wrap ((i64.wrap (a0.2.2*6364136223846793005))+1442695040888963407)).fdiv (2^(min (33:Int).toNat IntKind.i64.bits))) ^^^ BitVec.ofInt IntKind.i64.bits ((i64.wrap ((i64.wrap (a0.2.2*6364136223846793005))+1442695040888963407)).fdiv (2^(min (47:Int).toNat IntKind.i64.bits)))).toNat:Int)) &&& BitVec.ofInt IntKind.i64.bits 255).toNat:Int)),()),((a0.1,a0.2.1,(i64.wrap ((i64.wrap (a0.2.2*6364136223846793005))+1442695040888963407))),()))
theorem yRC:ConOk prog 147 ⟨yxu,yxY,fun x=>ybW x.1⟩:=zkI (yMJ) func147 ntmps147.symm fun x=>by kernel_rfl
def yDe:Con:=⟨yxu,yxY,fun x=>ybW x.1⟩
theorem yUE:ConOk prog 147 yDe:=yRC
theorem yZt (x:Int):0≤i64.wrap ((BitVec.ofInt IntKind.i64.bits x &&& BitVec.ofInt IntKind.i64.bits 255).toNat:Int)∧i64.wrap ((BitVec.ofInt IntKind.i64.bits x &&& BitVec.ofInt IntKind.i64.bits 255).toNat:Int)≤255:=by
 have h:(BitVec.ofInt IntKind.i64.bits x &&& BitVec.ofInt IntKind.i64.bits 255).toNat≤255:=by
  rw[BitVec.toNat_and];exact Nat.le_trans Nat.and_le_right (by decide)
 rw[wr (by omega) (by omega)];omega
theorem yI7 (u:List Int×Int×Int) (h:yen u): ∃(r:Int) (u':List Int×Int×Int),ybW u=some ((r,()),(u',()))∧(0≤r∧r≤255)∧yen u':=by
 unfold ybW;by_cases h1:u.2.1<(u.1.length:Int)
 ·rw[zky h1,zj6.2 ⟨h.1,h1⟩]
  refine⟨_,_,rfl,yZt _,?_,h.2⟩;show 0≤i64.wrap (u.2.1+1);have:=h.1; have:=h.2;rw[wr (by omega) (by omega)]; omega
 ·rw[zk3 (Int.not_lt.1 h1)]
  exact⟨_,_,rfl,yZt _,h⟩
def ySO:Code:=(f72.body).getD .skip
def yTi:Env:=zkw TT [(147,yDe)] []
theorem yKj:FrOk prog ⟨yTi,31,fun _=>none⟩ ySO:=zkA mixed yc ⟨yUE,trivial⟩
abbrev yuO:List Par:= [.pt tU .fz,.rd tI]
abbrev yvb:List OT:= [⟨false,tI,.fz⟩]
def yi (a0:dU) (a1:Int):Option (zaY yvb×zak yuO) :=bif(leb a1 0)then some ((0,()),(a0,())) else bif(leb a1 256)then bnd (ybW a0) fun r1 =>bif(a1 !=0)then some (((r1.1.1.tmod a1),()),(r1.2.1,())) else none else bnd (ybW a0) fun r2 =>bnd (ybW r2.2.1) fun r3 =>bnd (ybW r3.2.1) fun r4 =>bif(a1 !=0)then some ((((i64.wrap ((i64.wrap ((i64.wrap (r2.1.1*65536))+(i64.wrap (r3.1.1*256))))+r4.1.1)).tmod a1),()),(r4.2.1,())) else none
theorem yOo:ConOk prog 72 ⟨yuO,yvb,fun x=>yi x.1 x.2.1⟩:=zkI (yKj) func72 ntmps72.symm fun x=>by kernel_rfl
def yd8:Con:=⟨yuO,yvb,fun x=>yi x.1 x.2.1⟩
theorem yie:ConOk prog 72 yd8:=yOo
theorem ye2 (u:List Int×Int×Int) (n:Int) (h:yen u): ∃(r:Int) (u':List Int×Int×Int),yi u n=some ((r,()),(u',()))∧(0≤r∧(0<n→r<n)∧(n≤0→r=0))∧yen u':=by
 unfold yi;by_cases h0:n≤0
 ·rw[zk2 h0]
  exact⟨_,_,rfl,⟨Int.le_refl _,fun h=>absurd h0 (by omega),fun _=>rfl⟩,h⟩
 ·have hn:(n !=0)=true:=bne_iff_ne.2 (by omega)
  have key: ∀x:Int,0≤x→0≤x.tmod n∧(0<n→x.tmod n<n)∧(n≤0→x.tmod n=0):=fun x hx =>
   ⟨Int.tmod_nonneg n hx,fun hp=>Int.tmod_lt_of_pos x hp,fun hp=>absurd hp h0⟩
  rw[zk1 (by omega)];by_cases h1:n≤256
  ·rw[zk2 h1]
   obtain⟨r1,u1,e1,q1,d1⟩:=yI7 u h;rw[e1,zkZ,zk0,zkH,hn];exact⟨_,_,rfl,key r1 q1.1,d1⟩
  ·rw[zk1 (by omega)]
   obtain⟨r1,u1,e1,q1,d1⟩:=yI7 u h;obtain⟨r2,u2,e2,q2,d2⟩:=yI7 u1 d1;obtain⟨r3,u3,e3,q3,d3⟩:=yI7 u2 d2;simp only[e1,e2,e3,zkZ,zkH,hn,zk0];refine⟨_,_,rfl,key _ ?_,d3⟩;rw[wq (r1*65536) (by omega) (by omega),wq (r2*256) (by omega) (by omega),wq (r1*65536+r2*256) (by omega) (by omega),wr (by omega) (by omega)];omega
def ypk:Code:=(f177.body).getD .skip
def yxa:Env:=zkw TT [(82,yw)] [(28864,.fz),(28928,.fz)]
theorem yMF:FrOk prog ⟨yxa,22,fun _=>none⟩ ypk:=zkA mixed yc ⟨yC,trivial⟩
def yCJ:Nat→Option Seg:=fun _=>none
def ycq:Shape:=⟨[(0,false,[.int .i64]),(2,false,[.ptr 0 0]),(3,false,[.ptr 12352 0]),(4,false,[.int .i64])],[(0,[.nil,.nil,.bool,.nil]),(12352,[.at 800000000,.nil,.bool,.nil])],[(800000000,tL,.fz)]⟩
def ygn:Shape:=⟨[(0,false,[.int .i64]),(2,false,[.ptr 0 0]),(3,false,[.ptr 12352 0]),(4,false,[.ci .i64 0])],[(0,[.nil,.nil,.bool,.nil]),(12352,[.at 800000000,.nil,.bool,.nil])],[(800000000,tL,.fz)]⟩
def ygd:Shape:=⟨[(2,false,[.ptr 0 0]),(3,false,[.ptr 12352 0])],[(0,[.nil,.nil,.bool,.nil]),(12352,[.at 800000000,.nil,.bool,.nil])],[(800000000,tL,.fz)]⟩
def yjT:Shape:=⟨[],[],[]⟩
abbrev you (v0 v1:Int) (v2 v3:dM):(ycq).X:=(((v0,()),((),()),((),()),(v1,()),()),(((),(),v2.2.2.1,(),()),((),(),v3.2.2.1,(),()),()),(v3.1,()))
abbrev yKA (v0:Int) (v1 v2:dM):(ygn).X:=(((v0,()),((),()),((),()),((),()),()),(((),(),v1.2.2.1,(),()),((),(),v2.2.2.1,(),()),()),(v2.1,()))
abbrev yKu (v0 v1:dM):(ygd).X:=((((),()),((),()),()),(((),(),v0.2.2.1,(),()),((),(),v1.2.2.1,(),()),()),(v1.1,()))
def yo2 (v0 v1:Int) (v2 v3:Bool) (v4:List (List Int)):Option ((ycq).X ⊕ ((ygd).X ⊕ (yjT).X)) :=bif(ltb v1 v0)then bif(zkl v4.length ([([]:List Int)]:List (List Int)).length 24)then some (.inl (((v0,()),((),()),((),()),((i64.wrap (v1+1)),()),()),(((),(),v2,(),()),((),(),v3,(),()),()),((v4++([([]:List Int)]:List (List Int))),()))) else none else some (.inr (.inl ((((),()),((),()),()),(((),(),v2,(),()),((),(),v3,(),()),()),(v4,()))))
def ycQ (x:(ycq).X):=yo2 x.1.1.1 x.1.2.2.2.1.1 x.2.1.1.2.2.1 x.2.1.2.1.2.2.1 x.2.2.1
def yy5 (x:(ygn).X):(ycq).X:=(((x.1.1.1,()),((),()),((),()),(0,()),()),(((),(),x.2.1.1.2.2.1,(),()),((),(),x.2.1.2.1.2.2.1,(),()),()),(x.2.2.1,()))
def yAS:Code:=(zd7 ypk 64 244).getD .skip
theorem yL7:zd7 ypk 64 61=some (.block 0 (.loop yAS)):=by kernel_rfl
theorem yOP (x:(ycq).X):zhu ⟨yxa,22,yCJ⟩ 0 yAS 244 ycq ygd yjT x=ycQ x:=by kernel_rfl
def yzf (x:(ygn).X):Nat:=18446744073709551616
def ypW (x:(ygn).X):Option ((ygd).X ⊕ (yjT).X):=zF ycQ (yzf x) (yy5 x)
def yzz:Seg:=⟨ygn,ygd,yjT,ypW⟩
def yPg:Nat→Option Seg:=fun q=>bif Nat.beq q 61 then some yzz else yCJ q
theorem yMG:FrOk prog ⟨yxa,22,yPg⟩ ypk:=(yMF).loop (sg:=yzz) ycq yy5 (by decide) yL7 ycQ yzf (by decide) (fun _=>rfl) (fun x r _ h=>h) yOP
abbrev ypy:List Par:= [.rd tI]
abbrev yxV:List OT:= [⟨false,tM,(.pr (.ow .fz) (.pr (.ow (.pr .fz .fz)) (.pr .fz (.ow .fz))))⟩]
def ytv (a0:Int):Option (zaY yxV×zak ypy) :=let r1:=ya a0 1 20;bif(!r1)then some ((([],[],false,[]),()),()) else zkt (ypW (((a0,()),((),()),((),()),((),()),()),(((),(),false,(),()),((),(),false,(),()),()),([],()))) (fun y1 =>some (((y1.2.2.1,[],y1.2.1.2.1.2.2.1,[]),()),())) (fun y1 =>none)
theorem yRz:ConOk prog 177 ⟨ypy,yxV,fun x=>ytv x.1⟩:=zkI (yMG) func177 ntmps177.symm fun x=>by kernel_rfl
def ydM (a0:Int):dM:=ycg a0
theorem yTU (a0:Int) (hk:zjx ypy (a0,())):ytv a0=(fun n=>some ((n,()),())) (ydM a0):=by
 unfold ytv ydM ycg;simp only[ybR];cases hc:(leb 1 a0&&leb a0 20)
 ·rfl
 ·rw[Bool.and_eq_true,zj7,zj7]at hc
  have h1:ypW (yKA a0 yd yd)=some (.inl (yKu yd (List.replicate a0.toNat [],[],false,[]))) :=
   zkL (step:=ycQ) (fun i=>you a0 i yd (List.replicate i [],[],false,[])) a0.toNat _ (fun i hi=>by
    simp only[ycQ,you,yo2,zky (show(i:Int)<a0 by omega),cond_true,wq ((i:Int)+1) (by omega) (by omega),Int.natCast_add,Int.natCast_one,Int.toNat_natCast]
    rw[zkF.2 (show((List.replicate i ([]:List Int)).length+([[]]:List (List Int)).length)*24≤140737488355328 by simp only[List.length_cons,List.length_nil,List.length_replicate]; omega),← List.replicate_succ']; rfl) (by simp only[ycQ,you,yo2,zk3 (show a0≤(a0.toNat:Int)by omega),cond_false]) _ (by show _<18446744073709551616; omega)
  rw[h1]; rfl
def ysS:Con:=⟨ypy,yxV,fun x=>(fun n=>some ((n,()),())) (ydM x.1)⟩
theorem yFe:ConOk prog 177 ysS:=(yRz).mono (fun x r hk h=>(yTU x.1 hk).trans h)
def yeZ:Code:=(f115.body).getD .skip
def ykn:Env:=zkw TT [(82,yw),(113,ydl),(144,yor),(150,yfX),(177,ysS),(178,yl5)] [(53440,(.pr (.ow .fz) (.pr (.ow (.pr .fz .fz)) (.pr .fz (.ow .fz))))),(53504,(.pr (.ow .fz) (.pr (.ow (.pr .fz .fz)) (.pr .fz (.ow .fz)))))]
theorem yMy:FrOk prog ⟨ykn,60,fun _=>none⟩ yeZ:=zkA mixed yc ⟨yC,yf4,yB5,ykK,yFe,yvv,trivial⟩
def yCI:Nat→Option Seg:=fun _=>none
def yaR:Shape:=⟨[(0,false,[.int .i64]),(3,false,[.ptr 0 0]),(4,false,[.ptr 64 0]),(5,false,[.ptr 12480 0]),(6,false,[.int .i64]),(7,false,[.ptr 28864 0]),(8,false,[.int .i64])],[(0,[.int .i64,.int .i64]),(64,[.int .i64,.int .i64,.int .i64,.nil,.int .i64,.int .i64,.int .i64,.int .i64,.int .i64,.nil,.int .i64,.bool,.bool]),(12480,[.int .i64,.int .i64,.int .i64,.at 800000000,.int .i64,.int .i64,.int .i64,.int .i64,.int .i64,.nil,.int .i64,.bool,.bool]),(28864,[.at 800000001,.at 800000002,.bool,.at 800000003])],[(800000000,tM,(.pr (.ow .fz) (.pr (.ow (.pr .fz .fz)) (.pr .fz (.ow .fz))))),(800000001,tL,.fz),(800000002,tW,(.pr .fz .fz)),(800000003,tI,.fz)]⟩
def ydX:Shape:=⟨[(0,false,[.int .i64]),(3,false,[.ptr 0 0]),(4,false,[.ptr 64 0]),(5,false,[.ptr 12480 0]),(6,false,[.int .i64]),(7,false,[.ptr 28864 0]),(8,false,[.ci .i64 0])],[(0,[.int .i64,.int .i64]),(64,[.int .i64,.int .i64,.int .i64,.nil,.int .i64,.int .i64,.int .i64,.int .i64,.int .i64,.nil,.int .i64,.bool,.bool]),(12480,[.int .i64,.int .i64,.int .i64,.at 800000000,.int .i64,.int .i64,.int .i64,.int .i64,.int .i64,.nil,.int .i64,.bool,.bool]),(28864,[.at 800000001,.at 800000002,.bool,.at 800000003])],[(800000000,tM,(.pr (.ow .fz) (.pr (.ow (.pr .fz .fz)) (.pr .fz (.ow .fz))))),(800000001,tL,.fz),(800000002,tW,(.pr .fz .fz)),(800000003,tI,.fz)]⟩
def ydS:Shape:=⟨[(0,false,[.int .i64]),(3,false,[.ptr 0 0]),(4,false,[.ptr 64 0]),(5,false,[.ptr 12480 0]),(6,false,[.int .i64]),(7,false,[.ptr 28864 0])],[(0,[.int .i64,.int .i64]),(64,[.int .i64,.int .i64,.int .i64,.nil,.int .i64,.int .i64,.int .i64,.int .i64,.int .i64,.nil,.int .i64,.bool,.bool]),(12480,[.int .i64,.int .i64,.int .i64,.at 800000000,.int .i64,.int .i64,.int .i64,.int .i64,.int .i64,.nil,.int .i64,.bool,.bool]),(28864,[.at 800000001,.at 800000002,.bool,.at 800000003])],[(800000000,tM,(.pr (.ow .fz) (.pr (.ow (.pr .fz .fz)) (.pr .fz (.ow .fz))))),(800000001,tL,.fz),(800000002,tW,(.pr .fz .fz)),(800000003,tI,.fz)]⟩
def ygT:Shape:=⟨[],[],[]⟩
abbrev yj7 (v0 v1 v2:Int) (v3:dG) (v4 v5:dA) (v6:dM):(yaR).X:=(((v0,()),((),()),((),()),((),()),(v1,()),((),()),(v2,()),()),((v3.1,v3.2,()),(v4.1,v4.2.1.1,v4.2.1.2,(),v4.2.2.2.1,v4.2.2.2.2.1,v4.2.2.2.2.2.1,v4.2.2.2.2.2.2.1,v4.2.2.2.2.2.2.2.1,(),v4.2.2.2.2.2.2.2.2.2.1,v4.2.2.2.2.2.2.2.2.2.2.1,v4.2.2.2.2.2.2.2.2.2.2.2,()),(v5.1,v5.2.1.1,v5.2.1.2,(),v5.2.2.2.1,v5.2.2.2.2.1,v5.2.2.2.2.2.1,v5.2.2.2.2.2.2.1,v5.2.2.2.2.2.2.2.1,(),v5.2.2.2.2.2.2.2.2.2.1,v5.2.2.2.2.2.2.2.2.2.2.1,v5.2.2.2.2.2.2.2.2.2.2.2,()),((),(),v6.2.2.1,(),()),()),(v5.2.2.1,v6.1,v6.2.1,v6.2.2.2,()))
abbrev yFP (v0 v1:Int) (v2:dG) (v3 v4:dA) (v5:dM):(ydX).X:=(((v0,()),((),()),((),()),((),()),(v1,()),((),()),((),()),()),((v2.1,v2.2,()),(v3.1,v3.2.1.1,v3.2.1.2,(),v3.2.2.2.1,v3.2.2.2.2.1,v3.2.2.2.2.2.1,v3.2.2.2.2.2.2.1,v3.2.2.2.2.2.2.2.1,(),v3.2.2.2.2.2.2.2.2.2.1,v3.2.2.2.2.2.2.2.2.2.2.1,v3.2.2.2.2.2.2.2.2.2.2.2,()),(v4.1,v4.2.1.1,v4.2.1.2,(),v4.2.2.2.1,v4.2.2.2.2.1,v4.2.2.2.2.2.1,v4.2.2.2.2.2.2.1,v4.2.2.2.2.2.2.2.1,(),v4.2.2.2.2.2.2.2.2.2.1,v4.2.2.2.2.2.2.2.2.2.2.1,v4.2.2.2.2.2.2.2.2.2.2.2,()),((),(),v5.2.2.1,(),()),()),(v4.2.2.1,v5.1,v5.2.1,v5.2.2.2,()))
abbrev ytb (v0 v1:Int) (v2:dG) (v3 v4:dA) (v5:dM):(ydS).X:=(((v0,()),((),()),((),()),((),()),(v1,()),((),()),()),((v2.1,v2.2,()),(v3.1,v3.2.1.1,v3.2.1.2,(),v3.2.2.2.1,v3.2.2.2.2.1,v3.2.2.2.2.2.1,v3.2.2.2.2.2.2.1,v3.2.2.2.2.2.2.2.1,(),v3.2.2.2.2.2.2.2.2.2.1,v3.2.2.2.2.2.2.2.2.2.2.1,v3.2.2.2.2.2.2.2.2.2.2.2,()),(v4.1,v4.2.1.1,v4.2.1.2,(),v4.2.2.2.1,v4.2.2.2.2.1,v4.2.2.2.2.2.1,v4.2.2.2.2.2.2.1,v4.2.2.2.2.2.2.2.1,(),v4.2.2.2.2.2.2.2.2.2.1,v4.2.2.2.2.2.2.2.2.2.2.1,v4.2.2.2.2.2.2.2.2.2.2.2,()),((),(),v5.2.2.1,(),()),()),(v4.2.2.1,v5.1,v5.2.1,v5.2.2.2,()))
def ykj (v0 v1 v2 v3 v4 v5 v6 v7 v8 v9 v10 v11 v12 v13:Int) (v14 v15:Bool) (v16 v17 v18 v19 v20 v21 v22 v23 v24:Int) (v25 v26 v27:Bool) (v28:List dM) (v29:List (List Int)) (v30:List dW) (v31:List Int):Option ((yaR).X ⊕ ((ydS).X ⊕ (ygT).X)) :=bif(ltb v2 v4)then let r13:=yaH v2;bif(inb r13 v29.length)then some (.inl (((v0,()),((),()),((),()),((),()),(v1,()),((),()),((i64.wrap (v2+1)),()),()),((v3,v4,()),(v5,v6,v7,(),v8,v9,v10,v11,v12,(),v13,v14,v15,()),(v16,v17,v18,(),v19,v20,v21,v22,v23,(),v24,v25,v26,()),((),(),v27,(),()),()),(v28,(v29.set (r13).toNat ([0]:List Int)),v30,v31,()))) else none else some (.inr (.inl (((v0,()),((),()),((),()),((),()),(v1,()),((),()),()),((v3,v4,()),(v5,v6,v7,(),v8,v9,v10,v11,v12,(),v13,v14,v15,()),(v16,v17,v18,(),v19,v20,v21,v22,v23,(),v24,v25,v26,()),((),(),v27,(),()),()),(v28,v29,v30,v31,()))))
def ya9 (x:(yaR).X):=ykj x.1.1.1 x.1.2.2.2.2.1.1 x.1.2.2.2.2.2.2.1.1 x.2.1.1.1 x.2.1.1.2.1 x.2.1.2.1.1 x.2.1.2.1.2.1 x.2.1.2.1.2.2.1 x.2.1.2.1.2.2.2.2.1 x.2.1.2.1.2.2.2.2.2.1 x.2.1.2.1.2.2.2.2.2.2.1 x.2.1.2.1.2.2.2.2.2.2.2.1 x.2.1.2.1.2.2.2.2.2.2.2.2.1 x.2.1.2.1.2.2.2.2.2.2.2.2.2.2.1 x.2.1.2.1.2.2.2.2.2.2.2.2.2.2.2.1 x.2.1.2.1.2.2.2.2.2.2.2.2.2.2.2.2.1 x.2.1.2.2.1.1 x.2.1.2.2.1.2.1 x.2.1.2.2.1.2.2.1 x.2.1.2.2.1.2.2.2.2.1 x.2.1.2.2.1.2.2.2.2.2.1 x.2.1.2.2.1.2.2.2.2.2.2.1 x.2.1.2.2.1.2.2.2.2.2.2.2.1 x.2.1.2.2.1.2.2.2.2.2.2.2.2.1 x.2.1.2.2.1.2.2.2.2.2.2.2.2.2.2.1 x.2.1.2.2.1.2.2.2.2.2.2.2.2.2.2.2.1 x.2.1.2.2.1.2.2.2.2.2.2.2.2.2.2.2.2.1 x.2.1.2.2.2.1.2.2.1 x.2.2.1 x.2.2.2.1 x.2.2.2.2.1 x.2.2.2.2.2.1
def ysV (x:(ydX).X):(yaR).X:=(((x.1.1.1,()),((),()),((),()),((),()),(x.1.2.2.2.2.1.1,()),((),()),(0,()),()),((x.2.1.1.1,x.2.1.1.2.1,()),(x.2.1.2.1.1,x.2.1.2.1.2.1,x.2.1.2.1.2.2.1,(),x.2.1.2.1.2.2.2.2.1,x.2.1.2.1.2.2.2.2.2.1,x.2.1.2.1.2.2.2.2.2.2.1,x.2.1.2.1.2.2.2.2.2.2.2.1,x.2.1.2.1.2.2.2.2.2.2.2.2.1,(),x.2.1.2.1.2.2.2.2.2.2.2.2.2.2.1,x.2.1.2.1.2.2.2.2.2.2.2.2.2.2.2.1,x.2.1.2.1.2.2.2.2.2.2.2.2.2.2.2.2.1,()),(x.2.1.2.2.1.1,x.2.1.2.2.1.2.1,x.2.1.2.2.1.2.2.1,(),x.2.1.2.2.1.2.2.2.2.1,x.2.1.2.2.1.2.2.2.2.2.1,x.2.1.2.2.1.2.2.2.2.2.2.1,x.2.1.2.2.1.2.2.2.2.2.2.2.1,x.2.1.2.2.1.2.2.2.2.2.2.2.2.1,(),x.2.1.2.2.1.2.2.2.2.2.2.2.2.2.2.1,x.2.1.2.2.1.2.2.2.2.2.2.2.2.2.2.2.1,x.2.1.2.2.1.2.2.2.2.2.2.2.2.2.2.2.2.1,()),((),(),x.2.1.2.2.2.1.2.2.1,(),()),()),(x.2.2.1,x.2.2.2.1,x.2.2.2.2.1,x.2.2.2.2.2.1,()))
def ytN:Code:=(zd7 yeZ 64 125236).getD .skip
theorem yGn:zd7 yeZ 64 31309=some (.block 2 (.loop ytN)):=by kernel_rfl
theorem yGZ (x:(yaR).X):zhu ⟨ykn,60,yCI⟩ 2 ytN 125236 yaR ydS ygT x=ya9 x:=by kernel_rfl
def ys1 (x:(ydX).X):Nat:=18446744073709551616
def ykW (x:(ydX).X):Option ((ydS).X ⊕ (ygT).X):=zF ya9 (ys1 x) (ysV x)
def ytF:Seg:=⟨ydX,ydS,ygT,ykW⟩
def yry:Nat→Option Seg:=fun q=>bif Nat.beq q 31309 then some ytF else yCI q
theorem yMz:FrOk prog ⟨ykn,60,yry⟩ yeZ:=(yMy).loop (sg:=ytF) yaR ysV (by decide) yGn ya9 ys1 (by decide) (fun _=>rfl) (fun x r _ h=>h) yGZ
def ycp:Shape:=⟨[(0,false,[.int .i64]),(3,false,[.ptr 0 0]),(4,false,[.ptr 64 0]),(5,false,[.ptr 12480 0]),(6,false,[.int .i64])],[(0,[.int .i64,.int .i64]),(64,[.int .i64,.int .i64,.int .i64,.nil,.int .i64,.int .i64,.int .i64,.int .i64,.int .i64,.nil,.int .i64,.bool,.bool]),(12480,[.int .i64,.int .i64,.int .i64,.at 800000000,.int .i64,.int .i64,.int .i64,.int .i64,.int .i64,.nil,.int .i64,.bool,.bool])],[(800000000,tM,(.pr (.ow .fz) (.pr (.ow (.pr .fz .fz)) (.pr .fz (.ow .fz)))))]⟩
def ygm:Shape:=⟨[(0,false,[.int .i64]),(3,false,[.ptr 0 0]),(4,false,[.ptr 64 0]),(5,false,[.ptr 12480 0]),(6,false,[.ci .i64 0])],[(0,[.int .i64,.int .i64]),(64,[.int .i64,.int .i64,.int .i64,.nil,.int .i64,.int .i64,.int .i64,.int .i64,.int .i64,.nil,.int .i64,.bool,.bool]),(12480,[.int .i64,.int .i64,.int .i64,.at 800000000,.int .i64,.int .i64,.int .i64,.int .i64,.int .i64,.nil,.int .i64,.bool,.bool])],[(800000000,tM,(.pr (.ow .fz) (.pr (.ow (.pr .fz .fz)) (.pr .fz (.ow .fz)))))]⟩
def ygc:Shape:=⟨[(4,false,[.ptr 64 0]),(5,false,[.ptr 12480 0])],[(64,[.int .i64,.int .i64,.int .i64,.nil,.int .i64,.int .i64,.int .i64,.int .i64,.int .i64,.nil,.int .i64,.bool,.bool]),(12480,[.int .i64,.int .i64,.int .i64,.at 800000000,.int .i64,.int .i64,.int .i64,.int .i64,.int .i64,.nil,.int .i64,.bool,.bool])],[(800000000,tM,(.pr (.ow .fz) (.pr (.ow (.pr .fz .fz)) (.pr .fz (.ow .fz)))))]⟩
def yjS:Shape:=⟨[],[],[]⟩
abbrev yiK (v0 v1:Int) (v2:dG) (v3 v4:dA):(ycp).X:=(((v0,()),((),()),((),()),((),()),(v1,()),()),((v2.1,v2.2,()),(v3.1,v3.2.1.1,v3.2.1.2,(),v3.2.2.2.1,v3.2.2.2.2.1,v3.2.2.2.2.2.1,v3.2.2.2.2.2.2.1,v3.2.2.2.2.2.2.2.1,(),v3.2.2.2.2.2.2.2.2.2.1,v3.2.2.2.2.2.2.2.2.2.2.1,v3.2.2.2.2.2.2.2.2.2.2.2,()),(v4.1,v4.2.1.1,v4.2.1.2,(),v4.2.2.2.1,v4.2.2.2.2.1,v4.2.2.2.2.2.1,v4.2.2.2.2.2.2.1,v4.2.2.2.2.2.2.2.1,(),v4.2.2.2.2.2.2.2.2.2.1,v4.2.2.2.2.2.2.2.2.2.2.1,v4.2.2.2.2.2.2.2.2.2.2.2,()),()),(v4.2.2.1,()))
abbrev yKz (v0:Int) (v1:dG) (v2 v3:dA):(ygm).X:=(((v0,()),((),()),((),()),((),()),((),()),()),((v1.1,v1.2,()),(v2.1,v2.2.1.1,v2.2.1.2,(),v2.2.2.2.1,v2.2.2.2.2.1,v2.2.2.2.2.2.1,v2.2.2.2.2.2.2.1,v2.2.2.2.2.2.2.2.1,(),v2.2.2.2.2.2.2.2.2.2.1,v2.2.2.2.2.2.2.2.2.2.2.1,v2.2.2.2.2.2.2.2.2.2.2.2,()),(v3.1,v3.2.1.1,v3.2.1.2,(),v3.2.2.2.1,v3.2.2.2.2.1,v3.2.2.2.2.2.1,v3.2.2.2.2.2.2.1,v3.2.2.2.2.2.2.2.1,(),v3.2.2.2.2.2.2.2.2.2.1,v3.2.2.2.2.2.2.2.2.2.2.1,v3.2.2.2.2.2.2.2.2.2.2.2,()),()),(v3.2.2.1,()))
abbrev yzn (v0 v1:dA):(ygc).X:=((((),()),((),()),()),((v0.1,v0.2.1.1,v0.2.1.2,(),v0.2.2.2.1,v0.2.2.2.2.1,v0.2.2.2.2.2.1,v0.2.2.2.2.2.2.1,v0.2.2.2.2.2.2.2.1,(),v0.2.2.2.2.2.2.2.2.2.1,v0.2.2.2.2.2.2.2.2.2.2.1,v0.2.2.2.2.2.2.2.2.2.2.2,()),(v1.1,v1.2.1.1,v1.2.1.2,(),v1.2.2.2.1,v1.2.2.2.2.1,v1.2.2.2.2.2.1,v1.2.2.2.2.2.2.1,v1.2.2.2.2.2.2.2.1,(),v1.2.2.2.2.2.2.2.2.2.1,v1.2.2.2.2.2.2.2.2.2.2.1,v1.2.2.2.2.2.2.2.2.2.2.2,()),()),(v1.2.2.1,()))
def yo1 (v0 v1 v2 v3 v4 v5 v6 v7 v8 v9 v10 v11 v12:Int) (v13 v14:Bool) (v15 v16 v17 v18 v19 v20 v21 v22 v23:Int) (v24 v25:Bool) (v26:List dM):Option ((ycp).X ⊕ ((ygc).X ⊕ (yjS).X)) :=bif(ltb v1 v2)then let r15:=ycm (v2,v3);let r16:=ydM r15;let r17:=yv (v0,0,v1,v2,v3,0,(-1),0);bif(inb 0 r16.1.length)then zkt (ykW (((v0,()),((),()),((),()),((),()),(v1,()),((),()),((),()),()),((v2,v3,()),(v4,v5,v6,(),v7,v8,v9,v10,v11,(),v12,v13,v14,()),(v15,v16,v17,(),v18,v19,v20,v21,v22,(),v23,v24,v25,()),((),(),r16.2.2.1,(),()),()),(v26,(r16.1.set (0:Int).toNat r17),r16.2.1,r16.2.2.2,()))) (fun y17 =>bif(zkl y17.2.2.1.length ([(y17.2.2.2.1,y17.2.2.2.2.1,y17.2.1.2.2.2.1.2.2.1,y17.2.2.2.2.2.1)]:List dM).length 80)then some (.inl (((y17.1.1.1,()),((),()),((),()),((),()),((i64.wrap (y17.1.2.2.2.2.1.1+1)),()),()),((y17.2.1.1.1,y17.2.1.1.2.1,()),(y17.2.1.2.1.1,y17.2.1.2.1.2.1,y17.2.1.2.1.2.2.1,(),y17.2.1.2.1.2.2.2.2.1,y17.2.1.2.1.2.2.2.2.2.1,y17.2.1.2.1.2.2.2.2.2.2.1,y17.2.1.2.1.2.2.2.2.2.2.2.1,y17.2.1.2.1.2.2.2.2.2.2.2.2.1,(),y17.2.1.2.1.2.2.2.2.2.2.2.2.2.2.1,y17.2.1.2.1.2.2.2.2.2.2.2.2.2.2.2.1,y17.2.1.2.1.2.2.2.2.2.2.2.2.2.2.2.2.1,()),(y17.2.1.2.2.1.1,y17.2.1.2.2.1.2.1,y17.2.1.2.2.1.2.2.1,(),y17.2.1.2.2.1.2.2.2.2.1,y17.2.1.2.2.1.2.2.2.2.2.1,y17.2.1.2.2.1.2.2.2.2.2.2.1,y17.2.1.2.2.1.2.2.2.2.2.2.2.1,y17.2.1.2.2.1.2.2.2.2.2.2.2.2.1,(),y17.2.1.2.2.1.2.2.2.2.2.2.2.2.2.2.1,y17.2.1.2.2.1.2.2.2.2.2.2.2.2.2.2.2.1,y17.2.1.2.2.1.2.2.2.2.2.2.2.2.2.2.2.2.1,()),()),((y17.2.2.1++([(y17.2.2.2.1,y17.2.2.2.2.1,y17.2.1.2.2.2.1.2.2.1,y17.2.2.2.2.2.1)]:List dM)),()))) else none) (fun y17 =>some (.inr (.inr ((),(),())))) else none else some (.inr (.inl ((((),()),((),()),()),((v4,v5,v6,(),v7,v8,v9,v10,v11,(),v12,v13,v14,()),(v15,v16,v17,(),v18,v19,v20,v21,v22,(),v23,v24,v25,()),()),(v26,()))))
def ycP (x:(ycp).X):=yo1 x.1.1.1 x.1.2.2.2.2.1.1 x.2.1.1.1 x.2.1.1.2.1 x.2.1.2.1.1 x.2.1.2.1.2.1 x.2.1.2.1.2.2.1 x.2.1.2.1.2.2.2.2.1 x.2.1.2.1.2.2.2.2.2.1 x.2.1.2.1.2.2.2.2.2.2.1 x.2.1.2.1.2.2.2.2.2.2.2.1 x.2.1.2.1.2.2.2.2.2.2.2.2.1 x.2.1.2.1.2.2.2.2.2.2.2.2.2.2.1 x.2.1.2.1.2.2.2.2.2.2.2.2.2.2.2.1 x.2.1.2.1.2.2.2.2.2.2.2.2.2.2.2.2.1 x.2.1.2.2.1.1 x.2.1.2.2.1.2.1 x.2.1.2.2.1.2.2.1 x.2.1.2.2.1.2.2.2.2.1 x.2.1.2.2.1.2.2.2.2.2.1 x.2.1.2.2.1.2.2.2.2.2.2.1 x.2.1.2.2.1.2.2.2.2.2.2.2.1 x.2.1.2.2.1.2.2.2.2.2.2.2.2.1 x.2.1.2.2.1.2.2.2.2.2.2.2.2.2.2.1 x.2.1.2.2.1.2.2.2.2.2.2.2.2.2.2.2.1 x.2.1.2.2.1.2.2.2.2.2.2.2.2.2.2.2.2.1 x.2.2.1
def yy4 (x:(ygm).X):(ycp).X:=(((x.1.1.1,()),((),()),((),()),((),()),(0,()),()),((x.2.1.1.1,x.2.1.1.2.1,()),(x.2.1.2.1.1,x.2.1.2.1.2.1,x.2.1.2.1.2.2.1,(),x.2.1.2.1.2.2.2.2.1,x.2.1.2.1.2.2.2.2.2.1,x.2.1.2.1.2.2.2.2.2.2.1,x.2.1.2.1.2.2.2.2.2.2.2.1,x.2.1.2.1.2.2.2.2.2.2.2.2.1,(),x.2.1.2.1.2.2.2.2.2.2.2.2.2.2.1,x.2.1.2.1.2.2.2.2.2.2.2.2.2.2.2.1,x.2.1.2.1.2.2.2.2.2.2.2.2.2.2.2.2.1,()),(x.2.1.2.2.1.1,x.2.1.2.2.1.2.1,x.2.1.2.2.1.2.2.1,(),x.2.1.2.2.1.2.2.2.2.1,x.2.1.2.2.1.2.2.2.2.2.1,x.2.1.2.2.1.2.2.2.2.2.2.1,x.2.1.2.2.1.2.2.2.2.2.2.2.1,x.2.1.2.2.1.2.2.2.2.2.2.2.2.1,(),x.2.1.2.2.1.2.2.2.2.2.2.2.2.2.2.1,x.2.1.2.2.1.2.2.2.2.2.2.2.2.2.2.2.1,x.2.1.2.2.1.2.2.2.2.2.2.2.2.2.2.2.2.1,()),()),(x.2.2.1,()))
def yAR:Code:=(zd7 yeZ 64 244).getD .skip
theorem yL6:zd7 yeZ 64 61=some (.block 0 (.loop yAR)):=by kernel_rfl
theorem yOO (x:(ycp).X):zhu ⟨ykn,60,yry⟩ 0 yAR 244 ycp ygc yjS x=ycP x:=by kernel_rfl
def yze (x:(ygm).X):Nat:=18446744073709551616
def ypV (x:(ygm).X):Option ((ygc).X ⊕ (yjS).X):=zF ycP (yze x) (yy4 x)
def yzy:Seg:=⟨ygm,ygc,yjS,ypV⟩
def yPf:Nat→Option Seg:=fun q=>bif Nat.beq q 61 then some yzy else yry q
theorem yMA:FrOk prog ⟨ykn,60,yPf⟩ yeZ:=(yMz).loop (sg:=yzy) ycp yy4 (by decide) yL6 ycP yze (by decide) (fun _=>rfl) (fun x r _ h=>h) yOO
abbrev ypv:List Par:= [.rd tI,.rd tG]
abbrev yxQ:List OT:= [⟨false,tA,(.pr .fz (.pr (.pr .fz .fz) (.pr (.ow (.pr (.ow .fz) (.pr (.ow (.pr .fz .fz)) (.pr .fz (.ow .fz))))) (.pr .fz (.pr .fz (.pr .fz (.pr .fz (.pr .fz (.pr (.ow (.pr .fz .fz)) (.pr .fz (.pr .fz .fz)))))))))))⟩]
def yts (a0:Int) (a1:dG):Option (zaY yxQ×zak ypv) :=let r1:=ye a1;bif(!(!r1))then let r2:=ya a0 1 60000;bif(!r2)then some (((0,(0,0),[],0,0,0,0,0,[],0,false,false),()),()) else zkt (ypV (((a0,()),((),()),((),()),((),()),((),()),()),((a1.1,a1.2,()),(0,0,0,(),0,0,0,0,0,(),0,false,false,()),(a0,a1.1,a1.2,(),(-1),0,0,0,0,(),(-1),false,false,()),()),([],()))) (fun y18 =>some (((y18.2.1.2.1.1,(y18.2.1.2.1.2.1,y18.2.1.2.1.2.2.1),y18.2.2.1,y18.2.1.2.1.2.2.2.2.1,y18.2.1.2.1.2.2.2.2.2.1,y18.2.1.2.1.2.2.2.2.2.2.1,y18.2.1.2.1.2.2.2.2.2.2.2.1,y18.2.1.2.1.2.2.2.2.2.2.2.2.1,[],y18.2.1.2.1.2.2.2.2.2.2.2.2.2.2.1,y18.2.1.2.1.2.2.2.2.2.2.2.2.2.2.2.1,y18.2.1.2.1.2.2.2.2.2.2.2.2.2.2.2.2.1),()),())) (fun y18 =>none) else some (((0,(0,0),[],0,0,0,0,0,[],0,false,false),()),())
theorem yRu:ConOk prog 115 ⟨ypv,yxQ,fun x=>yts x.1 x.2.1⟩:=zkI (yMA) func115 ntmps115.symm fun x=>by kernel_rfl
def ykE (a0:Int) (a1:dG):dA:=ykt a0 a1
theorem yTP (a0:Int) (a1:dG) (hk:zjx ypv (a0,a1,())):yts a0 a1=(fun n=>some ((n,()),())) (ykE a0 a1):=by
 unfold yts ykE ykt;simp only[ybR];cases hg:ye a1
 ·rfl
 cases hid:(leb 1 a0&&leb a0 60000)
 ·rfl
 have hge:=yk.1 hg
 have inner: ∀(i:Int) (a:dA),ykW (yFP a0 i a1 yem a (yjs a0 a1 i))=some (.inl (ytb a0 i a1 yem a (yB a0 a1 i))):=fun i a =>
  zkD (step:=ya9) a1.2.toNat (fun s m=>yj7 a0 i s a1 yem a m) yrj (fun _ m=>(m.1.length:Int)=6+a1.2) (fun m=> .inl (ytb a0 i a1 yem a m)) (fun s m hs hm=>⟨by
   simp only[ya9,yj7,ykj,zky (show(s:Int)<a1.2 by omega),cond_true,wq ((s:Int)+1) (by omega) (by omega),Int.natCast_add,Int.natCast_one,Int.toNat_natCast,yed];have hd:yQ (s:Int)=((s+6:Nat):Int):=by unfold yQ; rw[zk2 (show(0:Int)≤s by omega),zk2 (show(s:Int)≤1099511627776 by omega)]; rfl
   rw[hd,zkR (show s+6<m.1.length by omega),Int.toNat_natCast]; rfl,by show((m.1.set _ _).length:Int)=_; rw[List.length_set]; exact hm⟩) (fun m hm=>by simp only[ya9,yj7,ykj,show((a1.2.toNat:Nat):Int)=a1.2 by omega,zk3 (Int.le_refl _),cond_false]) (yjs a0 a1 i) (by
   unfold yjs ycg;rw[zk2 (show 1≤6+a1.2 by omega),zk2 (show 6+a1.2≤20 by omega)];show(((List.replicate (6+a1.2).toNat ([]:List Int)).set 0 _).length:Int)=_
   rw[List.length_set,List.length_replicate]; omega) 18446744073709551616 (by omega)
 have hmn:ydM (ycm a1)=ycg (6+a1.2):=by
  unfold ydM ycm;rw[wr (by omega) (by omega)]
 have h0:inb 0 (ycg (6+a1.2)).1.length=true:=by
  unfold ycg;rw[zk2 (show 1≤6+a1.2 by omega),zk2 (show 6+a1.2≤20 by omega)];show inb 0 (List.replicate (6+a1.2).toNat ([]:List Int)).length=true;rw[List.length_replicate,zj6]; omega
 have outer:ypV (yKz a0 a1 yem (yAP a0 a1))=some (.inl (yzn yem ((List.range a1.1.toNat).foldl (fun a (i:Nat)=>yAN a (yB a0 a1 i)) (yAP a0 a1)))) :=
  zkD (step:=ycP) a1.1.toNat (fun i a=>yiK a0 i a1 yem a) (fun a i=>yAN a (yB a0 a1 i)) (fun i a=>a.2.2.1.length=i) (fun a=> .inl (yzn yem a)) (fun i a hi ha=>⟨by
   simp only[ycP,yiK,yo1,zky (show(i:Int)<a1.1 by omega),cond_true,wq ((i:Int)+1) (by omega) (by omega),Int.natCast_add,Int.natCast_one,zkX,hmn,h0];refine(congrArg (fun z=>zkt z _ _) (inner i a)).trans ?_;simp only[zkN];show(bif zkl a.2.2.1.length [yB a0 a1 i].length 80 then _ else _)=_;rw[zkF.2 (show(a.2.2.1.length+ [yB a0 a1 i].length)*80≤140737488355328 by simp only[List.length_cons,List.length_nil]; omega)];simp only[cond_true];show some (Sum.inl (yiK a0 (i64.wrap ((i:Int)+1)) a1 yem (yAN a (yB a0 a1 i))))=_
   rw[wq ((i:Int)+1) (by omega) (by omega)],by show(a.2.2.1++ [_]).length=_; rw[List.length_append,ha]; rfl⟩) (fun a ha=>by simp only[ycP,yiK,yo1,show((a1.1.toNat:Nat):Int)=a1.1 by omega,zk3 (Int.le_refl _),cond_false]) (yAP a0 a1) rfl 18446744073709551616 (by omega)
 have hdr: ∀(l:List Nat) (a:dA),a.2.2.2.2.2.2.2.2.1= []→(l.foldl (fun a (i:Nat)=>yAN a (yB a0 a1 i)) a).2.2.2.2.2.2.2.2.1= []:=by
  intro l
  induction l with
  | nil=>intro a h; exact h
  | cons x t ih=>intro a h; exact ih _ h
 have h:=hdr (List.range a1.1.toNat) (yAP a0 a1) rfl;simp only[Bool.not_true,Bool.not_false,cond_true,cond_false,Bool.and_self];refine(congrArg (fun z=>zkt z _ _) outer).trans ?_;generalize (List.range a1.1.toNat).foldl (fun a (i:Nat)=>yAN a (yB a0 a1 i)) (yAP a0 a1)=R at h;simp only[zkN];show some ((((R.1,R.2.1,R.2.2.1,R.2.2.2.1,R.2.2.2.2.1,R.2.2.2.2.2.1,R.2.2.2.2.2.2.1,R.2.2.2.2.2.2.2.1,[],R.2.2.2.2.2.2.2.2.2):dA),()),())=some ((R,()),());rw[← h]
def yDa:Con:=⟨ypv,yxQ,fun x=>(fun n=>some ((n,()),())) (ykE x.1 x.2.1)⟩
theorem yUA:ConOk prog 115 yDa:=(yRu).mono (fun x r hk h=>(yTP x.1 x.2.1 hk).trans h)
def yXm:Code:=(f116.body).getD .skip
def yXy:Env:=zkw TT [(72,yd8)] []
theorem yQr:FrOk prog ⟨yXy,10,fun _=>none⟩ yXm:=zkA mixed yc ⟨yie,trivial⟩
abbrev yAs:List Par:= [.pt tU .fz]
abbrev yAL:List OT:= [⟨false,tG,(.pr .fz .fz)⟩]
def yjA (a0:dU):Option (zaY yAL×zak yAs) :=bnd (yi a0 3) fun r1 =>bnd (yi r1.2.1 4) fun r2 =>some ((((i64.wrap (3+r1.1.1)),(i64.wrap (1+r2.1.1))),()),(r2.2.1,()))
theorem yUq:ConOk prog 116 ⟨yAs,yAL,fun x=>yjA x.1⟩:=zkI (yQr) func116 ntmps116.symm fun x=>by kernel_rfl
def yEM:Con:=⟨yAs,yAL,fun x=>yjA x.1⟩
theorem yWZ:ConOk prog 116 yEM:=yUq
theorem yZ5 (u:dU) (h:yen u): ∃(g:dG) (u':dU),yjA u=some ((g,()),(u',()))∧ye g=true∧yen u':=by
 unfold yjA;obtain⟨r1,u1,e1,q1,d1⟩:=ye2 u 3 h;obtain⟨r2,u2,e2,q2,d2⟩:=ye2 u1 4 d1;simp only[e1,e2,zkH];refine⟨_,_,rfl,?_,d2⟩;have:=q1.2.1 (by omega); have:=q2.2.1 (by omega); have:=q1.1; have:=q2.1;rw[wr (by omega) (by omega),wr (by omega) (by omega)];exact yk.2 ⟨⟨by show 3≤3+r1; omega,by show 3+r1≤5; omega⟩,by show 1≤1+r2; omega,by show 1+r2≤8; omega⟩
def yVR:Code:=(f83.body).getD .skip
def yWl:Env:=zkw TT [(72,yd8)] []
theorem yML:FrOk prog ⟨yWl,9,fun _=>none⟩ yVR:=zkA mixed yc ⟨yie,trivial⟩
abbrev yxw:List Par:= [.pt tU .fz,.rd tI]
abbrev yx0:List OT:= [⟨false,tB,.fz⟩]
def ybX (a0:dU) (a1:Int):Option (zaY yx0×zak yxw) :=bnd (yi a0 a1) fun r1 =>some (((r1.1.1==0),()),(r1.2.1,()))
theorem yRE:ConOk prog 83 ⟨yxw,yx0,fun x=>ybX x.1 x.2.1⟩:=zkI (yML) func83 ntmps83.symm fun x=>by kernel_rfl
def yDg:Con:=⟨yxw,yx0,fun x=>ybX x.1 x.2.1⟩
theorem yUG:ConOk prog 83 yDg:=yRE
theorem yYF (u:dU) (n:Int) (h:yen u): ∃(r:Bool) (u':dU),ybX u n=some ((r,()),(u',()))∧yen u':=by
 unfold ybX;obtain⟨r,u1,e1,_,d1⟩:=ye2 u n h;simp only[e1,zkH];exact⟨_,_,rfl,d1⟩
def ySJ:Code:=(f143.body).getD .skip
def yTd:Env:=zkw TT [(76,yh0)] [(12288,(.pr .fz .fz))]
theorem yKc:FrOk prog ⟨yTd,10,fun _=>none⟩ ySJ:=zkA mixed yc ⟨yn0,trivial⟩
abbrev yuM:List Par:= [.rd tM]
abbrev yu7:List OT:= [⟨false,tM,(.pr (.ow .fz) (.pr (.ow (.pr .fz .fz)) (.pr .fz (.ow .fz))))⟩]
def yCh (a0:dM):Option (zaY yu7×zak yuM) :=let r1:=yar a0;some (((r1.1,([]:List dW),true,r1.2.2.2),()),())
theorem yOi:ConOk prog 143 ⟨yuM,yu7,fun x=>yCh x.1⟩:=zkI (yKc) func143 ntmps143.symm fun x=>by kernel_rfl
def ynU (a0:dM):dM :=let r1:=yar a0;(r1.1,([]:List dW),true,r1.2.2.2)
def yBb:Con:=⟨yuM,yu7,fun x=>(fun n=>some ((n,()),())) (ynU x.1)⟩
theorem yQ3 (a0:dM):yCh a0=(fun n=>some ((n,()),())) (ynU a0):=zkV (p:=fun(n:dM)=>((n,()),())) rfl
theorem yR4:ConOk prog 143 yBb:=(yOi).mono (fun x r _ h=>(yQ3 x.1).trans h)
def ySM:Code:=(f108.body).getD .skip
def yTg:Env:=zkw TT [(143,yBb),(174,yl6)] []
theorem yKh:FrOk prog ⟨yTg,62,fun _=>none⟩ ySM:=zkA mixed yc ⟨yR4,yvw,trivial⟩
abbrev yiU:List Par:= [.pt tA (.pr .fz (.pr (.pr .fz .fz) (.pr (.ow (.pr (.ow .fz) (.pr (.ow (.pr .fz .fz)) (.pr .fz (.ow .fz))))) (.pr .fz (.pr .fz (.pr .fz (.pr .fz (.pr .fz (.pr (.ow (.pr .fz .fz)) (.pr .fz (.pr .fz .fz))))))))))),.rd tI]
abbrev ynH:List OT:= []
def yqI (a0:dA) (a1:Int):Option (zaY ynH×zak yiU) :=bif(inb a1 a0.2.2.1.length)then let r1:=ynU ((nth a0.2.2.1 a1 ([],[],false,[])).1,((nth a0.2.2.1 a1 ([],[],false,[])).2).1,(((nth a0.2.2.1 a1 ([],[],false,[])).2).2));bif(inb a1 a0.2.2.1.length)then bif(!(a0.2.2.2.1==(-1)))then bif(a0.2.2.2.1==a1)then bif(!a0.2.2.2.2.2.2.2.2.2.2.1)then bif(!a0.2.2.2.2.2.2.2.2.2.2.2)then bif(ltb a0.2.2.2.2.2.2.2.1 60000)then let r2:=yaI (a0.1,a0.2.1,(a0.2.2.1.set (a1).toNat r1),a1,0,a0.2.2.2.2.2);some ((),(r2,())) else some ((),((a0.1,a0.2.1,(a0.2.2.1.set (a1).toNat r1),a1,0,a0.2.2.2.2.2),())) else some ((),((a0.1,a0.2.1,(a0.2.2.1.set (a1).toNat r1),a1,0,a0.2.2.2.2.2),())) else some ((),((a0.1,a0.2.1,(a0.2.2.1.set (a1).toNat r1),a1,0,a0.2.2.2.2.2),())) else bif(!a0.2.2.2.2.2.2.2.2.2.2.1)then some ((),((a0.1,a0.2.1,(a0.2.2.1.set (a1).toNat r1),a0.2.2.2.1,a0.2.2.2.2.1,a0.2.2.2.2.2.1,a0.2.2.2.2.2.2.1,a0.2.2.2.2.2.2.2.1,a0.2.2.2.2.2.2.2.2.1,a0.2.2.2.2.2.2.2.2.2.1,a0.2.2.2.2.2.2.2.2.2.2.1,true),())) else some ((),((a0.1,a0.2.1,(a0.2.2.1.set (a1).toNat r1),a0.2.2.2.1,a0.2.2.2.2.1,a0.2.2.2.2.2.1,a0.2.2.2.2.2.2.1,a0.2.2.2.2.2.2.2.1,a0.2.2.2.2.2.2.2.2.1,a0.2.2.2.2.2.2.2.2.2.1,a0.2.2.2.2.2.2.2.2.2.2.1,true),())) else bif(!a0.2.2.2.2.2.2.2.2.2.2.1)then bif(!a0.2.2.2.2.2.2.2.2.2.2.2)then bif(ltb a0.2.2.2.2.2.2.2.1 60000)then let r3:=yaI (a0.1,a0.2.1,(a0.2.2.1.set (a1).toNat r1),a1,0,a0.2.2.2.2.2);some ((),(r3,())) else some ((),((a0.1,a0.2.1,(a0.2.2.1.set (a1).toNat r1),a1,0,a0.2.2.2.2.2),())) else some ((),((a0.1,a0.2.1,(a0.2.2.1.set (a1).toNat r1),a1,0,a0.2.2.2.2.2),())) else some ((),((a0.1,a0.2.1,(a0.2.2.1.set (a1).toNat r1),a1,0,a0.2.2.2.2.2),())) else none else none
theorem yOm:ConOk prog 108 ⟨yiU,ynH,fun x=>yqI x.1 x.2.1⟩:=zkI (yKh) func108 ntmps108.symm fun x=>by kernel_rfl
def ynV (a0:dA) (a1:Int):dA:=yaK a0 a1
def yvz (a0:dA) (a1:Int):Bool:=inb a1 a0.2.2.1.length
theorem yQ7 (a0:dA) (a1:Int) (hk:zjx yiU (a0,a1,())) (hq:yvz a0 a1=true):yqI a0 a1=(fun n=>some ((),(n,()))) (ynV a0 a1):=by
 have hq:inb a1 a0.2.2.1.length=true:=hq;unfold yqI ynV yaK yL ycl yg4 yb;simp only[hq,zkX,ynU,yar,yaI];cases(a0.2.2.2.1== -1)<;>cases(a0.2.2.2.1==a1)<;>cases a0.2.2.2.2.2.2.2.2.2.2.1<;>cases a0.2.2.2.2.2.2.2.2.2.2.2<;>cases ltb a0.2.2.2.2.2.2.2.1 60000<;>rfl
def yjt (a0:dA) (a1:Int):Option (zaY ynH×zak yiU):=bif yvz a0 a1 then(fun n=>some ((),(n,()))) (ynV a0 a1)else none
theorem ySd (a0:dA) (a1:Int) (h:yvz a0 a1=true):yjt a0 a1=(fun n=>some ((),(n,()))) (ynV a0 a1):=by unfold yjt; rw[h]; rfl
def yBf:Con:=⟨yiU,ynH,fun x=>yjt x.1 x.2.1⟩
theorem yR8:ConOk prog 108 yBf:=(yOm).mono (fun x r hk h=>zkY h (fun hq=>yQ7 x.1 x.2.1 hk hq))
def ylt:Code:=(f112.body).getD .skip
def yrK:Env:=zkw TT [(76,yh0),(82,yw),(160,yfY),(161,yvk)] []
theorem yHT:FrOk prog ⟨yrK,68,fun _=>none⟩ ylt:=zkA mixed yc ⟨yn0,yC,ykL,yGg,trivial⟩
def yyy:Nat→Option Seg:=fun _=>none
def yaT:Shape:=⟨[(1,false,[.int .i64]),(4,false,[.ptr 64 0]),(5,false,[.ptr 4224 0]),(6,false,[.int .i64])],[(64,[.nil,.nil,.bool,.nil]),(4224,[.at 800000000,.at 800000001,.bool,.at 800000002])],[(800000000,tL,.fz),(800000001,tW,(.pr .fz .fz)),(800000002,tI,.fz)]⟩
def ydZ:Shape:=⟨[(1,false,[.int .i64]),(4,false,[.ptr 64 0]),(5,false,[.ptr 4224 0]),(6,false,[.int .i64])],[(64,[.nil,.nil,.bool,.nil]),(4224,[.at 800000000,.at 800000001,.bool,.at 800000002])],[(800000000,tL,.fz),(800000001,tW,(.pr .fz .fz)),(800000002,tI,.fz)]⟩
def ydU:Shape:=⟨[(1,false,[.int .i64]),(4,false,[.ptr 64 0]),(5,false,[.ptr 4224 0]),(6,false,[.int .i64])],[(64,[.nil,.nil,.bool,.nil]),(4224,[.at 800000000,.at 800000001,.bool,.at 800000002])],[(800000000,tL,.fz),(800000001,tW,(.pr .fz .fz)),(800000002,tI,.fz)]⟩
def ygU:Shape:=⟨[],[],[]⟩
abbrev yj9 (v0 v1:Int) (v2 v3:dM):(yaT).X:=(((v0,()),((),()),((),()),(v1,()),()),(((),(),v2.2.2.1,(),()),((),(),v3.2.2.1,(),()),()),(v3.1,v3.2.1,v3.2.2.2,()))
abbrev yFQ (v0 v1:Int) (v2 v3:dM):(ydZ).X:=(((v0,()),((),()),((),()),(v1,()),()),(((),(),v2.2.2.1,(),()),((),(),v3.2.2.1,(),()),()),(v3.1,v3.2.1,v3.2.2.2,()))
abbrev yFM (v0 v1:Int) (v2 v3:dM):(ydU).X:=(((v0,()),((),()),((),()),(v1,()),()),(((),(),v2.2.2.1,(),()),((),(),v3.2.2.1,(),()),()),(v3.1,v3.2.1,v3.2.2.2,()))
def ykl (v0 v1:Int) (v2 v3:Bool) (v4:List (List Int)) (v5:List dW) (v6:List Int):Option ((yaT).X ⊕ ((ydU).X ⊕ (ygU).X)) :=bif(ltb 0 v1)then bif(inb (i64.wrap (v1-1)) v6.length)then bif(ltb v0 (nth v6 (i64.wrap (v1-1)) 0))then bif(inb (i64.wrap (v1-1)) v6.length)then bif(inb v1 v6.length)then some (.inl (((v0,()),((),()),((),()),((i64.wrap (v1-1)),()),()),(((),(),v2,(),()),((),(),v3,(),()),()),(v4,v5,(v6.set (v1).toNat (nth v6 (i64.wrap (v1-1)) 0)),()))) else none else none else some (.inr (.inl (((v0,()),((),()),((),()),(v1,()),()),(((),(),v2,(),()),((),(),v3,(),()),()),(v4,v5,v6,())))) else none else some (.inr (.inl (((v0,()),((),()),((),()),(v1,()),()),(((),(),v2,(),()),((),(),v3,(),()),()),(v4,v5,v6,()))))
def ybb (x:(yaT).X):=ykl x.1.1.1 x.1.2.2.2.1.1 x.2.1.1.2.2.1 x.2.1.2.1.2.2.1 x.2.2.1 x.2.2.2.1 x.2.2.2.2.1
def ysX (x:(ydZ).X):(yaT).X:=(((x.1.1.1,()),((),()),((),()),(x.1.2.2.2.1.1,()),()),(((),(),x.2.1.1.2.2.1,(),()),((),(),x.2.1.2.1.2.2.1,(),()),()),(x.2.2.1,x.2.2.2.1,x.2.2.2.2.1,()))
def ytP:Code:=(zd7 ylt 64 504).getD .skip
theorem yGp:zd7 ylt 64 126=some (.block 0 (.loop ytP)):=by kernel_rfl
theorem yG1 (x:(yaT).X):zhu ⟨yrK,68,yyy⟩ 0 ytP 504 yaT ydU ygU x=ybb x:=by kernel_rfl
def ys3 (x:(ydZ).X):Nat:=18446744073709551616
def ykX (x:(ydZ).X):Option ((ydU).X ⊕ (ygU).X):=zF ybb (ys3 x) (ysX x)
def ytH:Seg:=⟨ydZ,ydU,ygU,ykX⟩
def yJr:Nat→Option Seg:=fun q=>bif Nat.beq q 126 then some ytH else yyy q
theorem yHU:FrOk prog ⟨yrK,68,yJr⟩ ylt:=(yHT).loop (sg:=ytH) yaT ysX (by decide) yGp ybb ys3 (by decide) (fun _=>rfl) (fun x r _ h=>h) yG1
abbrev ylJ:List Par:= [.rd tM,.rd tI]
abbrev ysv:List OT:= [⟨false,tM,(.pr (.ow .fz) (.pr (.ow (.pr .fz .fz)) (.pr .fz (.ow .fz))))⟩]
def yoV (a0:dM) (a1:Int):Option (zaY ysv×zak ylJ) :=let r1:=yar a0;let r2:=yav a0;bif(!(!r2))then let r3:=ya a1 0 (i64.wrap ((a0.1.length:Int)-1));bif(!(!r3))then let r4:=ygG a0.2.2.2 a1;bif r4 then some ((r1,()),()) else bif(zkl r1.2.2.2.length ([a1]:List Int).length 8)then zkt (ykX (((a1,()),((),()),((),()),((i64.wrap (((r1.2.2.2++([a1]:List Int)).length:Int)-1)),()),()),(((),(),false,(),()),((),(),r1.2.2.1,(),()),()),(r1.1,r1.2.1,(r1.2.2.2++([a1]:List Int)),()))) (fun y4 =>bif(inb y4.1.2.2.2.1.1 y4.2.2.2.2.1.length)then some (((y4.2.2.1,y4.2.2.2.1,y4.2.1.2.1.2.2.1,(y4.2.2.2.2.1.set (y4.1.2.2.2.1.1).toNat y4.1.1.1)),()),()) else none) (fun y4 =>none) else none else some ((r1,()),()) else some ((r1,()),())
theorem yK9:ConOk prog 112 ⟨ylJ,ysv,fun x=>yoV x.1 x.2.1⟩:=zkI (yHU) func112 ntmps112.symm fun x=>by kernel_rfl
def ymb (a0:dM) (a1:Int):dM:=spoil a0 a1
theorem ySx (n:Int) (m:dM) (p:List Int) (hp: ∀x∈p,x<n): ∀(j:Nat) (q1 q2:List Int) (x:Int) (fuel:Nat),q1.length=j→j<fuel→(∀y∈q1,n<y)→p.length+q1.length≤1000 →
  ∃(x':Int) (q':List Int),q1++q2=q'∧zF ybb fuel (yj9 n ((p.length+q1.length:Nat):Int) yd (m.1,m.2.1,m.2.2.1,(p++q1)++x::q2))=some (.inl (yFM n (p.length:Nat) yd (m.1,m.2.1,m.2.2.1,p++x'::q')))
 | 0,q1,q2,x,fuel+1,hj,hf,hq,hb=>by
  have:q1= []:=List.length_eq_zero_iff.1 hj;subst this;refine⟨x,q2,rfl,?_⟩;simp only[zF,ybb,yj9,ykl,List.length_nil,Nat.add_zero,List.append_nil];rcases List.eq_nil_or_concat p with rfl | ⟨P,y,rfl⟩
  ·rfl
  ·have hy:=hp y (by simp)
   simp only[List.concat_eq_append,List.length_append,List.length_cons,List.length_nil,List.append_assoc,List.cons_append,List.nil_append]at hb ⊢
   rw[zky (show(0:Int)<((P.length+(0+1):Nat):Int)by omega),wq (((P.length+(0+1):Nat):Int)-1) (by omega) (by omega),show((P.length+(0+1):Nat):Int)-1=(P.length:Nat)by omega,
    zkR (by simp),zkS,yYL,zk3 (show y≤n by omega)]
   rfl
 | j+1,q1,q2,x,fuel+1,hj,hf,hq,hb=>by
  rcases List.eq_nil_or_concat q1 with rfl | ⟨Q,y,rfl⟩
  ·cases hj
  ·rw[List.concat_eq_append]at hj hq hb ⊢
   have hQ:Q.length=j:=by simpa using hj
   have hy:=hq y (by simp);obtain⟨x',q',e1,e2⟩:=ySx n m p hp j Q (y::q2) y fuel hQ (by omega) (fun z hz=>hq z (by simp[hz])) (by simp at hb; omega);refine⟨x',q',by rw[← e1]; simp,?_⟩;rw[← e2];have ea:((p++(Q++ [y]))++x::q2)=(p++Q)++y::x::q2:=by simp
   have el:p.length+(Q++ [y]).length=(p++Q).length+1:=by simp; omega
   have el2:p.length+Q.length=(p++Q).length:=by simp
   have hb2:(p++Q).length≤1000:=by simp at hb ⊢; omega
   rw[ea,el,el2];generalize p++Q=A at hb2;rw[zF];simp only[ybb,yj9,ykl]
   have es:(A++y::x::q2).set (A.length+1) y=A++y::y::q2:=by
    have:=yYR (A++ [y]) x y q2;simp at this ⊢
   rw[zky (show(0:Int)<((A.length+1:Nat):Int)by omega),wq (((A.length+1:Nat):Int)-1) (by omega) (by omega),show((A.length+1:Nat):Int)-1=(A.length:Nat)by omega,zkR (show A.length<(A++y::x::q2).length by simp),zkS,yYL,zky hy,
    zkR (show A.length+1<(A++y::x::q2).length by simp),Int.toNat_natCast,es]
   rfl
theorem yNU (a0:dM) (a1:Int) (hk:zjx ylJ (a0,a1,())):yoV a0 a1=(fun n=>some ((n,()),())) (ymb a0 a1):=by
 unfold yoV ymb spoil;simp only[yar,yav,ybR,ygG];cases hm:yr a0
 ·rfl
 obtain⟨h1,h2,h3,h4,h5,h6⟩:=ycZ hm;rw[yq3]at h3;have hlen:=yTp h3.2 (lo:=0) (n:=a0.1.length) h3.1 (by omega);rw[wq ((a0.1.length:Int)-1) (by omega) (by omega)]
 have hi:(leb 0 a1&&leb a1 ((a0.1.length:Int)-1))=inb a1 a0.1.length:=by
  rw[Bool.eq_iff_iff,Bool.and_eq_true,zj7,zj7,zj6]; omega
 rw[hi];cases hin:inb a1 a0.1.length
 ·rfl
 cases hh:a0.2.2.2.any (· ==a1)
 ·have hn:a1∉a0.2.2.2:=fun h=>by
   have:=List.any_eq_false.1 hh a1 h;simp at this
  have hsp:=yX5 h3.2 hn;have hp: ∀x∈a0.2.2.2.filter (fun x=>ltb x a1),x<a1:=fun x hx=>zka.1 (List.mem_filter.1 hx).2
  have hq: ∀x∈a0.2.2.2.filter (fun x=>ltb a1 x),a1<x:=fun x hx=>zka.1 (List.mem_filter.1 hx).2
  unfold yEZ;generalize a0.2.2.2.filter (fun x=>ltb x a1)=P at hsp hp;generalize a0.2.2.2.filter (fun x=>ltb a1 x)=Q at hsp hq;have hPQ:P.length+Q.length=a0.2.2.2.length:=by rw[hsp,List.length_append]
  obtain⟨x',q',e1,e2⟩:=ySx a1 a0 P hp Q.length Q [] a1 18446744073709551616 rfl (by omega) hq (by omega);rw[List.append_nil]at e1;subst e1;simp only[cond_true,cond_false,Bool.not_true,Bool.not_false,Bool.and_self]
  rw[zkF.2 (show(a0.2.2.2.length+ [a1].length)*8≤140737488355328 by simp only[List.length_cons,List.length_nil]; omega),wr (show -9223372036854775808≤((a0.2.2.2++ [a1]).length:Int)-1 by omega) (by simp only[List.length_append,List.length_cons,List.length_nil]; omega),
   show((a0.2.2.2++ [a1]).length:Int)-1=((P.length+Q.length:Nat):Int)by simp only[List.length_append,List.length_cons,List.length_nil]; omega,hsp,cond_true]
  refine(congrArg (fun z=>zkt z _ _) (show ykX (yFQ a1 ((P.length+Q.length:Nat):Int) yd (a0.1,a0.2.1,a0.2.2.1,(P++Q)++ [a1]))=_ from e2)).trans ?_;simp only[zkN];show(bif inb (P.length:Int) (P++x'::Q).length then some (((a0.1,a0.2.1,a0.2.2.1,(P++x'::Q).set (P.length:Int).toNat a1),()),())else none)=_;rw[zkR (by simp),Int.toNat_natCast,yYR]; rfl
 ·rfl
def yyY:Con:=⟨ylJ,ysv,fun x=>(fun n=>some ((n,()),())) (ymb x.1 x.2.1)⟩
theorem yOG:ConOk prog 112 yyY:=(yK9).mono (fun x r hk h=>(yNU x.1 x.2.1 hk).trans h)
section
def yVX:Code:=(f216.body).getD .skip
def yWr:Env:=zkw TT [(78,yvi),(82,yw),(200,ygz)] []
theorem yM0:FrOk prog ⟨yWr,48,fun _=>none⟩ yVX:=zkA mixed yc ⟨yGe,yC,ymf,trivial⟩
abbrev yxB:List Par:= [.rd tA,.rd tI,.rd tL]
abbrev yx7:List OT:= [⟨false,tI,.fz⟩]
def yD1 (a0:dA) (a1:Int) (a2:List Int):Option (zaY yx7×zak yxB) :=let r1:=yci a0;bif(!(!r1))then bif(!((a2.length:Int) !=(i64.wrap (a0.2.1.1-1))))then let r2:=yac a2;bif(!r2)then some ((1,()),()) else bif a0.2.2.2.2.2.2.2.2.2.2.1 then some ((6,()),()) else let r3:=ya a1 0 (i64.wrap (a0.2.1.2-1));bif(!r3)then some ((2,()),()) else bif a0.2.2.2.2.2.2.2.2.2.2.2 then some ((5,()),()) else bif(!(leb 60000 a0.2.2.2.2.2.1))then bif(leb 59990 a0.2.2.2.2.2.2.2.1)then some ((7,()),()) else some ((0,()),()) else some ((7,()),()) else some ((1,()),()) else some ((1,()),())
theorem yRO:ConOk prog 216 ⟨yxB,yx7,fun x=>yD1 x.1 x.2.1 x.2.2.1⟩:=zkI (yM0) func216 ntmps216.symm fun x=>by kernel_rfl
def yE (a0:dA) (a1:Int) (a2:List Int):Int :=let r1:=yci a0;bif(!(!r1))then bif(!((a2.length:Int) !=(i64.wrap (a0.2.1.1-1))))then let r2:=yac a2;bif(!r2)then 1 else bif a0.2.2.2.2.2.2.2.2.2.2.1 then 6 else let r3:=ya a1 0 (i64.wrap (a0.2.1.2-1));bif(!r3)then 2 else bif a0.2.2.2.2.2.2.2.2.2.2.2 then 5 else bif(!(leb 60000 a0.2.2.2.2.2.1))then bif(leb 59990 a0.2.2.2.2.2.2.2.1)then 7 else 0 else 7 else 1 else 1
def yDo:Con:=⟨yxB,yx7,fun x=>(fun n=>some ((n,()),())) (yE x.1 x.2.1 x.2.2.1)⟩
theorem yT4 (a0:dA) (a1:Int) (a2:List Int):yD1 a0 a1 a2=(fun n=>some ((n,()),())) (yE a0 a1 a2):=zkV (p:=fun(n:Int)=>((n,()),())) (zkG (p:=fun(n:Int)=>((n,()),())) (zkG (p:=fun(n:Int)=>((n,()),())) (zkG (p:=fun(n:Int)=>((n,()),())) rfl (zkG (p:=fun(n:Int)=>((n,()),())) rfl (zkG (p:=fun(n:Int)=>((n,()),())) rfl (zkG (p:=fun(n:Int)=>((n,()),())) rfl (zkG (p:=fun(n:Int)=>((n,()),())) (zkG (p:=fun(n:Int)=>((n,()),())) rfl rfl) rfl))))) rfl) rfl)
theorem yUO:ConOk prog 216 yDo:=(yRO).mono (fun x r _ h=>(yT4 x.1 x.2.1 x.2.2.1).trans h)
def yI6 (l:List dW) (k:Nat):List dW:=l.take k++l.drop (k+1)
def ya4 (a:dA) (s:Int):Int×dA :=bif ltb (yx a.2.2.2.2.2.2.2.2.1 s) 0 then(0,a)else bif yE a s (nth a.2.2.2.2.2.2.2.2.1 (yx a.2.2.2.2.2.2.2.2.1 s) (0,[])).2 !=0 then(yE a s (nth a.2.2.2.2.2.2.2.2.1 (yx a.2.2.2.2.2.2.2.2.1 s) (0,[])).2,a)else bif(yah a s (nth a.2.2.2.2.2.2.2.2.1 (yx a.2.2.2.2.2.2.2.2.1 s) (0,[])).2).1==0 then (0,yCk (yah a s (nth a.2.2.2.2.2.2.2.2.1 (yx a.2.2.2.2.2.2.2.2.1 s) (0,[])).2).2 (yI6 a.2.2.2.2.2.2.2.2.1 (yx a.2.2.2.2.2.2.2.2.1 s).toNat)) else yah a s (nth a.2.2.2.2.2.2.2.2.1 (yx a.2.2.2.2.2.2.2.2.1 s) (0,[])).2
theorem yv9 {a:dA} {s:Int} {d:List Int} (h:yE a s d=0):yP a=true∧(d.length:Int)=a.2.1.1-1∧d.all isW=true∧yb a=false∧yX a.2.1 s=true∧a.2.2.2.2.2.2.2.2.2.2.2=false∧a.2.2.2.2.2.1<60000∧a.2.2.2.2.2.2.2.1<59990:=by
 unfold yE at h;simp only[yci,yhb,ybR]at h;cases ha:yP a
 ·rw[ha]at h; exact absurd (show(1:Int)=0 from h) (by decide)
 have hg:=yk.1 (yfU ha);rw[ha,wq (a.2.1.1-1) (by omega) (by omega),wq (a.2.1.2-1) (by omega) (by omega)]at h;cases hl:((d.length:Int) !=a.2.1.1-1)
 ·cases hw:d.all isW
  ·rw[hl,hw]at h; exact absurd (show(1:Int)=0 from h) (by decide)
  cases hd:a.2.2.2.2.2.2.2.2.2.2.1
  ·cases hs:(leb 0 s&&leb s (a.2.1.2-1))
   ·rw[hl,hw,hd,hs]at h; exact absurd (show(2:Int)=0 from h) (by decide)
   cases hb:a.2.2.2.2.2.2.2.2.2.2.2
   ·cases h6:leb 60000 a.2.2.2.2.2.1
    ·cases h7:leb 59990 a.2.2.2.2.2.2.2.1
     ·have e6: ¬(60000≤a.2.2.2.2.2.1):=fun g=>by rw[zk2 g]at h6; cases h6
      have e7: ¬(59990≤a.2.2.2.2.2.2.2.1):=fun g=>by rw[zk2 g]at h7; cases h7
      exact⟨rfl,bne_eq_false_iff_eq.1 hl,rfl,hd,by unfold yX; rw[yfU ha,hs]; rfl,rfl,by omega,by omega⟩
     ·rw[hl,hw,hd,hs,hb,h6,h7]at h; exact absurd (show(7:Int)=0 from h) (by decide)
    ·rw[hl,hw,hd,hs,hb,h6]at h; exact absurd (show(7:Int)=0 from h) (by decide)
   ·rw[hl,hw,hd,hs,hb]at h; exact absurd (show(5:Int)=0 from h) (by decide)
  ·rw[hl,hw,hd]at h; exact absurd (show(6:Int)=0 from h) (by decide)
 ·rw[hl]at h; exact absurd (show(1:Int)=0 from h) (by decide)
theorem yU4 (a:dA):(yF a).2.2.2.2.2.2.2.2.1=a.2.2.2.2.2.2.2.2.1:=by
 unfold yF;cases leb 4 (i64.wrap (a.2.2.2.2.2.1-a.2.2.2.2.2.2.1))
 ·rfl
 ·exact yYk a
theorem yYx (a:dA):(yan a).2.2.2.2.2.2.2.2.1=a.2.2.2.2.2.2.2.2.1:=rfl
theorem yYC (a:dA) (s:Int) (d:List Int):(yah a s d).2.2.2.2.2.2.2.2.2.1=a.2.2.2.2.2.2.2.2.1:=by
 unfold yah;have h2:=(yPT (ygN (yF a) ((yF a).2.2.2.2.2.1,s,d))).trans (yU4 a);generalize yU (yF a) ((yF a).2.2.2.2.2.1,s,d)=R at h2 ⊢;have h3:=(yPT (yDr (yan R) s d)).trans ((yYx R).trans h2);generalize yK (yan R) s d=Q at h3 ⊢;cases yb (yF a)
 ·cases yb R
  ·exact h3
  ·exact h2
 ·exact yU4 a
theorem yZw {l:List dW} {k:Int} (h0:0≤k) (h1:k<(l.length:Int)):(([]:List dW)++((l.drop (0:Int).toNat).take (k-0).toNat))++((l.drop (k+1).toNat).take ((l.length:Int)-(k+1)).toNat)=yI6 l k.toNat:=by
 unfold yI6;rw[List.nil_append,show(0:Int).toNat=0 from rfl,List.drop_zero,Int.sub_zero,show(k+1).toNat=k.toNat+1 by omega,List.take_of_length_le (l:=l.drop (k.toNat+1)) (by rw[List.length_drop]; omega)]
def yve (_:Nat) (a:dA):dA ⊕ (Int×dA):=bif(ya4 a (nth a.2.2.2.2.2.2.2.2.1 0 (0,[])).1).1 !=0 then .inr (ya4 a (nth a.2.2.2.2.2.2.2.2.1 0 (0,[])).1)else .inl (ya4 a (nth a.2.2.2.2.2.2.2.2.1 0 (0,[])).1).2
def yTo (a:dA):Int×dA:=goE yve (fun b=>(0,b)) a.2.2.2.2.2.2.2.2.1.length 0 a
theorem yY7 {e:dW} {l:List dW}:yx (e::l) e.1=0:=by
 unfold yx;rw[ys5,show(e.1==e.1)=true from beq_self_eq_true _]; rfl
theorem yY8 {a:dA} (h:0<a.2.2.2.2.2.2.2.2.1.length) (h0:(ya4 a (nth a.2.2.2.2.2.2.2.2.1 0 (0,[])).1).1=0):(ya4 a (nth a.2.2.2.2.2.2.2.2.1 0 (0,[])).1).2.2.2.2.2.2.2.2.2.1=a.2.2.2.2.2.2.2.2.1.drop 1:=by
 unfold ya4 at h0 ⊢
 have hk:yx a.2.2.2.2.2.2.2.2.1 (nth a.2.2.2.2.2.2.2.2.1 0 (0,[])).1=0:=by
  cases hl:a.2.2.2.2.2.2.2.2.1 with
  | nil=>rw[hl]at h; exact absurd h (Nat.lt_irrefl 0)
  | cons e l=>exact yY7
 rw[hk]at h0 ⊢;generalize (nth a.2.2.2.2.2.2.2.2.1 0 (0,[])).2=D at h0 ⊢;generalize (nth a.2.2.2.2.2.2.2.2.1 0 (0,[])).1=s at h0 ⊢;cases hc:(yE a s D !=0)
 ·rw[hc]at h0
  cases hr:((yah a s D).1==0)
  ·rw[hr]at h0
   exact absurd (show(yah a s D).1=0 from h0) (beq_eq_false_iff_ne.1 hr)
  ·rfl
 ·rw[hc]at h0
  exact absurd (show yE a s D=0 from h0) (bne_iff_ne.1 hc)
inductive Turned (a:dA):dA→Prop where
 | same:Turned a a
 | put (b x:Int):ybQ a.2.1 b=true→isW x=true→Turned a (ykP a b x).2
 | flush (s:Int):Turned a (ya4 a s).2
 | all:Turned a (yTo a).2
 | fail (m:Int):a.2.2.2.1= -1→inb m a.2.2.1.length=true→Turned a (yaK a m)
 | spare:inb a.2.2.2.1 a.2.2.1.length=true→(nth a.2.2.1 a.2.2.2.1 yd).2.2.1=true→Turned a (yaa (ybP a))
 | step:inb a.2.2.2.1 a.2.2.1.length=true→(nth a.2.2.1 a.2.2.2.1 yd).2.2.1=false→a.2.2.2.2.1<a.2.1.2→Turned a (yrn a).2
 | check:Turned a (yab a)
 | spoil (m s:Int):a.2.2.2.1= -1→inb m a.2.2.1.length=true→0≤s→s<a.2.1.2→Turned a (yd2 a m (spoil (nth a.2.2.1 m yd) (yQ s)))
def yW9 (g:dG) (e:dW):Prop:=(0≤e.1∧e.1≤g.2-1)∧(e.2.length:Int)=g.1-1∧e.2.all isW=true
theorem yq7 {g:dG} {l:List dW}:yaz g l=true↔(∀e∈l,yW9 g e)∧l.Pairwise (fun x y=>x.1<y.1):=by
 have bad: ∀i,yg3 g l i=false↔yW9 g (nth l i (0,[]))∧(0<i→(nth l ((i-1:Nat):Int) (0,[])).1<(nth l i (0,[])).1):=by
  intro i;unfold yg3 yW9;simp only[Bool.or_eq_false_iff,Bool.not_eq_false',bne_eq_false_iff_eq,Bool.and_eq_true,Bool.and_eq_false_iff,decide_eq_false_iff_not,zj7];constructor
  ·rintro⟨h1,h2,h3,h4⟩
   refine⟨⟨h1,h2,h3⟩,fun h0=> ?_⟩;rcases h4 with h4 | h4
   ·exact absurd h0 h4
   ·have:=mt zk2 (by rw[h4]; simp: ¬leb (nth l i (0,[])).1 (nth l ((i-1:Nat):Int) (0,[])).1=true)
    omega
  ·rintro⟨⟨h1,h2,h3⟩,h4⟩
   refine⟨h1,h2,h3,?_⟩;by_cases h0:0<i
   ·exact .inr (zk1 (by have:=h4 h0; omega))
   ·exact .inl h0
 unfold yaz;simp only[Bool.not_eq_true',List.any_eq_false,List.mem_range,Bool.not_eq_true,bad];constructor
 ·intro h
  refine⟨fun e he=> ?_,?_⟩
  ·obtain⟨i,hi,rfl⟩:=List.getElem_of_mem he
   have:=(h i hi).1;rwa[zkS,zkJ hi]at this
  ·rw[List.pairwise_iff_getElem]
   have step: ∀(d i:Nat) (hi:i<l.length) (hj:i+d+1<l.length),l[i].1<l[i+d+1].1:=by
    intro d
    induction d with
    | zero =>
     intro i hi hj;have:=(h (i+1) hj).2 (by omega);rwa[Nat.add_sub_cancel,zkS,zkS,zkJ hi,zkJ hj]at this
    | succ d ih =>
     intro i hi hj;have h1:=ih i hi (by omega);have:=(h (i+d+1+1) hj).2 (by omega);rw[Nat.add_sub_cancel,zkS,zkS,zkJ (show i+d+1<l.length by omega),zkJ (show i+d+1+1<l.length from hj)]at this;exact Int.lt_trans h1 this
   intro i j hi hj hij;have:=step (j-i-1) i hi (by omega);have e:i+(j-i-1)+1=j:=by omega
   simp only[e]at this;exact this
 ·rintro⟨h1,h2⟩ i hi
  rw[List.pairwise_iff_getElem]at h2;refine⟨by rw[zkS,zkJ hi]; exact h1 _ (List.getElem_mem hi),fun h0=> ?_⟩;rw[zkS,zkS,zkJ hi,zkJ (show i-1<l.length by omega)];exact h2 (i-1) i (by omega) hi (by omega)
theorem yU9 {g:dG} {l:List dW} (k:Nat) (h:yaz g l=true):yaz g (yI6 l k)=true:=by
 rw[yq7]at h ⊢
 have hs:(yI6 l k).Sublist l:=by
  unfold yI6;have:(l.take k++l.drop (k+1)).Sublist (l.take k++l.drop k):=List.Sublist.append_left (by rw[← List.drop_drop]; exact List.drop_sublist _ _) _;rwa[List.take_append_drop]at this
 exact⟨fun e he=>h.1 e (hs.subset he),h.2.sublist hs⟩
theorem yX1 (e:dW): ∀(l acc:List dW),l.foldl (ycj e) (true,acc)=(true,acc++l.filter (fun x=>x.1 !=e.1))
 | [],acc=>by simp
 | x::t,acc=>by
  rw[List.foldl_cons];have:ycj e (true,acc) x=(true,acc++(bif x.1 !=e.1 then[x]else[])):=rfl;rw[this,yX1 e t,List.filter_cons];cases x.1 !=e.1<;>simp
theorem yVn {e:dW} {l:List dW} (h:l.Pairwise (fun x y=>x.1<y.1)):yFg l e=l.filter (fun x=>ltb x.1 e.1)++e::l.filter (fun x=>ltb e.1 x.1):=by
 have: ∀(l acc:List dW),l.Pairwise (fun x y=>x.1<y.1)→(bif(l.foldl (ycj e) (false,acc)).1 then(l.foldl (ycj e) (false,acc)).2 else(l.foldl (ycj e) (false,acc)).2++ [e])=acc++(l.filter (fun x=>ltb x.1 e.1)++e::l.filter (fun x=>ltb e.1 x.1)):=by
  intro l
  induction l with
  | nil=>intro acc _; simp
  | cons x t ih =>
   intro acc h;obtain⟨hx,ht⟩:=List.pairwise_cons.1 h;rw[List.foldl_cons];by_cases hle:e.1≤x.1
   ·have h1:ycj e (false,acc) x=(true,(acc++ [e])++(bif x.1 !=e.1 then[x]else[])):=by
     unfold ycj; rw[zk2 hle]; rfl
    have h2:t.filter (fun x=>x.1 !=e.1)=t:=List.filter_eq_self.2 (fun y hy=>bne_iff_ne.2 (by have:=hx y hy; omega));have h3:t.filter (fun x=>ltb x.1 e.1)= []:=List.filter_eq_nil_iff.2 (fun y hy=>by rw[zk3 (by have:=hx y hy; omega)]; simp);have h4:t.filter (fun x=>ltb e.1 x.1)=t:=List.filter_eq_self.2 (fun y hy=>zky (by have:=hx y hy; omega));rw[h1,yX1,h2,List.filter_cons,List.filter_cons,h3,h4,zk3 (show e.1≤x.1 by omega)];by_cases he:x.1=e.1
    ·rw[show(x.1 !=e.1)=false from bne_eq_false_iff_eq.2 he,zk3 (show x.1≤e.1 by omega)]; simp
    ·rw[show(x.1 !=e.1)=true from bne_iff_ne.2 he,zky (show e.1<x.1 by omega)]; simp
   ·have h1:ycj e (false,acc) x=(false,acc++ [x]):=by
     unfold ycj; rw[zk1 (show x.1<e.1 by omega),show(x.1 !=e.1)=true from bne_iff_ne.2 (by omega)]; rfl
    rw[h1,ih _ ht,List.filter_cons,List.filter_cons,zky (show x.1<e.1 by omega),zk3 (show x.1≤e.1 by omega)];simp
 have:=this l [] h;rw[List.nil_append]at this;exact this
theorem yVa {g:dG} {l:List dW} {e:dW} (h:yaz g l=true) (he:yW9 g e):yaz g (yFg l e)=true:=by
 rw[yq7]at h ⊢;rw[yVn h.2];refine⟨fun x hx=> ?_,?_⟩
 ·rcases List.mem_append.1 hx with h1 | h1
  ·exact h.1 x (List.mem_filter.1 h1).1
  ·rcases List.mem_cons.1 h1 with rfl | h1
   ·exact he
   ·exact h.1 x (List.mem_filter.1 h1).1
 ·rw[List.pairwise_append,List.pairwise_cons]
  refine⟨h.2.filter _,⟨fun y hy=>zka.1 (List.mem_filter.1 hy).2,h.2.filter _⟩,fun x hx y hy=> ?_⟩;have h1:=zka.1 (List.mem_filter.1 hx).2;rcases List.mem_cons.1 hy with rfl | hy
  ·exact h1
  ·exact Int.lt_trans h1 (zka.1 (List.mem_filter.1 hy).2)
theorem yq8 {g:dG} {l:List dW} (h:yaz g l=true) (hg:ye g=true):l.length≤8:=by
 rw[yq7]at h;have hg:=yk.1 hg
 have:=yTp (l:=l.map (fun e=>e.1)) (lo:=0) (n:=g.2) (by rw[List.pairwise_map]; exact h.2) (fun x hx=>by
  obtain⟨e,he,rfl⟩:=List.mem_map.1 hx
  have:=(h.1 e he).1; omega) (by omega)
 rw[List.length_map]at this;omega
theorem yXN {a:dA} (r:dN) (h:yal a):yal (yU a r) :=yDz (yj3 (P:=yal) (one:=ybp r) (yn2 r) (fun _ _ h hi=>yBQ h (zkR hi)) _ a (Nat.le_refl _) h)
theorem yZ9 {a:dA} (r:dN) (h:ygZ a):ygZ (yU a r) :=yDw (yj3 (P:=ygZ) (one:=ybp r) (yn2 r) (fun _ _ h _=>yFJ h _ _ _) _ a (Nat.le_refl _) h)
theorem yVh {a:dA} (s:Int) (d:List Int) (h:yal a):yal (yK a s d) :=
 yj3 (P:=yal) (one:=ya6 (yg a.2.1 s) a.2.1.1 s d) (yvT _ _ _ _) (fun b i h hi=>by
  unfold ya6;cases ycf b i s
  ·exact h
  ·exact yBQ h (zkR hi)) _ a (Nat.le_refl _) h
theorem yZA {a:dA} (s:Int) (d:List Int) (h:ygZ a):ygZ (yK a s d) :=
 yj3 (P:=ygZ) (one:=ya6 (yg a.2.1 s) a.2.1.1 s d) (yvT _ _ _ _) (fun b i h hi=>by
  unfold ya6;cases ycf b i s
  ·exact h
  ·exact yFJ h _ _ _) _ a (Nat.le_refl _) h
theorem y1s {k:Int} {a:dA} (r:dN) (h:Wk k a):Wk k (yU a r):=yzX (ygN _ _) (yXN r h.2.1) (yZ9 r h.2.2.1) h
theorem y0W {k:Int} {a:dA} (s:Int) (d:List Int) (h:Wk k a):Wk k (yK a s d):=yzX (yDr _ _ _) (yVh s d h.2.1) (yZA s d h.2.2.1) h
theorem y0t {k:Int} {a:dA} (h:Wk k a) (h1:a.2.2.2.2.2.1<60000) (h2:a.2.2.2.2.2.1-a.2.2.2.2.2.2.1≤3):Wk k (yan a):=by
 obtain⟨⟨c1,c2,c3,c4,c5,c6,c7,c8,c9,c10,c11⟩,g2,g3,g4,g5⟩:=h;have e:i64.wrap (a.2.2.2.2.2.1+1)=a.2.2.2.2.2.1+1:=wr (by omega) (by omega);refine⟨⟨c1,c2,c3,c4,c5,c6,c7,⟨?_,?_⟩,?_,c10,c11⟩,g2,g3,g4,g5⟩
 ·show a.2.2.2.2.2.2.1≤i64.wrap (a.2.2.2.2.2.1+1); omega
 ·show i64.wrap (a.2.2.2.2.2.1+1)≤60000; omega
 ·show i64.wrap (a.2.2.2.2.2.1+1)≤a.2.2.2.2.2.2.1+4; omega
theorem yj2 {a b:dA} (h:yo a=yo b):a.2.2.2.2.2.1=b.2.2.2.2.2.1:=congrArg (fun x=>x.2.2.2.2.1) h
theorem yU6 {a b:dA} (h:yo a=yo b):a.2.2.2.2.2.2.1=b.2.2.2.2.2.2.1:=congrArg (fun x=>x.2.2.2.2.2.1) h
theorem yPR {a:dA} (h:ygZ a):yo (yab a)=yo (yV (ydq a)):=by
 rw[yPS h,yrh];have:=yfV a;unfold yo at this ⊢;simp only[Prod.mk.injEq]at this;obtain⟨h1,h2,h3,h4,h5,h6,h7,h8,h9⟩:=this;unfold yV ydq;simp only[h1,h2,h3,h4,h5,h7,h8,h9]
theorem y1q {k:Int} {a:dA} (h:Wk k a) (hk:k+1≤60000):Wk (k+1) (yF a)∧(yF a).2.2.2.2.2.1=a.2.2.2.2.2.1∧(yF a).2.2.2.2.2.1-(yF a).2.2.2.2.2.2.1≤3:=by
 have c:=h.1;unfold ya3 at c;unfold yF;rw[wr (by omega) (by omega)];cases h4:leb 4 (a.2.2.2.2.2.1-a.2.2.2.2.2.2.1)
 ·refine⟨ydJ h (by omega),rfl,?_⟩
  have: ¬(4≤a.2.2.2.2.2.1-a.2.2.2.2.2.2.1):=fun g=>by rw[zk2 g]at h4; cases h4
  show a.2.2.2.2.2.1-a.2.2.2.2.2.2.1≤3; omega
 ·have e1:(yab a).2.2.2.2.2.1=a.2.2.2.2.2.1:=(yj2 (yPR h.2.2.1)).trans rfl
  have e2:(yab a).2.2.2.2.2.2.1=a.2.2.2.2.2.1:=(yU6 (yPR h.2.2.1)).trans rfl;rw[cond_true];exact⟨yYc h hk,e1,by omega⟩
theorem y0w {k:Int} {a:dA} (s:Int) (d:List Int) (h:Wk k a) (hs:a.2.2.2.2.2.1<60000) (hk:k+1≤60000):Wk (k+1) (yah a s d).2∧(yah a s d).1=0:=by
 obtain⟨h1,h2,h3⟩:=y1q h hk;have h4:=y1s ((yF a).2.2.2.2.2.1,s,d) h1;have e1:=yj2 (ygN (yF a) ((yF a).2.2.2.2.2.1,s,d));have e2:=yU6 (ygN (yF a) ((yF a).2.2.2.2.2.1,s,d));unfold yah;generalize yU (yF a) ((yF a).2.2.2.2.2.1,s,d)=R at h4 e1 e2 ⊢;have h5:=y0W s d (y0t h4 (by omega) (by omega));generalize yK (yan R) s d=Q at h5 ⊢;rw[h1.2.2.1.1,h4.2.2.1.1,h5.2.2.1.1];exact⟨h5,rfl⟩
theorem yLJ {k:Int} {a:dA} {l:List dW} (h:Wk k a) (hd:yaz a.2.1 l=true):Wk k (yCk a l):=by
 obtain⟨⟨c1,c2,c3,c4,c5,c6,c7,c8,c9,c10,c11⟩,g2,g3,g4,g5⟩:=h;exact⟨⟨c1,c2,hd,c4,c5,c6,c7,c8,c9,c10,c11⟩,g2,g3,g4,g5⟩
theorem yVs (a:dA) (s:Int) (d:List Int):(yah a s d).2.2.1=a.2.1:=by
 unfold yah;have h2:=(yau (ygN (yF a) ((yF a).2.2.2.2.2.1,s,d))).trans (yTq a);generalize yU (yF a) ((yF a).2.2.2.2.2.1,s,d)=R at h2 ⊢;have h3:=(yau (yDr (yan R) s d)).trans (show(yan R).2.1=a.2.1 from h2);generalize yK (yan R) s d=Q at h3 ⊢;cases yb (yF a)
 ·cases yb R
  ·exact h3
  ·exact h2
 ·exact yTq a
theorem yYd {k:Int} {a:dA} (s:Int) (h:Wk k a) (hk:k+1≤60000):Wk (k+1) (ya4 a s).2:=by
 unfold ya4;cases ltb (yx a.2.2.2.2.2.2.2.2.1 s) 0
 ·generalize hD:(nth a.2.2.2.2.2.2.2.2.1 (yx a.2.2.2.2.2.2.2.2.1 s) (0,[])).2=D
  cases hc:(yE a s D !=0)
  ·have hz:=yv9 (bne_eq_false_iff_eq.1 hc)
   obtain⟨h1,h2⟩:=y0w s D h hz.2.2.2.2.2.2.1 hk;rw[show((yah a s D).1==0)=true from beq_iff_eq.2 h2];exact yLJ h1 (by rw[yVs]; exact yU9 _ h.1.2.2.1)
  ·exact ydJ h (by omega)
 ·exact ydJ h (by omega)
theorem yYe {k:Int}: ∀(n i:Nat) (j:Int) (a:dA),Wk j a→j+n≤k→k≤60000→Wk k (goE yve (fun b=>((0:Int),b)) n i a).2
 | 0,_,j,a,h,h1,_=>ydJ h (by omega)
 | n+1,i,j,a,h,h1,h2=>by
  have h3:=yYd (nth a.2.2.2.2.2.2.2.2.1 0 (0,[])).1 h (by omega);unfold goE yve;cases((ya4 a (nth a.2.2.2.2.2.2.2.2.1 0 (0,[])).1).1 !=0)
  ·exact yYe n (i+1) (j+1) _ h3 (by omega) h2
  ·exact ydJ h3 (by omega)
theorem y1o {k:Int} {a:dA} (h:Wk k a) (hk:k+8≤60000):Wk (k+8) (yTo a).2:=by
 have:=yq8 h.1.2.2.1 h.1.1;exact yYe _ 0 k a h (by omega) hk
theorem y1t {k:Int} {a:dA} {b n:Int} (h:Wk k a) (hb:ybQ a.2.1 b=true) (hn:isW n=true):Wk k (ykP a b n).2:=by
 unfold ykP;cases hs:(yz a (yD a.2.1 b)).2
 ·exact h
 ·have hstr:=ykT hb
  have hl:=ykS (y1p h) hstr hs;refine yLJ h (yVa h.1.2.2.1 ⟨(yaq.1 hstr).2,by rw[List.length_set]; exact hl,yUX ?_ hn⟩);unfold yz;cases hk:leb 0 (yx a.2.2.2.2.2.2.2.2.1 (yD a.2.1 b))
  ·rw[h.2.2.2.1]; exact yU7 _ _
  ·have:=(yj4 (d:=((0:Int),([]:List Int))) hk).1
   exact yvr (P:=fun e:dW=>e.2.all isW=true) this (fun e he=>((yq7.1 h.1.2.2.1).1 e he).2.2)
def yF9 (a:dA) (s:Int) (d:List Int):dA×Int:=bif yE a s d !=0 then(a,yE a s d)else((yah a s d).2,(yah a s d).1)
theorem yZp (a:dA) (s:Int) (d:List Int):(yah a s d).1=bif yb (yah a s d).2 then 6 else 0:=by
 unfold yah;generalize yF a=C;generalize yU C (C.2.2.2.2.2.1,s,d)=R;generalize yK (yan R) s d=Q;rcases Bool.eq_false_or_eq_true (yb C)with h | h
 ·rw[h,cond_true]
  exact(congrArg (fun x=>bif x then(6:Int)else 0) h).symm
 ·rw[h,cond_false]
  rcases Bool.eq_false_or_eq_true (yb R)with h2 | h2
  ·rw[h2,cond_true]
   exact(congrArg (fun x=>bif x then(6:Int)else 0) h2).symm
  ·rw[h2,cond_false]
def yoE (l:List dW) (s:Int):Int:=bif leb 0 (yW (fun x:dW=> !ltb x.1 s) l)then yW (fun x:dW=> !ltb x.1 s) l else(l.length:Int)
def yZi (l:List dW) (e:dW):List dW:=bif ltb (yoE l e.1) (l.length:Int)&&((nth l (yoE l e.1) (0,[])).1==e.1)then l.set (yoE l e.1).toNat ((nth l (yoE l e.1) (0,[])).1,e.2)else l.take (yoE l e.1).toNat++ [e]++l.drop (yoE l e.1).toNat
theorem yX0 (x:dW) (t:List dW) (s:Int):yoE (x::t) s=bif ltb x.1 s then yoE t s+1 else 0:=by
 unfold yoE;rw[ys5];cases ltb x.1 s
 ·rfl
 ·simp only[Bool.not_true,cond_false,cond_true,List.length_cons]
  cases hl:leb 0 (yW (fun x:dW=> !ltb x.1 s) t)
  ·rfl
  ·have:=zj7.1 hl
   simp only[cond_true];rw[zk2 (show 0≤yW (fun x:dW=> !ltb x.1 s) t+1 by omega)]; rfl
theorem yZK (l:List dW) (s:Int):0≤yoE l s∧yoE l s≤(l.length:Int):=by
 induction l with
 | nil=>exact⟨Int.le_refl 0,Int.le_refl 0⟩
 | cons x t ih =>
  rw[yX0,List.length_cons];cases ltb x.1 s
  ·exact⟨Int.le_refl 0,by simp only[cond_false]; omega⟩
  ·simp only[cond_true]; omega
theorem yYO {e:dW}: ∀{l:List dW},l.Pairwise (fun x y=>x.1<y.1)→yZi l e=l.filter (fun x=>ltb x.1 e.1)++e::l.filter (fun x=>ltb e.1 x.1)
 | [],_=>rfl
 | x::t,h=>by
  obtain⟨hx,ht⟩:=List.pairwise_cons.1 h;have ih:=yYO (e:=e) ht;unfold yZi at ih ⊢;rw[yX0];cases hlt:ltb x.1 e.1
  ·have hle:=zkW hlt
   have h3:t.filter (fun x=>ltb x.1 e.1)= []:=List.filter_eq_nil_iff.2 (fun y hy=>by rw[zk3 (by have:=hx y hy; omega)]; simp);have h4:t.filter (fun x=>ltb e.1 x.1)=t:=List.filter_eq_self.2 (fun y hy=>zky (by have:=hx y hy; omega));rw[List.filter_cons,List.filter_cons,h3,h4,hlt];simp only[cond_false,List.length_cons,zky (show(0:Int)<((t.length+1:Nat):Int)by omega),Bool.true_and];show(bif(x.1==e.1)then(x.1,e.2)::t else e::x::t)=_;cases he:(x.1==e.1)
   ·have:=beq_eq_false_iff_ne.1 he
    rw[zky (show e.1<x.1 by omega)]; rfl
   ·have:=beq_iff_eq.1 he
    rw[zk3 (show x.1≤e.1 by omega),this]; rfl
  ·have hl:=zka.1 hlt
   have hp:=(yZK t e.1).1;rw[List.filter_cons,List.filter_cons,hlt,zk3 (show x.1≤e.1 by omega)];simp only[if_true,cond_true,Bool.false_eq_true,if_false,List.cons_append];rw[← ih];obtain⟨k,hk⟩: ∃k:Nat,yoE t e.1=(k:Int):=⟨(yoE t e.1).toNat,by omega⟩
   rw[hk,show((k:Int)+1)=((k+1:Nat):Int)by omega,List.length_cons,show ltb ((k+1:Nat):Int) ((t.length+1:Nat):Int)=ltb (k:Int) (t.length:Int)by
    rw[Bool.eq_iff_iff,zka,zka]; omega]
   simp only[Int.toNat_natCast,zkS,List.getD_cons_succ,List.set_cons_succ,List.take_succ_cons,List.drop_succ_cons,List.cons_append];cases ltb (k:Int) (t.length:Int)&&((t.getD k (0,[])).1==e.1)<;>rfl
theorem yU1 {a:dA} (h:yP a=true):yaz a.2.1 a.2.2.2.2.2.2.2.2.1=true:=by
 simp only[yP,Bool.and_eq_true]at h; exact h.2.2.2.1
theorem y0k {a:dA} {e:dW} (h:yP a=true):yFg a.2.2.2.2.2.2.2.2.1 e=yZi a.2.2.2.2.2.2.2.2.1 e:=by
 have h2:=(yq7.1 (yU1 h)).2;rw[yVn h2,yYO h2]
def ySv (a:dA) (b n:Int):dA×Int:=bif ybk a b !=0 then(a,ybk a b)else bif isW n then((ykP a b n).2,(ykP a b n).1)else(a,3)
theorem yZX {k:Int} {a b:dA} (h:Wk k a) (ht:Turned a b) (hk:k+8≤60000):Wk (k+8) b:=by
 cases ht with
 | same=>exact ydJ h (by omega)
 | put b x hb hx=>exact ydJ (y1t h hb hx) (by omega)
 | flush s=>exact ydJ (yYd s h (by omega)) (by omega)
 | all=>exact y1o h hk
 | fail m hl hm=>exact ydJ (y0X h hl hm (by omega)) (by omega)
 | spare hl _=>exact ydJ (y0u h hl (by omega)) (by omega)
 | step hl _ hb=>exact ydJ (y0Y h hl hb) (by omega)
 | check=>exact ydJ (yYc h (by omega)) (by omega)
 | spoil m s _ hm _ _=>exact ydJ (y0v h hm) (by omega)
structure Ix (k:Int) (V:Int→Int→Int) (a:dA):Prop where
 xc:ya3 a
 xk:yal a
 xu:yb a=false
 xb:a.2.2.2.2.2.2.2.2.2.2.2=false
 xg:a.2.2.2.2.2.2.2.1≤k
 xs:a.2.2.2.2.2.1≤k
 xe:EvV a.2.1 V
 xv:yFv V a
 xn: ∀i,0≤i→i<a.2.1.1→((yj a i).2.1.length:Int)≤1+(bif i==a.2.2.2.1 then a.2.2.2.2.1 else 0)
theorem ywG {k:Int} {V:Int→Int→Int} {a:dA} (h:Ix k V a):yP a=true:=yEA.2 ⟨h.xc,h.xk⟩
theorem yd9 {k j:Int} {V:Int→Int→Int} {a:dA} (h:Ix k V a) (hj:k≤j):Ix j V a:=⟨h.xc,h.xk,h.xu,h.xb,Int.le_trans h.xg hj,Int.le_trans h.xs hj,h.xe,h.xv,h.xn⟩
def yD8 (S:Int) (m x:dM):Prop:=(x.2.2.1=false→m.2.2.1=false∧ ∀k,6≤k→k<6+S→yg1 x k=false→yg1 m k=false∧yim x k=yim m k)
theorem yDA (S:Int) (m:dM):yD8 S m m:=fun h=>⟨h,fun _ _ _ hb=>⟨hb,rfl⟩⟩
theorem yQE {S:Int} {m x y:dM} (h:yD8 S m x) (g:yD8 S x y):yD8 S m y:=fun hy=>by
 obtain⟨h1,h2⟩:=g hy;obtain⟨h3,h4⟩:=h h1;exact⟨h3,fun k k0 k1 hb=>⟨(h4 k k0 k1 (h2 k k0 k1 hb).1).1,(h2 k k0 k1 hb).2.trans (h4 k k0 k1 (h2 k k0 k1 hb).1).2⟩⟩
theorem yFK {S:Int} {m:dM} (h:yr m=true):yD8 S m (yq m):=fun hf=>by
 rw[(ywr m).2]at hf;exact⟨hf,fun k k0 k1 hb=>⟨by rw[yHp]at hb; exact hb,yZy h hf (by omega)⟩⟩
theorem yXQ {S n:Int} {s:List Int} {m:dM} (hn:n<6):yD8 S m (ygA n s m):=fun hf=>by
 unfold ygA at hf ⊢;cases hm:m.2.2.1
 ·refine⟨rfl,fun k k0 k1 hb=> ?_⟩
  rw[cond_false]at hb ⊢;cases hc:yaV m n s
  ·unfold yH at hb ⊢
   rw[hc]at hb ⊢; exact⟨hb,rfl⟩
  ·rw[yv0 hc,show(k !=n)=true from bne_iff_ne.2 (by omega),Bool.and_true]at hb
   rw[yDq hc,show(n==k)=false from beq_eq_false_iff_ne.2 (by omega)];exact⟨hb,rfl⟩
 ·rw[hm]at hf
  rw[cond_true,hm]at hf; cases hf
theorem yZC (n:Int) (s:List Int) (m:dM):(ygA n s m).2.2.1=m.2.2.1:=by
 unfold ygA;cases hm:m.2.2.1
 ·show(yH m n s).1.2.2.1=false
  rw[(yw8 m n s).2]; exact hm
 ·exact hm
theorem yIZ {V:Int→Int→Int} {a b:dA} (hg:b.2.1=a.2.1) (hl: ∀i s,0≤i→i<a.2.1.1→0≤s→yaJ b.2.2.2.1 b.2.2.2.2.1 i s (yj b i)=true→(i !=a.2.2.2.1||ltb s a.2.2.2.2.1)=true∧yD8 a.2.1.2 (yj a i) (yj b i)) (h:yFv V a):yFv V b:=fun i s i0 i1 s0 s1 hh=>by
 rw[hg]at i1 s1;unfold yce at hh;rw[Bool.and_eq_true,Bool.not_eq_true']at hh;obtain⟨h1,h2⟩:=hl i s i0 i1 s0 hh.1
 have hf:(yj b i).2.2.1=false:=by
  have:=hh.1;simp only[yaJ,Bool.and_eq_true,Bool.not_eq_true']at this; exact this.1
 obtain⟨h3,h4⟩:=h2 hf;obtain⟨h5,h6⟩:=h4 (s+6) (by omega) (by omega) hh.2;rw[h6];exact h i s i0 i1 s0 s1 (by unfold yce yaJ; rw[h3,h1,h5]; rfl)
theorem yZS {V:Int→Int→Int} {a b:dA} (hc:yo b=yo a) (hl: ∀i,0≤i→i<a.2.1.1→yD8 a.2.1.2 (yj a i) (yj b i)) (h:yFv V a):yFv V b :=
 yIZ (yau hc) (fun i s i0 i1 s0 hh=>⟨by
  rw[ymE hc,yj1 hc]at hh
  simp only[yaJ,Bool.and_eq_true]at hh; exact hh.2,hl i i0 i1⟩) h
theorem yJa {k:Int} {V:Int→Int→Int} {a b:dA} (hc:yo b=yo a) (hk:yal b) (hu:yb b=false) (hl: ∀i,0≤i→i<a.2.1.1→yD8 a.2.1.2 (yj a i) (yj b i)∧(yj b i).2.1.length≤(yj a i).2.1.length) (h:Ix k V a):Ix k V b:=by
 refine⟨yI5 hc h.xc,hk,hu,(yMg hc).trans h.xb,by rw[yBk hc]; exact h.xg,by rw[yj2 hc]; exact h.xs,by rw[yau hc]; exact h.xe,yZS hc (fun i i0 i1=>(hl i i0 i1).1) h.xv,fun i i0 i1=> ?_⟩;rw[yau hc]at i1;rw[ymE hc,yj1 hc];have:=h.xn i i0 i1;have:=(hl i i0 i1).2;omega
theorem yFz {g:Int→dM→dM} {a r:dA} (h:Adv g a r a.2.2.1.length) (hu:yb r=false) {i:Int} (i0:0≤i) (i1:i<(a.2.2.1.length:Int)):yj r i=g i (yj a i):=by
 obtain⟨_,_,k,h1,h2,h3⟩:=h;rw[h2 i i0,h3 hu,zky i1]; rfl
theorem yOX {a:dA} (hu:yb (yy a)=false) {i:Int} (i0:0≤i) (i1:i<(a.2.2.1.length:Int)):yj (yy a) i=yq (yj a i):=by
 cases hd:yb a
 ·exact yFz (yX7 hd) hu i0 i1
 ·rw[yw7 hd]at hu; rw[hd]at hu; cases hu
theorem yYT {a:dA} (hu:yb (yy a)=false):yb a=false:=by
 cases hd:yb a
 ·rfl
 ·rw[yw7 hd]at hu; rw[hd]at hu; cases hu
theorem yLB {m:dM} (h:yr m=true):(yq m).2.1.length≤m.2.1.length:=by
 unfold yq;rw[h];cases m.2.2.1
 ·exact Nat.zero_le _
 ·exact Nat.le_refl _
theorem y0N {k:Int} {V:Int→Int→Int} {a:dA} (h:Ix k V a) (hu:yb (yy a)=false):Ix k V (yy a) :=
 yJa (yfV a) (yDz h.xk) hu (fun i i0 i1=>by
  obtain⟨d1,_,_⟩:=ynP h.xk i0 i1;rw[yOX hu i0 (by have:=h.xk.1.2; omega)]
  exact⟨yFK d1,yLB d1⟩) h
theorem y0Q {a:dA} (hu:yb (yaa a)=false):yb ((List.range a.2.2.1.length).foldl yM (yV a))=false∧yb a=false:=by
 have h1:=yYT hu;refine⟨h1,?_⟩;cases hd:yb a
 ·rfl
 ·rw[yrd (one:=yM) (fun _ _ h=>yqu h _ _ _) _ (yV a) hd]at h1
  exact(hd.symm.trans h1)
theorem y0h {a:dA} (hu:yb (yaa a)=false) {i:Int} (i0:0≤i) (i1:i<(a.2.2.1.length:Int)):yj (yaa a) i=yq (yXa (yV a) i (yj a i)):=by
 obtain⟨h1,h2⟩:=y0Q hu;have hl:((List.range a.2.2.1.length).foldl yM (yV a)).2.2.1.length=a.2.2.1.length:=ymF (one:=yM) (fun _ _=>yn1 _ _ _ _) _ (yV a);unfold yaa at hu ⊢;rw[yOX hu i0 (by omega)];exact congrArg yq (yFz (a:=yV a) (yXT (a:=yV a) h2) h1 i0 i1)
theorem yEX {n:Int} {s:List Int} {m:dM} (h:yr m=true):yr (ygA n s m)=true:=by
 unfold ygA;cases m.2.2.1
 ·exact yYf _ _ h
 ·exact h
theorem yDv {n:Int} {s:List Int} {m:dM} (h:yr m=true):(yq (ygA n s m)).2.1.length≤m.2.1.length:=by
 cases hf:m.2.2.1
 ·rw[(yFB (yEX h) ((yZC n s m).trans hf)).1]; exact Nat.zero_le _
 ·have e:ygA n s m=m:=by unfold ygA; rw[hf]; rfl
  rw[e]; exact yLB h
theorem y0U {q:Int} (h:0≤q):2≤yO q∧yO q<6∧yO q=2+q % 4:=by
 unfold yO;rw[zk3 h,cond_false,Int.tmod_eq_emod_of_nonneg h];have:=Int.emod_nonneg q (show(4:Int)≠0 by omega);have:=Int.emod_lt_of_pos q (show(0:Int)<4 by omega);rw[wr (by omega) (by omega)]; omega
theorem y0n {g:Int} (h:0≤g):0≤g.tmod 2∧g.tmod 2<2:=by
 rw[Int.tmod_eq_emod_of_nonneg h]; omega
theorem yYE {a b:dA} (h:yo a=yo b):a.2.2.2.2.2.2.1=b.2.2.2.2.2.2.1:=congrArg (fun x=>x.2.2.2.2.2.1) h
theorem yTz {k:Int} {V:Int→Int→Int} {a:dA} (h:Ix k V a) (hk:k+1≤60000) (hu:yb (yaa a)=false):Ix (k+1) V (yaa a):=by
 have c:=h.xc;unfold ya3 at c;have hgk:=h.xg;have hsk:=h.xs;have e:i64.wrap (a.2.2.2.2.2.2.2.1+1)=a.2.2.2.2.2.2.2.1+1:=wr (by omega) (by omega)
 have hG:Ix (k+1) V (yV a):=by
  obtain⟨⟨c1,c2,c3,c4,c5,c6,c7,c8,c9,c10,c11⟩,g2,g3,g4,g5,g6,g7,g8,g9⟩:=h;refine⟨⟨c1,c2,c3,c4,c5,c6,c7,c8,c9,?_,?_⟩,g2,g3,g4,?_,?_,g7,g8,g9⟩
  ·show 0≤i64.wrap (a.2.2.2.2.2.2.2.1+1); omega
  ·show i64.wrap (a.2.2.2.2.2.2.2.1+1)≤_; omega
  ·show i64.wrap (a.2.2.2.2.2.2.2.1+1)≤_; omega
  ·show a.2.2.2.2.2.1≤k+1; omega
 refine yJa (a:=yV a) (yrh a) (yVi h.xk) hu (fun i i0 i1=> ?_) hG;have i1':i<a.2.1.1:=i1;obtain⟨d1,_,_⟩:=ynP h.xk i0 i1';rw[y0h hu i0 (by have:=h.xk.1.2; omega)]
 have hn:(yV a).2.2.2.2.2.2.2.1.tmod 2<6:=by
  show(i64.wrap (a.2.2.2.2.2.2.2.1+1)).tmod 2<6;have:=y0n (g:=i64.wrap (a.2.2.2.2.2.2.2.1+1)) (by omega);omega
 exact⟨yQE (yXQ hn) (yFK (yEX d1)),yDv d1⟩
theorem yZF {k:Int} {V:Int→Int→Int} {a:dA} (h:Ix k V a):Ix k V (ydq a):=by
 obtain⟨⟨c1,c2,c3,c4,c5,c6,c7,c8,c9,c10,c11⟩,g2,g3,g4,g5,g6,g7,g8,g9⟩:=h;refine⟨⟨c1,c2,c3,c4,c5,c6,⟨?_,?_⟩,⟨Int.le_refl _,c8.2⟩,?_,c10,c11⟩,g2,g3,g4,g5,g6,g7,g8,g9⟩
 ·show 0≤a.2.2.2.2.2.1; omega
 ·show a.2.2.2.2.2.1≤60000; omega
 ·show a.2.2.2.2.2.1≤a.2.2.2.2.2.1+4; omega
theorem yXC {a:dA} (hu:yb (yab a)=false):yb (yy a)=false∧yab a=yaa (ydq (yy a)):=by
 unfold yab at hu ⊢;cases hd:yb (yy a)
 ·exact⟨rfl,rfl⟩
 ·rw[hd]at hu; exact absurd (hd.symm.trans hu) (by simp)
theorem yXI {k:Int} {V:Int→Int→Int} {a:dA} (h:Ix k V a) (hk:k+1≤60000) (hu:yb (yab a)=false):Ix (k+1) V (yab a):=by
 obtain⟨h1,h2⟩:=yXC hu;rw[h2]at hu ⊢;exact yTz (yZF (y0N h h1)) hk hu
theorem y1j {a:dA} {r:dN} (hu:yb (yU a r)=false):yb ((List.range a.2.2.1.length).foldl (ybp r) a)=false∧yb a=false:=by
 have h1:=yYT hu;refine⟨h1,?_⟩;cases hd:yb a
 ·rfl
 ·rw[yrd (one:=ybp r) (fun _ _ h=>yqu h _ _ _) _ a hd]at h1
  exact(hd.symm.trans h1)
theorem yYP {a:dA} {r:dN} (hu:yb (yU a r)=false) {i:Int} (i0:0≤i) (i1:i<(a.2.2.1.length:Int)):yj (yU a r) i=yq (ygA (yO r.1) (ykN r) (yj a i)):=by
 obtain⟨h1,h2⟩:=y1j hu;have hl:((List.range a.2.2.1.length).foldl (ybp r) a).2.2.1.length=a.2.2.1.length:=ymF (yn2 r) _ a;unfold yU at hu ⊢;rw[yOX hu i0 (by omega)];exact congrArg yq (yFz (y0S r h2) h1 i0 i1)
theorem y1e {k:Int} {V:Int→Int→Int} {a:dA} {r:dN} (h:Ix k V a) (hr:0≤r.1) (hu:yb (yU a r)=false):Ix k V (yU a r)∧ ∀i,0≤i→i<a.2.1.1→(yj (yU a r) i).2.2.1=false→(yj (yU a r) i).2.1= []:=by
 refine⟨yJa (ygN a r) (yXN r h.xk) hu (fun i i0 i1=> ?_) h,fun i i0 i1 hf=> ?_⟩
 ·obtain⟨d1,_,_⟩:=ynP h.xk i0 i1
  rw[yYP hu i0 (by have:=h.xk.1.2; omega)];exact⟨yQE (yXQ (y0U hr).2.1) (yFK (yEX d1)),yDv d1⟩
 ·obtain⟨d1,_,_⟩:=ynP h.xk i0 i1
  rw[yYP hu i0 (by have:=h.xk.1.2; omega)]at hf ⊢;rw[(ywr _).2]at hf;exact(yFB (yEX d1) hf).1
theorem y0d {k:Int} {V:Int→Int→Int} {a:dA} (h:Ix k V a) (h1:a.2.2.2.2.2.1<60000) (h2:a.2.2.2.2.2.1-a.2.2.2.2.2.2.1≤3):Ix (k+1) V (yan a):=by
 obtain⟨⟨c1,c2,c3,c4,c5,c6,c7,c8,c9,c10,c11⟩,g2,g3,g4,g5,g6,g7,g8,g9⟩:=h;have e:i64.wrap (a.2.2.2.2.2.1+1)=a.2.2.2.2.2.1+1:=wr (by omega) (by omega);refine⟨⟨c1,c2,c3,c4,c5,c6,c7,⟨?_,?_⟩,?_,c10,c11⟩,g2,g3,g4,?_,?_,g7,g8,g9⟩
 ·show a.2.2.2.2.2.2.1≤i64.wrap (a.2.2.2.2.2.1+1); omega
 ·show i64.wrap (a.2.2.2.2.2.1+1)≤60000; omega
 ·show i64.wrap (a.2.2.2.2.2.1+1)≤a.2.2.2.2.2.2.1+4; omega
 ·show a.2.2.2.2.2.2.2.1≤k+1; omega
 ·show i64.wrap (a.2.2.2.2.2.1+1)≤k+1; omega
def yUY (V:Int→Int→Int) (g:dG) (s:Int) (d:List Int):Int→Int→Int:=fun t i=>bif t==s then ycY (yg g s) g.1 (yao d) d i else V t i
theorem yY4 {N p x:Int} {d:List Int} (h:3≤N∧N≤5) (hp:0≤p∧p≤N-1) (hd:(d.length:Int)=N-1):((List.range N.toNat).map (fun(i:Nat)=>ycY p N x d i)).Perm (x::d):=by
 have:N=3∨N=4∨N=5:=by omega
 rcases this with rfl | rfl | rfl
 ·match d,hd with
  | [a,b],_ =>
   have:p=0∨p=1∨p=2:=by omega
   rcases this with rfl | rfl | rfl<;>simp[ycY,nth,List.range_succ,List.perm_iff_count,List.count_cons]<;>(intro z; omega)
  | [],hd=>simp at hd
  | [_],hd=>simp at hd
  | _::_::_::_,hd=>simp only[List.length_cons]at hd; omega
 ·match d,hd with
  | [a,b,c],_ =>
   have:p=0∨p=1∨p=2∨p=3:=by omega
   rcases this with rfl | rfl | rfl | rfl<;>simp[ycY,nth,List.range_succ,List.perm_iff_count,List.count_cons]<;>(intro z; omega)
  | [],hd=>simp at hd
  | [_],hd=>simp at hd
  | [_,_],hd=>simp at hd
  | _::_::_::_::_,hd=>simp only[List.length_cons]at hd; omega
 ·match d,hd with
  | [a,b,c,e],_ =>
   have:p=0∨p=1∨p=2∨p=3∨p=4:=by omega
   rcases this with rfl | rfl | rfl | rfl | rfl<;>simp[ycY,nth,List.range_succ,List.perm_iff_count,List.count_cons]<;>(intro z; omega)
  | [],hd=>simp at hd
  | [_],hd=>simp at hd
  | [_,_],hd=>simp at hd
  | [_,_,_],hd=>simp at hd
  | _::_::_::_::_::_,hd=>simp only[List.length_cons]at hd; omega
theorem yjJ (x:Int) (l:List Int):yeP (x::l)=bv x ^^^ yeP l:=by
 have fo: ∀(l:List Int) (v:BitVec 64),l.foldl (fun v x=>v ^^^ bv x) v=v ^^^ yeP l:=by
  intro l
  induction l with
  | nil=>intro v; show v=v ^^^ 0#64; rw[BitVec.xor_zero]
  | cons y t ih =>
   intro v;unfold yeP;rw[List.foldl_cons,List.foldl_cons,ih,ih (0#64 ^^^ bv y),BitVec.zero_xor,BitVec.xor_assoc]
 show l.foldl _ (0#64 ^^^ bv x)=_;rw[fo,BitVec.zero_xor]
theorem yZ0 {l m:List Int} (h:l.Perm m):yeP l=yeP m:=by
 induction h with
 | nil=>rfl
 | cons x _ ih=>rw[yjJ,yjJ,ih]
 | swap x y l=>rw[yjJ,yjJ,yjJ,yjJ,← BitVec.xor_assoc,BitVec.xor_comm (bv y),BitVec.xor_assoc]
 | trans _ _ h1 h2=>exact h1.trans h2
theorem yZZ (d:List Int):yeP (yao d::d)=0#64:=by rw[yjJ,yni,yvf,BitVec.xor_self]
theorem yY3 {N p:Int} {d:List Int} (h:3≤N∧N≤5) (hp:0≤p∧p≤N-1) (hd:(d.length:Int)=N-1):yao ((List.range N.toNat).map (fun(i:Nat)=>ycY p N (yao d) d i))=0:=by
 rw[yni,yZ0 (yY4 h hp hd),yZZ]; rfl
theorem yU8 {N p i:Int} {d:List Int} (hd:d.all isW=true):isW (ycY p N (yao d) d i)=true:=by
 unfold ycY;cases(i==p)
 ·exact yT8 hd
 ·exact yVt hd
theorem y0I {V:Int→Int→Int} {g:dG} {s:Int} {d:List Int} (h:EvV g V) (hs:yX g s=true) (hl:(d.length:Int)=g.1-1) (hd:d.all isW=true):EvV g (yUY V g s d):=by
 have h1:=yaq.1 hs;have hg:=yk.1 h1.1;refine⟨fun t t0 t1=> ?_,fun t i t0 t1 i0 i1=> ?_⟩
 ·unfold yfT yUY
  cases ht:(t==s)
  ·exact h.ev t t0 t1
  ·exact yY3 hg.1 (yjH hs) hl
 ·unfold yUY
  cases ht:(t==s)
  ·exact h.ew t i t0 t1 i0 i1
  ·exact yU8 hd
theorem yQA {L B p N s i:Int} {d:List Int} {S:Int} {m:dM} (k:Int) (hk:k≠yQ s):(yl8 L B p N s d i m).2.2.1=m.2.2.1∧yg1 (yl8 L B p N s d i m) k=yg1 m k∧yim (yl8 L B p N s d i m) k=yim m k:=by
 unfold yl8;cases hl:yaJ L B i s m
 ·exact⟨rfl,rfl,rfl⟩
 ·refine⟨(yw8 _ _ _).2,?_⟩
  rw[cond_true];cases hc:yaV m (yQ s) [ycY p N (yao d) d i]
  ·unfold yH; rw[hc]; exact⟨rfl,rfl⟩
  ·rw[yv0 hc,yDq hc,show(k !=yQ s)=true from bne_iff_ne.2 hk,show(yQ s==k)=false from beq_eq_false_iff_ne.2 (fun e=>hk e.symm),Bool.and_true]
   exact⟨rfl,rfl⟩
theorem yYo (L B p N s:Int) (d:List Int) (i:Int) (m:dM):(yl8 L B p N s d i m).2.1.length≤m.2.1.length+1∧(m.2.2.1=true→yl8 L B p N s d i m=m):=by
 unfold yl8;cases hl:yaJ L B i s m
 ·exact⟨Nat.le_succ _,fun _=>rfl⟩
 ·simp only[yaJ,Bool.and_eq_true,Bool.not_eq_true']at hl
  refine⟨?_,fun h=>by rw[hl.1]at h; cases h⟩;rw[cond_true];unfold yH;cases yaV m (yQ s) [ycY p N (yao d) d i]
  ·exact Nat.le_succ _
  ·show(m.2.1++ [(yQ s,[ycY p N (yao d) d i])]).length≤_; rw[List.length_append]; simp only[List.length_cons,List.length_nil]; omega
theorem y0L {k:Int} {V:Int→Int→Int} {a:dA} {s:Int} {d:List Int} (h:Ix k V a) (hs:yX a.2.1 s=true) (hl:(d.length:Int)=a.2.1.1-1) (hd:d.all isW=true)
  (hz: ∀i,0≤i→i<a.2.1.1→(yj a i).2.2.1=false→(yj a i).2.1= []) (hu:yb (yK a s d)=false):Ix k (yUY V a.2.1 s d) (yK a s d):=by
 have hc:=yDr a s d;have h1:=yaq.1 hs;have hg:=yk.1 h1.1;have hlen:=h.xk.1.2;have hdsk: ∀i,0≤i→i<a.2.1.1→yj (yK a s d) i=yl8 a.2.2.2.1 a.2.2.2.2.1 (yg a.2.1 s) a.2.1.1 s d i (yj a i):=fun i i0 i1=>yFz (yZ3 s d h.xu) hu i0 (by omega)
 refine⟨yI5 hc h.xc,yVh s d h.xk,hu,(yMg hc).trans h.xb,by rw[yBk hc]; exact h.xg,by rw[yj2 hc]; exact h.xs,by rw[yau hc]; exact y0I h.xe hs hl hd,fun i t i0 i1 t0 t1 hh=> ?_,fun i i0 i1=> ?_⟩
 ·rw[yau hc]at i1 t1
  obtain⟨d1,d2,d3⟩:=ynP h.xk i0 i1;unfold yce at hh;rw[ymE hc,yj1 hc,hdsk i i0 i1,Bool.and_eq_true,Bool.not_eq_true']at hh;rw[hdsk i i0 i1];have hda:=yFA (s:=s) h1.2.1 (by omega);unfold yUY;by_cases ht:t=s
  ·subst ht
   rw[beq_self_eq_true,cond_true]
   have hlv:yaJ a.2.2.2.1 a.2.2.2.2.1 i t (yj a i)=true:=by
    have:=hh.1;unfold yaJ at this ⊢;rw[(yQA (S:=0) (-1) (by omega)).1]at this;exact this
   have hf:(yj a i).2.2.1=false:=by
    simp only[yaJ,Bool.and_eq_true,Bool.not_eq_true']at hlv; exact hlv.1
   unfold yl8;rw[hlv,cond_true,yDq (yLy d1 hf (by rw[hda]; exact zj6.2 (by omega)) (yIV.2 ⟨by simp,fun x hx=> ?_⟩) (by rw[hz i i0 i1 hf]; decide)),hda,beq_self_eq_true]; rfl;rw[List.mem_singleton.1 hx];exact yzW.1 (yU8 hd)
  ·rw[show(t==s)=false from beq_eq_false_iff_ne.2 ht]
   obtain⟨e1,e2,e3⟩:=yQA (L:=a.2.2.2.1) (B:=a.2.2.2.2.1) (p:=yg a.2.1 s) (N:=a.2.1.1) (s:=s) (i:=i) (d:=d) (S:=0) (m:=yj a i) (t+6) (by omega);rw[e3];refine h.xv i t i0 i1 t0 t1 ?_;unfold yce;rw[e2]at hh;have h2:=hh.1;unfold yaJ at h2 ⊢;rw[e1]at h2;rw[h2,hh.2]; rfl
 ·rw[yau hc]at i1
  rw[ymE hc,yj1 hc,hdsk i i0 i1];obtain⟨g1,g2⟩:=yYo a.2.2.2.1 a.2.2.2.2.1 (yg a.2.1 s) a.2.1.1 s d i (yj a i);have c:=h.xc;unfold ya3 at c;cases hf:(yj a i).2.2.1
  ·rw[hz i i0 i1 hf]at g1
   simp only[List.length_nil]at g1;cases(i==a.2.2.2.1)
   ·simp only[cond_false]; omega
   ·simp only[cond_true]; omega
  ·rw[g2 hf]
   exact h.xn i i0 i1
theorem y1c {k:Int} {V:Int→Int→Int} {a:dA} (h:Ix k V a) (hk:k+1≤60000) (hu:yb (yF a)=false):Ix (k+1) V (yF a)∧(yF a).2.2.2.2.2.1=a.2.2.2.2.2.1∧(yF a).2.2.2.2.2.1-(yF a).2.2.2.2.2.2.1≤3:=by
 have c:=h.xc;unfold ya3 at c
 have e0:yF a=bif leb 4 (a.2.2.2.2.2.1-a.2.2.2.2.2.2.1)then yab a else a:=by
  unfold yF;rw[wr (by omega) (by omega)]
 rw[e0]at hu ⊢;cases h4:leb 4 (a.2.2.2.2.2.1-a.2.2.2.2.2.2.1)
 ·refine⟨yd9 h (by omega),rfl,?_⟩
  have: ¬(4≤a.2.2.2.2.2.1-a.2.2.2.2.2.2.1):=fun g=>by rw[zk2 g]at h4; cases h4
  show a.2.2.2.2.2.1-a.2.2.2.2.2.2.1≤3; omega
 ·rw[h4]at hu
  simp only[cond_true]at hu ⊢;have hi:=yXI h hk hu;obtain⟨_,h2⟩:=yXC hu;have e:=yrh (ydq (yy a));have e1:(yab a).2.2.2.2.2.1=a.2.2.2.2.2.1:=by rw[h2]; exact(yj2 e).trans (show(yV (ydq (yy a))).2.2.2.2.2.1=_ from yj2 (a:=yy a) (b:=a) (yfV a))
  have e2:(yab a).2.2.2.2.2.2.1=a.2.2.2.2.2.1:=by rw[h2]; exact(yYE e).trans (show(yV (ydq (yy a))).2.2.2.2.2.2.1=_ from yj2 (a:=yy a) (b:=a) (yfV a))
  exact⟨hi,e1,by omega⟩
theorem yXM {k:Int} {V:Int→Int→Int} {a:dA} {s:Int} {d:List Int} (h:Ix k V a) (hs:yX a.2.1 s=true) (hl:(d.length:Int)=a.2.1.1-1) (hd:d.all isW=true) (hq:a.2.2.2.2.2.1<60000) (hk:k+1≤60000)
  (hu:yb (yah a s d).2=false):Ix (k+2) (yUY V a.2.1 s d) (yah a s d).2∧(yah a s d).1=0:=by
 unfold yah at hu ⊢;cases hc:yb (yF a)
 ·obtain⟨h1,h2,h3⟩:=y1c h hk hc
  have eg:(yF a).2.1=a.2.1:=yTq a;rw[hc]at hu;simp only[cond_false]at hu ⊢;have c:=h.xc;unfold ya3 at c;cases hr:yb (yU (yF a) ((yF a).2.2.2.2.2.1,s,d))
  ·rw[hr]at hu
   simp only[cond_false]at hu ⊢;obtain⟨h4,h5⟩:=y1e (r:=((yF a).2.2.2.2.2.1,s,d)) h1 (by show 0≤(yF a).2.2.2.2.2.1; omega) hr;have e1:=yj2 (ygN (yF a) ((yF a).2.2.2.2.2.1,s,d));have e2:=yYE (ygN (yF a) ((yF a).2.2.2.2.2.1,s,d));have e3:=(yau (ygN (yF a) ((yF a).2.2.2.2.2.1,s,d))).trans eg;rw[eg]at h5;generalize yU (yF a) ((yF a).2.2.2.2.2.1,s,d)=R at h4 h5 e1 e2 e3 hu ⊢;have h6:=y0d h4 (by omega) (by omega);have e4:(yan R).2.1=a.2.1:=e3;have h7:=y0L (s:=s) (d:=d) h6 (by rw[e4]; exact hs) (by rw[e4]; exact hl) hd (fun i i0 i1 hf=>h5 i i0 (by rw[e4]at i1; exact i1) hf) hu;rw[hu,e4]at *;exact⟨yd9 h7 (by omega),rfl⟩
  ·rw[hr]at hu
   exact absurd (hr.symm.trans hu) (by simp)
 ·rw[hc]at hu
  exact absurd (hc.symm.trans hu) (by simp)
theorem yLD {k:Int} {V:Int→Int→Int} {a:dA} {l:List dW} (h:Ix k V a) (hd:yaz a.2.1 l=true):Ix k V (yCk a l):=by
 obtain⟨⟨c1,c2,c3,c4,c5,c6,c7,c8,c9,c10,c11⟩,g2,g3,g4,g5,g6,g7,g8,g9⟩:=h;exact⟨⟨c1,c2,hd,c4,c5,c6,c7,c8,c9,c10,c11⟩,g2,g3,g4,g5,g6,g7,g8,g9⟩
theorem yM8 {k:Int} {V:Int→Int→Int} {a:dA} (s:Int) (h:Ix k V a) (hk:k+1≤60000) (hu:yb (ya4 a s).2=false): ∃V',Ix (k+2) V' (ya4 a s).2:=by
 unfold ya4 at hu ⊢;cases h0:ltb (yx a.2.2.2.2.2.2.2.2.1 s) 0
 ·rw[h0]at hu
  generalize (nth a.2.2.2.2.2.2.2.2.1 (yx a.2.2.2.2.2.2.2.2.1 s) (0,[])).2=D at hu ⊢;cases hc:(yE a s D !=0)
  ·rw[hc]at hu
   obtain⟨_,z1,z2,_,z4,_,z6,_⟩:=yv9 (bne_eq_false_iff_eq.1 hc);simp only[cond_false]at hu ⊢;cases hw:((yah a s D).1==0)
   ·rw[hw]at hu
    obtain⟨h1,h2⟩:=yXM h z4 z1 z2 z6 hk hu;exact⟨_,h1⟩
   ·rw[hw]at hu
    obtain⟨h1,h2⟩:=yXM h z4 z1 z2 z6 hk hu;exact⟨_,yLD h1 (by rw[yVs]; exact yU9 _ h.xc.2.2.1)⟩
  ·exact⟨V,yd9 h (by omega)⟩
 ·exact⟨V,yd9 h (by omega)⟩
theorem yYn {a:dA} (s:Int) (h:yb a=true):(ya4 a s).2=a:=by
 unfold ya4;cases ltb (yx a.2.2.2.2.2.2.2.2.1 s) 0
 ·cases hc:(yE a s (nth a.2.2.2.2.2.2.2.2.1 (yx a.2.2.2.2.2.2.2.2.1 s) (0,[])).2 !=0)
  ·have:=(yv9 (bne_eq_false_iff_eq.1 hc)).2.2.2.1
   rw[h]at this; cases this
  ·rfl
 ·rfl
theorem yU0: ∀(n i:Nat) {a:dA},yb a=true→(goE yve (fun b=>((0:Int),b)) n i a).2=a
 | 0,_,_,_=>rfl
 | n+1,i,a,h=>by
  unfold goE yve;have e:=yYn (nth a.2.2.2.2.2.2.2.2.1 0 (0,[])).1 h;cases((ya4 a (nth a.2.2.2.2.2.2.2.2.1 0 (0,[])).1).1 !=0)
  ·simp only[cond_false,e]
   exact yU0 n (i+1) h
  ·exact e
theorem yXK {k:Int}: ∀(n i:Nat) (j:Int) (V:Int→Int→Int) (a:dA),Ix j V a→j+2*n≤k→k≤60000→yb (goE yve (fun b=>((0:Int),b)) n i a).2=false→ ∃V',Ix k V' (goE yve (fun b=>((0:Int),b)) n i a).2
 | 0,_,j,V,a,h,h1,_,_=>⟨V,yd9 h (by omega)⟩
 | n+1,i,j,V,a,h,h1,h2,hu=>by
  unfold goE yve at hu ⊢;cases hc:((ya4 a (nth a.2.2.2.2.2.2.2.2.1 0 (0,[])).1).1 !=0)
  ·rw[hc]at hu
   simp only[cond_false]at hu ⊢;have hu:yb (goE yve (fun b=>((0:Int),b)) n (i+1) (ya4 a (nth a.2.2.2.2.2.2.2.2.1 0 (0,[])).1).2).2=false:=hu
   have hf:yb (ya4 a (nth a.2.2.2.2.2.2.2.2.1 0 (0,[])).1).2=false:=by
    cases hd:yb (ya4 a (nth a.2.2.2.2.2.2.2.2.1 0 (0,[])).1).2
    ·rfl
    ·rw[yU0 n (i+1) hd]at hu; exact hd.symm.trans hu
   obtain⟨V1,h3⟩:=yM8 (nth a.2.2.2.2.2.2.2.2.1 0 (0,[])).1 h (by omega) hf;exact yXK n (i+1) (j+2) V1 _ h3 (by omega) h2 hu
  ·rw[hc]at hu
   simp only[cond_true]at hu ⊢;obtain⟨V1,h3⟩:=yM8 (nth a.2.2.2.2.2.2.2.2.1 0 (0,[])).1 h (by omega) hu;exact⟨V1,yd9 h3 (by omega)⟩
theorem y1b {k:Int} {V:Int→Int→Int} {a:dA} (h:Ix k V a) (hk:k+16≤60000) (hu:yb (yTo a).2=false): ∃V',Ix (k+16) V' (yTo a).2:=by
 have:=yq8 h.xc.2.2.1 h.xc.1;exact yXK _ 0 k V a h (by omega) hk hu
theorem y1f {k:Int} {V:Int→Int→Int} {a:dA} {b n:Int} (h:Ix k V a) (hb:ybQ a.2.1 b=true) (hn:isW n=true):Ix k V (ykP a b n).2:=by
 unfold ykP;cases hs:(yz a (yD a.2.1 b)).2
 ·exact h
 ·have hstr:=ykT hb
  have hl:=ykS (ywG h) hstr hs;refine yLD h (yVa h.xc.2.2.1 ⟨(yaq.1 hstr).2,by rw[List.length_set]; exact hl,yUX ?_ hn⟩);unfold yz;cases hk:leb 0 (yx a.2.2.2.2.2.2.2.2.1 (yD a.2.1 b))
  ·rw[h.xb]; exact yU7 _ _
  ·have:=(yj4 (d:=((0:Int),([]:List Int))) hk).1
   exact yvr (P:=fun e:dW=>e.2.all isW=true) this (fun e he=>((yq7.1 h.xc.2.2.1).1 e he).2.2)
theorem yPV {a:dA} {m i:Int} {x:dM} (l:Int) (t:Int×Int×Int×Int×List dW×Int×Bool×Bool) (hm:inb m a.2.2.1.length=true) (hi:0≤i):yj (a.1,a.2.1,a.2.2.1.set m.toNat x,l,t) i=bif m==i then x else yj a i:=yBX hm hi
theorem yZx {a:dA} {m:Int} (hl:a.2.2.2.1= -1∨a.2.2.2.1=m) (hm:inb m a.2.2.1.length=true) (i s:Int) (i0:0≤i) (s0:0≤s) (hh:yaJ m 0 i s (yj (yL a m) i)=true):(i !=a.2.2.2.1||ltb s a.2.2.2.2.1)=true∧i≠m∧yj (yL a m) i=yj a i:=by
 have e:yj (yL a m) i=bif m==i then yg4 (yj a m)else yj a i:=yPV m _ hm i0;by_cases hi:m=i
 ·subst hi
  rw[e,beq_self_eq_true]at hh;simp only[yaJ,Bool.and_eq_true,Bool.not_eq_true',cond_true]at hh;have:=hh.1;cases this
 ·rw[show(m==i)=false from beq_eq_false_iff_ne.2 hi]at e
  refine⟨?_,fun e=>hi e.symm,e⟩;rw[show(i !=a.2.2.2.1)=true from bne_iff_ne.2 (by omega)]; rfl
theorem yLC {k m:Int} {V:Int→Int→Int} {a:dA} (h:Ix k V a) (hl:a.2.2.2.1= -1∨a.2.2.2.1=m) (hm:inb m a.2.2.1.length=true):Ix k V (yL a m):=by
 have hmi:=zj6.1 hm
 have hv:yFv V (yL a m):=yIZ (a:=a) (b:=yL a m) rfl (fun i s i0 i1 s0 hh=>by
  obtain⟨h1,h2,h3⟩:=yZx hl hm i s i0 s0 hh;rw[h3]
  exact⟨h1,yDA _ _⟩) h.xv
 have hn: ∀i,0≤i→i<a.2.1.1→((yj (yL a m) i).2.1.length:Int)≤1+(bif i==m then 0 else 0):=fun i i0 i1=>by
  have e:yj (yL a m) i=bif m==i then yg4 (yj a m)else yj a i:=yPV m _ hm i0;rw[e];by_cases hi:m=i
  ·rw[show(m==i)=true from beq_iff_eq.2 hi]
   show(([]:List dW).length:Int)≤_;rw[List.length_nil];cases(i==m)<;>decide
  ·rw[show(m==i)=false from beq_eq_false_iff_ne.2 hi,cond_false]
   have:=h.xn i i0 i1;rw[show(i==a.2.2.2.1)=false from beq_eq_false_iff_ne.2 (by omega)]at this;simp only[cond_false]at this;cases(i==m)<;>simp only[cond_true,cond_false]<;>omega
 obtain⟨⟨c1,c2,c3,c4,c5,c6,c7,c8,c9,c10,c11⟩,⟨⟨g1,g2⟩,g3⟩,f,b,t,t2,t3,_,_⟩:=h;refine⟨⟨c1,c2,c3,⟨?_,?_⟩,⟨Int.le_refl _,by show(0:Int)≤a.2.1.2; omega⟩,fun e=>rfl,c7,c8,c9,c10,c11⟩,⟨⟨?_,?_⟩,g3⟩,f,b,t,t2,t3,hv,hn⟩
 ·show -1≤m; omega
 ·show m≤a.2.1.1-1; omega
 ·show yFL m a.2.2.2.2.2.2.2.2.2.2.2 a.2.1.2 (a.2.2.1.set m.toNat (yg4 (nth a.2.2.1 m yd)))
  refine yri (fun i hi=> ?_) (fun hi=> ?_)
  ·obtain⟨e1,e2,e3⟩:=g1 i hi
   refine⟨e1,e2,fun e=> ?_⟩;rcases e3 e with e | e
   ·exact .inl (by omega)
   ·exact .inr e
  ·have:=g1 m.toNat hi
   rw[Int.toNat_of_nonneg hmi.1]at this;exact⟨yTt this.1,this.2.1,fun _=> .inl (Int.toNat_of_nonneg hmi.1)⟩
 ·show((a.2.2.1.set m.toNat (yg4 (nth a.2.2.1 m yd))).length:Int)=a.2.1.1
  rw[List.length_set]; exact g2
theorem yI8 {k m:Int} {V:Int→Int→Int} {a:dA} (h:Ix k V a) (hl:a.2.2.2.1= -1∨a.2.2.2.1=m) (hk:k+1≤60000):yaK a m=yaa (yL a m):=by
 have:=h.xg;unfold yaK;rw[h.xu,h.xb,zky (show a.2.2.2.2.2.2.2.1<60000 by omega)];rcases hl with e | e
 ·rw[show(a.2.2.2.1== -1)=true from beq_iff_eq.2 e]; rfl
 ·rw[show(a.2.2.2.1==m)=true from beq_iff_eq.2 e,Bool.or_true]; rfl
theorem yYI {k m:Int} {V:Int→Int→Int} {a:dA} (h:Ix k V a) (hl:a.2.2.2.1= -1∨a.2.2.2.1=m) (hm:inb m a.2.2.1.length=true) (hk:k+1≤60000) (hu:yb (yaK a m)=false):Ix (k+1) V (yaK a m):=by
 rw[yI8 h hl hk]at hu ⊢;exact yTz (yLC h hl hm) hk hu
theorem ywH {S:Int} (h:1≤S∧S≤8):ycg (6+S)=(List.replicate (6+S).toNat [],[],false,[]):=by
 unfold ycg;rw[zk2 (show 1≤6+S by omega),zk2 (show 6+S≤20 by omega)]; rfl
theorem yYr {k:Int} {V:Int→Int→Int} {a:dA} (h:Ix k V a) (hm:inb a.2.2.2.1 a.2.2.1.length=true):Ix k V (ybP a):=by
 have hg:=yk.1 h.xc.1;have e: ∀i,0≤i→yj (ybP a) i=bif a.2.2.2.1==i then ycg (6+a.2.1.2)else yj a i:=fun i i0=>yPV _ _ hm i0
 have hv:yFv V (ybP a):=yIZ (a:=a) (b:=ybP a) rfl (fun i s i0 i1 s0 hh=>by
  have hh:yaJ a.2.2.2.1 0 i s (yj (ybP a) i)=true:=hh;rw[e i i0]at hh ⊢;simp only[yaJ,Bool.and_eq_true,Bool.or_eq_true,bne_iff_ne,ne_eq,zka]at hh;have hne:i≠a.2.2.2.1:=hh.2.resolve_right (by omega);rw[show(a.2.2.2.1==i)=false from beq_eq_false_iff_ne.2 (fun e=>hne e.symm),show(i !=a.2.2.2.1)=true from bne_iff_ne.2 hne]
  exact⟨rfl,yDA _ _⟩) h.xv
 have hn: ∀i,0≤i→i<a.2.1.1→((yj (ybP a) i).2.1.length:Int)≤1+(bif i==a.2.2.2.1 then 0 else 0):=fun i i0 i1=>by
  rw[e i i0];by_cases hi:a.2.2.2.1=i
  ·rw[show(a.2.2.2.1==i)=true from beq_iff_eq.2 hi,cond_true,ywH hg.2]
   show(([]:List dW).length:Int)≤_;rw[List.length_nil];cases(i==a.2.2.2.1)<;>decide
  ·rw[show(a.2.2.2.1==i)=false from beq_eq_false_iff_ne.2 hi,cond_false]
   have:=h.xn i i0 i1;rw[show(i==a.2.2.2.1)=false from beq_eq_false_iff_ne.2 (fun e=>hi e.symm)]at this ⊢;exact this
 have hmi:=zj6.1 hm;obtain⟨⟨c1,c2,c3,c4,c5,c6,c7,c8,c9,c10,c11⟩,⟨⟨g1,g2⟩,g3⟩,f,b,t,t2,t3,_,_⟩:=h;refine⟨⟨c1,c2,c3,c4,⟨Int.le_refl _,by show(0:Int)≤a.2.1.2; omega⟩,fun e=>rfl,c7,c8,c9,c10,c11⟩,⟨⟨yri g1 (fun hi=>⟨yVj (by omega) (by omega),?_,fun e=> ?_⟩),?_⟩,g3⟩,f,b,t,t2,t3,hv,hn⟩
 ·rw[ywH hg.2]
  show((List.replicate (6+a.2.1.2).toNat ([]:List Int)).length:Int)=6+a.2.1.2;rw[List.length_replicate]; omega
 ·rw[ywH hg.2]at e
  cases e
 ·show((a.2.2.1.set a.2.2.2.1.toNat (ycg (6+a.2.1.2))).length:Int)=a.2.1.1
  rw[List.length_set]; exact g2
theorem y0e {k:Int} {V:Int→Int→Int} {a:dA} (h:Ix k V a) (hm:inb a.2.2.2.1 a.2.2.1.length=true) (hk:k+1≤60000) (hu:yb (yaa (ybP a))=false):Ix (k+1) V (yaa (ybP a)):=yTz (yYr h hm) hk hu
theorem yZk (S:Int) (m:dM) (n:Int):yD8 S m (spoil m n):=by
 unfold spoil;cases(yr m&&(inb n m.1.length&& !(m.2.2.2.any (· ==n))))
 ·exact yDA _ _
 ·refine fun h=>⟨h,fun k k0 k1 hb=>⟨?_,rfl⟩⟩
  have hb:(yEZ m.2.2.2 n).any (· ==k)=false:=hb;show m.2.2.2.any (· ==k)=false;rw[List.any_eq_false]at hb ⊢;intro x hx hxk;have hxk':=beq_iff_eq.1 hxk;refine hb x ?_ hxk;unfold yEZ;rw[List.mem_append,List.mem_cons,List.mem_filter,List.mem_filter];rcases Int.lt_trichotomy x n with h1 | h1 | h1
  ·exact .inl ⟨hx,zky h1⟩
  ·exact .inr (.inl h1)
  ·exact .inr (.inr ⟨hx,zky h1⟩)
theorem yYz (m:dM) (n:Int):(spoil m n).2.1=m.2.1:=by
 unfold spoil;cases(yr m&&(inb n m.1.length&& !(m.2.2.2.any (· ==n))))<;>rfl
theorem y0f {k m n:Int} {V:Int→Int→Int} {a:dA} (h:Ix k V a) (hm:inb m a.2.2.1.length=true):Ix k V (yd2 a m (spoil (nth a.2.2.1 m yd) n)) :=
 yJa (a:=a) (b:=yd2 a m (spoil (nth a.2.2.1 m yd) n)) rfl (yvV h.xk hm (fun g=>⟨yX6 n g.1,by rw[(yD4 _ _).1]; exact g.2.1,by rw[(yD4 _ _).2]; exact g.2.2⟩)) h.xu (fun i i0 i1=>by
  rw[yTs hm i0];by_cases hi:m=i
  ·subst hi
   rw[beq_self_eq_true,cond_true];exact⟨yZk _ _ _,by rw[yYz]; exact Nat.le_refl _⟩
  ·rw[show(m==i)=false from beq_eq_false_iff_ne.2 hi]
   exact⟨yDA _ _,Nat.le_refl _⟩) h
theorem y0M {k:Int} {V:Int→Int→Int} {a:dA} (h:Ix k V a) (hl:inb a.2.2.2.1 a.2.2.1.length=true) (hf:(nth a.2.2.1 a.2.2.2.1 yd).2.2.1=false) (hb:a.2.2.2.2.1<a.2.1.2) (hu:yb (yrn a).2=false):Ix k V (yrn a).2:=by
 have hmi:=zj6.1 hl;have hlen:=h.xk.1.2;have hg:=yk.1 h.xc.1;have c:=h.xc;unfold ya3 at c;have hb0:0≤a.2.2.2.2.1:=by omega
 have hda:=yFA hb0 (by omega);have e:=ymX a a.2.2.2.1 (yQ a.2.2.2.2.1) [nth (yJ a a.2.2.2.2.1).1 a.2.2.2.1 0];have hkp:yal (ya7 a):=yBQ h.xk hl;have hd:=yJc (yQ a.2.2.2.2.1) [nth (yJ a a.2.2.2.2.1).1 a.2.2.2.1 0] h.xu hl;have e1:(ya7 a).2.2.2.2.1=a.2.2.2.2.1:=yj1 e;have e2:(ya7 a).2.1=a.2.1:=yau e;have e3:(ya7 a).2.2.2.1=a.2.2.2.1:=ymE e;unfold yrn at hu ⊢;cases hw:(yJ a a.2.2.2.2.1).2
 ·exact h
 ·rw[hw]at hu
  have hwv:=ySy h.xc.1 h.xk h.xe h.xv hb0 hb
  have hw1:(yJ a a.2.2.2.2.1).1=yfT V a.2.1.1 a.2.2.2.2.1:=by
   rw[hwv]at hw ⊢;cases hm:yek (fun(i:Nat)=>yce a a.2.2.2.2.1 i) a.2.1.1.toNat
   ·rfl
   ·rw[hm]at hw; cases hw
  have hx:nth (yJ a a.2.2.2.2.1).1 a.2.2.2.1 0=V a.2.2.2.2.1 a.2.2.2.1:=by rw[hw1]; exact yYb V (by omega) (by omega)
  rw[hx]at hd e;have hst:ya7 a=ycB a a.2.2.2.1 (yQ a.2.2.2.2.1) [V a.2.2.2.2.1 a.2.2.2.1]:=by unfold ya7; rw[hx]
  have hcc:yo (ya7 a)=yo a:=by rw[hst]; exact e
  rw[← hst]at hd;generalize ya7 a=R at *;simp only[cond_true]at hu ⊢;cases hr:yb R
  ·rw[hr]at hu
   obtain⟨_,_,⟨_,hdd⟩ | ⟨hdd,_⟩⟩:=hd
   ·obtain⟨d1,d2,d3⟩:=ynP h.xk (i:=a.2.2.2.1) (by omega) (by omega)
    have hf':(yj a a.2.2.2.1).2.2.1=false:=hf;have hxw:=h.xe.ew a.2.2.2.2.1 a.2.2.2.1 hb0 hb (by omega) (by omega);have hcn:=h.xn a.2.2.2.1 (by omega) (by omega);rw[beq_self_eq_true,cond_true]at hcn;have hcw:yaV (yj a a.2.2.2.1) (a.2.2.2.2.1+6) [V a.2.2.2.2.1 a.2.2.2.1]=true:=yLy d1 hf' (zj6.2 (by omega)) (yIV.2 ⟨by simp,fun x hx=>by rw[List.mem_singleton.1 hx]; exact yzW.1 hxw⟩) (by omega);have e4:i64.wrap (R.2.2.2.2.1+1)=a.2.2.2.2.1+1:=by rw[e1]; exact wr (by omega) (by omega)
    have hRL:yj R a.2.2.2.1=(yH (yj a a.2.2.2.1) (a.2.2.2.2.1+6) [V a.2.2.2.2.1 a.2.2.2.1]).1:=by
     rw[hdd _ (by omega),beq_self_eq_true,cond_true,hda];unfold ygA;rw[hf']; rfl
    have hRo: ∀i,0≤i→i≠a.2.2.2.1→yj R i=yj a i:=fun i i0 hi=>by rw[hdd i i0,show(a.2.2.2.1==i)=false from beq_eq_false_iff_ne.2 (fun e=>hi e.symm)]; rfl
    have hco:=yI5 hcc h.xc;refine⟨?_,hkp,hr,(yMg hcc).trans h.xb,by show R.2.2.2.2.2.2.2.1≤k; rw[yBk hcc]; exact h.xg,by show R.2.2.2.2.2.1≤k; rw[yj2 hcc]; exact h.xs,by show EvV R.2.1 V; rw[e2]; exact h.xe,?_,?_⟩
    ·obtain⟨c1,c2,c3,c4,c5,c6,c7,c8,c9,c10,c11⟩:=hco
     refine⟨c1,c2,c3,c4,⟨?_,?_⟩,fun e=> ?_,c7,c8,c9,c10,c11⟩
     ·show 0≤i64.wrap (R.2.2.2.2.1+1); omega
     ·show i64.wrap (R.2.2.2.2.1+1)≤R.2.1.2; rw[e4,e2]; omega
     ·have:R.2.2.2.1= -1:=e
      omega
    ·intro i t i0 i1 t0 t1 hh
     have i1:i<R.2.1.1:=i1;have t1:t<R.2.1.2:=t1;rw[e2]at i1 t1;unfold yce at hh;have hh:(yaJ R.2.2.2.1 (i64.wrap (R.2.2.2.2.1+1)) i t (yj R i)&& !(yg1 (yj R i) (t+6)))=true:=hh;show yim (yj R i) (t+6)= [V t i];rw[e3,e4]at hh;by_cases hi:i=a.2.2.2.1
     ·subst hi
      rw[hRL]at hh ⊢;rw[yDq hcw];by_cases ht:a.2.2.2.2.1+6=t+6
      ·rw[show(a.2.2.2.2.1+6==t+6)=true from beq_iff_eq.2 ht,show a.2.2.2.2.1=t by omega]; rfl
      ·rw[show(a.2.2.2.2.1+6==t+6)=false from beq_eq_false_iff_ne.2 ht,cond_false]
       refine h.xv _ t i0 i1 t0 t1 ?_;rw[yv0 hcw,show(t+6 !=a.2.2.2.2.1+6)=true from bne_iff_ne.2 (fun e=>ht e.symm),Bool.and_true,Bool.and_eq_true]at hh;have h2:=hh.1;simp only[yaJ,Bool.and_eq_true,Bool.or_eq_true,bne_self_eq_false,Bool.false_eq_true,false_or,zka]at h2;unfold yce yaJ;rw[hf',hh.2,zky (show t<a.2.2.2.2.1 by omega),Bool.or_true]; rfl
     ·rw[hRo i i0 hi]at hh ⊢
      refine h.xv i t i0 i1 t0 t1 ?_;rw[Bool.and_eq_true]at hh;have h2:=hh.1;simp only[yaJ,Bool.and_eq_true]at h2;unfold yce yaJ;rw[h2.1,hh.2,show(i !=a.2.2.2.1)=true from bne_iff_ne.2 hi]; rfl
    ·intro i i0 i1
     have i1:i<R.2.1.1:=i1;rw[e2]at i1;show((yj R i).2.1.length:Int)≤1+(bif i==R.2.2.2.1 then i64.wrap (R.2.2.2.2.1+1)else 0);rw[e3,e4];by_cases hi:i=a.2.2.2.1
     ·subst hi
      rw[hRL,yGa hcw,beq_self_eq_true,cond_true];show(((yj a a.2.2.2.1).2.1++ [(a.2.2.2.2.1+6,[V a.2.2.2.2.1 a.2.2.2.1])]).length:Int)≤_;rw[List.length_append];simp only[List.length_cons,List.length_nil];omega
     ·rw[hRo i i0 hi,show(i==a.2.2.2.1)=false from beq_eq_false_iff_ne.2 hi]
      have:=h.xn i i0 i1;rw[show(i==a.2.2.2.1)=false from beq_eq_false_iff_ne.2 hi]at this;exact this
   ·rw[hr]at hdd; cases hdd
  ·rw[hr]at hu
   exact absurd (hr.symm.trans hu) (by simp)
theorem yYt {id i:Int} {g:dG} (hg:ye g=true): ∀n:Nat,n≤g.2.toNat→ ∀k:Int,0≤k→nth ((List.range n).foldl yrj (yjs id g i)).1 k []=bif leb 6 k&&ltb k (6+n)then[0]else bif k==0 then yv (yXV id g i)else[]:=by
 have hge:=yk.1 hg;intro n
 induction n with
 | zero =>
  intro _ k hk;show nth (yjs id g i).1 k []=_;unfold yjs;rw[ywH hge.2];have h0:inb 0 (List.replicate (6+g.2).toNat ([]:List Int)).length=true:=by rw[List.length_replicate]; exact zj6.2 (by omega)
  have:=yBX (x:=yv (yXV id g i)) (d:=([]:List Int)) h0 hk;rw[show(0:Int).toNat=0 from rfl]at this;rw[this]
  have e1:(leb 6 k&&ltb k (6+((0:Nat):Int)))=false:=by
   cases h:(leb 6 k&&ltb k (6+((0:Nat):Int)))
   ·rfl
   ·rw[Bool.and_eq_true,zj7,zka]at h; omega
  rw[e1,cond_false];by_cases h:k=0
  ·rw[show((0:Int)==k)=true from beq_iff_eq.2 h.symm,show(k==0)=true from beq_iff_eq.2 h]; rfl
  ·rw[show((0:Int)==k)=false from beq_eq_false_iff_ne.2 (fun e=>h e.symm),show(k==0)=false from beq_eq_false_iff_ne.2 h,cond_false,cond_false]
   unfold nth;rw[List.getD_eq_getElem?_getD,List.getElem?_replicate];split<;>rfl
 | succ n ih =>
  intro hn k hk;rw[List.range_succ,List.foldl_append,List.foldl_cons,List.foldl_nil]
  have hlen:((List.range n).foldl yrj (yjs id g i)).1.length=(6+g.2).toNat:=by
   rw[yLF];show((ycg (6+g.2)).1.set 0 _).length=_;rw[List.length_set,ywH hge.2];show(List.replicate (6+g.2).toNat ([]:List Int)).length=_;rw[List.length_replicate]
  have h1:=ih (by omega) k hk;generalize (List.range n).foldl yrj (yjs id g i)=M at h1 hlen ⊢;show nth (M.1.set (n+6) [0]) k []=_;have:=yBX (l:=M.1) (i:=((n+6:Nat):Int)) (x:= [0]) (d:=([]:List Int)) (zkR (by omega)) hk;rw[Int.toNat_natCast]at this;rw[this,h1];by_cases h:((n+6:Nat):Int)=k
  ·rw[show(((n+6:Nat):Int)==k)=true from beq_iff_eq.2 h,zk2 (show 6≤k by omega),zky (show k<6+((n+1:Nat):Int)by omega)]; rfl
  ·rw[show(((n+6:Nat):Int)==k)=false from beq_eq_false_iff_ne.2 h,cond_false,show ltb k (6+((n+1:Nat):Int))=ltb k (6+(n:Int))by rw[Bool.eq_iff_iff,zka,zka]; omega]
theorem yZ6 (g:dG):EvV g (fun _ _=>0):=by
 refine⟨fun s _ _=> ?_,fun _ _ _ _ _ _=>rfl⟩;unfold yfT;rw[yni]
 have: ∀l:List Nat,yeP (l.map (fun(_:Nat)=>(0:Int)))=0#64:=by
  intro l
  induction l with
  | nil=>rfl
  | cons x t ih=>rw[List.map_cons,yjJ,ih]; decide
 rw[this]; rfl
theorem y1g {id:Int} {g:dG} (hg:ye g=true) (h1:1≤id) (h2:id≤60000) {i:Int} (i0:0≤i) (i1:i<g.1):yj (ykt id g) i=yB id g i:=by
 rw[yHj hg h1 h2];show nth ((List.range g.1.toNat).map (fun(i:Nat)=>yB id g i)) i yd=_;unfold nth;rw[zkJ (by rw[List.length_map,List.length_range]; omega),List.getElem_map,List.getElem_range,Int.toNat_of_nonneg i0]
theorem y1d {id:Int} {g:dG} (hg:ye g=true) (h1:1≤id) (h2:id≤60000):Ix 0 (fun _ _=>0) (ykt id g):=by
 have hw:=yZU hg h1 h2;have hge:=yk.1 hg;have e:=yHj hg h1 h2;have eg:(ykt id g).2.1=g:=by rw[e]
 have ed: ∀i,0≤i→i<g.1→yj (ykt id g) i=yB id g i:=fun i i0 i1=>y1g hg h1 h2 i0 i1
 refine⟨hw.1,hw.2.1,hw.2.2.1.1,hw.2.2.2.1,hw.2.2.2.2,by rw[e]; exact Int.le_refl _,yZ6 _,fun i s i0 i1 s0 s1 _=> ?_,fun i i0 i1=> ?_⟩
 ·rw[eg]at i1 s1
  rw[ed i i0 i1];obtain⟨_,_,n3⟩:=yFS id i hg;unfold yim;rw[n3];show nth (yB id g i).1 (s+6) []=_;unfold yB;rw[yYt hg g.2.toNat (Nat.le_refl _) (s+6) (by omega),zk2 (show 6≤s+6 by omega),zky (show s+6<6+(g.2.toNat:Int)by omega)]; rfl
 ·rw[eg]at i1
  rw[ed i i0 i1,(yFS id i hg).2.2,e];show((([]:List dW).length:Nat):Int)≤1+(bif i== -1 then 0 else 0);rw[List.length_nil];cases(i== -1)<;>decide
theorem yZG {k:Int} {V:Int→Int→Int} {a b:dA} (h:Ix k V a) (ht:Turned a b) (hk:k+16≤60000) (hu:yb b=false): ∃V',Ix (k+16) V' b:=by
 cases ht with
 | same=>exact⟨V,yd9 h (by omega)⟩
 | put b x hb hx=>exact⟨V,yd9 (y1f h hb hx) (by omega)⟩
 | flush s=>obtain⟨V',h'⟩:=yM8 s h (by omega) hu; exact⟨V',yd9 h' (by omega)⟩
 | all=>exact y1b h hk hu
 | fail m hl hm=>exact⟨V,yd9 (yYI h (.inl hl) hm (by omega) hu) (by omega)⟩
 | spare hl _=>exact⟨V,yd9 (y0e h hl (by omega) hu) (by omega)⟩
 | step hl hf hb=>exact⟨V,yd9 (y0M h hl hf hb hu) (by omega)⟩
 | check=>exact⟨V,yd9 (yXI h (by omega) hu) (by omega)⟩
 | spoil m s _ hm _ _=>exact⟨V,yd9 (y0f h hm) (by omega)⟩
def yj5 (a:dA) (s:Int):Nat:=yzO (fun(i:Nat)=>yce a s i) a.2.1.1.toNat
theorem y0g {k:Int} {V:Int→Int→Int} {a:dA} {s:Int} (h:Ix k V a) (s0:0≤s) (s1:s<a.2.1.2):yJ a s=bif decide (yj5 a s<2)then(yfT V a.2.1.1 s,true)else([],false):=by
 rw[ySy h.xc.1 h.xk h.xe h.xv s0 s1,(yQF _ _).2];show(bif decide (2≤yj5 a s)then([],false)else(yfT V a.2.1.1 s,true))=_;by_cases h2:yj5 a s<2
 ·rw[decide_eq_true h2,decide_eq_false (by omega)]; rfl
 ·rw[decide_eq_false h2,decide_eq_true (by omega)]; rfl
def yEB (V:Int→Int→Int) (g:dG) (s:Int):List Int:=(List.range (g.1-1).toNat).map (fun(i:Nat)=>nth (yfT V g.1 s) (ybl g s i) 0)
theorem yXL {k:Int} {V:Int→Int→Int} {a:dA} {s:Int} (h:Ix k V a) (s0:0≤s) (s1:s<a.2.1.2):yX a.2.1 s=true:=yaq.2 ⟨h.xc.1,s0,by omega⟩
theorem yQC {k:Int} {V:Int→Int→Int} {a:dA} {s:Int} (h:Ix k V a) (s0:0≤s) (s1:s<a.2.1.2):ybB a s=bif decide (yj5 a s<2)then(yEB V a.2.1 s,true)else([],false):=by
 unfold ybB ynO;rw[ywG h,h.xb,yXL h s0 s1,y0g h s0 s1];cases decide (yj5 a s<2)<;>rfl
def yZl (id:Int) (g:dG) (G T L B i:Int):dS:=(id,G,i,g.1,g.2,T,L,B)
def y01 (id n:Int) (v:List Int) (s:dS):Prop:=y0a v=(s,true)∧s.1=id∧s.2.1.tmod 2=n
def yYX (id:Int) (f:Int→List Int):Prop:= ∃n s,(n=0∨n=1)∧y01 id n (f n) s
structure Wsup (id:Int) (g:dG) (G T L B Lf Bf:Int) (f:Int→Int→List Int) (fl:Int→Bool):Prop where
 u0: ∀i,0≤i→i<g.1→yaw (yZl id g G T L B i)=true
 u1: ∀i n s,0≤i→i<g.1→fl i=false→(n=0∨n=1)→y01 id n (f i n) s→s.2.2.1=i∧(s.2.1<G∨s=yZl id g G T L B i)
 u2: ∀i,0≤i→i<g.1→i≠Lf→fl i=false∧yYX id (f i)
 u3: ∃i,0≤i∧i<g.1∧fl i=false∧f i (G.tmod 2)=yv (yZl id g G T L B i)
 u4:(Lf=L∧Bf=B∧(Lf= -1∨(fl Lf=false∧yYX id (f Lf))))∨(0≤Lf∧Lf<g.1∧ ¬(fl Lf=false∧yYX id (f Lf))∧(L= -1∨L=Lf)∧Bf=0)
structure Wdat (g:dG) (T Q:Int) (R:Int→Int×List Int) (V:Int→Int→Int) (Lf Bf:Int) (f:Int→Int→List Int) (fl:Int→Bool) (bd:Int→Int→Bool):Prop where
 e:EvV g V
 q:0≤T∧T≤Q∧Q≤T+4∧Q≤60000
 d: ∀i s,0≤i→i<g.1→0≤s→s<g.2→fl i=false→(i≠Lf∨s<Bf)→bd i (s+6)=false→(∀q,T≤q→q<Q→(R q).1≠s)→f i (s+6)= [V s i]
 r: ∀q,T≤q→q<Q→ ∃i,0≤i∧i<g.1∧fl i=false∧f i (yO q)=ykN (q,R q)
 h: ∀i n r,0≤i→i<g.1→fl i=false→2≤n→n<6→y07 (f i n)=(r,true)→r.1<Q∧(T≤r.1→r.2=R r.1)
 v: ∀q,T≤q→q<Q→yX g (R q).1=true∧((R q).2.length:Int)=g.1-1∧(R q).2.all isW=true
 l: ∀q,T≤q→q<Q→(∀p,q<p→p<Q→(R p).1≠(R q).1)→ ∀i,0≤i→i<g.1→V (R q).1 i=ycY (yg g (R q).1) g.1 (yao (R q).2) (R q).2 i
 b: ∀i n,0≤i→i<g.1→fl i=false→bd i n=true→6≤n
def flA (a:dA) (i:Int):Bool:=(yj a i).2.2.1
def bdA (a:dA) (i n:Int):Bool:=yg1 (yj a i) n
def Ch (a:dA) (f:Int→Int→List Int):Prop:= ∀i n,0≤i→i<a.2.1.1→0≤n→yAt (yj a i) n (f i n)
def TrD (n:Int) (v:List Int) (m x:dM):Prop:=(∀k w,0≤k→yAt x k w→yAt m k w∨(k=n∧w=v))∧x.2.2.1=m.2.2.1∧(∀k,k≠n→yg1 x k=yg1 m k)∧ ∀k,yg1 x k=true→yg1 m k=true
theorem yX8 (n:Int) (v:List Int) (m:dM):TrD n v m m:=⟨fun _ _ _ h=> .inl h,rfl,fun _ _=>rfl,fun _ h=>h⟩
theorem yZP {n:Int} {v:List Int} {m x y:dM} (h:TrD n v m x) (g:TrD n v x y):TrD n v m y :=⟨fun k w k0 hw=>(g.1 k w k0 hw).elim (h.1 k w k0) .inr,g.2.1.trans h.2.1,fun k hk=>(g.2.2.1 k hk).trans (h.2.2.1 k hk),fun k hk=>h.2.2.2 k (g.2.2.2 k hk)⟩
theorem yZQ (n:Int) (v:List Int) (m:dM):TrD n v m (yH m n v).1:=by
 refine⟨fun k w _ hw=>yZh hw,(yw8 m n v).2,fun k hk=> ?_,fun k hk=> ?_⟩
 ·cases hc:yaV m n v
  ·unfold yH; rw[hc]; rfl
  ·rw[yv0 hc,show(k !=n)=true from bne_iff_ne.2 hk,Bool.and_true]
 ·cases hc:yaV m n v
  ·unfold yH at hk; rw[hc]at hk; exact hk
  ·rw[yv0 hc,Bool.and_eq_true]at hk; exact hk.1
theorem y0V (n:Int) (v:List Int) (m:dM):TrD n v m (ygA n v m):=by
 unfold ygA;cases m.2.2.1
 ·exact yZQ n v m
 ·exact yX8 n v m
theorem yZO (n:Int) (v:List Int) {m:dM} (h:yr m=true):TrD n v m (yq m):=by
 refine⟨fun k w k0 hw=> .inl ?_,(ywr m).2,fun k _=>yHp m k,fun k hk=>by rw[yHp]at hk; exact hk⟩;cases hf:m.2.2.1
 ·rw[yPW h hf k0 hw]; exact yMh m k
 ·unfold yq at hw; rw[hf,Bool.not_true,Bool.and_false]at hw; exact hw
structure Trn (n:Int) (v:Int→List Int) (a r:dA):Prop where
 g:r.2.1=a.2.1
 c: ∀f',Ch r f'→ ∃f,Ch a f∧ ∀i m,0≤i→i<a.2.1.1→0≤m→f' i m=f i m∨(m=n∧f' i m=v i)
 f: ∀i,0≤i→i<a.2.1.1→flA r i=flA a i
 b: ∀i m,0≤i→i<a.2.1.1→m≠n→bdA r i m=bdA a i m
 d: ∀i m,0≤i→i<a.2.1.1→bdA r i m=true→bdA a i m=true
theorem y1n {n:Int} {v:Int→List Int} {a r:dA} (hg:r.2.1=a.2.1) (h: ∀i,0≤i→i<a.2.1.1→TrD n (v i) (yj a i) (yj r i)):Trn n v a r:=by
 refine⟨hg,fun f' hf'=> ?_,fun i i0 i1=>(h i i0 i1).2.1,fun i m i0 i1 hm=>(h i i0 i1).2.2.1 m hm,fun i m i0 i1 hm=>(h i i0 i1).2.2.2 m hm⟩
 classical
 refine⟨fun i m=>if yAt (yj a i) m (f' i m)then f' i m else yim (yj a i) m,fun i m i0 i1 m0=> ?_,fun i m i0 i1 m0=> ?_⟩
 ·show yAt (yj a i) m (if yAt (yj a i) m (f' i m)then f' i m else yim (yj a i) m)
  split
  ·assumption
  ·exact yMh _ _
 ·show f' i m=(if yAt (yj a i) m (f' i m)then f' i m else yim (yj a i) m)∨_
  rcases(h i i0 i1).1 m (f' i m) m0 (hf' i m i0 (by rw[hg]; exact i1) m0)with h1 | h1
  ·left; rw[if_pos h1]
  ·exact .inr h1
def yOY (a:dA):Prop:=(a.2.2.1.length:Int)=a.2.1.1∧ ∀i,0≤i→i<a.2.1.1→yr (yj a i)=true
theorem yYY {a:dA} (h:yal a):yOY a:=⟨h.1.2,fun _ i0 i1=>(ynP h i0 i1).1⟩
theorem y0q {n:Int} {v:Int→List Int} {a M:dA} (hg:M.2.1=a.2.1) (hl:M.2.2.1.length=a.2.2.1.length) (ha:yOY a) (h: ∀i,0≤i→i<a.2.1.1→yj M i=yj a i∨yj M i=ygA n (v i) (yj a i)):Trn n v a (yy M):=by
 refine y1n ((yau (yfV M)).trans hg) fun i i0 i1=> ?_
 have hM:TrD n (v i) (yj a i) (yj M i)∧yr (yj M i)=true:=by
  rcases h i i0 i1 with e | e
  ·rw[e]; exact⟨yX8 _ _ _,ha.2 i i0 i1⟩
  ·rw[e]; exact⟨y0V _ _ _,yEX (ha.2 i i0 i1)⟩
 cases hd:yb M
 ·obtain⟨_,_,k,_,h3,_⟩:=yX7 hd
  rw[h3 i i0];cases ltb i k
  ·exact hM.1
  ·exact yZP hM.1 (yZO _ _ hM.2)
 ·rw[yw7 hd]; exact hM.1
theorem y02 {g:Int→dM→dM} {a r:dA} {n:Nat} (h:Adv g a r n) {i:Int} (i0:0≤i):yj r i=yj a i∨yj r i=g i (yj a i):=by
 obtain⟨_,_,k,_,h3,_⟩:=h;rw[h3 i i0];cases ltb i k
 ·exact .inl rfl
 ·exact .inr rfl
theorem y0p {a:dA} (h:yOY a):Trn ((i64.wrap (a.2.2.2.2.2.2.2.1+1)).tmod 2) (fun i=>yv (yZl a.1 a.2.1 (i64.wrap (a.2.2.2.2.2.2.2.1+1)) a.2.2.2.2.2.2.1 a.2.2.2.1 a.2.2.2.2.1 i)) a (yaa a):=by
 unfold yaa;have hc:=yrc (one:=yM) (fun _ _=>ymX _ _ _ _) (List.range a.2.2.1.length) (yV a);have hl:((List.range a.2.2.1.length).foldl yM (yV a)).2.2.1.length=a.2.2.1.length:=ymF (one:=yM) (fun _ _=>yn1 _ _ _ _) _ (yV a);refine y0q (yau (b:=yV a) hc) hl h fun i i0 i1=> ?_
 cases hd:yb a
 ·exact y02 (a:=yV a) (yXT (a:=yV a) hd) i0
 ·rw[yrd (one:=yM) (fun _ _ h=>yqu h _ _ _) _ (yV a) hd]; exact .inl rfl
def Al (L N:Int) (fl0 fl:Int→Bool) (Lf:Int):Prop:=(Lf=L∧ ∀i,0≤i→i<N→fl i=fl0 i)∨(0≤Lf∧Lf<N∧(L= -1∨L=Lf)∧ ∀i,0≤i→i<N→fl i=(fl0 i||i==Lf))
def Eq0 (a:dA) (fl:Int→Bool) (Lf:Int):Prop:=Lf=a.2.2.2.1∧ ∀i,0≤i→i<a.2.1.1→fl i=flA a i
def WW (K id:Int) (g:dG) (V:Int→Int→Int) (Lf:Int) (f:Int→Int→List Int) (fl:Int→Bool) (bd:Int→Int→Bool):Prop:= ∃(G T L B Q:Int) (R:Int→Int×List Int) (Bf:Int),G≤K∧Q≤K∧Wsup id g G T L B Lf Bf f fl∧Wdat g T Q R V Lf Bf f fl bd
structure Mk (a:dA):Prop where
 k:yOY a
 g:ye a.2.1=true
 i:1≤a.1∧a.1≤60000
 l: -1≤a.2.2.2.1∧a.2.2.2.1≤a.2.1.1-1
 b:0≤a.2.2.2.2.1∧a.2.2.2.2.1≤a.2.1.2
 z:0≤a.2.2.2.1∨a.2.2.2.2.1=0
 t:0≤a.2.2.2.2.2.2.1∧a.2.2.2.2.2.2.1≤60000
 n:0≤a.2.2.2.2.2.2.2.1∧a.2.2.2.2.2.2.2.1<60000
def y1H (R:Int→Int×List Int) (B0:Int) (V:Int→Int→Int) (a:dA):Prop:=B0≤a.2.2.2.2.1∧ ∀f fl Lf,Ch a f→Al a.2.2.2.1 a.2.1.1 (flA a) fl Lf→ ∃Bf,((Eq0 a fl Lf→Bf=B0)∧(Eq0 a fl Lf→Lf≠ -1→fl Lf=false→yYX a.1 (f Lf)))∧Wsup a.1 a.2.1 a.2.2.2.2.2.2.2.1 a.2.2.2.2.2.2.1 a.2.2.2.1 B0 Lf Bf f fl∧Wdat a.2.1 a.2.2.2.2.2.2.1 a.2.2.2.2.2.1 R V Lf Bf f fl (bdA a)
def Rob (B0:Int) (V:Int→Int→Int) (a:dA):Prop:= ∃R,y1H R B0 V a
structure Nb (a:dA):Prop where
 n:a.2.2.2.1≠ -1→ ∀i s,0≤i→i<a.2.1.1→i≠a.2.2.2.1→0≤s→s<a.2.2.2.2.1→bdA a i (s+6)=false
 z:a.2.2.2.1≠ -1→flA a a.2.2.2.1=true→a.2.2.2.2.1=0
structure Lv (K:Int) (V:Int→Int→Int) (a:dA):Prop where
 x:Ix K V a
 r: ∃B0,Rob B0 V a
 n:Nb a
theorem y0A {K:Int} {V:Int→Int→Int} {a:dA} (h:Ix K V a) {i:Int} (i0:0≤i) (i1:i<a.2.1.1) (hf:flA a i=true):i=a.2.2.2.1:=by
 rcases(ynP h.xk i0 i1).2.2 hf with e | e
 ·exact e
 ·rw[h.xb]at e; cases e
structure CoreEq (a b:dA):Prop where
 i:a.1=b.1
 g:a.2.1=b.2.1
 l:a.2.2.2.1=b.2.2.2.1
 u:a.2.2.2.2.1=b.2.2.2.2.1
 s:a.2.2.2.2.2.1=b.2.2.2.2.2.1
 t:a.2.2.2.2.2.2.1=b.2.2.2.2.2.2.1
 e:a.2.2.2.2.2.2.2.1=b.2.2.2.2.2.2.2.1
structure Fell (S:Int) (m:dM):Prop where
 ok:yr m=true
 len:(m.1.length:Int)=6+S
 cac:m.2.1= []
structure FellAll (g:dG) (l:List dM):Prop where
 n:(l.length:Int)=g.1
 f: ∀i,0≤i→i<g.1→Fell g.2 (nth l i yd)
def flF (l:List dM) (i:Int):Bool:=(nth l i yd).2.2.1
def bdF (l:List dM) (i n:Int):Bool:=yg1 (nth l i yd) n
theorem yZu {a b:dA} (h:yo b=yo a):b.2.2.2.2.2.2.2.2.1=a.2.2.2.2.2.2.2.2.1:=congrArg (fun x=>x.2.2.2.2.2.2.2.1) h
structure Way (id:Int) (g:dG) (G T L B Q:Int) (R:Int→Int×List Int) (V:Int→Int→Int) (Lf Bf:Int) (l0:List dM) (a:dA):Prop where
 e1:a.1=id
 e2:a.2.1=g
 e3:a.2.2.2.1=Lf
 e4:a.2.2.2.2.1=Bf
 e6:a.2.2.2.2.2.2.1=T
 e7:a.2.2.2.2.2.2.2.1=G
 e8:a.2.2.2.2.2.2.2.2.1= []
 e9:a.2.2.2.2.2.2.2.2.2.2.2=false
 kp:yal a
 st: ∀f,Ch a f→Wsup id g G T L B Lf Bf f (flA a)∧Wdat g T Q R V Lf Bf f (flA a) (bdA a)
 fl: ∀i,0≤i→i<g.1→flA a i=flF l0 i
 bd: ∀i m,0≤i→i<g.1→6≤m→(bdA a i m=true→bdF l0 i m=true)∧(T=Q→bdA a i m=bdF l0 i m)
structure Rp (id:Int) (g:dG) (G T L B Q:Int) (R:Int→Int×List Int) (V:Int→Int→Int) (Lf Bf:Int) (l0:List dM) (q:Int) (a:dA):Prop where
 w:Way id g G T L B Q R V Lf Bf l0 a
 q0:T≤q
 q1:q≤Q
 s:a.2.2.2.2.2.1=q
 u:yb a=false
 c: ∀i,0≤i→i<g.1→(yj a i).2.1.length≤1
 v: ∀i s,0≤i→i<g.1→0≤s→s<g.2→yce a s i=true→(∀p,q≤p→p<Q→(R p).1≠s)→yim (yj a i) (s+6)= [V s i]
section
variable {id:Int} {g:dG} {G T L B Q:Int} {R:Int→Int×List Int} {V:Int→Int→Int} {Lf Bf:Int} {l0:List dM}
end
structure Back (K id:Int) (g:dG) (V:Int→Int→Int) (Lf:Int) (l:List dM) (x:dA):Prop where
 bi:x.1=id
 bg:x.2.1=g
 bl:x.2.2.2.1=Lf
 bc:x.2.2.2.2.2.2.2.2.1= []
 bb:x.2.2.2.2.2.2.2.2.2.2.2=false
 bk:yal x
 bf: ∀i,0≤i→i<g.1→flA x i=flF l i
 be: ∀i m,0≤i→i<g.1→6≤m→bdA x i m=true→bdF l i m=true
 dn:yb x=true→ ∀f,Ch x f→WW K id g V Lf f (flA x) (bdA x)
 up:yb x=false→Ix K V x∧Rob x.2.2.2.2.1 V x∧x.2.2.2.2.2.2.1=x.2.2.2.2.2.1∧(x.2.2.2.1≠ -1→flA x x.2.2.2.1=true→x.2.2.2.2.1=0)
theorem yXR {K m:Int} {V:Int→Int→Int} {a:dA} (h:Ix K V a) (hc:yEE a m=true) (hl:a.2.2.2.1= -1∨a.2.2.2.1=m) {i s:Int} (i0:0≤i) (i1:i<a.2.1.1) (hi:i≠m) (s0:0≤s):i≠a.2.2.2.1∧flA a i=false∧bdA a i (s+6)=false:=by
 refine⟨by omega,?_,?_⟩
 ·cases hf:flA a i
  ·rfl
  ·have:=y0A h i0 i1 hf; omega
 ·have hn:=h.xk.1.2
  unfold yEE at hc;rw[List.all_eq_true]at hc;have:=hc i.toNat (List.mem_range.2 (by omega));rw[Int.toNat_of_nonneg i0,show(i==m)=false from beq_eq_false_iff_ne.2 hi,Bool.false_or,Bool.not_eq_true']at this;cases hb:bdA a i (s+6)
  ·rfl
  ·obtain⟨x,hx,e⟩:=List.any_eq_true.1 (show(yj a i).2.2.2.any (· ==(s+6))=true from hb)
   have hs:ygO (yj a i)=true:=List.any_eq_true.2 ⟨x,hx,zk2 (by have:=beq_iff_eq.1 e; omega)⟩;have this:ygO (yj a i)=false:=this;rw[hs]at this; cases this
theorem yH3 {p:Nat→Bool} {j:Nat}: ∀{n:Nat},(∀i,i<n→i≠j→p i=true)→yzO p n≤1∧(n≤j→yzO p n=0)
 | 0,_=>⟨Nat.zero_le _,fun _=>rfl⟩
 | n+1,h=>by
  obtain⟨h1,h2⟩:=yH3 (n:=n) (fun i hi hj=>h i (by omega) hj);rw[yQD];cases hp:p n
  ·have:n=j:=Classical.byContradiction fun e=>by rw[h n (by omega) e]at hp; cases hp
   rw[cond_false,h2 (by omega)];exact⟨by omega,fun h=>by omega⟩
  ·rw[cond_true]
   exact⟨h1,fun h=>h2 (by omega)⟩
theorem yYJ {a:dA} {s j:Int} (j0:0≤j) (h: ∀i,0≤i→i<a.2.1.1→i≠j→yce a s i=true):yj5 a s<2:=by
 have:=(yH3 (p:=fun(i:Nat)=>yce a s i) (j:=j.toNat) (n:=a.2.1.1.toNat) (fun i hi hj=>h i (by omega) (by omega) (by omega))).1;unfold yj5;omega
theorem yY9 {K:Int} {V:Int→Int→Int} {a:dA} (h:Ix K V a):yvl a=bif(List.range a.2.1.2.toNat).all (fun(s:Nat)=>decide (yj5 a s<2))then(List.range a.2.1.2.toNat).flatMap (fun(s:Nat)=>yEB V a.2.1 s)else[]:=by
 unfold yvl
 have e: ∀s,s∈List.range a.2.1.2.toNat→ybB a (s:Int)=bif decide (yj5 a s<2)then(yEB V a.2.1 s,true)else([],false):=fun s hs=>by
  have:=List.mem_range.1 hs;exact yQC h (by omega) (by omega)
 have h1:(List.range a.2.1.2.toNat).all (fun(s:Nat)=>(ybB a s).2)=(List.range a.2.1.2.toNat).all (fun(s:Nat)=>decide (yj5 a s<2)):=by
  rw[Bool.eq_iff_iff,List.all_eq_true,List.all_eq_true];constructor
  ·intro g s hs
   have:=g s hs;rw[e s hs]at this;cases hd:decide (yj5 a s<2)
   ·rw[hd]at this; cases this
   ·rfl
  ·intro g s hs
   rw[e s hs,g s hs]; rfl
 rw[ywG h,h1,Bool.true_and];cases hc:(List.range a.2.1.2.toNat).all (fun(s:Nat)=>decide (yj5 a s<2))
 ·rfl
 ·rw[cond_true,cond_true]
  rw[List.all_eq_true]at hc;rw[List.flatMap_def,List.flatMap_def];refine congrArg List.flatten (List.map_congr_left fun s hs=> ?_);rw[e s hs,hc s hs]; rfl
def yL4 (a:dA):Prop:= ∀s,0≤s→s<a.2.1.2→yj5 a s<2
theorem yH0 {K:Int} {V:Int→Int→Int} {a:dA} (h:Ix K V a) (hf:yL4 a):yvl a=(List.range a.2.1.2.toNat).flatMap (fun(s:Nat)=>yEB V a.2.1 s):=by
 rw[yY9 h,show(List.range a.2.1.2.toNat).all (fun(s:Nat)=>decide (yj5 a s<2))=true from List.all_eq_true.2 fun s hs=>decide_eq_true (hf s (by omega) (by have:=List.mem_range.1 hs; omega))]; rfl
theorem yZD {x:dA} {i s:Int} (hl:i≠x.2.2.2.1) (hf:flA x i=false) (hb:bdA x i (s+6)=false):yce x s i=true:=by
 unfold yce yaJ;rw[show(yj x i).2.2.1=false from hf,show yg1 (yj x i) (s+6)=false from hb,show(i !=x.2.2.2.1)=true from bne_iff_ne.2 hl]; rfl
theorem yXJ {K s:Int} {V:Int→Int→Int} {a:dA} (h:Ix K V a) (s0:0≤s) (s1:s<a.2.1.2):ynO a s=bif decide (yj5 a s<2)then(yEB V a.2.1 s,true)else([],false):=by
 have h4:=yQC h s0 s1;unfold ybB at h4;rw[ywG h,h.xb,yXL h s0 s1]at h4;exact h4
theorem y1h {K J s:Int} {V:Int→Int→Int} {a x:dA} (h:Ix K V a) (hx:Ix J V x) (hg:x.2.1=a.2.1) (hd:x.2.2.2.2.2.2.2.2.1=a.2.2.2.2.2.2.2.2.1) (ha:yL4 a) (hf:yL4 x) (s0:0≤s) (s1:s<a.2.1.2):yz x s=yz a s:=by
 unfold yz;rw[hd,hx.xb,h.xb,yXJ h s0 s1,yXJ hx s0 (by rw[hg]; exact s1),decide_eq_true (ha s s0 s1),decide_eq_true (hf s s0 (by rw[hg]; exact s1)),hg]
theorem yYH {K b:Int} {V:Int→Int→Int} {a:dA} (h:Ix K V a):ybk a b=bif ybQ a.2.1 b then 0 else 2:=by
 unfold ybk;rw[ywG h,show a.2.2.2.2.2.2.2.2.2.2.1=false from h.xu]; rfl
theorem y08 {K J:Int} {V W:Int→Int→Int} {a x:dA} (h:Ix K V a) (hx:Ix J W x) (hg:x.2.1=a.2.1) (hn: ∀s,0≤s→s<a.2.1.2→yz x s=yz a s) (b:Int):ydm x b=ydm a b:=by
 unfold ydm;rw[yYH h,yYH hx,hg];cases hb:ybQ a.2.1 b
 ·rfl
 ·have:=yaq.1 (ykT hb)
  rw[hn _ this.2.1 (by omega)]
theorem yYm {K J:Int} {V:Int→Int→Int} {a x:dA} (h:Ix K V a) (hx:Ix J V x) (hg:x.2.1=a.2.1) (hd:x.2.2.2.2.2.2.2.2.1=a.2.2.2.2.2.2.2.2.1) (ha:yL4 a) (hf:yL4 x):yBj x=yBj a:=by
 have e:=y08 h hx hg (fun s s0 s1=>y1h h hx hg hd ha hf s0 s1);unfold yBj;rw[hg];simp only[e]
theorem yZB {K m:Int} {V:Int→Int→Int} {a:dA} (h:Ix K V a) (hf:ygZ a) (hl:a.2.2.2.1= -1∨a.2.2.2.1=m) (hk:K+1≤60000):yb (yaK a m)=false:=by
 rw[yI8 h hl hk];exact(yVe (a:=yL a m) hf).1
theorem yVc {K m:Int} {V:Int→Int→Int} {a:dA} (h:Ix K V a) (hl:a.2.2.2.1= -1∨a.2.2.2.1=m) (hk:K+1≤60000):(yaK a m).2.1=a.2.1∧(yaK a m).2.2.2.1=m∧(yaK a m).2.2.2.2.2.2.2.2.1=a.2.2.2.2.2.2.2.2.1:=by
 rw[yI8 h hl hk];have hc:=yrh (yL a m);exact⟨yau (b:=yV (yL a m)) hc,ymE (b:=yV (yL a m)) hc,yZu (a:=yV (yL a m)) hc⟩
theorem yZ7 {K m:Int} {V:Int→Int→Int} {a:dA} (h:Ix K V a) (hl:a.2.2.2.1= -1∨a.2.2.2.1=m) (hm:inb m a.2.2.1.length=true) (hk:K+1≤60000) {i s:Int} (i0:0≤i) (i1:i<a.2.1.1) (hi:i≠m) (s0:0≤s) (hw:flA a i=false∧bdA a i (s+6)=false):yce (yaK a m) s i=true:=by
 obtain⟨c1,c2,_⟩:=yVc h hl hk;rw[yI8 h hl hk]at c1 c2 ⊢;have hmi:=zj6.1 hm;have hlen:=h.xk.1.2;have hn:((yL a m).2.2.1.length:Int)=a.2.1.1:=by show((a.2.2.1.set _ _).length:Int)=_; rw[List.length_set]; exact hlen
 have ok:yOY (yL a m):=yYY (yLC h hl hm).xk;have ht:=y0p ok
 have hd:yj (yL a m) i=yj a i:=by
  have:=yPV (a:=a) (x:=yg4 (nth a.2.2.1 m yd)) m (0,a.2.2.2.2.2) hm i0;rw[show(m==i)=false from beq_eq_false_iff_ne.2 (fun e=>hi e.symm)]at this; exact this
 have hmod:(i64.wrap ((yL a m).2.2.2.2.2.2.2.1+1)).tmod 2<2:=Int.tmod_lt_of_pos _ (by omega);refine yZD (by rw[c2]; exact hi) ?_ ?_
 ·rw[ht.f i i0 i1]; unfold flA; rw[hd]; exact hw.1
 ·rw[ht.b i (s+6) i0 i1 (by omega)]; unfold bdA; rw[hd]; exact hw.2
end
def yVN:Code:=(f207.body).getD .skip
def yWh:Env:=zkw TT [(162,yEI)] []
theorem yMH:FrOk prog ⟨yWh,18,fun _=>none⟩ yVN:=zkA mixed yc ⟨yWV,trivial⟩
abbrev ypz:List Par:= [.rd tN]
abbrev yxW:List OT:= [⟨false,tL,(.ow .fz)⟩]
def ytw (a0:dN):Option (zaY yxW×zak ypz) :=let r1:=ybo a0;bif(!r1)then some ((([]:List Int),()),()) else bif(zkl ([21322,a0.1,a0.2.1,(a0.2.2.length:Int)]:List Int).length a0.2.2.length 8)then some (((([21322,a0.1,a0.2.1,(a0.2.2.length:Int)]:List Int)++a0.2.2),()),()) else none
theorem yRA:ConOk prog 207 ⟨ypz,yxW,fun x=>ytw x.1⟩:=zkI (yMH) func207 ntmps207.symm fun x=>by kernel_rfl
def ykG (a0:dN):List Int:=ykN a0
theorem yTV (a0:dN) (hk:zjx ypz (a0,())):ytw a0=(fun n=>some ((n,()),())) (ykG a0):=by
 unfold ytw ykG ykN;cases hr:ybo a0
 ·rfl
 ·have:=(yVo.1 hr).2.2.1
  rw[zkF.2 (show(([21322,a0.1,a0.2.1,(a0.2.2.length:Int)]:List Int).length+a0.2.2.length)*8≤140737488355328 by simp only[List.length_cons,List.length_nil]; omega)]; rfl
def yDc:Con:=⟨ypz,yxW,fun x=>(fun n=>some ((n,()),())) (ykG x.1)⟩
theorem yUC:ConOk prog 207 yDc:=(yRA).mono (fun x r hk h=>(yTV x.1 hk).trans h)
def yru:Code:=(f169.body).getD .skip
def yAi:Env:=zkw TT [(91,yDd),(206,yi8),(207,yDc),(208,yl7)] []
theorem yQt:FrOk prog ⟨yAi,24,fun _=>none⟩ yru:=zkA mixed yc ⟨yUD,ypQ,yUC,yvx,trivial⟩
def yEu:Nat→Option Seg:=fun _=>none
def yda:Shape:=⟨[(0,false,[.ptr 1000000000 0]),(3,false,[.ptr 0 0]),(4,false,[.int .i64])],[(0,[.int .i64,.int .i64,.br tI]),(1000000000,[.int .i64,.int .i64,.int .i64,.at 800000000,.int .i64,.int .i64,.int .i64,.int .i64,.int .i64,.at 800000001,.int .i64,.bool,.bool])],[(800000000,tM,(.pr (.ow .fz) (.pr (.ow (.pr .fz .fz)) (.pr .fz (.ow .fz))))),(800000001,tW,(.pr .fz .fz))]⟩
def yhL:Shape:=⟨[(0,false,[.ptr 1000000000 0]),(3,false,[.ptr 0 0]),(4,false,[.ci .i64 0])],[(0,[.int .i64,.int .i64,.br tI]),(1000000000,[.int .i64,.int .i64,.int .i64,.at 800000000,.int .i64,.int .i64,.int .i64,.int .i64,.int .i64,.at 800000001,.int .i64,.bool,.bool])],[(800000000,tM,(.pr (.ow .fz) (.pr (.ow (.pr .fz .fz)) (.pr .fz (.ow .fz))))),(800000001,tW,(.pr .fz .fz))]⟩
def yhx:Shape:=⟨[(0,false,[.ptr 1000000000 0])],[(1000000000,[.int .i64,.int .i64,.int .i64,.at 800000000,.int .i64,.int .i64,.int .i64,.int .i64,.int .i64,.at 800000001,.int .i64,.bool,.bool])],[(800000000,tM,(.pr (.ow .fz) (.pr (.ow (.pr .fz .fz)) (.pr .fz (.ow .fz))))),(800000001,tW,(.pr .fz .fz))]⟩
def ylW:Shape:=⟨[],[],[]⟩
abbrev yqo (v0:Int) (v1:dN) (v2:dA):(yda).X:=((((),()),((),()),(v0,()),()),((v1.1,v1.2.1,v1.2.2,()),(v2.1,v2.2.1.1,v2.2.1.2,(),v2.2.2.2.1,v2.2.2.2.2.1,v2.2.2.2.2.2.1,v2.2.2.2.2.2.2.1,v2.2.2.2.2.2.2.2.1,(),v2.2.2.2.2.2.2.2.2.2.1,v2.2.2.2.2.2.2.2.2.2.2.1,v2.2.2.2.2.2.2.2.2.2.2.2,()),()),(v2.2.2.1,v2.2.2.2.2.2.2.2.2.1,()))
abbrev yNr (v0:dN) (v1:dA):(yhL).X:=((((),()),((),()),((),()),()),((v0.1,v0.2.1,v0.2.2,()),(v1.1,v1.2.1.1,v1.2.1.2,(),v1.2.2.2.1,v1.2.2.2.2.1,v1.2.2.2.2.2.1,v1.2.2.2.2.2.2.1,v1.2.2.2.2.2.2.2.1,(),v1.2.2.2.2.2.2.2.2.2.1,v1.2.2.2.2.2.2.2.2.2.2.1,v1.2.2.2.2.2.2.2.2.2.2.2,()),()),(v1.2.2.1,v1.2.2.2.2.2.2.2.2.1,()))
abbrev yBU (v0:dA):(yhx).X:=((((),()),()),((v0.1,v0.2.1.1,v0.2.1.2,(),v0.2.2.2.1,v0.2.2.2.2.1,v0.2.2.2.2.2.1,v0.2.2.2.2.2.2.1,v0.2.2.2.2.2.2.2.1,(),v0.2.2.2.2.2.2.2.2.2.1,v0.2.2.2.2.2.2.2.2.2.2.1,v0.2.2.2.2.2.2.2.2.2.2.2,()),()),(v0.2.2.1,v0.2.2.2.2.2.2.2.2.1,()))
def yqZ (v0 v1 v2:Int) (v3:List Int) (v4 v5 v6 v7 v8 v9 v10 v11 v12:Int) (v13 v14:Bool) (v15:List dM) (v16:List dW):Option ((yda).X ⊕ ((yhx).X ⊕ (ylW).X)) :=bif(ltb v0 (v15.length:Int))then let r4:=yO v1;let r5:=ykG (v1,v2,v3);bnd (yeL (v4,(v5,v6),v15,v7,v8,v9,v10,v11,v16,v12,v13,v14) v0 r4 r5) fun r6 =>some (.inl ((((),()),((),()),((i64.wrap (v0+1)),()),()),((v1,v2,v3,()),(r6.2.1.1,r6.2.1.2.1.1,r6.2.1.2.1.2,(),r6.2.1.2.2.2.1,r6.2.1.2.2.2.2.1,r6.2.1.2.2.2.2.2.1,r6.2.1.2.2.2.2.2.2.1,r6.2.1.2.2.2.2.2.2.2.1,(),r6.2.1.2.2.2.2.2.2.2.2.2.1,r6.2.1.2.2.2.2.2.2.2.2.2.2.1,r6.2.1.2.2.2.2.2.2.2.2.2.2.2,()),()),(r6.2.1.2.2.1,r6.2.1.2.2.2.2.2.2.2.2.1,()))) else some (.inr (.inl ((((),()),()),((v4,v5,v6,(),v7,v8,v9,v10,v11,(),v12,v13,v14,()),()),(v15,v16,()))))
def ydG (x:(yda).X):=yqZ x.1.2.2.1.1 x.2.1.1.1 x.2.1.1.2.1 x.2.1.1.2.2.1 x.2.1.2.1.1 x.2.1.2.1.2.1 x.2.1.2.1.2.2.1 x.2.1.2.1.2.2.2.2.1 x.2.1.2.1.2.2.2.2.2.1 x.2.1.2.1.2.2.2.2.2.2.1 x.2.1.2.1.2.2.2.2.2.2.2.1 x.2.1.2.1.2.2.2.2.2.2.2.2.1 x.2.1.2.1.2.2.2.2.2.2.2.2.2.2.1 x.2.1.2.1.2.2.2.2.2.2.2.2.2.2.2.1 x.2.1.2.1.2.2.2.2.2.2.2.2.2.2.2.2.1 x.2.2.1 x.2.2.2.1
def yBw (x:(yhL).X):(yda).X:=((((),()),((),()),(0,()),()),((x.2.1.1.1,x.2.1.1.2.1,x.2.1.1.2.2.1,()),(x.2.1.2.1.1,x.2.1.2.1.2.1,x.2.1.2.1.2.2.1,(),x.2.1.2.1.2.2.2.2.1,x.2.1.2.1.2.2.2.2.2.1,x.2.1.2.1.2.2.2.2.2.2.1,x.2.1.2.1.2.2.2.2.2.2.2.1,x.2.1.2.1.2.2.2.2.2.2.2.2.1,(),x.2.1.2.1.2.2.2.2.2.2.2.2.2.2.1,x.2.1.2.1.2.2.2.2.2.2.2.2.2.2.2.1,x.2.1.2.1.2.2.2.2.2.2.2.2.2.2.2.2.1,()),()),(x.2.2.1,x.2.2.2.1,()))
def yC3:Code:=(zd7 yru 64 52).getD .skip
theorem yPO:zd7 yru 64 13=some (.block 0 (.loop yC3)):=by kernel_rfl
theorem ySs (x:(yda).X):zhu ⟨yAi,24,yEu⟩ 0 yC3 52 yda yhx ylW x=ydG x:=by kernel_rfl
def yBL (x:(yhL).X):Nat:=18446744073709551616
def yrW (x:(yhL).X):Option ((yhx).X ⊕ (ylW).X):=zF ydG (yBL x) (yBw x)
def yCw:Seg:=⟨yhL,yhx,ylW,yrW⟩
def yS0:Nat→Option Seg:=fun q=>bif Nat.beq q 13 then some yCw else yEu q
theorem yQu:FrOk prog ⟨yAi,24,yS0⟩ yru:=(yQt).loop (sg:=yCw) yda yBw (by decide) yPO ydG yBL (by decide) (fun _=>rfl) (fun x r _ h=>h) ySs
abbrev ysd:List Par:= [.pt tA (.pr .fz (.pr (.pr .fz .fz) (.pr (.ow (.pr (.ow .fz) (.pr (.ow (.pr .fz .fz)) (.pr .fz (.ow .fz))))) (.pr .fz (.pr .fz (.pr .fz (.pr .fz (.pr .fz (.pr (.ow (.pr .fz .fz)) (.pr .fz (.pr .fz .fz))))))))))),.rd tN]
abbrev yAM:List OT:= []
def yvM (a0:dA) (a1:dN):Option (zaY yAM×zak ysd) :=zkt (yrW ((((),()),((),()),((),()),()),((a1.1,a1.2.1,a1.2.2,()),(a0.1,a0.2.1.1,a0.2.1.2,(),a0.2.2.2.1,a0.2.2.2.2.1,a0.2.2.2.2.2.1,a0.2.2.2.2.2.2.1,a0.2.2.2.2.2.2.2.1,(),a0.2.2.2.2.2.2.2.2.2.1,a0.2.2.2.2.2.2.2.2.2.2.1,a0.2.2.2.2.2.2.2.2.2.2.2,()),()),(a0.2.2.1,a0.2.2.2.2.2.2.2.2.1,()))) (fun y6 =>let r8:=ydO (y6.2.1.1.1,(y6.2.1.1.2.1,y6.2.1.1.2.2.1),y6.2.2.1,y6.2.1.1.2.2.2.2.1,y6.2.1.1.2.2.2.2.2.1,y6.2.1.1.2.2.2.2.2.2.1,y6.2.1.1.2.2.2.2.2.2.2.1,y6.2.1.1.2.2.2.2.2.2.2.2.1,y6.2.2.2.1,y6.2.1.1.2.2.2.2.2.2.2.2.2.2.1,y6.2.1.1.2.2.2.2.2.2.2.2.2.2.2.1,y6.2.1.1.2.2.2.2.2.2.2.2.2.2.2.2.1);some ((),(r8,()))) (fun y6 =>none)
theorem yUs:ConOk prog 169 ⟨ysd,yAM,fun x=>yvM x.1 x.2.1⟩:=zkI (yQu) func169 ntmps169.symm fun x=>by kernel_rfl
def yjp (a0:dA) (a1:dN):dA:=yU a0 a1
theorem yWL (a0:dA) (a1:dN) (hk:zjx ysd (a0,a1,())):yvM a0 a1=(fun n=>some ((),(n,()))) (yjp a0 a1):=by
 have hb:a0.2.2.1.length*80≤2^47:=hk.1.2.2.1.1
 have h1:yrW (yNr a1 a0)=some (.inl (yBU ((List.range a0.2.2.1.length).foldl (ybp a1) a0))) :=
  zkD (step:=ydG) a0.2.2.1.length (fun i s=>yqo i a1 s) (ybp a1) (fun _ s=>s.2.2.1.length=a0.2.2.1.length) (fun s=> .inl (yBU s)) (fun i s hi hs=>⟨by
   simp only[ydG,yqo,yqZ,hs,zky (show(i:Int)<a0.2.2.1.length by omega),cond_true,wq ((i:Int)+1) (by omega) (by omega),Int.natCast_add,Int.natCast_one,Int.toNat_natCast,zkX,ykG];rw[ykM s i (yO a1.1) (ykN a1) (zkR (by rw[hs]; exact hi))]
   rfl,(yn2 a1 s i).trans hs⟩) (fun s hs=>by simp only[ydG,yqo,yqZ,hs,zk3 (Int.le_refl _),cond_false]) a0 rfl _ (by show _<18446744073709551616; omega)
 unfold yvM yjp yU;exact(congrArg (fun z=>zkt z _ _) h1).trans rfl
def yEN:Con:=⟨ysd,yAM,fun x=>(fun n=>some ((),(n,()))) (yjp x.1 x.2.1)⟩
theorem yW0:ConOk prog 169 yEN:=(yUs).mono (fun x r hk h=>(yWL x.1 x.2.1 hk).trans h)
def yrr:Code:=(f230.body).getD .skip
def yAf:Env:=zkw TT [] []
theorem yQk:FrOk prog ⟨yAf,18,fun _=>none⟩ yrr:=zkA mixed yc trivial
def yEr:Nat→Option Seg:=fun _=>none
def yc7:Shape:=⟨[(0,false,[.br tI]),(3,false,[.int .i64]),(4,false,[.int .i64])],[],[]⟩
def yhI:Shape:=⟨[(0,false,[.br tI]),(3,false,[.ci .i64 0]),(4,false,[.ci .i64 0])],[],[]⟩
def yhu:Shape:=⟨[(3,false,[.int .i64])],[],[]⟩
def ylT:Shape:=⟨[],[],[]⟩
abbrev yql (v0:List Int) (v1 v2:Int):(yc7).X:=(((v0,()),(v1,()),(v2,()),()),(),())
abbrev yNo (v0:List Int):(yhI).X:=(((v0,()),((),()),((),()),()),(),())
abbrev yBS (v0:Int):(yhu).X:=(((v0,()),()),(),())
def yqW (v0:List Int) (v1 v2:Int):Option ((yc7).X ⊕ ((yhu).X ⊕ (ylT).X)) :=bif(ltb v2 (v0.length:Int))then bif(inb v2 v0.length)then some (.inl (((v0,()),((i64.wrap ((BitVec.ofInt IntKind.i64.bits v1 ^^^ BitVec.ofInt IntKind.i64.bits (nth v0 v2 0)).toNat:Int)),()),((i64.wrap (v2+1)),()),()),(),())) else none else some (.inr (.inl (((v1,()),()),(),())))
def ydD (x:(yc7).X):=yqW x.1.1.1 x.1.2.1.1 x.1.2.2.1.1
def yBs (x:(yhI).X):(yc7).X:=(((x.1.1.1,()),(0,()),(0,()),()),(),())
def yCZ:Code:=(zd7 yrr 64 116).getD .skip
theorem yPK:zd7 yrr 64 29=some (.block 0 (.loop yCZ)):=by kernel_rfl
theorem ySo (x:(yc7).X):zhu ⟨yAf,18,yEr⟩ 0 yCZ 116 yc7 yhu ylT x=ydD x:=by kernel_rfl
def yBH (x:(yhI).X):Nat:=18446744073709551616
def yrS (x:(yhI).X):Option ((yhu).X ⊕ (ylT).X):=zF ydD (yBH x) (yBs x)
def yCs:Seg:=⟨yhI,yhu,ylT,yrS⟩
def ySX:Nat→Option Seg:=fun q=>bif Nat.beq q 29 then some yCs else yEr q
theorem yQl:FrOk prog ⟨yAf,18,ySX⟩ yrr:=(yQk).loop (sg:=yCs) yc7 yBs (by decide) yPK ydD yBH (by decide) (fun _=>rfl) (fun x r _ h=>h) ySo
abbrev yr9:List Par:= [.rd tL]
abbrev yAH:List OT:= [⟨false,tI,.fz⟩]
def yvJ (a0:List Int):Option (zaY yAH×zak yr9) :=zkt (yrS (((a0,()),((),()),((),()),()),(),())) (fun y0 =>some ((y0.1.1.1,()),())) (fun y0 =>none)
theorem yUm:ConOk prog 230 ⟨yr9,yAH,fun x=>yvJ x.1⟩:=zkI (yQl) func230 ntmps230.symm fun x=>by kernel_rfl
def yjm (a0:List Int):Int:=yao a0
theorem yWH (a0:List Int) (hk:zjx yr9 (a0,())):yvJ a0=(fun n=>some ((n,()),())) (yjm a0):=by
 have hb:a0.length*8≤2^47:=hk.1.1
 have h1:yrS (yNo a0)=some (.inl (yBS (yao a0))) :=
  zkx (step:=ydD) a0 0 (fun i s=>yql a0 s i) xw (fun _ _=>True) (fun s=> .inl (yBS s)) (fun i s hi _=>⟨by
   simp only[ydD,yql,yqW,zky (show(i:Int)<a0.length by omega),cond_true,wq ((i:Int)+1) (by omega) (by omega),Int.natCast_add,Int.natCast_one,Int.toNat_natCast,zkR hi,zkS]; rfl,trivial⟩) (fun s _=>by simp only[ydD,yql,yqW,zk3 (Int.le_refl _),cond_false]) 0 trivial _ (by show _<18446744073709551616; omega)
 unfold yvJ yjm;rw[h1]; rfl
def yEJ:Con:=⟨yr9,yAH,fun x=>(fun n=>some ((n,()),())) (yjm x.1)⟩
theorem yWW:ConOk prog 230 yEJ:=(yUm).mono (fun x r hk h=>(yWH x.1 hk).trans h)
def yJh:Code:=(f210.body).getD .skip
def yJv:Env:=zkw TT [(230,yEJ)] []
theorem yFI:FrOk prog ⟨yJv,5,fun _=>none⟩ yJh:=zkA mixed yc ⟨yWW,trivial⟩
abbrev yoj:List Par:= [.rd tL]
abbrev yom:List OT:= [⟨false,tI,.fz⟩]
def yug (a0:List Int):Option (zaY yom×zak yoj) :=let r1:=yjm a0;some ((r1,()),())
theorem yGT:ConOk prog 210 ⟨yoj,yom,fun x=>yug x.1⟩:=zkI (yFI) func210 ntmps210.symm fun x=>by kernel_rfl
def yiM (a0:List Int):Int :=let r1:=yjm a0;r1
def ytU:Con:=⟨yoj,yom,fun x=>(fun n=>some ((n,()),())) (yiM x.1)⟩
theorem yIx (a0:List Int):yug a0=(fun n=>some ((n,()),())) (yiM a0):=zkV (p:=fun(n:Int)=>((n,()),())) rfl
theorem yIH:ConOk prog 210 ytU:=(yGT).mono (fun x r _ h=>(yIx x.1).trans h)
def ypo:Code:=(f170.body).getD .skip
def yxe:Env:=zkw TT [(113,ydl),(206,yi8),(209,yoq),(210,ytU),(211,ysR)] []
theorem yM1:FrOk prog ⟨yxe,61,fun _=>none⟩ ypo:=zkA mixed yc ⟨yf4,ypQ,yB4,yIH,yFd,trivial⟩
def yCO:Nat→Option Seg:=fun _=>none
def yc9:Shape:=⟨[(0,false,[.ptr 1000000000 0]),(1,false,[.int .i64]),(2,false,[.br tI]),(6,false,[.int .i64]),(7,false,[.int .i64])],[(1000000000,[.int .i64,.int .i64,.int .i64,.at 800000000,.int .i64,.int .i64,.int .i64,.int .i64,.int .i64,.at 800000001,.int .i64,.bool,.bool])],[(800000000,tM,(.pr (.ow .fz) (.pr (.ow (.pr .fz .fz)) (.pr .fz (.ow .fz))))),(800000001,tW,(.pr .fz .fz))]⟩
def yhK:Shape:=⟨[(0,false,[.ptr 1000000000 0]),(1,false,[.int .i64]),(2,false,[.br tI]),(6,false,[.int .i64]),(7,false,[.ci .i64 0])],[(1000000000,[.int .i64,.int .i64,.int .i64,.at 800000000,.int .i64,.int .i64,.int .i64,.int .i64,.int .i64,.at 800000001,.int .i64,.bool,.bool])],[(800000000,tM,(.pr (.ow .fz) (.pr (.ow (.pr .fz .fz)) (.pr .fz (.ow .fz))))),(800000001,tW,(.pr .fz .fz))]⟩
def yhw:Shape:=⟨[],[(1000000000,[.int .i64,.int .i64,.int .i64,.at 800000000,.int .i64,.int .i64,.int .i64,.int .i64,.int .i64,.at 800000001,.int .i64,.bool,.bool])],[(800000000,tM,(.pr (.ow .fz) (.pr (.ow (.pr .fz .fz)) (.pr .fz (.ow .fz))))),(800000001,tW,(.pr .fz .fz))]⟩
def ylV:Shape:=⟨[],[],[]⟩
abbrev yqn (v0:Int) (v1:List Int) (v2 v3:Int) (v4:dA):(yc9).X:=((((),()),(v0,()),(v1,()),(v2,()),(v3,()),()),((v4.1,v4.2.1.1,v4.2.1.2,(),v4.2.2.2.1,v4.2.2.2.2.1,v4.2.2.2.2.2.1,v4.2.2.2.2.2.2.1,v4.2.2.2.2.2.2.2.1,(),v4.2.2.2.2.2.2.2.2.2.1,v4.2.2.2.2.2.2.2.2.2.2.1,v4.2.2.2.2.2.2.2.2.2.2.2,()),()),(v4.2.2.1,v4.2.2.2.2.2.2.2.2.1,()))
abbrev yNq (v0:Int) (v1:List Int) (v2:Int) (v3:dA):(yhK).X:=((((),()),(v0,()),(v1,()),(v2,()),((),()),()),((v3.1,v3.2.1.1,v3.2.1.2,(),v3.2.2.2.1,v3.2.2.2.2.1,v3.2.2.2.2.2.1,v3.2.2.2.2.2.2.1,v3.2.2.2.2.2.2.2.1,(),v3.2.2.2.2.2.2.2.2.2.1,v3.2.2.2.2.2.2.2.2.2.2.1,v3.2.2.2.2.2.2.2.2.2.2.2,()),()),(v3.2.2.1,v3.2.2.2.2.2.2.2.2.1,()))
abbrev yBT (v0:dA):(yhw).X:=((),((v0.1,v0.2.1.1,v0.2.1.2,(),v0.2.2.2.1,v0.2.2.2.2.1,v0.2.2.2.2.2.1,v0.2.2.2.2.2.2.1,v0.2.2.2.2.2.2.2.1,(),v0.2.2.2.2.2.2.2.2.2.1,v0.2.2.2.2.2.2.2.2.2.2.1,v0.2.2.2.2.2.2.2.2.2.2.2,()),()),(v0.2.2.1,v0.2.2.2.2.2.2.2.2.1,()))
def yqY (v0:Int) (v1:List Int) (v2 v3 v4 v5 v6 v7 v8 v9 v10 v11 v12:Int) (v13 v14:Bool) (v15:List dM) (v16:List dW):Option ((yc9).X ⊕ ((yhw).X ⊕ (ylV).X)) :=bif(ltb v3 (v15.length:Int))then let r9:=yiM v1;bif(v3 !=v2)then bif(v5 !=0)then bif(inb ((i64.wrap ((i64.wrap ((i64.wrap (v3-v2))-1))+v5)).tmod v5) v1.length)then let r10:=ydL (v4,(v5,v6),v15,v7,v8,v9,v10,v11,v16,v12,v13,v14) v3 v0;bif r10 then let r11:=yaH v0;bnd (yeL (v4,(v5,v6),v15,v7,v8,v9,v10,v11,v16,v12,v13,v14) v3 r11 ([(nth v1 ((i64.wrap ((i64.wrap ((i64.wrap (v3-v2))-1))+v5)).tmod v5) 0)]:List Int)) fun r12 =>some (.inl ((((),()),(v0,()),(v1,()),(v2,()),((i64.wrap (v3+1)),()),()),((r12.2.1.1,r12.2.1.2.1.1,r12.2.1.2.1.2,(),r12.2.1.2.2.2.1,r12.2.1.2.2.2.2.1,r12.2.1.2.2.2.2.2.1,r12.2.1.2.2.2.2.2.2.1,r12.2.1.2.2.2.2.2.2.2.1,(),r12.2.1.2.2.2.2.2.2.2.2.2.1,r12.2.1.2.2.2.2.2.2.2.2.2.2.1,r12.2.1.2.2.2.2.2.2.2.2.2.2.2,()),()),(r12.2.1.2.2.1,r12.2.1.2.2.2.2.2.2.2.2.1,()))) else some (.inl ((((),()),(v0,()),(v1,()),(v2,()),((i64.wrap (v3+1)),()),()),((v4,v5,v6,(),v7,v8,v9,v10,v11,(),v12,v13,v14,()),()),(v15,v16,()))) else none else none else let r13:=ydL (v4,(v5,v6),v15,v7,v8,v9,v10,v11,v16,v12,v13,v14) v3 v0;bif r13 then let r14:=yaH v0;bnd (yeL (v4,(v5,v6),v15,v7,v8,v9,v10,v11,v16,v12,v13,v14) v3 r14 ([r9]:List Int)) fun r15 =>some (.inl ((((),()),(v0,()),(v1,()),(v2,()),((i64.wrap (v3+1)),()),()),((r15.2.1.1,r15.2.1.2.1.1,r15.2.1.2.1.2,(),r15.2.1.2.2.2.1,r15.2.1.2.2.2.2.1,r15.2.1.2.2.2.2.2.1,r15.2.1.2.2.2.2.2.2.1,r15.2.1.2.2.2.2.2.2.2.1,(),r15.2.1.2.2.2.2.2.2.2.2.2.1,r15.2.1.2.2.2.2.2.2.2.2.2.2.1,r15.2.1.2.2.2.2.2.2.2.2.2.2.2,()),()),(r15.2.1.2.2.1,r15.2.1.2.2.2.2.2.2.2.2.1,()))) else some (.inl ((((),()),(v0,()),(v1,()),(v2,()),((i64.wrap (v3+1)),()),()),((v4,v5,v6,(),v7,v8,v9,v10,v11,(),v12,v13,v14,()),()),(v15,v16,()))) else some (.inr (.inl ((),((v4,v5,v6,(),v7,v8,v9,v10,v11,(),v12,v13,v14,()),()),(v15,v16,()))))
def ydF (x:(yc9).X):=yqY x.1.2.1.1 x.1.2.2.1.1 x.1.2.2.2.1.1 x.1.2.2.2.2.1.1 x.2.1.1.1 x.2.1.1.2.1 x.2.1.1.2.2.1 x.2.1.1.2.2.2.2.1 x.2.1.1.2.2.2.2.2.1 x.2.1.1.2.2.2.2.2.2.1 x.2.1.1.2.2.2.2.2.2.2.1 x.2.1.1.2.2.2.2.2.2.2.2.1 x.2.1.1.2.2.2.2.2.2.2.2.2.2.1 x.2.1.1.2.2.2.2.2.2.2.2.2.2.2.1 x.2.1.1.2.2.2.2.2.2.2.2.2.2.2.2.1 x.2.2.1 x.2.2.2.1
def yBv (x:(yhK).X):(yc9).X:=((((),()),(x.1.2.1.1,()),(x.1.2.2.1.1,()),(x.1.2.2.2.1.1,()),(0,()),()),((x.2.1.1.1,x.2.1.1.2.1,x.2.1.1.2.2.1,(),x.2.1.1.2.2.2.2.1,x.2.1.1.2.2.2.2.2.1,x.2.1.1.2.2.2.2.2.2.1,x.2.1.1.2.2.2.2.2.2.2.1,x.2.1.1.2.2.2.2.2.2.2.2.1,(),x.2.1.1.2.2.2.2.2.2.2.2.2.2.1,x.2.1.1.2.2.2.2.2.2.2.2.2.2.2.1,x.2.1.1.2.2.2.2.2.2.2.2.2.2.2.2.1,()),()),(x.2.2.1,x.2.2.2.1,()))
def yC2:Code:=(zd7 ypo 64 28).getD .skip
theorem yPN:zd7 ypo 64 7=some (.block 0 (.loop yC2)):=by kernel_rfl
theorem ySr (x:(yc9).X):zhu ⟨yxe,61,yCO⟩ 0 yC2 28 yc9 yhw ylV x=ydF x:=by kernel_rfl
def yBK (x:(yhK).X):Nat:=18446744073709551616
def yrV (x:(yhK).X):Option ((yhw).X ⊕ (ylV).X):=zF ydF (yBK x) (yBv x)
def yCv:Seg:=⟨yhK,yhw,ylV,yrV⟩
def yPl:Nat→Option Seg:=fun q=>bif Nat.beq q 7 then some yCv else yCO q
theorem yM2:FrOk prog ⟨yxe,61,yPl⟩ ypo:=(yM1).loop (sg:=yCv) yc9 yBv (by decide) yPN ydF yBK (by decide) (fun _=>rfl) (fun x r _ h=>h) ySr
abbrev yks:List Par:= [.pt tA (.pr .fz (.pr (.pr .fz .fz) (.pr (.ow (.pr (.ow .fz) (.pr (.ow (.pr .fz .fz)) (.pr .fz (.ow .fz))))) (.pr .fz (.pr .fz (.pr .fz (.pr .fz (.pr .fz (.pr (.ow (.pr .fz .fz)) (.pr .fz (.pr .fz .fz))))))))))),.rd tI,.rd tL]
abbrev ypH:List OT:= []
def ytB (a0:dA) (a1:Int) (a2:List Int):Option (zaY ypH×zak yks) :=let r1:=ydp a0.2.1 a1;zkt (yrV ((((),()),(a1,()),(a2,()),(r1,()),((),()),()),((a0.1,a0.2.1.1,a0.2.1.2,(),a0.2.2.2.1,a0.2.2.2.2.1,a0.2.2.2.2.2.1,a0.2.2.2.2.2.2.1,a0.2.2.2.2.2.2.2.1,(),a0.2.2.2.2.2.2.2.2.2.1,a0.2.2.2.2.2.2.2.2.2.2.1,a0.2.2.2.2.2.2.2.2.2.2.2,()),()),(a0.2.2.1,a0.2.2.2.2.2.2.2.2.1,()))) (fun y15 =>some ((),((y15.2.1.1.1,(y15.2.1.1.2.1,y15.2.1.1.2.2.1),y15.2.2.1,y15.2.1.1.2.2.2.2.1,y15.2.1.1.2.2.2.2.2.1,y15.2.1.1.2.2.2.2.2.2.1,y15.2.1.1.2.2.2.2.2.2.2.1,y15.2.1.1.2.2.2.2.2.2.2.2.1,y15.2.2.2.1,y15.2.1.1.2.2.2.2.2.2.2.2.2.2.1,y15.2.1.1.2.2.2.2.2.2.2.2.2.2.2.1,y15.2.1.1.2.2.2.2.2.2.2.2.2.2.2.2.1),()))) (fun y15 =>none)
theorem yRP:ConOk prog 170 ⟨yks,ypH,fun x=>ytB x.1 x.2.1 x.2.2.1⟩:=zkI (yM2) func170 ntmps170.symm fun x=>by kernel_rfl
def ypL (a0:dA) (a1:Int) (a2:List Int):dA:=yK a0 a1 a2
def ykO (a0:dA) (a1:Int) (a2:List Int):Bool:=yX a0.2.1 a1&&((a2.length:Int)==a0.2.1.1-1&&(a0.2.2.1.length:Int)==a0.2.1.1)
theorem yT5 (a0:dA) (a1:Int) (a2:List Int) (hk:zjx yks (a0,a1,a2,())) (hq:ykO a0 a1 a2=true):ytB a0 a1 a2=(fun n=>some ((),(n,()))) (ypL a0 a1 a2):=by
 simp only[ykO,Bool.and_eq_true,beq_iff_eq]at hq;have hg:=yk.1 (yaq.1 hq.1).1;have hp:=yjH hq.1
 have h1:yrV (yNq a1 a2 (yg a0.2.1 a1) a0)=some (.inl (yBT (yK a0 a1 a2))) :=
  zkD (step:=ydF) a0.2.2.1.length (fun i s=>yqn a1 a2 (yg a0.2.1 a1) i s) (ya6 (yg a0.2.1 a1) a0.2.1.1 a1 a2) (fun _ s=>s.2.2.1.length=a0.2.2.1.length∧s.2.1=a0.2.1) (fun s=> .inl (yBT s)) (fun i s hi hs=>⟨by
   have hN:s.2.1.1=a0.2.1.1:=by rw[hs.2]
   simp only[ydF,yqn,yqY,hs.1,zky (show(i:Int)<a0.2.2.1.length by omega),cond_true,wq ((i:Int)+1) (by omega) (by omega),Int.natCast_add,Int.natCast_one,Int.toNat_natCast,zkX,yjm,yiM,ydL,yed,ya6,ycY];rw[← hN];by_cases he:(i:Int)=yg a0.2.1 a1
   ·rw[show((i:Int) !=yg a0.2.1 a1)=false by simp[he],show((i:Int)==yg a0.2.1 a1)=true from beq_iff_eq.2 he]
    rw[ykM s i (yQ a1) [yao a2] (zkR (by rw[hs.1]; exact hi))];cases ycf s i a1<;>rfl
   ·have hd:=y1I (N:=s.2.1.1) (i:=i) (p:=yg a0.2.1 a1) ⟨by omega,by omega⟩ ⟨by omega,by omega⟩ ⟨hp.1,by omega⟩ he
    rw[show((i:Int) !=yg a0.2.1 a1)=true from bne_iff_ne.2 he,show((i:Int)==yg a0.2.1 a1)=false from beq_eq_false_iff_ne.2 he,show(s.2.1.1 !=0)=true from bne_iff_ne.2 (by omega),
     wq ((i:Int)-yg a0.2.1 a1) (by omega) (by omega),wq ((i:Int)-yg a0.2.1 a1-1) (by omega) (by omega),wq ((i:Int)-yg a0.2.1 a1-1+s.2.1.1) (by omega) (by omega),zj6.2 (show 0≤((i:Int)-yg a0.2.1 a1-1+s.2.1.1).tmod s.2.1.1∧((i:Int)-yg a0.2.1 a1-1+s.2.1.1).tmod s.2.1.1<a2.length by omega)]
    rw[ykM s i (yQ a1) [nth a2 (((i:Int)-yg a0.2.1 a1-1+s.2.1.1).tmod s.2.1.1) 0] (zkR (by rw[hs.1]; exact hi))]
    cases ycf s i a1<;>rfl,(yvT _ _ _ _ s i).trans hs.1,(yau (yHn _ _ _ _ s i)).trans hs.2⟩) (fun s hs=>by simp only[ydF,yqn,yqY,hs.1,zk3 (Int.le_refl _),cond_false]) a0 ⟨rfl,rfl⟩ _ (by show _<18446744073709551616; omega)
 unfold ytB ypL ydp;exact(congrArg (fun z=>zkt z _ _) h1).trans rfl
def yg8 (a0:dA) (a1:Int) (a2:List Int):Option (zaY ypH×zak yks):=bif ykO a0 a1 a2 then(fun n=>some ((),(n,()))) (ypL a0 a1 a2)else none
theorem yUU (a0:dA) (a1:Int) (a2:List Int) (h:ykO a0 a1 a2=true):yg8 a0 a1 a2=(fun n=>some ((),(n,()))) (ypL a0 a1 a2):=by unfold yg8; rw[h]; rfl
def yDp:Con:=⟨yks,ypH,fun x=>yg8 x.1 x.2.1 x.2.2.1⟩
theorem yUP:ConOk prog 170 yDp:=(yRP).mono (fun x r hk h=>zkY h (fun hq=>yT5 x.1 x.2.1 x.2.2.1 hk hq))
def ySP:Code:=(f171.body).getD .skip
def yTj:Env:=zkw TT [(174,yl6),(208,yl7)] []
theorem yKq:FrOk prog ⟨yTj,17,fun _=>none⟩ ySP:=zkA mixed yc ⟨yvw,yvx,trivial⟩
abbrev yuP:List Par:= [.pt tA (.pr .fz (.pr (.pr .fz .fz) (.pr (.ow (.pr (.ow .fz) (.pr (.ow (.pr .fz .fz)) (.pr .fz (.ow .fz))))) (.pr .fz (.pr .fz (.pr .fz (.pr .fz (.pr .fz (.pr (.ow (.pr .fz .fz)) (.pr .fz (.pr .fz .fz)))))))))))]
abbrev yvd:List OT:= []
def yCj (a0:dA):Option (zaY yvd×zak yuP) :=let r1:=ydO a0;bif r1.2.2.2.2.2.2.2.2.2.2.1 then some ((),(r1,())) else let r2:=yaI (r1.1,r1.2.1,r1.2.2.1,r1.2.2.2.1,r1.2.2.2.2.1,r1.2.2.2.2.2.1,r1.2.2.2.2.2.1,r1.2.2.2.2.2.2.2);some ((),(r2,()))
theorem yOs:ConOk prog 171 ⟨yuP,yvd,fun x=>yCj x.1⟩:=zkI (yKq) func171 ntmps171.symm fun x=>by kernel_rfl
def yf3 (a0:dA):dA :=let r1:=ydO a0;bif r1.2.2.2.2.2.2.2.2.2.2.1 then r1 else let r2:=yaI (r1.1,r1.2.1,r1.2.2.1,r1.2.2.2.1,r1.2.2.2.2.1,r1.2.2.2.2.2.1,r1.2.2.2.2.2.1,r1.2.2.2.2.2.2.2);r2
def yqc:Con:=⟨yuP,yvd,fun x=>(fun n=>some ((),(n,()))) (yf3 x.1)⟩
theorem yRc (a0:dA):yCj a0=(fun n=>some ((),(n,()))) (yf3 a0):=zkV (p:=fun(n:dA)=>((),(n,()))) (zkG (p:=fun(n:dA)=>((),(n,()))) rfl rfl)
theorem yDH:ConOk prog 171 yqc:=(yOs).mono (fun x r _ h=>(yRc x.1).trans h)
theorem yGj (a:dA):yf3 a=yab a:=by
 unfold yf3 yab ydO yaI;show(bif yb (yy a)then yy a else yaa (ydq (yy a)))=_;rfl
def ySQ:Code:=(f217.body).getD .skip
def yTk:Env:=zkw TT [(169,yEN),(170,yDp),(171,yqc)] []
theorem yKr:FrOk prog ⟨yTk,54,fun _=>none⟩ ySQ:=zkA mixed yc ⟨yW0,yUP,yDH,trivial⟩
abbrev yiY:List Par:= [.pt tA (.pr .fz (.pr (.pr .fz .fz) (.pr (.ow (.pr (.ow .fz) (.pr (.ow (.pr .fz .fz)) (.pr .fz (.ow .fz))))) (.pr .fz (.pr .fz (.pr .fz (.pr .fz (.pr .fz (.pr (.ow (.pr .fz .fz)) (.pr .fz (.pr .fz .fz))))))))))),.rd tI,.rd tL]
abbrev ynL:List OT:= [⟨false,tI,.fz⟩]
def yqN (a0:dA) (a1:Int) (a2:List Int):Option (zaY ynL×zak yiY) :=bif(leb 4 (i64.wrap (a0.2.2.2.2.2.1-a0.2.2.2.2.2.2.1)))then let r1:=yf3 a0;bif r1.2.2.2.2.2.2.2.2.2.2.1 then some ((6,()),(r1,())) else bif(zkl ([]:List Int).length a2.length 8)then let r2:=yjp r1 (r1.2.2.2.2.2.1,a1,(([]:List Int)++a2));bif r2.2.2.2.2.2.2.2.2.2.2.1 then some ((6,()),(r2,())) else bnd (yg8 (r2.1,r2.2.1,r2.2.2.1,r2.2.2.2.1,r2.2.2.2.2.1,(i64.wrap (r2.2.2.2.2.2.1+1)),r2.2.2.2.2.2.2) a1 a2) fun r3 =>bif r3.2.1.2.2.2.2.2.2.2.2.2.2.1 then some ((6,()),(r3.2.1,())) else some ((0,()),(r3.2.1,())) else none else bif a0.2.2.2.2.2.2.2.2.2.2.1 then some ((6,()),(a0,())) else bif(zkl ([]:List Int).length a2.length 8)then let r4:=yjp a0 (a0.2.2.2.2.2.1,a1,(([]:List Int)++a2));bif r4.2.2.2.2.2.2.2.2.2.2.1 then some ((6,()),(r4,())) else bnd (yg8 (r4.1,r4.2.1,r4.2.2.1,r4.2.2.2.1,r4.2.2.2.2.1,(i64.wrap (r4.2.2.2.2.2.1+1)),r4.2.2.2.2.2.2) a1 a2) fun r5 =>bif r5.2.1.2.2.2.2.2.2.2.2.2.2.1 then some ((6,()),(r5.2.1,())) else some ((0,()),(r5.2.1,())) else none
theorem yOt:ConOk prog 217 ⟨yiY,ynL,fun x=>yqN x.1 x.2.1 x.2.2.1⟩:=zkI (yKr) func217 ntmps217.symm fun x=>by kernel_rfl
def yjq (a0:dA) (a1:Int) (a2:List Int):Int×dA:=yah a0 a1 a2
def yjx (a0:dA) (a1:Int) (a2:List Int):Bool:=yX a0.2.1 a1&&((a2.length:Int)==a0.2.1.1-1&&(a0.2.2.1.length:Int)==a0.2.1.1)
theorem yRd (a0:dA) (a1:Int) (a2:List Int) (hk:zjx yiY (a0,a1,a2,())) (hq:yjx a0 a1 a2=true):yqN a0 a1 a2=(fun n=>some ((n.1,()),(n.2,()))) (yjq a0 a1 a2):=by
 have hq':=hq;simp only[yjx,Bool.and_eq_true,beq_iff_eq]at hq;have hg:=yk.1 (yaq.1 hq.1).1;have hap:zkl ([]:List Int).length a2.length 8=true:=zkF.2 (by simp only[List.length_nil]; omega)
 have key: ∀b:dA,b.2.1=a0.2.1→b.2.2.1.length=a0.2.2.1.length→yg8 (yan (yU b (b.2.2.2.2.2.1,a1,a2))) a1 a2=some ((),(yK (yan (yU b (b.2.2.2.2.2.1,a1,a2))) a1 a2,())):=fun b h1 h2=>yUU _ _ _ (by
  unfold ykO;rw[show(yan (yU b (b.2.2.2.2.2.1,a1,a2))).2.1=a0.2.1 from(yau (ygN _ _)).trans h1,show(yan (yU b (b.2.2.2.2.2.1,a1,a2))).2.2.1.length=a0.2.2.1.length from(yYQ _ _).trans h2]
  exact hq')
 unfold yqN yjq yah yF;simp only[yGj,yjp,List.nil_append,hap,cond_true];cases leb 4 (i64.wrap (a0.2.2.2.2.2.1-a0.2.2.2.2.2.2.1))
 ·have hd:=key a0 rfl rfl
  simp only[cond_false];generalize yU a0 (a0.2.2.2.2.2.1,a1,a2)=R at hd ⊢;generalize yK (yan R) a1 a2=Q at hd ⊢;unfold yan at hd;simp only[cond_false,hd,zkH];unfold yb;cases a0.2.2.2.2.2.2.2.2.2.2.1
  ·cases R.2.2.2.2.2.2.2.2.2.2.1
   ·cases Q.2.2.2.2.2.2.2.2.2.2.1<;>rfl
   ·rfl
  ·rfl
 ·have hd:=key (yab a0) (yHl a0) (yU3 a0)
  simp only[cond_true];generalize yab a0=C at hd ⊢;generalize yU C (C.2.2.2.2.2.1,a1,a2)=R at hd ⊢;generalize yK (yan R) a1 a2=Q at hd ⊢;unfold yan at hd;simp only[cond_true,hd,zkH];unfold yb;cases C.2.2.2.2.2.2.2.2.2.2.1
  ·cases R.2.2.2.2.2.2.2.2.2.2.1
   ·cases Q.2.2.2.2.2.2.2.2.2.2.1<;>rfl
   ·rfl
  ·rfl
def ynZ (a0:dA) (a1:Int) (a2:List Int):Option (zaY ynL×zak yiY):=bif yjx a0 a1 a2 then(fun n=>some ((n.1,()),(n.2,()))) (yjq a0 a1 a2)else none
theorem ySg (a0:dA) (a1:Int) (a2:List Int) (h:yjx a0 a1 a2=true):ynZ a0 a1 a2=(fun n=>some ((n.1,()),(n.2,()))) (yjq a0 a1 a2):=by unfold ynZ; rw[h]; rfl
def yBi:Con:=⟨yiY,ynL,fun x=>ynZ x.1 x.2.1 x.2.2.1⟩
theorem ySb:ConOk prog 217 yBi:=(yOt).mono (fun x r hk h=>zkY h (fun hq=>yRd x.1 x.2.1 x.2.2.1 hk hq))
def ySR:Code:=(f179.body).getD .skip
def yTl:Env:=zkw TT [(215,yyc),(216,yDo),(217,yBi)] [(36928,(.pr .fz .fz))]
theorem yKs:FrOk prog ⟨yTl,63,fun _=>none⟩ ySR:=zkA mixed yc ⟨yIJ,yUO,ySb,trivial⟩
abbrev yiZ:List Par:= [.pt tA (.pr .fz (.pr (.pr .fz .fz) (.pr (.ow (.pr (.ow .fz) (.pr (.ow (.pr .fz .fz)) (.pr .fz (.ow .fz))))) (.pr .fz (.pr .fz (.pr .fz (.pr .fz (.pr .fz (.pr (.ow (.pr .fz .fz)) (.pr .fz (.pr .fz .fz))))))))))),.rd tI]
abbrev ynM:List OT:= [⟨false,tI,.fz⟩]
def yqO (a0:dA) (a1:Int):Option (zaY ynM×zak yiZ) :=let r1:=yip a0 a1;bif(ltb r1 0)then some ((0,()),(a0,())) else bif(inb r1 a0.2.2.2.2.2.2.2.2.1.length)then let r2:=yE a0 a1 ((nth a0.2.2.2.2.2.2.2.2.1 r1 (0,[])).2);bif(r2 !=0)then some ((r2,()),(a0,())) else bif(inb r1 a0.2.2.2.2.2.2.2.2.1.length)then bnd (ynZ a0 a1 ((nth a0.2.2.2.2.2.2.2.2.1 r1 (0,[])).2)) fun r3 =>bif(r3.1.1==0)then bif(zj0 0 r1 r3.2.1.2.2.2.2.2.2.2.2.1.length)then bif(zkl ([]:List dW).length ((r3.2.1.2.2.2.2.2.2.2.2.1.drop (0:Int).toNat).take (r1-0).toNat).length 32)then bif(zj0 (i64.wrap (r1+1)) (r3.2.1.2.2.2.2.2.2.2.2.1.length:Int) r3.2.1.2.2.2.2.2.2.2.2.1.length)then bif(zkl (([]:List dW)++((r3.2.1.2.2.2.2.2.2.2.2.1.drop (0:Int).toNat).take (r1-0).toNat)).length ((r3.2.1.2.2.2.2.2.2.2.2.1.drop ((i64.wrap (r1+1))).toNat).take ((r3.2.1.2.2.2.2.2.2.2.2.1.length:Int)-(i64.wrap (r1+1))).toNat).length 32)then some ((r3.1.1,()),((r3.2.1.1,r3.2.1.2.1,r3.2.1.2.2.1,r3.2.1.2.2.2.1,r3.2.1.2.2.2.2.1,r3.2.1.2.2.2.2.2.1,r3.2.1.2.2.2.2.2.2.1,r3.2.1.2.2.2.2.2.2.2.1,((([]:List dW)++((r3.2.1.2.2.2.2.2.2.2.2.1.drop (0:Int).toNat).take (r1-0).toNat))++((r3.2.1.2.2.2.2.2.2.2.2.1.drop ((i64.wrap (r1+1))).toNat).take ((r3.2.1.2.2.2.2.2.2.2.2.1.length:Int)-(i64.wrap (r1+1))).toNat)),r3.2.1.2.2.2.2.2.2.2.2.2),())) else none else none else none else none else some ((r3.1.1,()),(r3.2.1,())) else none else none
theorem yOu:ConOk prog 179 ⟨yiZ,ynM,fun x=>yqO x.1 x.2.1⟩:=zkI (yKs) func179 ntmps179.symm fun x=>by kernel_rfl
def yjr (a0:dA) (a1:Int):Int×dA:=ya4 a0 a1
def yvC (a0:dA) (a1:Int):Bool:=decide (a0.2.2.2.2.2.2.2.2.1.length≤1000)
theorem yRe (a0:dA) (a1:Int) (hk:zjx yiZ (a0,a1,())) (hq:yvC a0 a1=true):yqO a0 a1=(fun n=>some ((n.1,()),(n.2,()))) (yjr a0 a1):=by
 have hq:=of_decide_eq_true hq;unfold yqO yjr ya4;simp only[yip];cases h0:ltb (yx a0.2.2.2.2.2.2.2.2.1 a1) 0
 ·have h1:=zkW h0
  have hi:inb (yx a0.2.2.2.2.2.2.2.2.1 a1) a0.2.2.2.2.2.2.2.2.1.length=true:=(yj4 (d:=((0:Int),([]:List Int))) (zk2 h1)).1;simp only[hi,cond_true,cond_false];generalize hD:(nth a0.2.2.2.2.2.2.2.2.1 (yx a0.2.2.2.2.2.2.2.2.1 a1) (0,[])).2=D;cases hc:(yE a0 a1 D !=0)
  ·obtain⟨ha,hl,hw,hd,hs,hb,_⟩:=yv9 (bne_eq_false_iff_eq.1 hc)
   rw[ySg a0 a1 D (by unfold yjx; rw[hs,hl,yHk ha]; simp)];simp only[zkH,cond_false,yjq,yYC];have hk:=zj6.1 hi;cases hr:((yah a0 a1 D).1==0)
   ·rfl
   ·generalize yx a0.2.2.2.2.2.2.2.2.1 a1=K at h1 hk
    rw[wq (K+1) (by omega) (by omega),zkz.2 (show(0:Int)≤0∧0≤K∧K≤(a0.2.2.2.2.2.2.2.2.1.length:Int)by omega),zkz.2 (show 0≤K+1∧K+1≤(a0.2.2.2.2.2.2.2.2.1.length:Int)∧(a0.2.2.2.2.2.2.2.2.1.length:Int)≤(a0.2.2.2.2.2.2.2.2.1.length:Int)by omega),
     zkF.2 (by rw[List.length_take,List.length_drop,List.length_nil]; omega),zkF.2 (by rw[List.length_append,List.length_take,List.length_take,List.length_drop,List.length_drop,List.length_nil]; omega),yZw h1 hk.2]
    rw[beq_iff_eq.1 hr]; rfl
  ·rfl
 ·rfl
def ycN (a0:dA) (a1:Int):Option (zaY ynM×zak yiZ):=bif yvC a0 a1 then(fun n=>some ((n.1,()),(n.2,()))) (yjr a0 a1)else none
theorem yDK (a0:dA) (a1:Int) (h:yvC a0 a1=true):ycN a0 a1=(fun n=>some ((n.1,()),(n.2,()))) (yjr a0 a1):=by unfold ycN; rw[h]; rfl
def yqd:Con:=⟨yiZ,ynM,fun x=>ycN x.1 x.2.1⟩
theorem yDI:ConOk prog 179 yqd:=(yOu).mono (fun x r hk h=>zkY h (fun hq=>yRe x.1 x.2.1 hk hq))
def yrv:Code:=(f117.body).getD .skip
def yAj:Env:=zkw TT [(179,yqd)] []
theorem yQv:FrOk prog ⟨yAj,22,fun _=>none⟩ yrv:=zkA mixed yc ⟨yDI,trivial⟩
def yEv:Nat→Option Seg:=fun _=>none
def yd5:Shape:=⟨[(0,false,[.ptr 1000000000 0])],[(1000000000,[.int .i64,.int .i64,.int .i64,.at 800000000,.int .i64,.int .i64,.int .i64,.int .i64,.int .i64,.at 800000001,.int .i64,.bool,.bool])],[(800000000,tM,(.pr (.ow .fz) (.pr (.ow (.pr .fz .fz)) (.pr .fz (.ow .fz))))),(800000001,tW,(.pr .fz .fz))]⟩
def yi2:Shape:=⟨[(0,false,[.ptr 1000000000 0])],[(1000000000,[.int .i64,.int .i64,.int .i64,.at 800000000,.int .i64,.int .i64,.int .i64,.int .i64,.int .i64,.at 800000001,.int .i64,.bool,.bool])],[(800000000,tM,(.pr (.ow .fz) (.pr (.ow (.pr .fz .fz)) (.pr .fz (.ow .fz))))),(800000001,tW,(.pr .fz .fz))]⟩
def yi0:Shape:=⟨[],[(1000000000,[.int .i64,.int .i64,.int .i64,.at 800000000,.int .i64,.int .i64,.int .i64,.int .i64,.int .i64,.at 800000001,.int .i64,.bool,.bool])],[(800000000,tM,(.pr (.ow .fz) (.pr (.ow (.pr .fz .fz)) (.pr .fz (.ow .fz))))),(800000001,tW,(.pr .fz .fz))]⟩
def yi5:Shape:=⟨[(2,false,[.int .i64])],[(1000000000,[.int .i64,.int .i64,.int .i64,.at 800000000,.int .i64,.int .i64,.int .i64,.int .i64,.int .i64,.at 800000001,.int .i64,.bool,.bool])],[(800000000,tM,(.pr (.ow .fz) (.pr (.ow (.pr .fz .fz)) (.pr .fz (.ow .fz))))),(800000001,tW,(.pr .fz .fz))]⟩
abbrev ys8 (v0:dA):(yd5).X:=((((),()),()),((v0.1,v0.2.1.1,v0.2.1.2,(),v0.2.2.2.1,v0.2.2.2.2.1,v0.2.2.2.2.2.1,v0.2.2.2.2.2.2.1,v0.2.2.2.2.2.2.2.1,(),v0.2.2.2.2.2.2.2.2.2.1,v0.2.2.2.2.2.2.2.2.2.2.1,v0.2.2.2.2.2.2.2.2.2.2.2,()),()),(v0.2.2.1,v0.2.2.2.2.2.2.2.2.1,()))
abbrev yQI (v0:dA):(yi2).X:=((((),()),()),((v0.1,v0.2.1.1,v0.2.1.2,(),v0.2.2.2.1,v0.2.2.2.2.1,v0.2.2.2.2.2.1,v0.2.2.2.2.2.2.1,v0.2.2.2.2.2.2.2.1,(),v0.2.2.2.2.2.2.2.2.2.1,v0.2.2.2.2.2.2.2.2.2.2.1,v0.2.2.2.2.2.2.2.2.2.2.2,()),()),(v0.2.2.1,v0.2.2.2.2.2.2.2.2.1,()))
abbrev yQG (v0:dA):(yi0).X:=((),((v0.1,v0.2.1.1,v0.2.1.2,(),v0.2.2.2.1,v0.2.2.2.2.1,v0.2.2.2.2.2.1,v0.2.2.2.2.2.2.1,v0.2.2.2.2.2.2.2.1,(),v0.2.2.2.2.2.2.2.2.2.1,v0.2.2.2.2.2.2.2.2.2.2.1,v0.2.2.2.2.2.2.2.2.2.2.2,()),()),(v0.2.2.1,v0.2.2.2.2.2.2.2.2.1,()))
abbrev yQK (v0:Int) (v1:dA):(yi5).X:=(((v0,()),()),((v1.1,v1.2.1.1,v1.2.1.2,(),v1.2.2.2.1,v1.2.2.2.2.1,v1.2.2.2.2.2.1,v1.2.2.2.2.2.2.1,v1.2.2.2.2.2.2.2.1,(),v1.2.2.2.2.2.2.2.2.2.1,v1.2.2.2.2.2.2.2.2.2.2.1,v1.2.2.2.2.2.2.2.2.2.2.2,()),()),(v1.2.2.1,v1.2.2.2.2.2.2.2.2.1,()))
def ytJ (v0 v1 v2 v3 v4 v5 v6 v7 v8:Int) (v9 v10:Bool) (v11:List dM) (v12:List dW):Option ((yd5).X ⊕ ((yi0).X ⊕ (yi5).X)) :=bif(ltb 0 (v12.length:Int))then bif(inb 0 v12.length)then bnd (ycN (v0,(v1,v2),v11,v3,v4,v5,v6,v7,v12,v8,v9,v10) ((nth v12 0 (0,[])).1)) fun r2 =>bif(r2.1.1 !=0)then some (.inr (.inr (((r2.1.1,()),()),((r2.2.1.1,r2.2.1.2.1.1,r2.2.1.2.1.2,(),r2.2.1.2.2.2.1,r2.2.1.2.2.2.2.1,r2.2.1.2.2.2.2.2.1,r2.2.1.2.2.2.2.2.2.1,r2.2.1.2.2.2.2.2.2.2.1,(),r2.2.1.2.2.2.2.2.2.2.2.2.1,r2.2.1.2.2.2.2.2.2.2.2.2.2.1,r2.2.1.2.2.2.2.2.2.2.2.2.2.2,()),()),(r2.2.1.2.2.1,r2.2.1.2.2.2.2.2.2.2.2.1,())))) else some (.inl ((((),()),()),((r2.2.1.1,r2.2.1.2.1.1,r2.2.1.2.1.2,(),r2.2.1.2.2.2.1,r2.2.1.2.2.2.2.1,r2.2.1.2.2.2.2.2.1,r2.2.1.2.2.2.2.2.2.1,r2.2.1.2.2.2.2.2.2.2.1,(),r2.2.1.2.2.2.2.2.2.2.2.2.1,r2.2.1.2.2.2.2.2.2.2.2.2.2.1,r2.2.1.2.2.2.2.2.2.2.2.2.2.2,()),()),(r2.2.1.2.2.1,r2.2.1.2.2.2.2.2.2.2.2.1,()))) else none else some (.inr (.inl ((),((v0,v1,v2,(),v3,v4,v5,v6,v7,(),v8,v9,v10,()),()),(v11,v12,()))))
def yee (x:(yd5).X):=ytJ x.2.1.1.1 x.2.1.1.2.1 x.2.1.1.2.2.1 x.2.1.1.2.2.2.2.1 x.2.1.1.2.2.2.2.2.1 x.2.1.1.2.2.2.2.2.2.1 x.2.1.1.2.2.2.2.2.2.2.1 x.2.1.1.2.2.2.2.2.2.2.2.1 x.2.1.1.2.2.2.2.2.2.2.2.2.2.1 x.2.1.1.2.2.2.2.2.2.2.2.2.2.2.1 x.2.1.1.2.2.2.2.2.2.2.2.2.2.2.2.1 x.2.2.1 x.2.2.2.1
def yDt (x:(yi2).X):(yd5).X:=((((),()),()),((x.2.1.1.1,x.2.1.1.2.1,x.2.1.1.2.2.1,(),x.2.1.1.2.2.2.2.1,x.2.1.1.2.2.2.2.2.1,x.2.1.1.2.2.2.2.2.2.1,x.2.1.1.2.2.2.2.2.2.2.1,x.2.1.1.2.2.2.2.2.2.2.2.1,(),x.2.1.1.2.2.2.2.2.2.2.2.2.2.1,x.2.1.1.2.2.2.2.2.2.2.2.2.2.2.1,x.2.1.1.2.2.2.2.2.2.2.2.2.2.2.2.1,()),()),(x.2.2.1,x.2.2.2.1,()))
def yEC:Code:=(zd7 yrv 64 24).getD .skip
theorem yTm:zd7 yrv 64 6=some (.block 0 (.loop yEC)):=by kernel_rfl
theorem yUV (x:(yd5).X):zhu ⟨yAj,22,yEv⟩ 0 yEC 24 yd5 yi0 yi5 x=yee x:=by kernel_rfl
def yDx (x:(yi2).X):Nat:=18446744073709551616
def yuD (x:(yi2).X):Option ((yi0).X ⊕ (yi5).X):=zF yee (yDx x) (yDt x)
def yD2:Seg:=⟨yi2,yi0,yi5,yuD⟩
def yS1:Nat→Option Seg:=fun q=>bif Nat.beq q 6 then some yD2 else yEv q
theorem yQw:FrOk prog ⟨yAj,22,yS1⟩ yrv:=(yQv).loop (sg:=yD2) yd5 yDt (by decide) yTm yee yDx (by decide) (fun _=>rfl) (fun x r _ h=>h) yUV
abbrev ymu:List Par:= [.pt tA (.pr .fz (.pr (.pr .fz .fz) (.pr (.ow (.pr (.ow .fz) (.pr (.ow (.pr .fz .fz)) (.pr .fz (.ow .fz))))) (.pr .fz (.pr .fz (.pr .fz (.pr .fz (.pr .fz (.pr (.ow (.pr .fz .fz)) (.pr .fz (.pr .fz .fz)))))))))))]
abbrev ysA:List OT:= [⟨false,tI,.fz⟩]
def yvN (a0:dA):Option (zaY ysA×zak ymu) :=zkt (yuD ((((),()),()),((a0.1,a0.2.1.1,a0.2.1.2,(),a0.2.2.2.1,a0.2.2.2.2.1,a0.2.2.2.2.2.1,a0.2.2.2.2.2.2.1,a0.2.2.2.2.2.2.2.1,(),a0.2.2.2.2.2.2.2.2.2.1,a0.2.2.2.2.2.2.2.2.2.2.1,a0.2.2.2.2.2.2.2.2.2.2.2,()),()),(a0.2.2.1,a0.2.2.2.2.2.2.2.2.1,()))) (fun y2 =>some ((0,()),((y2.2.1.1.1,(y2.2.1.1.2.1,y2.2.1.1.2.2.1),y2.2.2.1,y2.2.1.1.2.2.2.2.1,y2.2.1.1.2.2.2.2.2.1,y2.2.1.1.2.2.2.2.2.2.1,y2.2.1.1.2.2.2.2.2.2.2.1,y2.2.1.1.2.2.2.2.2.2.2.2.1,y2.2.2.2.1,y2.2.1.1.2.2.2.2.2.2.2.2.2.2.1,y2.2.1.1.2.2.2.2.2.2.2.2.2.2.2.1,y2.2.1.1.2.2.2.2.2.2.2.2.2.2.2.2.1),()))) (fun y2 =>some ((y2.1.1.1,()),((y2.2.1.1.1,(y2.2.1.1.2.1,y2.2.1.1.2.2.1),y2.2.2.1,y2.2.1.1.2.2.2.2.1,y2.2.1.1.2.2.2.2.2.1,y2.2.1.1.2.2.2.2.2.2.1,y2.2.1.1.2.2.2.2.2.2.2.1,y2.2.1.1.2.2.2.2.2.2.2.2.1,y2.2.2.2.1,y2.2.1.1.2.2.2.2.2.2.2.2.2.2.1,y2.2.1.1.2.2.2.2.2.2.2.2.2.2.2.1,y2.2.1.1.2.2.2.2.2.2.2.2.2.2.2.2.1),())))
theorem yUt:ConOk prog 117 ⟨ymu,ysA,fun x=>yvN x.1⟩:=zkI (yQw) func117 ntmps117.symm fun x=>by kernel_rfl
def ytg (a0:dA):Int×dA:=yTo a0
def yB9 (a0:dA):Bool:=decide (a0.2.2.2.2.2.2.2.2.1.length≤1000)
theorem yWM (a0:dA) (hk:zjx ymu (a0,())) (hq:yB9 a0=true):yvN a0=(fun n=>some ((n.1,()),(n.2,()))) (ytg a0):=by
 have hq:=of_decide_eq_true hq
 have h1:=zkC (step:=yee) a0.2.2.2.2.2.2.2.2.1.length (fun _ s=>ys8 s) yve (fun i s=>s.2.2.2.2.2.2.2.2.1.length+i=a0.2.2.2.2.2.2.2.2.1.length) (fun b=>(0,b))
  (fun r=>bif r.1==0 then .inl (yQG r.2)else .inr (yQK r.1 r.2)) (fun i s hi hs=>by
   have hp:0<s.2.2.2.2.2.2.2.2.1.length:=by omega
   constructor
   ·simp only[yee,ys8,ytJ,zkX,zky (show(0:Int)<(s.2.2.2.2.2.2.2.2.1.length:Int)by omega),cond_true,show inb 0 s.2.2.2.2.2.2.2.2.1.length=true from zkR (i:=0) hp]
    rw[yDK s (nth s.2.2.2.2.2.2.2.2.1 0 (0,[])).1 (decide_eq_true (show s.2.2.2.2.2.2.2.2.1.length≤1000 by omega))];simp only[zkH,yjr];unfold yve;generalize ya4 s (nth s.2.2.2.2.2.2.2.2.1 0 (0,[])).1=R;cases hr:(R.1 !=0)
    ·rfl
    ·simp only[cond_true]
     rw[show(R.1==0)=false from beq_eq_false_iff_ne.2 (bne_iff_ne.1 hr)]; rfl
   ·intro s' h
    unfold yve at h;cases hr:((ya4 s (nth s.2.2.2.2.2.2.2.2.1 0 (0,[])).1).1 !=0)
    ·rw[hr]at h
     simp only[cond_false,Sum.inl.injEq]at h;rw[← h,yY8 hp (bne_eq_false_iff_eq.1 hr),List.length_drop]; omega
    ·rw[hr]at h; cases h) (fun s hs=>by
   simp only[yee,ys8,ytJ,show ltb 0 (s.2.2.2.2.2.2.2.2.1.length:Int)=false from zk3 (by omega)]; rfl) a0 rfl 18446744073709551616 (by omega)
 unfold yvN ytg yTo;refine(congrArg (fun z=>zkt z _ _) (show yuD (yQI a0)=_ from h1)).trans ?_;generalize goE yve (fun b=>(0,b)) a0.2.2.2.2.2.2.2.2.1.length 0 a0=R;cases hr:(R.1==0)
 ·rfl
 ·simp only[cond_true,zkN,zkX]
  rw[show R.1=0 from beq_iff_eq.1 hr]
def ymW (a0:dA):Option (zaY ysA×zak ymu):=bif yB9 a0 then(fun n=>some ((n.1,()),(n.2,()))) (ytg a0)else none
theorem yW4 (a0:dA) (h:yB9 a0=true):ymW a0=(fun n=>some ((n.1,()),(n.2,()))) (ytg a0):=by unfold ymW; rw[h]; rfl
def yEO:Con:=⟨ymu,ysA,fun x=>ymW x.1⟩
theorem yW1:ConOk prog 117 yEO:=(yUt).mono (fun x r hk h=>zkY h (fun hq=>yWM x.1 hk hq))
def yXl:Code:=(f80.body).getD .skip
def yXx:Env:=zkw TT [(72,yd8)] []
theorem yQm:FrOk prog ⟨yXx,12,fun _=>none⟩ yXl:=zkA mixed yc ⟨yie,trivial⟩
abbrev yAr:List Par:= [.pt tU .fz,.rd tL]
abbrev yAI:List OT:= [⟨false,tI,.fz⟩]
def yjy (a0:dU) (a1:List Int):Option (zaY yAI×zak yAr) :=bnd (yi a0 (a1.length:Int)) fun r1 =>bif(inb r1.1.1 a1.length)then some (((nth a1 r1.1.1 0),()),(r1.2.1,())) else none
theorem yUn:ConOk prog 80 ⟨yAr,yAI,fun x=>yjy x.1 x.2.1⟩:=zkI (yQm) func80 ntmps80.symm fun x=>by kernel_rfl
def yEK:Con:=⟨yAr,yAI,fun x=>yjy x.1 x.2.1⟩
theorem yWX:ConOk prog 80 yEK:=yUn
theorem y04 (u:List Int×Int×Int) (l:List Int) (h:yen u) (hl:l≠ []): ∃(r:Int) (u':List Int×Int×Int),yjy u l=some ((r,()),(u',()))∧r∈l∧yen u':=by
 unfold yjy;obtain⟨r1,u1,e1,q1,d1⟩:=ye2 u (l.length:Int) h;have hp:0<l.length:=List.length_pos_iff.2 hl;have hr:=q1.2.1 (by omega);simp only[e1,zkH,zj6.2 ⟨q1.1,hr⟩,cond_true];refine⟨_,_,rfl,?_,d1⟩;have:r1.toNat<l.length:=by have:=q1.1; omega
 unfold nth;rw[List.getD_eq_getElem?_getD,List.getElem?_eq_getElem this,Option.getD_some];exact List.getElem_mem this
def yVQ:Code:=(f120.body).getD .skip
def yWk:Env:=zkw TT [(80,yEK)] []
theorem yMK:FrOk prog ⟨yWk,6,fun _=>none⟩ yVQ:=zkA mixed yc ⟨yWX,trivial⟩
abbrev yxv:List Par:= [.pt tU .fz]
abbrev yxZ:List OT:= [⟨false,tI,.fz⟩]
def ya5 (a0:dU):Option (zaY yxZ×zak yxv) :=bnd (yjy a0 ([0,1,2,7,255,256,4660,65535]:List Int)) fun r1 =>some ((r1.1.1,()),(r1.2.1,()))
theorem yRD:ConOk prog 120 ⟨yxv,yxZ,fun x=>ya5 x.1⟩:=zkI (yMK) func120 ntmps120.symm fun x=>by kernel_rfl
def yDf:Con:=⟨yxv,yxZ,fun x=>ya5 x.1⟩
theorem yUF:ConOk prog 120 yDf:=yRD
theorem y0F (u:List Int×Int×Int) (h:yen u): ∃(r:Int) (u':List Int×Int×Int),ya5 u=some ((r,()),(u',()))∧ya r 0 65535=true∧yen u':=by
 unfold ya5;obtain⟨r1,u1,e1,q1,d1⟩:=y04 u [0,1,2,7,255,256,4660,65535] h (by simp);simp only[e1,zkH];refine⟨_,_,rfl,?_,d1⟩;simp only[List.mem_cons,List.not_mem_nil,or_false]at q1;exact y1J (by omega) (by omega)
def yPb:Code:=(f203.body).getD .skip
def yPA:Env:=zkw TT [(174,yl6),(177,ysS),(178,yl5)] []
theorem yHX:FrOk prog ⟨yPA,27,fun _=>none⟩ yPb:=zkA mixed yc ⟨yvw,yFe,yvv,trivial⟩
abbrev yhk:List Par:= [.pt tA (.pr .fz (.pr (.pr .fz .fz) (.pr (.ow (.pr (.ow .fz) (.pr (.ow (.pr .fz .fz)) (.pr .fz (.ow .fz))))) (.pr .fz (.pr .fz (.pr .fz (.pr .fz (.pr .fz (.pr (.ow (.pr .fz .fz)) (.pr .fz (.pr .fz .fz)))))))))))]
abbrev ylQ:List OT:= [⟨false,tI,.fz⟩]
def yoY (a0:dA):Option (zaY ylQ×zak yhk) :=let r1:=ycm a0.2.1;let r2:=ydM r1;bif(inb a0.2.2.2.1 a0.2.2.1.length)then let r3:=yaI (a0.1,a0.2.1,(a0.2.2.1.set (a0.2.2.2.1).toNat r2),a0.2.2.2.1,0,a0.2.2.2.2.2);bif r3.2.2.2.2.2.2.2.2.2.2.1 then some ((6,()),(r3,())) else some ((0,()),(r3,())) else none
theorem yLc:ConOk prog 203 ⟨yhk,ylQ,fun x=>yoY x.1⟩:=zkI (yHX) func203 ntmps203.symm fun x=>by kernel_rfl
def ymc (a0:dA):Int×dA:=(bif yb (yaa (ybP a0))then 6 else 0,yaa (ybP a0))
def yif (a0:dA):Bool:=ye a0.2.1&&inb a0.2.2.2.1 a0.2.2.1.length
theorem yNX (a0:dA) (hk:zjx yhk (a0,())) (hq:yif a0=true):yoY a0=(fun n=>some ((n.1,()),(n.2,()))) (ymc a0):=by
 simp only[yif,Bool.and_eq_true]at hq;have hg:=yk.1 hq.1;unfold yoY ymc;simp only[ycm,wq (6+a0.2.1.2) (by omega) (by omega),hq.2,ydM,yaI];show(bif yb (yaa (ybP a0))then some ((6,()),(yaa (ybP a0),()))else some ((0,()),(yaa (ybP a0),())))=_;cases yb (yaa (ybP a0))<;>rfl
def yid (a0:dA):Option (zaY ylQ×zak yhk):=bif yif a0 then(fun n=>some ((n.1,()),(n.2,()))) (ymc a0)else none
theorem yOL (a0:dA) (h:yif a0=true):yid a0=(fun n=>some ((n.1,()),(n.2,()))) (ymc a0):=by unfold yid; rw[h]; rfl
def yy1:Con:=⟨yhk,ylQ,fun x=>yid x.1⟩
theorem yOJ:ConOk prog 203 yy1:=(yLc).mono (fun x r hk h=>zkY h (fun hq=>yNX x.1 hk hq))
end
end Go.Tf
