/- Functions of the program, and what they come to. -/
import Derived.Test.YtgmadfpnljibhaaGreatExactSetBlockF16
namespace Go.Tf
noncomputable section
open Go.Proofs
set_option synthInstance.maxHeartbeats 400000
set_option synthInstance.maxSize 10000
set_option linter.unusedVariables false
set_option linter.unusedSimpArgs false
set_option maxRecDepth 100000
section
def yju:Code:=(Tryz.f193.body).getD .skip
def yow:Env:=zki TT [(253,yAz)] []
theorem yHu:FrOk Tryz.prog ⟨yow,27,fun _=>none⟩ yju:=zkp yb yc ⟨yQ0,trivial⟩
def yyk:Nat→Option Seg:=fun _=>none
def ycC:Shape:=⟨[(0,false,[.br tM]),(1,false,[.br tM]),(5,false,[.int .i64])],[],[]⟩
def yiJ:Shape:=⟨[(0,false,[.br tM]),(1,false,[.br tM]),(5,false,[.ci .i64 0])],[],[]⟩
def yiB:Shape:=⟨[],[],[]⟩
def yiV:Shape:=⟨[(4,false,[.bool])],[],[]⟩
def yn2 (v0 v1:List dM) (v2:Int):Option ((ycC).X ⊕ ((yiB).X ⊕ (yiV).X)) :=
 bif (ltb v2 (v0.length:Int)) then
 bif (inb v2 v0.length) then
 bif (inb v2 v1.length) then
 let r2:=yc4 ((nth v0 v2 ([],[],false,[])).1,((nth v0 v2 ([],[],false,[])).2).1,(((nth v0 v2 ([],[],false,[])).2).2)) ((nth v1 v2 ([],[],false,[])).1,((nth v1 v2 ([],[],false,[])).2).1,(((nth v1 v2 ([],[],false,[])).2).2))
 bif (!r2) then
 some (.inr (.inr (((false,()),()),(),())))
 else
 some (.inl (((v0,()),(v1,()),((IntKind.i64.wrap (v2+1)),()),()),(),()))
 else none
 else none
 else
 some (.inr (.inl ((),(),())))
def ybD (x:(ycC).X):=yn2 x.1.1.1 x.1.2.1.1 x.1.2.2.1.1
def yu2 (x:(yiJ).X):(ycC).X:=(((x.1.1.1,()),(x.1.2.1.1,()),(0,()),()),(),())
def ywz:Code:=(zdI yju 64 116).getD .skip
theorem yGW:zdI yju 64 29=some (.block 0 (.loop ywz)):=by kernel_rfl
theorem yJn (x:(ycC).X):zg7 ⟨yow,27,yyk⟩ 0 ywz 116 ycC yiB yiV x=ybD x:=by kernel_rfl
def yvh (x:(yiJ).X):Nat:=18446744073709551616
def ypm (x:(yiJ).X):Option ((yiB).X ⊕ (yiV).X):=zr ybD (yvh x) (yu2 x)
def yvz:Seg:=⟨yiJ,yiB,yiV,ypm⟩
def yyl:Nat→Option Seg:=fun q=>bif Nat.beq q 29 then some yvz else yyk q
theorem yHv:FrOk Tryz.prog ⟨yow,27,yyl⟩ yju:=(yHu).loop (sg:=yvz) ycC yu2 (by decide) yGW ybD yvh (by decide) (fun _=>rfl) (fun x r _ h=>h) yJn
abbrev yfj:List Par:= [.rd tMs,.rd tMs]
abbrev yoQ:List OT:= [⟨false,tB,.fz⟩]
def yla (a0 a1:List dM):Option (ResD yoQ×MutD yfj) :=
 bif ((a0.length:Int) !=(a1.length:Int)) then
 some ((false,()),())
 else
 zjw (ypm (((a0,()),(a1,()),((),()),()),(),())) (fun y2 =>
 some ((true,()),())) (fun y2 =>
 some ((y2.1.1.1,()),()))
theorem yPX (x:InD yfj):zjH ⟨yow,27,yyl⟩ Tryz.f193.results.toList yju yfj yoQ x=yla x.1 x.2.1:=by kernel_rfl
theorem yLY:ConOk Tryz.prog 193 ⟨yfj,yoQ,fun x=>yla x.1 x.2.1⟩:=zkh (yHv) Tryz.func193 (by kernel_rfl) (by kernel_rfl) Tryz.ntmps193.symm (by decide) (fun x r h=>(yPX x).trans h)
def ydD (a0 a1:List (dM)):Bool:=decide (a0=a1)
theorem yN8 (a0 a1:List (dM)) (hk:zi9 yfj (a0,a1,())):yla a0 a1=(fun n=>some ((n,()),())) (ydD a0 a1):=by
 have hb:a0.length * 80≤2 ^ 47:=hk.1.1
 unfold yla ydD
 by_cases h:a0.length=a1.length
 ·have hl:ypm (((a0,()),(a1,()),((),()),()),(),())=some (bif decide (a0=a1) then .inl ((),(),()) else .inr (((false,()),()),(),())) :=
   zkF (step:=ybD) a0 a1 (([],[],false,[]):dM) (fun i=>(((a0,()),(a1,()),((i:Int),()),()),(),())) yc4 yAS _ _ h (fun i hi=>by
    simp only [ybD,yn2,zkO (h ▸ hi),zkO hi,zjW,Int.toNat_natCast,zjI (show (i:Int) < a0.length by omega),cond_true,wr (show -9223372036854775808≤(i:Int)+1 by omega) (by omega),Int.natCast_add,Int.natCast_one,zkV]
    cases yc4 (a0.getD i ([],[],false,[])) (a1.getD i ([],[],false,[]))<;>rfl) (by simp only [ybD,yn2,zkm (Int.le_refl _),cond_false]) _ (by show _ < 18446744073709551616; omega)
  rw [show ((a0.length:Int) !=(a1.length:Int))=false by simp [h],zkX,hl]
  cases decide (a0=a1)<;>rfl
 ·rw [show ((a0.length:Int) !=(a1.length:Int))=true from bne_iff_ne.2 (by omega),zkY,decide_eq_false (fun e=>h (congrArg _ e))]
theorem yzv (a0 a1:List (dM)):ydD a0 a1=decide (a0=a1):=rfl
def yzc:Con:=⟨yfj,yoQ,fun x=>(fun n=>some ((n,()),())) (ydD x.1 x.2.1)⟩
theorem yO6:ConOk Tryz.prog 193 yzc:=(yLY).mono (fun x r hk h=>(yN8 x.1 x.2.1 hk).trans h)
theorem yTf (a:List dM):ydD a a=true:=by rw [yzv]; exact decide_eq_true rfl
end
section
def yCG:Code:=(Tryz.f254.body).getD .skip
def yC1:Env:=zki TT [(285,ygy)] []
theorem yKP:FrOk Tryz.prog ⟨yC1,16,fun _=>none⟩ yCG:=zkp yb yc ⟨ynf,trivial⟩
def yM3:Nat→Option Seg:=fun _=>none
abbrev ylH:List Par:= [.rd tW,.rd tW]
abbrev yqM:List OT:= [⟨false,tB,.fz⟩]
def ysq (a0 a1:dW):Option (ResD yqM×MutD ylH) :=
 bif (a0.1 !=a1.1) then
 some ((false,()),())
 else
 let r1:=yz a0.2 a1.2
 bif (!r1) then
 some ((false,()),())
 else
 some ((true,()),())
theorem yRr (x:InD ylH):zjH ⟨yC1,16,yM3⟩ Tryz.f254.results.toList yCG ylH yqM x=ysq x.1 x.2.1:=by kernel_rfl
theorem yOC:ConOk Tryz.prog 254 ⟨ylH,yqM,fun x=>ysq x.1 x.2.1⟩:=zkh (yKP) Tryz.func254 (by kernel_rfl) (by kernel_rfl) Tryz.ntmps254.symm (by decide) (fun x r h=>(yRr x).trans h)
def yc3 (a0 a1:dW):Bool :=
 bif (a0.1 !=a1.1) then
 false
 else
 let r1:=yz a0.2 a1.2
 bif (!r1) then
 false
 else
 true
def yAx:Con:=⟨ylH,yqM,fun x=>(fun n=>some ((n,()),())) (yc3 x.1 x.2.1)⟩
theorem yQt (a0 a1:dW):ysq a0 a1=(fun n=>some ((n,()),())) (yc3 a0 a1):=zkS (p:=fun (n:Bool)=>((n,()),())) (zkx (p:=fun (n:Bool)=>((n,()),())) rfl (zkx (p:=fun (n:Bool)=>((n,()),())) rfl rfl))
theorem yQY:ConOk Tryz.prog 254 yAx:=(yOC).mono (fun x r _ h=>(yQt x.1 x.2.1).trans h)
theorem yAQ (a b:dW):yc3 a b=decide (a=b):=by
 unfold yc3
 simp only [zkz,zkA,zkB,zkC,zkD,ygB,Prod.ext_iff,Bool.decide_and,Bool.and_true]
theorem yTm (a:dW):yc3 a a=true:=by rw [yAQ]; exact decide_eq_true rfl
end
section
def yjs:Code:=(Tryz.f194.body).getD .skip
def you:Env:=zki TT [(254,yAx)] []
theorem yHq:FrOk Tryz.prog ⟨you,27,fun _=>none⟩ yjs:=zkp yb yc ⟨yQY,trivial⟩
def yyg:Nat→Option Seg:=fun _=>none
def ycA:Shape:=⟨[(0,false,[.br tW]),(1,false,[.br tW]),(5,false,[.int .i64])],[],[]⟩
def yiH:Shape:=⟨[(0,false,[.br tW]),(1,false,[.br tW]),(5,false,[.ci .i64 0])],[],[]⟩
def yiz:Shape:=⟨[],[],[]⟩
def yiT:Shape:=⟨[(4,false,[.bool])],[],[]⟩
def yn0 (v0 v1:List dW) (v2:Int):Option ((ycA).X ⊕ ((yiz).X ⊕ (yiT).X)) :=
 bif (ltb v2 (v0.length:Int)) then
 bif (inb v2 v0.length) then
 bif (inb v2 v1.length) then
 let r2:=yc3 (nth v0 v2 (0,[])) (nth v1 v2 (0,[]))
 bif (!r2) then
 some (.inr (.inr (((false,()),()),(),())))
 else
 some (.inl (((v0,()),(v1,()),((IntKind.i64.wrap (v2+1)),()),()),(),()))
 else none
 else none
 else
 some (.inr (.inl ((),(),())))
def ybB (x:(ycA).X):=yn0 x.1.1.1 x.1.2.1.1 x.1.2.2.1.1
def yu0 (x:(yiH).X):(ycA).X:=(((x.1.1.1,()),(x.1.2.1.1,()),(0,()),()),(),())
def ywx:Code:=(zdI yjs 64 116).getD .skip
theorem yGU:zdI yjs 64 29=some (.block 0 (.loop ywx)):=by kernel_rfl
theorem yJl (x:(ycA).X):zg7 ⟨you,27,yyg⟩ 0 ywx 116 ycA yiz yiT x=ybB x:=by kernel_rfl
def yvf (x:(yiH).X):Nat:=18446744073709551616
def ypk (x:(yiH).X):Option ((yiz).X ⊕ (yiT).X):=zr ybB (yvf x) (yu0 x)
def yvx:Seg:=⟨yiH,yiz,yiT,ypk⟩
def yyh:Nat→Option Seg:=fun q=>bif Nat.beq q 29 then some yvx else yyg q
theorem yHr:FrOk Tryz.prog ⟨you,27,yyh⟩ yjs:=(yHq).loop (sg:=yvx) ycA yu0 (by decide) yGU ybB yvf (by decide) (fun _=>rfl) (fun x r _ h=>h) yJl
abbrev yfh:List Par:= [.rd tWs,.rd tWs]
abbrev yoO:List OT:= [⟨false,tB,.fz⟩]
def yk8 (a0 a1:List dW):Option (ResD yoO×MutD yfh) :=
 bif ((a0.length:Int) !=(a1.length:Int)) then
 some ((false,()),())
 else
 zjw (ypk (((a0,()),(a1,()),((),()),()),(),())) (fun y2 =>
 some ((true,()),())) (fun y2 =>
 some ((y2.1.1.1,()),()))
theorem yPV (x:InD yfh):zjH ⟨you,27,yyh⟩ Tryz.f194.results.toList yjs yfh yoO x=yk8 x.1 x.2.1:=by kernel_rfl
theorem yLW:ConOk Tryz.prog 194 ⟨yfh,yoO,fun x=>yk8 x.1 x.2.1⟩:=zkh (yHr) Tryz.func194 (by kernel_rfl) (by kernel_rfl) Tryz.ntmps194.symm (by decide) (fun x r h=>(yPV x).trans h)
def ydC (a0 a1:List (dW)):Bool:=decide (a0=a1)
theorem yN6 (a0 a1:List (dW)) (hk:zi9 yfh (a0,a1,())):yk8 a0 a1=(fun n=>some ((n,()),())) (ydC a0 a1):=by
 have hb:a0.length * 32≤2 ^ 47:=hk.1.1
 unfold yk8 ydC
 by_cases h:a0.length=a1.length
 ·have hl:ypk (((a0,()),(a1,()),((),()),()),(),())=some (bif decide (a0=a1) then .inl ((),(),()) else .inr (((false,()),()),(),())) :=
   zkF (step:=ybB) a0 a1 ((0,[]):dW) (fun i=>(((a0,()),(a1,()),((i:Int),()),()),(),())) yc3 yAQ _ _ h (fun i hi=>by
    simp only [ybB,yn0,zkO (h ▸ hi),zkO hi,zjW,Int.toNat_natCast,zjI (show (i:Int) < a0.length by omega),cond_true,wr (show -9223372036854775808≤(i:Int)+1 by omega) (by omega),Int.natCast_add,Int.natCast_one,zkV]
    cases yc3 (a0.getD i (0,[])) (a1.getD i (0,[]))<;>rfl) (by simp only [ybB,yn0,zkm (Int.le_refl _),cond_false]) _ (by show _ < 18446744073709551616; omega)
  rw [show ((a0.length:Int) !=(a1.length:Int))=false by simp [h],zkX,hl]
  cases decide (a0=a1)<;>rfl
 ·rw [show ((a0.length:Int) !=(a1.length:Int))=true from bne_iff_ne.2 (by omega),zkY,decide_eq_false (fun e=>h (congrArg _ e))]
theorem yzu (a0 a1:List (dW)):ydC a0 a1=decide (a0=a1):=rfl
def yzb:Con:=⟨yfh,yoO,fun x=>(fun n=>some ((n,()),())) (ydC x.1 x.2.1)⟩
theorem yO5:ConOk Tryz.prog 194 yzb:=(yLW).mono (fun x r hk h=>(yN6 x.1 x.2.1 hk).trans h)
theorem yTd (a:List dW):ydC a a=true:=by rw [yzu]; exact decide_eq_true rfl
end
section
def yCF:Code:=(Tryz.f91.body).getD .skip
def yC0:Env:=zki TT [(192,yAy),(193,yzc),(194,yzb)] []
theorem yKO:FrOk Tryz.prog ⟨yC0,68,fun _=>none⟩ yCF:=zkp yb yc ⟨yQZ,yO6,yO5,trivial⟩
def yM2:Nat→Option Seg:=fun _=>none
abbrev ylG:List Par:= [.rd tA,.rd tA]
abbrev yqL:List OT:= [⟨false,tB,.fz⟩]
def ysp (a0 a1:dA):Option (ResD yqL×MutD ylG) :=
 bif (a0.1 !=a1.1) then
 some ((false,()),())
 else
 let r1:=yeY a0.2.1 a1.2.1
 bif (!r1) then
 some ((false,()),())
 else
 let r2:=ydD a0.2.2.1 a1.2.2.1
 bif (!r2) then
 some ((false,()),())
 else
 bif (a0.2.2.2.1 !=a1.2.2.2.1) then
 some ((false,()),())
 else
 bif (a0.2.2.2.2.1 !=a1.2.2.2.2.1) then
 some ((false,()),())
 else
 bif (a0.2.2.2.2.2.1 !=a1.2.2.2.2.2.1) then
 some ((false,()),())
 else
 bif (a0.2.2.2.2.2.2.1 !=a1.2.2.2.2.2.2.1) then
 some ((false,()),())
 else
 bif (a0.2.2.2.2.2.2.2.1 !=a1.2.2.2.2.2.2.2.1) then
 some ((false,()),())
 else
 let r3:=ydC a0.2.2.2.2.2.2.2.2.1 a1.2.2.2.2.2.2.2.2.1
 bif (!r3) then
 some ((false,()),())
 else
 bif (a0.2.2.2.2.2.2.2.2.2.1 !=a1.2.2.2.2.2.2.2.2.2.1) then
 some ((false,()),())
 else
 bif (!(a0.2.2.2.2.2.2.2.2.2.2.1==a1.2.2.2.2.2.2.2.2.2.2.1)) then
 some ((false,()),())
 else
 bif (!(a0.2.2.2.2.2.2.2.2.2.2.2==a1.2.2.2.2.2.2.2.2.2.2.2)) then
 some ((false,()),())
 else
 some ((true,()),())
theorem yRq (x:InD ylG):zjH ⟨yC0,68,yM2⟩ Tryz.f91.results.toList yCF ylG yqL x=ysp x.1 x.2.1:=by kernel_rfl
theorem yOB:ConOk Tryz.prog 91 ⟨ylG,yqL,fun x=>ysp x.1 x.2.1⟩:=zkh (yKO) Tryz.func91 (by kernel_rfl) (by kernel_rfl) Tryz.ntmps91.symm (by decide) (fun x r h=>(yRq x).trans h)
def yb1 (a0 a1:dA):Bool :=
 bif (a0.1 !=a1.1) then
 false
 else
 let r1:=yeY a0.2.1 a1.2.1
 bif (!r1) then
 false
 else
 let r2:=ydD a0.2.2.1 a1.2.2.1
 bif (!r2) then
 false
 else
 bif (a0.2.2.2.1 !=a1.2.2.2.1) then
 false
 else
 bif (a0.2.2.2.2.1 !=a1.2.2.2.2.1) then
 false
 else
 bif (a0.2.2.2.2.2.1 !=a1.2.2.2.2.2.1) then
 false
 else
 bif (a0.2.2.2.2.2.2.1 !=a1.2.2.2.2.2.2.1) then
 false
 else
 bif (a0.2.2.2.2.2.2.2.1 !=a1.2.2.2.2.2.2.2.1) then
 false
 else
 let r3:=ydC a0.2.2.2.2.2.2.2.2.1 a1.2.2.2.2.2.2.2.2.1
 bif (!r3) then
 false
 else
 bif (a0.2.2.2.2.2.2.2.2.2.1 !=a1.2.2.2.2.2.2.2.2.2.1) then
 false
 else
 bif (!(a0.2.2.2.2.2.2.2.2.2.2.1==a1.2.2.2.2.2.2.2.2.2.2.1)) then
 false
 else
 bif (!(a0.2.2.2.2.2.2.2.2.2.2.2==a1.2.2.2.2.2.2.2.2.2.2.2)) then
 false
 else
 true
def yAw:Con:=⟨ylG,yqL,fun x=>(fun n=>some ((n,()),())) (yb1 x.1 x.2.1)⟩
theorem yQs (a0 a1:dA):ysp a0 a1=(fun n=>some ((n,()),())) (yb1 a0 a1):=zkS (p:=fun (n:Bool)=>((n,()),())) (zkx (p:=fun (n:Bool)=>((n,()),())) rfl (zkx (p:=fun (n:Bool)=>((n,()),())) rfl (zkx (p:=fun (n:Bool)=>((n,()),())) rfl (zkx (p:=fun (n:Bool)=>((n,()),())) rfl (zkx (p:=fun (n:Bool)=>((n,()),())) rfl (zkx (p:=fun (n:Bool)=>((n,()),())) rfl (zkx (p:=fun (n:Bool)=>((n,()),())) rfl (zkx (p:=fun (n:Bool)=>((n,()),())) rfl (zkx (p:=fun (n:Bool)=>((n,()),())) rfl (zkx (p:=fun (n:Bool)=>((n,()),())) rfl (zkx (p:=fun (n:Bool)=>((n,()),())) rfl (zkx (p:=fun (n:Bool)=>((n,()),())) rfl rfl))))))))))))
theorem yQX:ConOk Tryz.prog 91 yAw:=(yOB).mono (fun x r _ h=>(yQs x.1 x.2.1).trans h)
theorem yNI (a b:dA):yb1 a b=decide (a=b):=by
 unfold yb1
 simp only [zkz,zkA,zkB,zkC,zkD,yAR,yzv,yzu,Prod.ext_iff,Bool.decide_and,Bool.and_true]
theorem yNJ (a:dA):yb1 a a=true:=by rw [yNI]; exact decide_eq_true rfl
end
section
def yfE:Code:=(Tryz.f257.body).getD .skip
def yku:Env:=zki TT [] []
theorem yDL:FrOk Tryz.prog ⟨yku,19,fun _=>none⟩ yfE:=zkp yb yc trivial
def yus:Nat→Option Seg:=fun _=>none
def ybr:Shape:=⟨[(0,false,[.at 1000001000]),(1,false,[.int .i64]),(5,false,[.int .i64])],[],[(1000001000,tI,.fz)]⟩
def yf9:Shape:=⟨[(0,false,[.at 1000001000]),(1,false,[.int .i64]),(5,false,[.ci .i64 0])],[],[(1000001000,tI,.fz)]⟩
def yfU:Shape:=⟨[(1,false,[.int .i64])],[],[(1000001000,tI,.fz)]⟩
def ygs:Shape:=⟨[],[],[]⟩
def ykm (v0 v1:Int) (v2:List Int):Option ((ybr).X ⊕ ((yfU).X ⊕ (ygs).X)) :=
 bif (ltb v1 (v2.length:Int)) then
 bif (inb v1 v2.length) then
 some (.inl ((((),()),((IntKind.i64.wrap (v0+1)),()),((IntKind.i64.wrap (v1+1)),()),()),(),((v2.set (v1).toNat v0),())))
 else none
 else
 some (.inr (.inl (((v0,()),()),(),(v2,()))))
def yay (x:(ybr).X):=ykm x.1.2.1.1 x.1.2.2.1.1 x.2.2.1
def yrR (x:(yf9).X):(ybr).X:=((((),()),(x.1.2.1.1,()),(0,()),()),(),(x.2.2.1,()))
def ys1:Code:=(zdI yfE 64 52).getD .skip
theorem yDl:zdI yfE 64 13=some (.block 0 (.loop ys1)):=by kernel_rfl
theorem yEq (x:(ybr).X):zg7 ⟨yku,19,yus⟩ 0 ys1 52 ybr yfU ygs x=yay x:=by kernel_rfl
def yrY (x:(yf9).X):Nat:=18446744073709551616
def ylC (x:(yf9).X):Option ((yfU).X ⊕ (ygs).X):=zr yay (yrY x) (yrR x)
def yr5:Seg:=⟨yf9,yfU,ygs,ylC⟩
def yut:Nat→Option Seg:=fun q=>bif Nat.beq q 13 then some yr5 else yus q
theorem yDM:FrOk Tryz.prog ⟨yku,19,yut⟩ yfE:=(yDL).loop (sg:=yr5) ybr yrR (by decide) yDl yay yrY (by decide) (fun _=>rfl) (fun x r _ h=>h) yEq
abbrev ydh:List Par:= [.mt tL (.ow .fz),.rd tI]
abbrev ykM:List OT:= [⟨false,tI,.fz⟩]
def yhx (a0:List Int) (a1:Int):Option (ResD ykM×MutD ydh) :=
 zjw (ylC ((((),()),(a1,()),((),()),()),(),(a0,()))) (fun y0 =>
 some ((y0.1.1.1,()),(y0.2.2.1,()))) (fun y0 =>
 none)
theorem yKr (x:InD ydh):zjH ⟨yku,19,yut⟩ Tryz.f257.results.toList yfE ydh ykM x=yhx x.1 x.2.1:=by kernel_rfl
theorem yF4:ConOk Tryz.prog 257 ⟨ydh,ykM,fun x=>yhx x.1 x.2.1⟩:=zkh (yDM) Tryz.func257 (by kernel_rfl) (by kernel_rfl) Tryz.ntmps257.symm (by decide) (fun x r h=>(yKr x).trans h)
def yfa (k:Int):Nat→List Int
 | 0=> []
 | n+1=>k::yfa (IntKind.i64.wrap (k+1)) n
def yx (k:Int):Nat→Int
 | 0=>k
 | n+1=>yx (IntKind.i64.wrap (k+1)) n
theorem yqb: ∀ (n:Nat) (k:Int),(yfa k n).length=n
 | 0,_=>rfl
 | n+1,k=>by simp [yfa,yqb n]
theorem yLk: ∀ (n:Nat) (k:Int),yfa k (n+1)=yfa k n++ [yx k n]
 | 0,_=>rfl
 | n+1,k=>by rw [yfa,yLk n]; rfl
theorem yxA: ∀ (n:Nat) (k:Int),yx k (n+1)=IntKind.i64.wrap (yx k n+1)
 | 0,_=>rfl
 | n+1,k=>by rw [yx,yxA n]; rfl
def yG (a0:List Int) (a1:Int):Int×List Int:=(yx a1 a0.length,yfa a1 a0.length)
theorem yIC (a0:List Int) (a1:Int) (hk:zi9 ydh (a0,a1,())):yhx a0 a1=(fun n=>some ((n.1,()),(n.2,()))) (yG a0 a1):=by
 have hb:a0.length * 8≤2 ^ 47:=hk.1.1
 have hs: ∀ i,i < a0.length→(yfa a1 i++a0.drop i).set i (yx a1 i)=yfa a1 (i+1)++a0.drop (i+1):=fun i hi=>by
  rw [List.set_append_right _ _ (by rw [yqb]; exact Nat.le_refl _),yqb,Nat.sub_self,yLk,List.append_assoc,List.drop_eq_getElem_cons hi]; rfl
 have hl:ylC ((((),()),(a1,()),((),()),()),(),(a0,()))=some (.inl (((yx a1 a0.length,()),()),(),(yfa a1 a0.length++a0.drop a0.length,()))) :=
  zjs (step:=yay) (fun i=>((((),()),(yx a1 i,()),((i:Int),()),()),(),(yfa a1 i++a0.drop i,()))) a0.length _ (fun i hi=>by
   have hL:(yfa a1 i++a0.drop i).length=a0.length:=by rw [List.length_append,yqb,List.length_drop]; omega
   simp only [yay,ykm,hL,zkO hi,zjI (show (i:Int) < a0.length by omega),cond_true,wr (show -9223372036854775808≤(i:Int)+1 by omega) (by omega),Int.natCast_add,Int.natCast_one,yxA,Int.toNat_natCast,hs i hi]) (by
   have hL:(yfa a1 a0.length++a0.drop a0.length).length=a0.length:=by rw [List.length_append,yqb,List.length_drop]; omega
   simp only [yay,ykm,hL,zkm (Int.le_refl _),cond_false]) _ (by show _ < 18446744073709551616; omega)
 rw [List.drop_length,List.append_nil]at hl
 unfold yhx
 rw [hl]
 rfl
def yd4:Con:=⟨ydh,ykM,fun x=>(fun n=>some ((n.1,()),(n.2,()))) (yG x.1 x.2.1)⟩
theorem yi7:ConOk Tryz.prog 257 yd4:=(yF4).mono (fun x r hk h=>(yIC x.1 x.2.1 hk).trans h)
theorem ym8: ∀ (n:Nat) (k:Int),0≤k→k+n≤9223372036854775807→yx k n=k+n
 | 0,k,_,_=>by simp [yx]
 | n+1,k,h,h2=>by
  rw [yx,wr (by omega) (by omega),ym8 n (k+1) (by omega) (by omega)]; omega
theorem ySA {n:Nat} (h:n≤4611686018427387903): ¬ yx 1 n < 0:=by rw [ym8 n 1 (by omega) (by omega)]; omega
theorem yUO {n:Nat} (h:n≤4611686018427387903):ltb (yx 1 n) 0=false:=zkm (Int.not_lt.1 (ySA h))
end
section
def yex:Code:=(Tryz.f255.body).getD .skip
def yix:Env:=zki TT [(257,yd4)] []
theorem yCq:FrOk Tryz.prog ⟨yix,19,fun _=>none⟩ yex:=zkp yb yc ⟨yi7,trivial⟩
def ysT:Nat→Option Seg:=fun _=>none
def yaQ:Shape:=⟨[(0,false,[.at 1000001000]),(1,false,[.int .i64]),(5,false,[.int .i64])],[],[(1000001000,tL,(.ow .fz))]⟩
def ye6:Shape:=⟨[(0,false,[.at 1000001000]),(1,false,[.int .i64]),(5,false,[.ci .i64 0])],[],[(1000001000,tL,(.ow .fz))]⟩
def ye4:Shape:=⟨[(1,false,[.int .i64])],[],[(1000001000,tL,(.ow .fz))]⟩
def ye9:Shape:=⟨[],[],[]⟩
def yjq (v0 v1:Int) (v2:List (List Int)):Option ((yaQ).X ⊕ ((ye4).X ⊕ (ye9).X)) :=
 bif (ltb v1 (v2.length:Int)) then
 bif (inb v1 v2.length) then
 let r4:=yG (nth v2 v1 []) v0
 some (.inl ((((),()),(r4.1,()),((IntKind.i64.wrap (v1+1)),()),()),(),((v2.set (v1).toNat r4.2),())))
 else none
 else
 some (.inr (.inl (((v0,()),()),(),(v2,()))))
def yaj (x:(yaQ).X):=yjq x.1.2.1.1 x.1.2.2.1.1 x.2.2.1
def yre (x:(ye6).X):(yaQ).X:=((((),()),(x.1.2.1.1,()),(0,()),()),(),(x.2.2.1,()))
def yrL:Code:=(zdI yex 64 52).getD .skip
theorem yCl:zdI yex 64 13=some (.block 0 (.loop yrL)):=by kernel_rfl
theorem yCB (x:(yaQ).X):zg7 ⟨yix,19,ysT⟩ 0 yrL 52 yaQ ye4 ye9 x=yaj x:=by kernel_rfl
def yrg (x:(ye6).X):Nat:=18446744073709551616
def ykf (x:(ye6).X):Option ((ye4).X ⊕ (ye9).X):=zr yaj (yrg x) (yre x)
def yrI:Seg:=⟨ye6,ye4,ye9,ykf⟩
def ysU:Nat→Option Seg:=fun q=>bif Nat.beq q 13 then some yrI else ysT q
theorem yCr:FrOk Tryz.prog ⟨yix,19,ysU⟩ yex:=(yCq).loop (sg:=yrI) yaQ yre (by decide) yCl yaj yrg (by decide) (fun _=>rfl) (fun x r _ h=>h) yCB
abbrev ycx:List Par:= [.mt tLL (.ow (.ow .fz)),.rd tI]
abbrev yiS:List OT:= [⟨false,tI,.fz⟩]
def ygJ (a0:List (List Int)) (a1:Int):Option (ResD yiS×MutD ycx) :=
 zjw (ykf ((((),()),(a1,()),((),()),()),(),(a0,()))) (fun y4 =>
 some ((y4.1.1.1,()),(y4.2.2.1,()))) (fun y4 =>
 none)
theorem yHd (x:InD ycx):zjH ⟨yix,19,ysU⟩ Tryz.f255.results.toList yex ycx yiS x=ygJ x.1 x.2.1:=by kernel_rfl
theorem yEk:ConOk Tryz.prog 255 ⟨ycx,yiS,fun x=>ygJ x.1 x.2.1⟩:=zkh (yCr) Tryz.func255 (by kernel_rfl) (by kernel_rfl) Tryz.ntmps255.symm (by decide) (fun x r h=>(yHd x).trans h)
def yxW (x:List Int) (k:Int):Int×List Int:=yG x k
def yH (a0:List (List Int)) (a1:Int):Int×List (List Int):=zaX yxW a0 a1
theorem yFT (a0:List (List Int)) (a1:Int) (hk:zi9 ycx (a0,a1,())):ygJ a0 a1=(fun n=>some ((n.1,()),(n.2,()))) (yH a0 a1):=by
 have hb:a0.length * 24≤2 ^ 47:=hk.1.1
 have hl:ykf ((((),()),(a1,()),((),()),()),(),(a0,()))=some (.inl ((((zaX yxW a0 a1).1,()),()),(),((zaX yxW a0 a1).2,()))) :=
  zkl (step:=yaj) a0 ([]:List Int) (fun i k m=>((((),()),(k,()),((i:Int),()),()),(),(m,()))) yxW (fun k m=> .inl (((k,()),()),(),(m,()))) (fun i s m hi hm=>by
   simp only [yaj,yjq,zjI (show (i:Int) < m.length by omega),List.length_set,zkO hi,Int.toNat_natCast,List.set_set,cond_true,zkP hi,wr (show -9223372036854775808≤(i:Int)+1 by omega) (by omega),Int.natCast_add,Int.natCast_one,zjW]
   rfl) (fun s m hm=>by simp only [yaj,yjq,hm,zkm (Int.le_refl _),cond_false]) a1 _ (by show _ < 18446744073709551616; omega)
 unfold ygJ yH
 rw [hl]; rfl
def ys5:Con:=⟨ycx,yiS,fun x=>(fun n=>some ((n.1,()),(n.2,()))) (yH x.1 x.2.1)⟩
theorem yGe:ConOk Tryz.prog 255 ys5:=(yEk).mono (fun x r hk h=>(yFT x.1 x.2.1 hk).trans h)
end
end
end Go.Tf
