/- Functions of the program, and what they come to. -/
import Derived.Test.YtgmadfpnljibhaaGreatExactFlushAllF20
namespace Go.Tf
noncomputable section
open Go.Proofs
set_option synthInstance.maxHeartbeats 400000
set_option synthInstance.maxSize 10000
set_option linter.unusedVariables false
set_option linter.unusedSimpArgs false
set_option maxRecDepth 100000
section
def yKT:Code:=(Tryz.f253.body).getD .skip
def yLi:Env:=zki TT [(283,yDC),(284,yHU),(285,yjg)] []
theorem yUA:FrOk Tryz.prog ⟨yLi,28,fun _=>none⟩ yKT:=zkp yb yc ⟨yWs,y1C,yry,trivial⟩
def yXa:Nat→Option Seg:=fun _=>none
abbrev yp6:List Par:= [.rd tM,.rd tM]
abbrev yvF:List OT:= [⟨false,tB,.fz⟩]
def yyn (a0 a1:dM):Option (ResD yvF×MutD yp6) :=
 let r1:=yei a0.1 a1.1
 bif (!r1) then
 some ((false,()),())
 else
 let r2:=yg6 a0.2.1 a1.2.1
 bif (!r2) then
 some ((false,()),())
 else
 bif (!(a0.2.2.1==a1.2.2.1)) then
 some ((false,()),())
 else
 let r3:=yJ a0.2.2.2 a1.2.2.2
 bif (!r3) then
 some ((false,()),())
 else
 some ((true,()),())
theorem y2g (x:InD yp6):zjH ⟨yLi,28,yXa⟩ Tryz.f253.results.toList yKT yp6 yvF x=yyn x.1 x.2.1:=by kernel_rfl
theorem yYU:ConOk Tryz.prog 253 ⟨yp6,yvF,fun x=>yyn x.1 x.2.1⟩:=zkh (yUA) Tryz.func253 (by kernel_rfl) (by kernel_rfl) Tryz.ntmps253.symm (by decide) (fun x r h=>(y2g x).trans h)
def yeO (a0 a1:dM):Bool :=
 let r1:=yei a0.1 a1.1
 bif (!r1) then
 false
 else
 let r2:=yg6 a0.2.1 a1.2.1
 bif (!r2) then
 false
 else
 bif (!(a0.2.2.1==a1.2.2.1)) then
 false
 else
 let r3:=yJ a0.2.2.2 a1.2.2.2
 bif (!r3) then
 false
 else
 true
def yHT:Con:=⟨yp6,yvF,fun x=>(fun n=>some ((n,()),())) (yeO x.1 x.2.1)⟩
theorem y01 (a0 a1:dM):yyn a0 a1=(fun n=>some ((n,()),())) (yeO a0 a1):=zkS (p:=fun (n:Bool)=>((n,()),())) (zkx (p:=fun (n:Bool)=>((n,()),())) rfl (zkx (p:=fun (n:Bool)=>((n,()),())) rfl (zkx (p:=fun (n:Bool)=>((n,()),())) rfl (zkx (p:=fun (n:Bool)=>((n,()),())) rfl rfl))))
theorem y1B:ConOk Tryz.prog 253 yHT:=(yYU).mono (fun x r _ h=>(y01 x.1 x.2.1).trans h)
theorem yIc (a b:dM):yeO a b=decide (a=b):=by
 unfold yeO
 simp only [zkz,zkA,zkB,zkC,zkD,yD4,yId,yjj,Prod.ext_iff,Bool.decide_and,Bool.and_true]
theorem y4L (a:dM):yeO a a=true:=by rw [yIc]; exact decide_eq_true rfl
end
section
def ymU:Code:=(Tryz.f193.body).getD .skip
def ysS:Env:=zki TT [(253,yHT)] []
theorem yQI:FrOk Tryz.prog ⟨ysS,27,fun _=>none⟩ ymU:=zkp yb yc ⟨y1B,trivial⟩
def yFk:Nat→Option Seg:=fun _=>none
def yd8:Shape:=⟨[(0,false,[.br tM]),(1,false,[.br tM]),(5,false,[.int .i64])],[],[]⟩
def ylZ:Shape:=⟨[(0,false,[.br tM]),(1,false,[.br tM]),(5,false,[.ci .i64 0])],[],[]⟩
def ylR:Shape:=⟨[],[],[]⟩
def ymb:Shape:=⟨[(4,false,[.bool])],[],[]⟩
def yso (v0 v1:List dM) (v2:Int):Option ((yd8).X ⊕ ((ylR).X ⊕ (ymb).X)) :=
 bif (ltb v2 (v0.length:Int)) then
 bif (inb v2 v0.length) then
 bif (inb v2 v1.length) then
 let r2:=yeO ((nth v0 v2 ([],[],false,[])).1,((nth v0 v2 ([],[],false,[])).2).1,(((nth v0 v2 ([],[],false,[])).2).2)) ((nth v1 v2 ([],[],false,[])).1,((nth v1 v2 ([],[],false,[])).2).1,(((nth v1 v2 ([],[],false,[])).2).2))
 bif (!r2) then
 some (.inr (.inr (((false,()),()),(),())))
 else
 some (.inl (((v0,()),(v1,()),((IntKind.i64.wrap (v2+1)),()),()),(),()))
 else none
 else none
 else
 some (.inr (.inl ((),(),())))
def ycy (x:(yd8).X):=yso x.1.1.1 x.1.2.1.1 x.1.2.2.1.1
def yBH (x:(ylZ).X):(yd8).X:=(((x.1.1.1,()),(x.1.2.1.1,()),(0,()),()),(),())
def yDj:Code:=(zdI ymU 64 116).getD .skip
theorem yP6:zdI ymU 64 29=some (.block 0 (.loop yDj)):=by kernel_rfl
theorem ySW (x:(yd8).X):zg7 ⟨ysS,27,yFk⟩ 0 yDj 116 yd8 ylR ymb x=ycy x:=by kernel_rfl
def yBW (x:(ylZ).X):Nat:=18446744073709551616
def ytS (x:(ylZ).X):Option ((ylR).X ⊕ (ymb).X):=zr ycy (yBW x) (yBH x)
def yCf:Seg:=⟨ylZ,ylR,ymb,ytS⟩
def yFl:Nat→Option Seg:=fun q=>bif Nat.beq q 29 then some yCf else yFk q
theorem yQJ:FrOk Tryz.prog ⟨ysS,27,yFl⟩ ymU:=(yQI).loop (sg:=yCf) yd8 yBH (by decide) yP6 ycy yBW (by decide) (fun _=>rfl) (fun x r _ h=>h) ySW
abbrev yhE:List Par:= [.rd tMs,.rd tMs]
abbrev yth:List OT:= [⟨false,tB,.fz⟩]
def ypi (a0 a1:List dM):Option (ResD yth×MutD yhE) :=
 bif ((a0.length:Int) !=(a1.length:Int)) then
 some ((false,()),())
 else
 zjw (ytS (((a0,()),(a1,()),((),()),()),(),())) (fun y2 =>
 some ((true,()),())) (fun y2 =>
 some ((y2.1.1.1,()),()))
theorem y0q (x:InD yhE):zjH ⟨ysS,27,yFl⟩ Tryz.f193.results.toList ymU yhE yth x=ypi x.1 x.2.1:=by kernel_rfl
theorem yVY:ConOk Tryz.prog 193 ⟨yhE,yth,fun x=>ypi x.1 x.2.1⟩:=zkh (yQJ) Tryz.func193 (by kernel_rfl) (by kernel_rfl) Tryz.ntmps193.symm (by decide) (fun x r h=>(y0q x).trans h)
def yfw (a0 a1:List (dM)):Bool:=decide (a0=a1)
theorem yYk (a0 a1:List (dM)) (hk:zi9 yhE (a0,a1,())):ypi a0 a1=(fun n=>some ((n,()),())) (yfw a0 a1):=by
 have hb:a0.length * 80≤2 ^ 47:=hk.1.1
 unfold ypi yfw
 by_cases h:a0.length=a1.length
 ·have hl:ytS (((a0,()),(a1,()),((),()),()),(),())=some (bif decide (a0=a1) then .inl ((),(),()) else .inr (((false,()),()),(),())) :=
   zkF (step:=ycy) a0 a1 (([],[],false,[]):dM) (fun i=>(((a0,()),(a1,()),((i:Int),()),()),(),())) yeO yIc _ _ h (fun i hi=>by
    simp only [ycy,yso,zkO (h ▸ hi),zkO hi,zjW,Int.toNat_natCast,zjI (show (i:Int) < a0.length by omega),cond_true,wr (show -9223372036854775808≤(i:Int)+1 by omega) (by omega),Int.natCast_add,Int.natCast_one,zkV]
    cases yeO (a0.getD i ([],[],false,[])) (a1.getD i ([],[],false,[]))<;>rfl) (by simp only [ycy,yso,zkm (Int.le_refl _),cond_false]) _ (by show _ < 18446744073709551616; omega)
  rw [show ((a0.length:Int) !=(a1.length:Int))=false by simp [h],zkX,hl]
  cases decide (a0=a1)<;>rfl
 ·rw [show ((a0.length:Int) !=(a1.length:Int))=true from bne_iff_ne.2 (by omega),zkY,decide_eq_false (fun e=>h (congrArg _ e))]
theorem yGF (a0 a1:List (dM)):yfw a0 a1=decide (a0=a1):=rfl
def yGl:Con:=⟨yhE,yth,fun x=>(fun n=>some ((n,()),())) (yfw x.1 x.2.1)⟩
theorem yZq:ConOk Tryz.prog 193 yGl:=(yVY).mono (fun x r hk h=>(yYk x.1 x.2.1 hk).trans h)
theorem y4A (a:List dM):yfw a a=true:=by rw [yGF]; exact decide_eq_true rfl
end
section
def yKR:Code:=(Tryz.f254.body).getD .skip
def yLg:Env:=zki TT [(285,yjg)] []
theorem yUy:FrOk Tryz.prog ⟨yLg,16,fun _=>none⟩ yKR:=zkp yb yc ⟨yry,trivial⟩
def yW8:Nat→Option Seg:=fun _=>none
abbrev yp4:List Par:= [.rd tW,.rd tW]
abbrev yvD:List OT:= [⟨false,tB,.fz⟩]
def yyl (a0 a1:dW):Option (ResD yvD×MutD yp4) :=
 bif (a0.1 !=a1.1) then
 some ((false,()),())
 else
 let r1:=yJ a0.2 a1.2
 bif (!r1) then
 some ((false,()),())
 else
 some ((true,()),())
theorem y2e (x:InD yp4):zjH ⟨yLg,16,yW8⟩ Tryz.f254.results.toList yKR yp4 yvD x=yyl x.1 x.2.1:=by kernel_rfl
theorem yYS:ConOk Tryz.prog 254 ⟨yp4,yvD,fun x=>yyl x.1 x.2.1⟩:=zkh (yUy) Tryz.func254 (by kernel_rfl) (by kernel_rfl) Tryz.ntmps254.symm (by decide) (fun x r h=>(y2e x).trans h)
def yeN (a0 a1:dW):Bool :=
 bif (a0.1 !=a1.1) then
 false
 else
 let r1:=yJ a0.2 a1.2
 bif (!r1) then
 false
 else
 true
def yHR:Con:=⟨yp4,yvD,fun x=>(fun n=>some ((n,()),())) (yeN x.1 x.2.1)⟩
theorem y0Z (a0 a1:dW):yyl a0 a1=(fun n=>some ((n,()),())) (yeN a0 a1):=zkS (p:=fun (n:Bool)=>((n,()),())) (zkx (p:=fun (n:Bool)=>((n,()),())) rfl (zkx (p:=fun (n:Bool)=>((n,()),())) rfl rfl))
theorem y1z:ConOk Tryz.prog 254 yHR:=(yYS).mono (fun x r _ h=>(y0Z x.1 x.2.1).trans h)
theorem yIa (a b:dW):yeN a b=decide (a=b):=by
 unfold yeN
 simp only [zkz,zkA,zkB,zkC,zkD,yjj,Prod.ext_iff,Bool.decide_and,Bool.and_true]
theorem y4J (a:dW):yeN a a=true:=by rw [yIa]; exact decide_eq_true rfl
end
section
def ymS:Code:=(Tryz.f194.body).getD .skip
def ysQ:Env:=zki TT [(254,yHR)] []
theorem yQE:FrOk Tryz.prog ⟨ysQ,27,fun _=>none⟩ ymS:=zkp yb yc ⟨y1z,trivial⟩
def yFg:Nat→Option Seg:=fun _=>none
def yd6:Shape:=⟨[(0,false,[.br tW]),(1,false,[.br tW]),(5,false,[.int .i64])],[],[]⟩
def ylX:Shape:=⟨[(0,false,[.br tW]),(1,false,[.br tW]),(5,false,[.ci .i64 0])],[],[]⟩
def ylP:Shape:=⟨[],[],[]⟩
def yl9:Shape:=⟨[(4,false,[.bool])],[],[]⟩
def ysm (v0 v1:List dW) (v2:Int):Option ((yd6).X ⊕ ((ylP).X ⊕ (yl9).X)) :=
 bif (ltb v2 (v0.length:Int)) then
 bif (inb v2 v0.length) then
 bif (inb v2 v1.length) then
 let r2:=yeN (nth v0 v2 (0,[])) (nth v1 v2 (0,[]))
 bif (!r2) then
 some (.inr (.inr (((false,()),()),(),())))
 else
 some (.inl (((v0,()),(v1,()),((IntKind.i64.wrap (v2+1)),()),()),(),()))
 else none
 else none
 else
 some (.inr (.inl ((),(),())))
def ycw (x:(yd6).X):=ysm x.1.1.1 x.1.2.1.1 x.1.2.2.1.1
def yBF (x:(ylX).X):(yd6).X:=(((x.1.1.1,()),(x.1.2.1.1,()),(0,()),()),(),())
def yDh:Code:=(zdI ymS 64 116).getD .skip
theorem yP4:zdI ymS 64 29=some (.block 0 (.loop yDh)):=by kernel_rfl
theorem ySU (x:(yd6).X):zg7 ⟨ysQ,27,yFg⟩ 0 yDh 116 yd6 ylP yl9 x=ycw x:=by kernel_rfl
def yBU (x:(ylX).X):Nat:=18446744073709551616
def ytQ (x:(ylX).X):Option ((ylP).X ⊕ (yl9).X):=zr ycw (yBU x) (yBF x)
def yCd:Seg:=⟨ylX,ylP,yl9,ytQ⟩
def yFh:Nat→Option Seg:=fun q=>bif Nat.beq q 29 then some yCd else yFg q
theorem yQF:FrOk Tryz.prog ⟨ysQ,27,yFh⟩ ymS:=(yQE).loop (sg:=yCd) yd6 yBF (by decide) yP4 ycw yBU (by decide) (fun _=>rfl) (fun x r _ h=>h) ySU
abbrev yhC:List Par:= [.rd tWs,.rd tWs]
abbrev ytf:List OT:= [⟨false,tB,.fz⟩]
def ypg (a0 a1:List dW):Option (ResD ytf×MutD yhC) :=
 bif ((a0.length:Int) !=(a1.length:Int)) then
 some ((false,()),())
 else
 zjw (ytQ (((a0,()),(a1,()),((),()),()),(),())) (fun y2 =>
 some ((true,()),())) (fun y2 =>
 some ((y2.1.1.1,()),()))
theorem y0o (x:InD yhC):zjH ⟨ysQ,27,yFh⟩ Tryz.f194.results.toList ymS yhC ytf x=ypg x.1 x.2.1:=by kernel_rfl
theorem yVW:ConOk Tryz.prog 194 ⟨yhC,ytf,fun x=>ypg x.1 x.2.1⟩:=zkh (yQF) Tryz.func194 (by kernel_rfl) (by kernel_rfl) Tryz.ntmps194.symm (by decide) (fun x r h=>(y0o x).trans h)
def yfv (a0 a1:List (dW)):Bool:=decide (a0=a1)
theorem yYi (a0 a1:List (dW)) (hk:zi9 yhC (a0,a1,())):ypg a0 a1=(fun n=>some ((n,()),())) (yfv a0 a1):=by
 have hb:a0.length * 32≤2 ^ 47:=hk.1.1
 unfold ypg yfv
 by_cases h:a0.length=a1.length
 ·have hl:ytQ (((a0,()),(a1,()),((),()),()),(),())=some (bif decide (a0=a1) then .inl ((),(),()) else .inr (((false,()),()),(),())) :=
   zkF (step:=ycw) a0 a1 ((0,[]):dW) (fun i=>(((a0,()),(a1,()),((i:Int),()),()),(),())) yeN yIa _ _ h (fun i hi=>by
    simp only [ycw,ysm,zkO (h ▸ hi),zkO hi,zjW,Int.toNat_natCast,zjI (show (i:Int) < a0.length by omega),cond_true,wr (show -9223372036854775808≤(i:Int)+1 by omega) (by omega),Int.natCast_add,Int.natCast_one,zkV]
    cases yeN (a0.getD i (0,[])) (a1.getD i (0,[]))<;>rfl) (by simp only [ycw,ysm,zkm (Int.le_refl _),cond_false]) _ (by show _ < 18446744073709551616; omega)
  rw [show ((a0.length:Int) !=(a1.length:Int))=false by simp [h],zkX,hl]
  cases decide (a0=a1)<;>rfl
 ·rw [show ((a0.length:Int) !=(a1.length:Int))=true from bne_iff_ne.2 (by omega),zkY,decide_eq_false (fun e=>h (congrArg _ e))]
theorem yGE (a0 a1:List (dW)):yfv a0 a1=decide (a0=a1):=rfl
def yGk:Con:=⟨yhC,ytf,fun x=>(fun n=>some ((n,()),())) (yfv x.1 x.2.1)⟩
theorem yZp:ConOk Tryz.prog 194 yGk:=(yVW).mono (fun x r hk h=>(yYi x.1 x.2.1 hk).trans h)
theorem y4y (a:List dW):yfv a a=true:=by rw [yGE]; exact decide_eq_true rfl
end
section
def yKQ:Code:=(Tryz.f91.body).getD .skip
def yLf:Env:=zki TT [(192,yHS),(193,yGl),(194,yGk)] []
theorem yUx:FrOk Tryz.prog ⟨yLf,68,fun _=>none⟩ yKQ:=zkp yb yc ⟨y1A,yZq,yZp,trivial⟩
def yW7:Nat→Option Seg:=fun _=>none
abbrev yp3:List Par:= [.rd tA,.rd tA]
abbrev yvC:List OT:= [⟨false,tB,.fz⟩]
def yyk (a0 a1:dA):Option (ResD yvC×MutD yp3) :=
 bif (a0.1 !=a1.1) then
 some ((false,()),())
 else
 let r1:=yg5 a0.2.1 a1.2.1
 bif (!r1) then
 some ((false,()),())
 else
 let r2:=yfw a0.2.2.1 a1.2.2.1
 bif (!r2) then
 some ((false,()),())
 else
 bif (a0.2.2.2.1 !=a1.2.2.2.1) then
 some ((false,()),())
 else
 bif (a0.2.2.2.2.1 !=a1.2.2.2.2.1) then
 some ((false,()),())
 else
 bif (a0.2.2.2.2.2.1 !=a1.2.2.2.2.2.1) then
 some ((false,()),())
 else
 bif (a0.2.2.2.2.2.2.1 !=a1.2.2.2.2.2.2.1) then
 some ((false,()),())
 else
 bif (a0.2.2.2.2.2.2.2.1 !=a1.2.2.2.2.2.2.2.1) then
 some ((false,()),())
 else
 let r3:=yfv a0.2.2.2.2.2.2.2.2.1 a1.2.2.2.2.2.2.2.2.1
 bif (!r3) then
 some ((false,()),())
 else
 bif (a0.2.2.2.2.2.2.2.2.2.1 !=a1.2.2.2.2.2.2.2.2.2.1) then
 some ((false,()),())
 else
 bif (!(a0.2.2.2.2.2.2.2.2.2.2.1==a1.2.2.2.2.2.2.2.2.2.2.1)) then
 some ((false,()),())
 else
 bif (!(a0.2.2.2.2.2.2.2.2.2.2.2==a1.2.2.2.2.2.2.2.2.2.2.2)) then
 some ((false,()),())
 else
 some ((true,()),())
theorem y2d (x:InD yp3):zjH ⟨yLf,68,yW7⟩ Tryz.f91.results.toList yKQ yp3 yvC x=yyk x.1 x.2.1:=by kernel_rfl
theorem yYR:ConOk Tryz.prog 91 ⟨yp3,yvC,fun x=>yyk x.1 x.2.1⟩:=zkh (yUx) Tryz.func91 (by kernel_rfl) (by kernel_rfl) Tryz.ntmps91.symm (by decide) (fun x r h=>(y2d x).trans h)
def yZ (a0 a1:dA):Bool :=
 bif (a0.1 !=a1.1) then
 false
 else
 let r1:=yg5 a0.2.1 a1.2.1
 bif (!r1) then
 false
 else
 let r2:=yfw a0.2.2.1 a1.2.2.1
 bif (!r2) then
 false
 else
 bif (a0.2.2.2.1 !=a1.2.2.2.1) then
 false
 else
 bif (a0.2.2.2.2.1 !=a1.2.2.2.2.1) then
 false
 else
 bif (a0.2.2.2.2.2.1 !=a1.2.2.2.2.2.1) then
 false
 else
 bif (a0.2.2.2.2.2.2.1 !=a1.2.2.2.2.2.2.1) then
 false
 else
 bif (a0.2.2.2.2.2.2.2.1 !=a1.2.2.2.2.2.2.2.1) then
 false
 else
 let r3:=yfv a0.2.2.2.2.2.2.2.2.1 a1.2.2.2.2.2.2.2.2.1
 bif (!r3) then
 false
 else
 bif (a0.2.2.2.2.2.2.2.2.2.1 !=a1.2.2.2.2.2.2.2.2.2.1) then
 false
 else
 bif (!(a0.2.2.2.2.2.2.2.2.2.2.1==a1.2.2.2.2.2.2.2.2.2.2.1)) then
 false
 else
 bif (!(a0.2.2.2.2.2.2.2.2.2.2.2==a1.2.2.2.2.2.2.2.2.2.2.2)) then
 false
 else
 true
def yxZ:Con:=⟨yp3,yvC,fun x=>(fun n=>some ((n,()),())) (yZ x.1 x.2.1)⟩
theorem y0Y (a0 a1:dA):yyk a0 a1=(fun n=>some ((n,()),())) (yZ a0 a1):=zkS (p:=fun (n:Bool)=>((n,()),())) (zkx (p:=fun (n:Bool)=>((n,()),())) rfl (zkx (p:=fun (n:Bool)=>((n,()),())) rfl (zkx (p:=fun (n:Bool)=>((n,()),())) rfl (zkx (p:=fun (n:Bool)=>((n,()),())) rfl (zkx (p:=fun (n:Bool)=>((n,()),())) rfl (zkx (p:=fun (n:Bool)=>((n,()),())) rfl (zkx (p:=fun (n:Bool)=>((n,()),())) rfl (zkx (p:=fun (n:Bool)=>((n,()),())) rfl (zkx (p:=fun (n:Bool)=>((n,()),())) rfl (zkx (p:=fun (n:Bool)=>((n,()),())) rfl (zkx (p:=fun (n:Bool)=>((n,()),())) rfl (zkx (p:=fun (n:Bool)=>((n,()),())) rfl rfl))))))))))))
theorem yJZ:ConOk Tryz.prog 91 yxZ:=(yYR).mono (fun x r _ h=>(y0Y x.1 x.2.1).trans h)
theorem yXU (a b:dA):yZ a b=decide (a=b):=by
 unfold yZ
 simp only [zkz,zkA,zkB,zkC,zkD,yIb,yGF,yGE,Prod.ext_iff,Bool.decide_and,Bool.and_true]
theorem yIe (a:dA):yZ a a=true:=by rw [yXU]; exact decide_eq_true rfl
end
section
def yh8:Code:=(Tryz.f257.body).getD .skip
def yoq:Env:=zki TT [] []
theorem yMg:FrOk Tryz.prog ⟨yoq,19,fun _=>none⟩ yh8:=zkp yb yc trivial
def yA0:Nat→Option Seg:=fun _=>none
def ycp:Shape:=⟨[(0,false,[.at 1000001000]),(1,false,[.int .i64]),(5,false,[.int .i64])],[],[(1000001000,tI,.fz)]⟩
def yiH:Shape:=⟨[(0,false,[.at 1000001000]),(1,false,[.int .i64]),(5,false,[.ci .i64 0])],[],[(1000001000,tI,.fz)]⟩
def yio:Shape:=⟨[(1,false,[.int .i64])],[],[(1000001000,tI,.fz)]⟩
def yi9:Shape:=⟨[],[],[]⟩
def yoa (v0 v1:Int) (v2:List Int):Option ((ycp).X ⊕ ((yio).X ⊕ (yi9).X)) :=
 bif (ltb v1 (v2.length:Int)) then
 bif (inb v1 v2.length) then
 some (.inl ((((),()),((IntKind.i64.wrap (v0+1)),()),((IntKind.i64.wrap (v1+1)),()),()),(),((v2.set (v1).toNat v0),())))
 else none
 else
 some (.inr (.inl (((v0,()),()),(),(v2,()))))
def ybi (x:(ycp).X):=yoa x.1.2.1.1 x.1.2.2.1.1 x.2.2.1
def yxm (x:(yiH).X):(ycp).X:=((((),()),(x.1.2.1.1,()),(0,()),()),(),(x.2.2.1,()))
def yzd:Code:=(zdI yh8 64 52).getD .skip
theorem yLG:zdI yh8 64 13=some (.block 0 (.loop yzd)):=by kernel_rfl
theorem yNk (x:(ycp).X):zg7 ⟨yoq,19,yA0⟩ 0 yzd 52 ycp yio yi9 x=ybi x:=by kernel_rfl
def yxy (x:(yiH).X):Nat:=18446744073709551616
def ypX (x:(yiH).X):Option ((yio).X ⊕ (yi9).X):=zr ybi (yxy x) (yxm x)
def yxO:Seg:=⟨yiH,yio,yi9,ypX⟩
def yA1:Nat→Option Seg:=fun q=>bif Nat.beq q 13 then some yxO else yA0 q
theorem yMh:FrOk Tryz.prog ⟨yoq,19,yA1⟩ yh8:=(yMg).loop (sg:=yxO) ycp yxm (by decide) yLG ybi yxy (by decide) (fun _=>rfl) (fun x r _ h=>h) yNk
abbrev ye4:List Par:= [.mt tL (.ow .fz),.rd tI]
abbrev yoK:List OT:= [⟨false,tI,.fz⟩]
def ykp (a0:List Int) (a1:Int):Option (ResD yoK×MutD ye4) :=
 zjw (ypX ((((),()),(a1,()),((),()),()),(),(a0,()))) (fun y0 =>
 some ((y0.1.1.1,()),(y0.2.2.1,()))) (fun y0 =>
 none)
theorem yT8 (x:InD ye4):zjH ⟨yoq,19,yA1⟩ Tryz.f257.results.toList yh8 ye4 yoK x=ykp x.1 x.2.1:=by kernel_rfl
theorem yO6:ConOk Tryz.prog 257 ⟨ye4,yoK,fun x=>ykp x.1 x.2.1⟩:=zkh (yMh) Tryz.func257 (by kernel_rfl) (by kernel_rfl) Tryz.ntmps257.symm (by decide) (fun x r h=>(yT8 x).trans h)
def yhq (k:Int):Nat→List Int
 | 0=> []
 | n+1=>k::yhq (IntKind.i64.wrap (k+1)) n
def yG (k:Int):Nat→Int
 | 0=>k
 | n+1=>yG (IntKind.i64.wrap (k+1)) n
theorem yuY: ∀ (n:Nat) (k:Int),(yhq k n).length=n
 | 0,_=>rfl
 | n+1,k=>by simp [yhq,yuY n]
theorem yVb: ∀ (n:Nat) (k:Int),yhq k (n+1)=yhq k n++ [yG k n]
 | 0,_=>rfl
 | n+1,k=>by rw [yhq,yVb n]; rfl
theorem yEo: ∀ (n:Nat) (k:Int),yG k (n+1)=IntKind.i64.wrap (yG k n+1)
 | 0,_=>rfl
 | n+1,k=>by rw [yG,yEo n]; rfl
def yR (a0:List Int) (a1:Int):Int×List Int:=(yG a1 a0.length,yhq a1 a0.length)
theorem yR2 (a0:List Int) (a1:Int) (hk:zi9 ye4 (a0,a1,())):ykp a0 a1=(fun n=>some ((n.1,()),(n.2,()))) (yR a0 a1):=by
 have hb:a0.length * 8≤2 ^ 47:=hk.1.1
 have hs: ∀ i,i < a0.length→(yhq a1 i++a0.drop i).set i (yG a1 i)=yhq a1 (i+1)++a0.drop (i+1):=fun i hi=>by
  rw [List.set_append_right _ _ (by rw [yuY]; exact Nat.le_refl _),yuY,Nat.sub_self,yVb,List.append_assoc,List.drop_eq_getElem_cons hi]; rfl
 have hl:ypX ((((),()),(a1,()),((),()),()),(),(a0,()))=some (.inl (((yG a1 a0.length,()),()),(),(yhq a1 a0.length++a0.drop a0.length,()))) :=
  zjs (step:=ybi) (fun i=>((((),()),(yG a1 i,()),((i:Int),()),()),(),(yhq a1 i++a0.drop i,()))) a0.length _ (fun i hi=>by
   have hL:(yhq a1 i++a0.drop i).length=a0.length:=by rw [List.length_append,yuY,List.length_drop]; omega
   simp only [ybi,yoa,hL,zkO hi,zjI (show (i:Int) < a0.length by omega),cond_true,wr (show -9223372036854775808≤(i:Int)+1 by omega) (by omega),Int.natCast_add,Int.natCast_one,yEo,Int.toNat_natCast,hs i hi]) (by
   have hL:(yhq a1 a0.length++a0.drop a0.length).length=a0.length:=by rw [List.length_append,yuY,List.length_drop]; omega
   simp only [ybi,yoa,hL,zkm (Int.le_refl _),cond_false]) _ (by show _ < 18446744073709551616; omega)
 rw [List.drop_length,List.append_nil]at hl
 unfold ykp
 rw [hl]
 rfl
def yf1:Con:=⟨ye4,yoK,fun x=>(fun n=>some ((n.1,()),(n.2,()))) (yR x.1 x.2.1)⟩
theorem ymw:ConOk Tryz.prog 257 yf1:=(yO6).mono (fun x r hk h=>(yR2 x.1 x.2.1 hk).trans h)
theorem yrq: ∀ (n:Nat) (k:Int),0≤k→k+n≤9223372036854775807→yG k n=k+n
 | 0,k,_,_=>by simp [yG]
 | n+1,k,h,h2=>by
  rw [yG,wr (by omega) (by omega),yrq n (k+1) (by omega) (by omega)]; omega
theorem y3B {n:Nat} (h:n≤4611686018427387903): ¬ yG 1 n < 0:=by rw [yrq n 1 (by omega) (by omega)]; omega
theorem y51 {n:Nat} (h:n≤4611686018427387903):ltb (yG 1 n) 0=false:=zkm (Int.not_lt.1 (y3B h))
end
end
end Go.Tf
