/- Functions of the program, and what they come to. -/
import Derived.Test.YtgmadfpnljibhaaGreatExactFlushStripeF20
namespace Go.Tf
noncomputable section
open Go.Proofs
set_option synthInstance.maxHeartbeats 400000
set_option synthInstance.maxSize 10000
set_option linter.unusedVariables false
set_option linter.unusedSimpArgs false
set_option maxRecDepth 100000
section
def yJA:Code:=(Tryz.f253.body).getD .skip
def yJZ:Env:=zki TT [(283,yCz),(284,yGG),(285,yiX)] []
theorem yS0:FrOk Tryz.prog ⟨yJZ,28,fun _=>none⟩ yJA:=zkp yb yc ⟨yUL,yZX,yqZ,trivial⟩
def yVx:Nat→Option Seg:=fun _=>none
abbrev ypx:List Par:= [.rd tM,.rd tM]
abbrev yuX:List OT:= [⟨false,tB,.fz⟩]
def yxs (a0 a1:dM):Option (ResD yuX×MutD ypx) :=
 let r1:=yd8 a0.1 a1.1
 bif (!r1) then
 some ((false,()),())
 else
 let r2:=ygP a0.2.1 a1.2.1
 bif (!r2) then
 some ((false,()),())
 else
 bif (!(a0.2.2.1==a1.2.2.1)) then
 some ((false,()),())
 else
 let r3:=yH a0.2.2.2 a1.2.2.2
 bif (!r3) then
 some ((false,()),())
 else
 some ((true,()),())
theorem y0z (x:InD ypx):zjH ⟨yJZ,28,yVx⟩ Tryz.f253.results.toList yJA ypx yuX x=yxs x.1 x.2.1:=by kernel_rfl
theorem yXf:ConOk Tryz.prog 253 ⟨ypx,yuX,fun x=>yxs x.1 x.2.1⟩:=zkh (yS0) Tryz.func253 (by kernel_rfl) (by kernel_rfl) Tryz.ntmps253.symm (by decide) (fun x r h=>(y0z x).trans h)
def yeB (a0 a1:dM):Bool :=
 let r1:=yd8 a0.1 a1.1
 bif (!r1) then
 false
 else
 let r2:=ygP a0.2.1 a1.2.1
 bif (!r2) then
 false
 else
 bif (!(a0.2.2.1==a1.2.2.1)) then
 false
 else
 let r3:=yH a0.2.2.2 a1.2.2.2
 bif (!r3) then
 false
 else
 true
def yGF:Con:=⟨ypx,yuX,fun x=>(fun n=>some ((n,()),())) (yeB x.1 x.2.1)⟩
theorem yZn (a0 a1:dM):yxs a0 a1=(fun n=>some ((n,()),())) (yeB a0 a1):=zkS (p:=fun (n:Bool)=>((n,()),())) (zkx (p:=fun (n:Bool)=>((n,()),())) rfl (zkx (p:=fun (n:Bool)=>((n,()),())) rfl (zkx (p:=fun (n:Bool)=>((n,()),())) rfl (zkx (p:=fun (n:Bool)=>((n,()),())) rfl rfl))))
theorem yZW:ConOk Tryz.prog 253 yGF:=(yXf).mono (fun x r _ h=>(yZn x.1 x.2.1).trans h)
theorem yG0 (a b:dM):yeB a b=decide (a=b):=by
 unfold yeB
 simp only [zkz,zkA,zkB,zkC,zkD,yC4,yG1,yi0,Prod.ext_iff,Bool.decide_and,Bool.and_true]
theorem y26 (a:dM):yeB a a=true:=by rw [yG0]; exact decide_eq_true rfl
end
section
def ymr:Code:=(Tryz.f193.body).getD .skip
def ysg:Env:=zki TT [(253,yGF)] []
theorem yPg:FrOk Tryz.prog ⟨ysg,27,fun _=>none⟩ ymr:=zkp yb yc ⟨yZW,trivial⟩
def yEg:Nat→Option Seg:=fun _=>none
def ydZ:Shape:=⟨[(0,false,[.br tM]),(1,false,[.br tM]),(5,false,[.int .i64])],[],[]⟩
def yly:Shape:=⟨[(0,false,[.br tM]),(1,false,[.br tM]),(5,false,[.ci .i64 0])],[],[]⟩
def ylq:Shape:=⟨[],[],[]⟩
def ylK:Shape:=⟨[(4,false,[.bool])],[],[]⟩
def yrO (v0 v1:List dM) (v2:Int):Option ((ydZ).X ⊕ ((ylq).X ⊕ (ylK).X)) :=
 bif (ltb v2 (v0.length:Int)) then
 bif (inb v2 v0.length) then
 bif (inb v2 v1.length) then
 let r2:=yeB ((nth v0 v2 ([],[],false,[])).1,((nth v0 v2 ([],[],false,[])).2).1,(((nth v0 v2 ([],[],false,[])).2).2)) ((nth v1 v2 ([],[],false,[])).1,((nth v1 v2 ([],[],false,[])).2).1,(((nth v1 v2 ([],[],false,[])).2).2))
 bif (!r2) then
 some (.inr (.inr (((false,()),()),(),())))
 else
 some (.inl (((v0,()),(v1,()),((IntKind.i64.wrap (v2+1)),()),()),(),()))
 else none
 else none
 else
 some (.inr (.inl ((),(),())))
def yco (x:(ydZ).X):=yrO x.1.1.1 x.1.2.1.1 x.1.2.2.1.1
def yAH (x:(yly).X):(ydZ).X:=(((x.1.1.1,()),(x.1.2.1.1,()),(0,()),()),(),())
def yCh:Code:=(zdI ymr 64 116).getD .skip
theorem yOE:zdI ymr 64 29=some (.block 0 (.loop yCh)):=by kernel_rfl
theorem yRq (x:(ydZ).X):zg7 ⟨ysg,27,yEg⟩ 0 yCh 116 ydZ ylq ylK x=yco x:=by kernel_rfl
def yAW (x:(yly).X):Nat:=18446744073709551616
def ytg (x:(yly).X):Option ((ylq).X ⊕ (ylK).X):=zr yco (yAW x) (yAH x)
def yBf:Seg:=⟨yly,ylq,ylK,ytg⟩
def yEh:Nat→Option Seg:=fun q=>bif Nat.beq q 29 then some yBf else yEg q
theorem yPh:FrOk Tryz.prog ⟨ysg,27,yEh⟩ ymr:=(yPg).loop (sg:=yBf) ydZ yAH (by decide) yOE yco yAW (by decide) (fun _=>rfl) (fun x r _ h=>h) yRq
abbrev yho:List Par:= [.rd tMs,.rd tMs]
abbrev ysF:List OT:= [⟨false,tB,.fz⟩]
def yoL (a0 a1:List dM):Option (ResD ysF×MutD yho) :=
 bif ((a0.length:Int) !=(a1.length:Int)) then
 some ((false,()),())
 else
 zjw (ytg (((a0,()),(a1,()),((),()),()),(),())) (fun y2 =>
 some ((true,()),())) (fun y2 =>
 some ((y2.1.1.1,()),()))
theorem yYL (x:InD yho):zjH ⟨ysg,27,yEh⟩ Tryz.f193.results.toList ymr yho ysF x=yoL x.1 x.2.1:=by kernel_rfl
theorem yUh:ConOk Tryz.prog 193 ⟨yho,ysF,fun x=>yoL x.1 x.2.1⟩:=zkh (yPh) Tryz.func193 (by kernel_rfl) (by kernel_rfl) Tryz.ntmps193.symm (by decide) (fun x r h=>(yYL x).trans h)
def yfh (a0 a1:List (dM)):Bool:=decide (a0=a1)
theorem yWF (a0 a1:List (dM)) (hk:zi9 yho (a0,a1,())):yoL a0 a1=(fun n=>some ((n,()),())) (yfh a0 a1):=by
 have hb:a0.length * 80≤2 ^ 47:=hk.1.1
 unfold yoL yfh
 by_cases h:a0.length=a1.length
 ·have hl:ytg (((a0,()),(a1,()),((),()),()),(),())=some (bif decide (a0=a1) then .inl ((),(),()) else .inr (((false,()),()),(),())) :=
   zkF (step:=yco) a0 a1 (([],[],false,[]):dM) (fun i=>(((a0,()),(a1,()),((i:Int),()),()),(),())) yeB yG0 _ _ h (fun i hi=>by
    simp only [yco,yrO,zkO (h ▸ hi),zkO hi,zjW,Int.toNat_natCast,zjI (show (i:Int) < a0.length by omega),cond_true,wr (show -9223372036854775808≤(i:Int)+1 by omega) (by omega),Int.natCast_add,Int.natCast_one,zkV]
    cases yeB (a0.getD i ([],[],false,[])) (a1.getD i ([],[],false,[]))<;>rfl) (by simp only [yco,yrO,zkm (Int.le_refl _),cond_false]) _ (by show _ < 18446744073709551616; omega)
  rw [show ((a0.length:Int) !=(a1.length:Int))=false by simp [h],zkX,hl]
  cases decide (a0=a1)<;>rfl
 ·rw [show ((a0.length:Int) !=(a1.length:Int))=true from bne_iff_ne.2 (by omega),zkY,decide_eq_false (fun e=>h (congrArg _ e))]
theorem yFA (a0 a1:List (dM)):yfh a0 a1=decide (a0=a1):=rfl
def yFg:Con:=⟨yho,ysF,fun x=>(fun n=>some ((n,()),())) (yfh x.1 x.2.1)⟩
theorem yXK:ConOk Tryz.prog 193 yFg:=(yUh).mono (fun x r hk h=>(yWF x.1 x.2.1 hk).trans h)
theorem y2V (a:List dM):yfh a a=true:=by rw [yFA]; exact decide_eq_true rfl
end
section
def yJy:Code:=(Tryz.f254.body).getD .skip
def yJX:Env:=zki TT [(285,yiX)] []
theorem ySY:FrOk Tryz.prog ⟨yJX,16,fun _=>none⟩ yJy:=zkp yb yc ⟨yqZ,trivial⟩
def yVv:Nat→Option Seg:=fun _=>none
abbrev ypv:List Par:= [.rd tW,.rd tW]
abbrev yuV:List OT:= [⟨false,tB,.fz⟩]
def yxq (a0 a1:dW):Option (ResD yuV×MutD ypv) :=
 bif (a0.1 !=a1.1) then
 some ((false,()),())
 else
 let r1:=yH a0.2 a1.2
 bif (!r1) then
 some ((false,()),())
 else
 some ((true,()),())
theorem y0x (x:InD ypv):zjH ⟨yJX,16,yVv⟩ Tryz.f254.results.toList yJy ypv yuV x=yxq x.1 x.2.1:=by kernel_rfl
theorem yXd:ConOk Tryz.prog 254 ⟨ypv,yuV,fun x=>yxq x.1 x.2.1⟩:=zkh (ySY) Tryz.func254 (by kernel_rfl) (by kernel_rfl) Tryz.ntmps254.symm (by decide) (fun x r h=>(y0x x).trans h)
def yeA (a0 a1:dW):Bool :=
 bif (a0.1 !=a1.1) then
 false
 else
 let r1:=yH a0.2 a1.2
 bif (!r1) then
 false
 else
 true
def yGD:Con:=⟨ypv,yuV,fun x=>(fun n=>some ((n,()),())) (yeA x.1 x.2.1)⟩
theorem yZl (a0 a1:dW):yxq a0 a1=(fun n=>some ((n,()),())) (yeA a0 a1):=zkS (p:=fun (n:Bool)=>((n,()),())) (zkx (p:=fun (n:Bool)=>((n,()),())) rfl (zkx (p:=fun (n:Bool)=>((n,()),())) rfl rfl))
theorem yZU:ConOk Tryz.prog 254 yGD:=(yXd).mono (fun x r _ h=>(yZl x.1 x.2.1).trans h)
theorem yGY (a b:dW):yeA a b=decide (a=b):=by
 unfold yeA
 simp only [zkz,zkA,zkB,zkC,zkD,yi0,Prod.ext_iff,Bool.decide_and,Bool.and_true]
theorem y24 (a:dW):yeA a a=true:=by rw [yGY]; exact decide_eq_true rfl
end
section
def ymp:Code:=(Tryz.f194.body).getD .skip
def yse:Env:=zki TT [(254,yGD)] []
theorem yPc:FrOk Tryz.prog ⟨yse,27,fun _=>none⟩ ymp:=zkp yb yc ⟨yZU,trivial⟩
def yEc:Nat→Option Seg:=fun _=>none
def ydX:Shape:=⟨[(0,false,[.br tW]),(1,false,[.br tW]),(5,false,[.int .i64])],[],[]⟩
def ylw:Shape:=⟨[(0,false,[.br tW]),(1,false,[.br tW]),(5,false,[.ci .i64 0])],[],[]⟩
def ylo:Shape:=⟨[],[],[]⟩
def ylI:Shape:=⟨[(4,false,[.bool])],[],[]⟩
def yrM (v0 v1:List dW) (v2:Int):Option ((ydX).X ⊕ ((ylo).X ⊕ (ylI).X)) :=
 bif (ltb v2 (v0.length:Int)) then
 bif (inb v2 v0.length) then
 bif (inb v2 v1.length) then
 let r2:=yeA (nth v0 v2 (0,[])) (nth v1 v2 (0,[]))
 bif (!r2) then
 some (.inr (.inr (((false,()),()),(),())))
 else
 some (.inl (((v0,()),(v1,()),((IntKind.i64.wrap (v2+1)),()),()),(),()))
 else none
 else none
 else
 some (.inr (.inl ((),(),())))
def ycm (x:(ydX).X):=yrM x.1.1.1 x.1.2.1.1 x.1.2.2.1.1
def yAF (x:(ylw).X):(ydX).X:=(((x.1.1.1,()),(x.1.2.1.1,()),(0,()),()),(),())
def yCf:Code:=(zdI ymp 64 116).getD .skip
theorem yOC:zdI ymp 64 29=some (.block 0 (.loop yCf)):=by kernel_rfl
theorem yRo (x:(ydX).X):zg7 ⟨yse,27,yEc⟩ 0 yCf 116 ydX ylo ylI x=ycm x:=by kernel_rfl
def yAU (x:(ylw).X):Nat:=18446744073709551616
def yte (x:(ylw).X):Option ((ylo).X ⊕ (ylI).X):=zr ycm (yAU x) (yAF x)
def yBd:Seg:=⟨ylw,ylo,ylI,yte⟩
def yEd:Nat→Option Seg:=fun q=>bif Nat.beq q 29 then some yBd else yEc q
theorem yPd:FrOk Tryz.prog ⟨yse,27,yEd⟩ ymp:=(yPc).loop (sg:=yBd) ydX yAF (by decide) yOC ycm yAU (by decide) (fun _=>rfl) (fun x r _ h=>h) yRo
abbrev yhm:List Par:= [.rd tWs,.rd tWs]
abbrev ysD:List OT:= [⟨false,tB,.fz⟩]
def yoJ (a0 a1:List dW):Option (ResD ysD×MutD yhm) :=
 bif ((a0.length:Int) !=(a1.length:Int)) then
 some ((false,()),())
 else
 zjw (yte (((a0,()),(a1,()),((),()),()),(),())) (fun y2 =>
 some ((true,()),())) (fun y2 =>
 some ((y2.1.1.1,()),()))
theorem yYJ (x:InD yhm):zjH ⟨yse,27,yEd⟩ Tryz.f194.results.toList ymp yhm ysD x=yoJ x.1 x.2.1:=by kernel_rfl
theorem yUf:ConOk Tryz.prog 194 ⟨yhm,ysD,fun x=>yoJ x.1 x.2.1⟩:=zkh (yPd) Tryz.func194 (by kernel_rfl) (by kernel_rfl) Tryz.ntmps194.symm (by decide) (fun x r h=>(yYJ x).trans h)
def yfg (a0 a1:List (dW)):Bool:=decide (a0=a1)
theorem yWD (a0 a1:List (dW)) (hk:zi9 yhm (a0,a1,())):yoJ a0 a1=(fun n=>some ((n,()),())) (yfg a0 a1):=by
 have hb:a0.length * 32≤2 ^ 47:=hk.1.1
 unfold yoJ yfg
 by_cases h:a0.length=a1.length
 ·have hl:yte (((a0,()),(a1,()),((),()),()),(),())=some (bif decide (a0=a1) then .inl ((),(),()) else .inr (((false,()),()),(),())) :=
   zkF (step:=ycm) a0 a1 ((0,[]):dW) (fun i=>(((a0,()),(a1,()),((i:Int),()),()),(),())) yeA yGY _ _ h (fun i hi=>by
    simp only [ycm,yrM,zkO (h ▸ hi),zkO hi,zjW,Int.toNat_natCast,zjI (show (i:Int) < a0.length by omega),cond_true,wr (show -9223372036854775808≤(i:Int)+1 by omega) (by omega),Int.natCast_add,Int.natCast_one,zkV]
    cases yeA (a0.getD i (0,[])) (a1.getD i (0,[]))<;>rfl) (by simp only [ycm,yrM,zkm (Int.le_refl _),cond_false]) _ (by show _ < 18446744073709551616; omega)
  rw [show ((a0.length:Int) !=(a1.length:Int))=false by simp [h],zkX,hl]
  cases decide (a0=a1)<;>rfl
 ·rw [show ((a0.length:Int) !=(a1.length:Int))=true from bne_iff_ne.2 (by omega),zkY,decide_eq_false (fun e=>h (congrArg _ e))]
theorem yFz (a0 a1:List (dW)):yfg a0 a1=decide (a0=a1):=rfl
def yFf:Con:=⟨yhm,ysD,fun x=>(fun n=>some ((n,()),())) (yfg x.1 x.2.1)⟩
theorem yXJ:ConOk Tryz.prog 194 yFf:=(yUf).mono (fun x r hk h=>(yWD x.1 x.2.1 hk).trans h)
theorem y2T (a:List dW):yfg a a=true:=by rw [yFz]; exact decide_eq_true rfl
end
section
def yJx:Code:=(Tryz.f91.body).getD .skip
def yJW:Env:=zki TT [(192,yGE),(193,yFg),(194,yFf)] []
theorem ySX:FrOk Tryz.prog ⟨yJW,68,fun _=>none⟩ yJx:=zkp yb yc ⟨yZV,yXK,yXJ,trivial⟩
def yVu:Nat→Option Seg:=fun _=>none
abbrev ypu:List Par:= [.rd tA,.rd tA]
abbrev yuU:List OT:= [⟨false,tB,.fz⟩]
def yxp (a0 a1:dA):Option (ResD yuU×MutD ypu) :=
 bif (a0.1 !=a1.1) then
 some ((false,()),())
 else
 let r1:=ygO a0.2.1 a1.2.1
 bif (!r1) then
 some ((false,()),())
 else
 let r2:=yfh a0.2.2.1 a1.2.2.1
 bif (!r2) then
 some ((false,()),())
 else
 bif (a0.2.2.2.1 !=a1.2.2.2.1) then
 some ((false,()),())
 else
 bif (a0.2.2.2.2.1 !=a1.2.2.2.2.1) then
 some ((false,()),())
 else
 bif (a0.2.2.2.2.2.1 !=a1.2.2.2.2.2.1) then
 some ((false,()),())
 else
 bif (a0.2.2.2.2.2.2.1 !=a1.2.2.2.2.2.2.1) then
 some ((false,()),())
 else
 bif (a0.2.2.2.2.2.2.2.1 !=a1.2.2.2.2.2.2.2.1) then
 some ((false,()),())
 else
 let r3:=yfg a0.2.2.2.2.2.2.2.2.1 a1.2.2.2.2.2.2.2.2.1
 bif (!r3) then
 some ((false,()),())
 else
 bif (a0.2.2.2.2.2.2.2.2.2.1 !=a1.2.2.2.2.2.2.2.2.2.1) then
 some ((false,()),())
 else
 bif (!(a0.2.2.2.2.2.2.2.2.2.2.1==a1.2.2.2.2.2.2.2.2.2.2.1)) then
 some ((false,()),())
 else
 bif (!(a0.2.2.2.2.2.2.2.2.2.2.2==a1.2.2.2.2.2.2.2.2.2.2.2)) then
 some ((false,()),())
 else
 some ((true,()),())
theorem y0w (x:InD ypu):zjH ⟨yJW,68,yVu⟩ Tryz.f91.results.toList yJx ypu yuU x=yxp x.1 x.2.1:=by kernel_rfl
theorem yXc:ConOk Tryz.prog 91 ⟨ypu,yuU,fun x=>yxp x.1 x.2.1⟩:=zkh (ySX) Tryz.func91 (by kernel_rfl) (by kernel_rfl) Tryz.ntmps91.symm (by decide) (fun x r h=>(y0w x).trans h)
def yc1 (a0 a1:dA):Bool :=
 bif (a0.1 !=a1.1) then
 false
 else
 let r1:=ygO a0.2.1 a1.2.1
 bif (!r1) then
 false
 else
 let r2:=yfh a0.2.2.1 a1.2.2.1
 bif (!r2) then
 false
 else
 bif (a0.2.2.2.1 !=a1.2.2.2.1) then
 false
 else
 bif (a0.2.2.2.2.1 !=a1.2.2.2.2.1) then
 false
 else
 bif (a0.2.2.2.2.2.1 !=a1.2.2.2.2.2.1) then
 false
 else
 bif (a0.2.2.2.2.2.2.1 !=a1.2.2.2.2.2.2.1) then
 false
 else
 bif (a0.2.2.2.2.2.2.2.1 !=a1.2.2.2.2.2.2.2.1) then
 false
 else
 let r3:=yfg a0.2.2.2.2.2.2.2.2.1 a1.2.2.2.2.2.2.2.2.1
 bif (!r3) then
 false
 else
 bif (a0.2.2.2.2.2.2.2.2.2.1 !=a1.2.2.2.2.2.2.2.2.2.1) then
 false
 else
 bif (!(a0.2.2.2.2.2.2.2.2.2.2.1==a1.2.2.2.2.2.2.2.2.2.2.1)) then
 false
 else
 bif (!(a0.2.2.2.2.2.2.2.2.2.2.2==a1.2.2.2.2.2.2.2.2.2.2.2)) then
 false
 else
 true
def yGC:Con:=⟨ypu,yuU,fun x=>(fun n=>some ((n,()),())) (yc1 x.1 x.2.1)⟩
theorem yZk (a0 a1:dA):yxp a0 a1=(fun n=>some ((n,()),())) (yc1 a0 a1):=zkS (p:=fun (n:Bool)=>((n,()),())) (zkx (p:=fun (n:Bool)=>((n,()),())) rfl (zkx (p:=fun (n:Bool)=>((n,()),())) rfl (zkx (p:=fun (n:Bool)=>((n,()),())) rfl (zkx (p:=fun (n:Bool)=>((n,()),())) rfl (zkx (p:=fun (n:Bool)=>((n,()),())) rfl (zkx (p:=fun (n:Bool)=>((n,()),())) rfl (zkx (p:=fun (n:Bool)=>((n,()),())) rfl (zkx (p:=fun (n:Bool)=>((n,()),())) rfl (zkx (p:=fun (n:Bool)=>((n,()),())) rfl (zkx (p:=fun (n:Bool)=>((n,()),())) rfl (zkx (p:=fun (n:Bool)=>((n,()),())) rfl (zkx (p:=fun (n:Bool)=>((n,()),())) rfl rfl))))))))))))
theorem yZT:ConOk Tryz.prog 91 yGC:=(yXc).mono (fun x r _ h=>(yZk x.1 x.2.1).trans h)
theorem yWf (a b:dA):yc1 a b=decide (a=b):=by
 unfold yc1
 simp only [zkz,zkA,zkB,zkC,zkD,yGZ,yFA,yFz,Prod.ext_iff,Bool.decide_and,Bool.and_true]
theorem yWg (a:dA):yc1 a a=true:=by rw [yWf]; exact decide_eq_true rfl
end
section
def yhQ:Code:=(Tryz.f257.body).getD .skip
def ynW:Env:=zki TT [] []
theorem yKV:FrOk Tryz.prog ⟨ynW,19,fun _=>none⟩ yhQ:=zkp yb yc trivial
def yz2:Nat→Option Seg:=fun _=>none
def yce:Shape:=⟨[(0,false,[.at 1000001000]),(1,false,[.int .i64]),(5,false,[.int .i64])],[],[(1000001000,tI,.fz)]⟩
def yip:Shape:=⟨[(0,false,[.at 1000001000]),(1,false,[.int .i64]),(5,false,[.ci .i64 0])],[],[(1000001000,tI,.fz)]⟩
def yh6:Shape:=⟨[(1,false,[.int .i64])],[],[(1000001000,tI,.fz)]⟩
def yiQ:Shape:=⟨[],[],[]⟩
def ynH (v0 v1:Int) (v2:List Int):Option ((yce).X ⊕ ((yh6).X ⊕ (yiQ).X)) :=
 bif (ltb v1 (v2.length:Int)) then
 bif (inb v1 v2.length) then
 some (.inl ((((),()),((IntKind.i64.wrap (v0+1)),()),((IntKind.i64.wrap (v1+1)),()),()),(),((v2.set (v1).toNat v0),())))
 else none
 else
 some (.inr (.inl (((v0,()),()),(),(v2,()))))
def ya8 (x:(yce).X):=ynH x.1.2.1.1 x.1.2.2.1.1 x.2.2.1
def ywy (x:(yip).X):(yce).X:=((((),()),(x.1.2.1.1,()),(0,()),()),(),(x.2.2.1,()))
def yyi:Code:=(zdI yhQ 64 52).getD .skip
theorem yKm:zdI yhQ 64 13=some (.block 0 (.loop yyi)):=by kernel_rfl
theorem yLX (x:(yce).X):zg7 ⟨ynW,19,yz2⟩ 0 yyi 52 yce yh6 yiQ x=ya8 x:=by kernel_rfl
def ywJ (x:(yip).X):Nat:=18446744073709551616
def ypo (x:(yip).X):Option ((yh6).X ⊕ (yiQ).X):=zr ya8 (ywJ x) (ywy x)
def ywW:Seg:=⟨yip,yh6,yiQ,ypo⟩
def yz3:Nat→Option Seg:=fun q=>bif Nat.beq q 13 then some ywW else yz2 q
theorem yKW:FrOk Tryz.prog ⟨ynW,19,yz3⟩ yhQ:=(yKV).loop (sg:=ywW) yce ywy (by decide) yKm ya8 ywJ (by decide) (fun _=>rfl) (fun x r _ h=>h) yLX
abbrev yeR:List Par:= [.mt tL (.ow .fz),.rd tI]
abbrev yof:List OT:= [⟨false,tI,.fz⟩]
def yj4 (a0:List Int) (a1:Int):Option (ResD yof×MutD yeR) :=
 zjw (ypo ((((),()),(a1,()),((),()),()),(),(a0,()))) (fun y0 =>
 some ((y0.1.1.1,()),(y0.2.2.1,()))) (fun y0 =>
 none)
theorem ySB (x:InD yeR):zjH ⟨ynW,19,yz3⟩ Tryz.f257.results.toList yhQ yeR yof x=yj4 x.1 x.2.1:=by kernel_rfl
theorem yNG:ConOk Tryz.prog 257 ⟨yeR,yof,fun x=>yj4 x.1 x.2.1⟩:=zkh (yKW) Tryz.func257 (by kernel_rfl) (by kernel_rfl) Tryz.ntmps257.symm (by decide) (fun x r h=>(ySB x).trans h)
def yha (k:Int):Nat→List Int
 | 0=> []
 | n+1=>k::yha (IntKind.i64.wrap (k+1)) n
def yE (k:Int):Nat→Int
 | 0=>k
 | n+1=>yE (IntKind.i64.wrap (k+1)) n
theorem yuh: ∀ (n:Nat) (k:Int),(yha k n).length=n
 | 0,_=>rfl
 | n+1,k=>by simp [yha,yuh n]
theorem yTz: ∀ (n:Nat) (k:Int),yha k (n+1)=yha k n++ [yE k n]
 | 0,_=>rfl
 | n+1,k=>by rw [yha,yTz n]; rfl
theorem yDp: ∀ (n:Nat) (k:Int),yE k (n+1)=IntKind.i64.wrap (yE k n+1)
 | 0,_=>rfl
 | n+1,k=>by rw [yE,yDp n]; rfl
def yQ (a0:List Int) (a1:Int):Int×List Int:=(yE a1 a0.length,yha a1 a0.length)
theorem yQz (a0:List Int) (a1:Int) (hk:zi9 yeR (a0,a1,())):yj4 a0 a1=(fun n=>some ((n.1,()),(n.2,()))) (yQ a0 a1):=by
 have hb:a0.length * 8≤2 ^ 47:=hk.1.1
 have hs: ∀ i,i < a0.length→(yha a1 i++a0.drop i).set i (yE a1 i)=yha a1 (i+1)++a0.drop (i+1):=fun i hi=>by
  rw [List.set_append_right _ _ (by rw [yuh]; exact Nat.le_refl _),yuh,Nat.sub_self,yTz,List.append_assoc,List.drop_eq_getElem_cons hi]; rfl
 have hl:ypo ((((),()),(a1,()),((),()),()),(),(a0,()))=some (.inl (((yE a1 a0.length,()),()),(),(yha a1 a0.length++a0.drop a0.length,()))) :=
  zjs (step:=ya8) (fun i=>((((),()),(yE a1 i,()),((i:Int),()),()),(),(yha a1 i++a0.drop i,()))) a0.length _ (fun i hi=>by
   have hL:(yha a1 i++a0.drop i).length=a0.length:=by rw [List.length_append,yuh,List.length_drop]; omega
   simp only [ya8,ynH,hL,zkO hi,zjI (show (i:Int) < a0.length by omega),cond_true,wr (show -9223372036854775808≤(i:Int)+1 by omega) (by omega),Int.natCast_add,Int.natCast_one,yDp,Int.toNat_natCast,hs i hi]) (by
   have hL:(yha a1 a0.length++a0.drop a0.length).length=a0.length:=by rw [List.length_append,yuh,List.length_drop]; omega
   simp only [ya8,ynH,hL,zkm (Int.le_refl _),cond_false]) _ (by show _ < 18446744073709551616; omega)
 rw [List.drop_length,List.append_nil]at hl
 unfold yj4
 rw [hl]
 rfl
def yfL:Con:=⟨yeR,yof,fun x=>(fun n=>some ((n.1,()),(n.2,()))) (yQ x.1 x.2.1)⟩
theorem yl3:ConOk Tryz.prog 257 yfL:=(yNG).mono (fun x r hk h=>(yQz x.1 x.2.1 hk).trans h)
theorem yqQ: ∀ (n:Nat) (k:Int),0≤k→k+n≤9223372036854775807→yE k n=k+n
 | 0,k,_,_=>by simp [yE]
 | n+1,k,h,h2=>by
  rw [yE,wr (by omega) (by omega),yqQ n (k+1) (by omega) (by omega)]; omega
theorem y1S {n:Nat} (h:n≤4611686018427387903): ¬ yE 1 n < 0:=by rw [yqQ n 1 (by omega) (by omega)]; omega
theorem y4r {n:Nat} (h:n≤4611686018427387903):ltb (yE 1 n) 0=false:=zkm (Int.not_lt.1 (y1S h))
end
end
end Go.Tf
