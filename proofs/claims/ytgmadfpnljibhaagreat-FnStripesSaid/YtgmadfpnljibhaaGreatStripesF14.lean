/- Functions of the program, and what they come to. -/
import Derived.Test.YtgmadfpnljibhaaGreatStripesF13
namespace Go.Tf
noncomputable section
open Go.Proofs
set_option synthInstance.maxHeartbeats 400000
set_option synthInstance.maxSize 10000
set_option linter.unusedVariables false
set_option linter.unusedSimpArgs false
set_option maxRecDepth 100000
section
def ytT:Code:=(Tryz.f236.body).getD .skip
def ytU:Env:=zki TT [(275,yvj)] []
theorem yB6:FrOk Tryz.prog ⟨ytU,9,fun _=>none⟩ ytT:=zkp yb yd ⟨yJg,trivial⟩
def yC3:Nat→Option Seg:=fun _=>none
abbrev yaY:List Par:= [.rd tL,.rd tI]
abbrev yfr:List OT:= [⟨false,tB,.fz⟩]
def yd7 (a0:List Int) (a1:Int):Option (ResD yfr×MutD yaY) :=
 let r1:=ye6 a0 a1
 some (((leb 0 r1),()),())
theorem yGh (x:InD yaY):zjH ⟨ytU,9,yC3⟩ Tryz.f236.results.toList ytT yaY yfr x=yd7 x.1 x.2.1:=by kernel_rfl
theorem yC6:ConOk Tryz.prog 236 ⟨yaY,yfr,fun x=>yd7 x.1 x.2.1⟩:=zkh (yB6) Tryz.func236 (by kernel_rfl) (by kernel_rfl) Tryz.ntmps236.symm (by decide) (fun x r h=>(yGh x).trans h)
def ycN (a0:List Int) (a1:Int):Bool:=a0.any (· ==a1)
theorem yE3 (a0:List Int) (a1:Int) (hk:zi9 yaY (a0,a1,())):yd7 a0 a1=(fun n=>some ((n,()),())) (ycN a0 a1):=by
 unfold yd7 ycN ye6 yVJ
 cases a0.any (· ==a1)
 ·rfl
 ·simp only [cond_true]
  rw [zk0 (show (0:Int)≤((a0.takeWhile (· !=a1)).length:Int) by omega)]
def yq6:Con:=⟨yaY,yfr,fun x=>(fun n=>some ((n,()),())) (ycN x.1 x.2.1)⟩
theorem yE4:ConOk Tryz.prog 236 yq6:=(yC6).mono (fun x r hk h=>(yE3 x.1 x.2.1 hk).trans h)
end
section
def ykq:Code:=(Tryz.f156.body).getD .skip
def yqf:Env:=zki TT [(133,ylc),(200,ybN),(220,yov),(236,yq6)] []
theorem yMf:FrOk Tryz.prog ⟨yqf,49,fun _=>none⟩ ykq:=zkp yb yd ⟨ysR,yeB,ywZ,yE4,trivial⟩
def yAU:Nat→Option Seg:=fun _=>none
def ybC:Shape:=⟨[(1,false,[.int .i64]),(6,false,[.br tI]),(34,false,[.br tW]),(35,false,[.int .i64]),(36,false,[.int .i64])],[],[]⟩
def yf2:Shape:=⟨[(1,false,[.int .i64]),(6,false,[.br tI]),(34,false,[.br tW]),(35,false,[.int .i64]),(36,false,[.ci .i64 0])],[],[]⟩
def yfQ:Shape:=⟨[(6,false,[.br tI])],[],[]⟩
def yjT:Shape:=⟨[],[],[]⟩
abbrev ypG (v0:Int) (v1:List Int) (v2:List dW) (v3 v4:Int):(ybC).X:=(((v0,()),(v1,()),(v2,()),(v3,()),(v4,()),()),(),())
abbrev yKJ (v0:Int) (v1:List Int) (v2:List dW) (v3:Int):(yf2).X:=(((v0,()),(v1,()),(v2,()),(v3,()),((),()),()),(),())
abbrev yyt (v0:List Int):(yfQ).X:=(((v0,()),()),(),())
def yp1 (v0:Int) (v1:List Int) (v2:List dW) (v3 v4:Int):Option ((ybC).X ⊕ ((yfQ).X ⊕ (yjT).X)) :=
 bif (ltb v4 v3) then
 bif (inb v4 v2.length) then
 bif ((nth v2 v4 (0,[])).1==v0) then
 some (.inl (((v0,()),((nth v2 v4 (0,[])).2,()),(v2,()),(v3,()),((IntKind.i64.wrap (v4+1)),()),()),(),()))
 else
 some (.inl (((v0,()),(v1,()),(v2,()),(v3,()),((IntKind.i64.wrap (v4+1)),()),()),(),()))
 else none
 else
 some (.inr (.inl (((v1,()),()),(),())))
def ybS (x:(ybC).X):=yp1 x.1.1.1 x.1.2.1.1 x.1.2.2.1.1 x.1.2.2.2.1.1 x.1.2.2.2.2.1.1
def yxW (x:(yf2).X):(ybC).X:=(((x.1.1.1,()),(x.1.2.1.1,()),(x.1.2.2.1.1,()),(x.1.2.2.2.1.1,()),(0,()),()),(),())
def yzA:Code:=(zdI ykq 64 244).getD .skip
theorem yLX:zdI ykq 64 61=some (.block 0 (.loop yzA)):=by kernel_rfl
theorem yNE (x:(ybC).X):zg7 ⟨yqf,49,yAU⟩ 0 yzA 244 ybC yfQ yjT x=ybS x:=by kernel_rfl
def yyd (x:(yf2).X):Nat:=18446744073709551616
def yq8 (x:(yf2).X):Option ((yfQ).X ⊕ (yjT).X):=zr ybS (yyd x) (yxW x)
def yyD:Seg:=⟨yf2,yfQ,yjT,yq8⟩
def yAV:Nat→Option Seg:=fun q=>bif Nat.beq q 61 then some yyD else yAU q
theorem yMg:FrOk Tryz.prog ⟨yqf,49,yAV⟩ ykq:=(yMf).loop (sg:=yyD) ybC yxW (by decide) yLX ybS yyd (by decide) (fun _=>rfl) (fun x r _ h=>h) yNE
abbrev ygC:List Par:= [.rd tM,.rd tI]
abbrev yqn:List OT:= [⟨false,tL,(.ow .fz)⟩,⟨false,tB,.fz⟩]
def ymh (a0:dM) (a1:Int):Option (ResD yqn×MutD ygC) :=
 let r1:=ybf a0
 bif (!(!r1)) then
 bif (!a0.2.2.1) then
 let r2:=ybl a0 a1
 bif (!(!r2)) then
 let r3:=ycN a0.2.2.2 a1
 bif r3 then
 some (([],false,()),())
 else
 bif (inb a1 a0.1.length) then
 zjw (yq8 (((a1,()),((nth a0.1 a1 []),()),(a0.2.1,()),((a0.2.1.length:Int),()),((),()),()),(),())) (fun y3 =>
 let r5:=yp y3.1.1.1
 some ((r5,true,()),())) (fun y3 =>
 none)
 else none
 else
 some (([],false,()),())
 else
 some (([],false,()),())
 else
 some (([],false,()),())
theorem yVe (x:InD ygC):zjH ⟨yqf,49,yAV⟩ Tryz.f156.results.toList ykq ygC yqn x=ymh x.1 x.2.1:=by kernel_rfl
theorem yQq:ConOk Tryz.prog 156 ⟨ygC,yqn,fun x=>ymh x.1 x.2.1⟩:=zkh (yMg) Tryz.func156 (by kernel_rfl) (by kernel_rfl) Tryz.ntmps156.symm (by decide) (fun x r h=>(yVe x).trans h)
def ylm (a0:dM) (a1:Int):List Int×Bool:=ybQ a0 a1
theorem yTl (a0:dM) (a1:Int) (hk:zi9 ygC (a0,a1,())):ymh a0 a1=(fun n=>some ((n.1,n.2,()),())) (ylm a0 a1):=by
 have hb1:a0.1.length * 24≤2 ^ 47:=hk.1.1.1
 have hb2:a0.2.1.length * 32≤2 ^ 47:=hk.1.2.1.1
 have h1: ∀ s,yq8 (yKJ a1 s a0.2.1 a0.2.1.length)=some (.inl (yyt (yhC a1 a0.2.1 s))):=fun s =>
  zkk (step:=ybS) a0.2.1 (0,[]) (fun i s=>ypG a1 s a0.2.1 a0.2.1.length i) (fun s w=>bif w.1==a1 then w.2 else s) (fun _ _=>True) (fun s=> .inl (yyt s)) (fun i s hi _=>⟨by
   simp only [ybS,ypG,yp1,zjI (show (i:Int) < a0.2.1.length by omega),cond_true,wr (show -9223372036854775808≤(i:Int)+1 by omega) (by omega),Int.natCast_add,Int.natCast_one,Int.toNat_natCast,zkO hi,zjW]
   cases ((a0.2.1.getD i (0,[])).1==a1)<;>rfl,trivial⟩) (fun s _=>by simp only [ybS,ypG,yp1,zkm (Int.le_refl _),cond_false]) s trivial _ (by show _ < 18446744073709551616; omega)
 unfold ymh ylm ybQ ywU ybl
 rw [yai,ypD (show a0.1.length≤1152921504606846976 by omega)]
 unfold ybf ycN yp
 simp only [h1,zkJ]
 cases yl a0
 ·rfl
 cases a0.2.2.1
 ·cases inb a1 a0.1.length
  ·rfl
  ·cases a0.2.2.2.any (· ==a1)<;>rfl
 ·rfl
def yBA:Con:=⟨ygC,yqn,fun x=>(fun n=>some ((n.1,n.2,()),())) (ylm x.1 x.2.1)⟩
theorem yUi:ConOk Tryz.prog 156 yBA:=(yQq).mono (fun x r hk h=>(yTl x.1 x.2.1 hk).trans h)
end
section
def yHJ:Code:=(Tryz.f117.body).getD .skip
def yIf:Env:=zki TT [(47,yvd),(108,yvb),(156,yBA)] []
theorem yOU:FrOk Tryz.prog ⟨yIf,38,fun _=>none⟩ yHJ:=zkp yb yd ⟨yGx,yGv,yUi,trivial⟩
def yRt:Nat→Option Seg:=fun _=>none
abbrev yfB:List Par:= [.rd tA,.rd tI,.rd tI]
abbrev ym4:List OT:= [⟨false,tI,.fz⟩,⟨false,tB,.fz⟩]
def yoL (a0:dA) (a1 a2:Int):Option (ResD ym4×MutD yfB) :=
 bif (inb a1 a0.2.2.1.length) then
 let r1:=yne a2
 let r2:=ylm ((nth a0.2.2.1 a1 ([],[],false,[])).1,((nth a0.2.2.1 a1 ([],[],false,[])).2).1,(((nth a0.2.2.1 a1 ([],[],false,[])).2).2)) r1
 let r3:=yfI a0 a1 a2
 bif (!(!r3)) then
 bif (!(!r2.2)) then
 bif ((r2.1.length:Int) !=1) then
 some ((0,false,()),())
 else
 bif (inb 0 r2.1.length) then
 some (((nth r2.1 0 0),true,()),())
 else none
 else
 some ((0,false,()),())
 else
 some ((0,false,()),())
 else none
theorem yX2 (x:InD yfB):zjH ⟨yIf,38,yRt⟩ Tryz.f117.results.toList yHJ yfB ym4 x=yoL x.1 x.2.1 x.2.2.1:=by kernel_rfl
theorem yTS:ConOk Tryz.prog 117 ⟨yfB,ym4,fun x=>yoL x.1 x.2.1 x.2.2.1⟩:=zkh (yOU) Tryz.func117 (by kernel_rfl) (by kernel_rfl) Tryz.ntmps117.symm (by decide) (fun x r h=>(yX2 x).trans h)
def yh6 (a0:dA) (a1 a2:Int):Int×Bool:=(yjJ a0 a1 a2,ym a0 a1 a2)
def yy3 (a0:dA) (a1 a2:Int):Bool:=inb a1 a0.2.2.1.length
theorem yVY (a0:dA) (a1 a2:Int) (hk:zi9 yfB (a0,a1,a2,())) (hq:yy3 a0 a1 a2=true):yoL a0 a1 a2=(fun n=>some ((n.1,n.2,()),())) (yh6 a0 a1 a2):=by
 unfold yoL yh6 yjJ yfI
 simp only [zkV,yGp,ylm]
 rw [show ym a0 a1 a2=(yby a0 a1 a2&&((yc0 a0 a1 a2).2&&((yc0 a0 a1 a2).1.length:Int)==1)) from rfl]
 rw [show ybQ (nth a0.2.2.1 a1 ([],[],false,[])) (dataAt a2)=yc0 a0 a1 a2 from rfl]
 rw [show inb a1 a0.2.2.1.length=true from hq]
 cases hl:yby a0 a1 a2
 ·rfl
 ·cases (yc0 a0 a1 a2).2
  ·rfl
  ·rw [bne]
   cases h1:(((yc0 a0 a1 a2).1.length:Int)==1)
   ·rfl
   ·rw [show inb 0 (yc0 a0 a1 a2).1.length=true from zjP.2 (by have:=beq_iff_eq.1 h1; omega)]; rfl
def ynm (a0:dA) (a1 a2:Int):Option (ResD ym4×MutD yfB):=bif yy3 a0 a1 a2 then (fun n=>some ((n.1,n.2,()),())) (yh6 a0 a1 a2) else none
theorem yGF (a0:dA) (a1 a2:Int) (h:yy3 a0 a1 a2=true):ynm a0 a1 a2=(fun n=>some ((n.1,n.2,()),())) (yh6 a0 a1 a2):=by unfold ynm; rw [h]; rfl
def yvi:Con:=⟨yfB,ym4,fun x=>ynm x.1 x.2.1 x.2.2.1⟩
theorem yGA:ConOk Tryz.prog 117 yvi:=(yTS).mono (fun x r hk h=>zkW h (fun hq=>yVY x.1 x.2.1 x.2.2.1 hk hq))
end
section
def yo3:Code:=(Tryz.f214.body).getD .skip
def yuq:Env:=zki TT [] []
theorem ySD:FrOk Tryz.prog ⟨yuq,17,fun _=>none⟩ yo3:=zkp yb yd trivial
def yFu:Nat→Option Seg:=fun _=>none
def ydb:Shape:=⟨[(3,false,[.int .i64]),(6,false,[.br tI]),(7,false,[.int .i64]),(8,false,[.int .i64])],[],[]⟩
def yiI:Shape:=⟨[(3,false,[.ci .i64 0]),(6,false,[.br tI]),(7,false,[.int .i64]),(8,false,[.ci .i64 0])],[],[]⟩
def yit:Shape:=⟨[(3,false,[.int .i64])],[],[]⟩
def yon:Shape:=⟨[],[],[]⟩
abbrev ytl (v0:Int) (v1:List Int) (v2 v3:Int):(ydb).X:=(((v0,()),(v1,()),(v2,()),(v3,()),()),(),())
abbrev yPP (v0:List Int) (v1:Int):(yiI).X:=((((),()),(v0,()),(v1,()),((),()),()),(),())
abbrev yCr (v0:Int):(yit).X:=(((v0,()),()),(),())
def ytJ (v0:Int) (v1:List Int) (v2 v3:Int):Option ((ydb).X ⊕ ((yit).X ⊕ (yon).X)) :=
 bif (ltb v3 v2) then
 bif (inb v3 v1.length) then
 some (.inl ((((IntKind.i64.wrap ((BitVec.ofInt IntKind.i64.bits v0 ^^^ BitVec.ofInt IntKind.i64.bits (nth v1 v3 0)).toNat:Int)),()),(v1,()),(v2,()),((IntKind.i64.wrap (v3+1)),()),()),(),()))
 else none
 else
 some (.inr (.inl (((v0,()),()),(),())))
def ydJ (x:(ydb).X):=ytJ x.1.1.1 x.1.2.1.1 x.1.2.2.1.1 x.1.2.2.2.1.1
def yBW (x:(yiI).X):(ydb).X:=(((0,()),(x.1.2.1.1,()),(x.1.2.2.1.1,()),(0,()),()),(),())
def yDZ:Code:=(zdI yo3 64 116).getD .skip
theorem yRP:zdI yo3 64 29=some (.block 0 (.loop yDZ)):=by kernel_rfl
theorem yUH (x:(ydb).X):zg7 ⟨yuq,17,yFu⟩ 0 yDZ 116 ydb yit yon x=ydJ x:=by kernel_rfl
def yCc (x:(yiI).X):Nat:=18446744073709551616
def yuC (x:(yiI).X):Option ((yit).X ⊕ (yon).X):=zr ydJ (yCc x) (yBW x)
def yCP:Seg:=⟨yiI,yit,yon,yuC⟩
def yFv:Nat→Option Seg:=fun q=>bif Nat.beq q 29 then some yCP else yFu q
theorem ySE:FrOk Tryz.prog ⟨yuq,17,yFv⟩ yo3:=(ySD).loop (sg:=yCP) ydb yBW (by decide) yRP ydJ yCc (by decide) (fun _=>rfl) (fun x r _ h=>h) yUH
abbrev ykG:List Par:= [.rd tL]
abbrev yuV:List OT:= [⟨false,tI,.fz⟩]
def yqW (a0:List Int):Option (ResD yuV×MutD ykG) :=
 zjw (yuC ((((),()),(a0,()),((a0.length:Int),()),((),()),()),(),())) (fun y0 =>
 some ((y0.1.1.1,()),())) (fun y0 =>
 none)
theorem yZv (x:InD ykG):zjH ⟨yuq,17,yFv⟩ Tryz.f214.results.toList yo3 ykG yuV x=yqW x.1:=by kernel_rfl
theorem yWr:ConOk Tryz.prog 214 ⟨ykG,yuV,fun x=>yqW x.1⟩:=zkh (ySE) Tryz.func214 (by kernel_rfl) (by kernel_rfl) Tryz.ntmps214.symm (by decide) (fun x r h=>(yZv x).trans h)
def yb8 (a0:List Int):Int:=xorOf a0
theorem yYC (a0:List Int) (hk:zi9 ykG (a0,())):yqW a0=(fun n=>some ((n,()),())) (yb8 a0):=by
 have hb:a0.length * 8≤2 ^ 47:=hk.1.1
 have h1:yuC (yPP a0 a0.length)=some (.inl (yCr (xorOf a0))) :=
  zkk (step:=ydJ) a0 0 (fun i s=>ytl s a0 a0.length i) xw (fun _ _=>True) (fun s=> .inl (yCr s)) (fun i s hi _=>⟨by
   simp only [ydJ,ytl,ytJ,zjI (show (i:Int) < a0.length by omega),cond_true,wr (show -9223372036854775808≤(i:Int)+1 by omega) (by omega),Int.natCast_add,Int.natCast_one,Int.toNat_natCast,zkO hi,zjW]; rfl,trivial⟩) (fun s _=>by simp only [ydJ,ytl,ytJ,zkm (Int.le_refl _),cond_false]) 0 trivial _ (by show _ < 18446744073709551616; omega)
 unfold yqW yb8
 rw [h1]; rfl
def yqH:Con:=⟨ykG,yuV,fun x=>(fun n=>some ((n,()),())) (yb8 x.1)⟩
theorem yy2:ConOk Tryz.prog 214 yqH:=(yWr).mono (fun x r hk h=>(yYC x.1 hk).trans h)
end
section
def yo2:Code:=(Tryz.f118.body).getD .skip
def yup:Env:=zki TT [(117,yvi),(214,yqH)] []
theorem ySB:FrOk Tryz.prog ⟨yup,33,fun _=>none⟩ yo2:=zkp yb yd ⟨yGA,yy2,trivial⟩
def yFs:Nat→Option Seg:=fun _=>none
def yda:Shape:=⟨[(1,false,[.int .i64]),(2,false,[.ptr 0 0]),(6,false,[.at 800000000]),(13,false,[.int .i64]),(14,false,[.int .i64])],[(0,[.int .i64,.int .i64,.int .i64,.br tM,.int .i64,.int .i64,.int .i64,.int .i64,.int .i64,.br tW,.int .i64,.bool,.bool])],[(800000000,tI,.fz)]⟩
def yiH:Shape:=⟨[(1,false,[.int .i64]),(2,false,[.ptr 0 0]),(6,false,[.at 800000000]),(13,false,[.int .i64]),(14,false,[.ci .i64 0])],[(0,[.int .i64,.int .i64,.int .i64,.br tM,.int .i64,.int .i64,.int .i64,.int .i64,.int .i64,.br tW,.int .i64,.bool,.bool])],[(800000000,tI,.fz)]⟩
def yis:Shape:=⟨[(6,false,[.at 800000000])],[],[(800000000,tI,.fz)]⟩
def yi6:Shape:=⟨[(4,false,[.int .i64]),(5,false,[.bool])],[],[]⟩
abbrev ytk (v0 v1 v2:Int) (v3:dA) (v4:List Int):(yda).X:=(((v0,()),((),()),((),()),(v1,()),(v2,()),()),((v3.1,v3.2.1.1,v3.2.1.2,v3.2.2.1,v3.2.2.2.1,v3.2.2.2.2.1,v3.2.2.2.2.2.1,v3.2.2.2.2.2.2.1,v3.2.2.2.2.2.2.2.1,v3.2.2.2.2.2.2.2.2.1,v3.2.2.2.2.2.2.2.2.2.1,v3.2.2.2.2.2.2.2.2.2.2.1,v3.2.2.2.2.2.2.2.2.2.2.2,()),()),(v4,()))
abbrev yPO (v0 v1:Int) (v2:dA) (v3:List Int):(yiH).X:=(((v0,()),((),()),((),()),(v1,()),((),()),()),((v2.1,v2.2.1.1,v2.2.1.2,v2.2.2.1,v2.2.2.2.1,v2.2.2.2.2.1,v2.2.2.2.2.2.1,v2.2.2.2.2.2.2.1,v2.2.2.2.2.2.2.2.1,v2.2.2.2.2.2.2.2.2.1,v2.2.2.2.2.2.2.2.2.2.1,v2.2.2.2.2.2.2.2.2.2.2.1,v2.2.2.2.2.2.2.2.2.2.2.2,()),()),(v3,()))
abbrev yCq (v0:List Int):(yis).X:=((((),()),()),(),(v0,()))
abbrev yP2 (v0:Int) (v1:Bool):(yi6).X:=(((v0,()),(v1,()),()),(),())
def ytI (v0 v1 v2 v3 v4 v5:Int) (v6:List dM) (v7 v8 v9 v10 v11:Int) (v12:List dW) (v13:Int) (v14 v15:Bool) (v16:List Int):Option ((yda).X ⊕ ((yis).X ⊕ (yi6).X)) :=
 bif (ltb v2 v1) then
 bnd (ynm (v3,(v4,v5),v6,v7,v8,v9,v10,v11,v12,v13,v14,v15) v2 v0) fun r2 =>
 bif (!r2.1.2.1) then
 some (.inr (.inr (((0,()),(false,()),()),(),())))
 else
 bif (zj4 v16.length ([r2.1.1]:List Int).length 8) then
 some (.inl (((v0,()),((),()),((),()),(v1,()),((IntKind.i64.wrap (v2+1)),()),()),((v3,v4,v5,v6,v7,v8,v9,v10,v11,v12,v13,v14,v15,()),()),((v16++([r2.1.1]:List Int)),())))
 else none
 else
 some (.inr (.inl ((((),()),()),(),(v16,()))))
def ydI (x:(yda).X):=ytI x.1.1.1 x.1.2.2.2.1.1 x.1.2.2.2.2.1.1 x.2.1.1.1 x.2.1.1.2.1 x.2.1.1.2.2.1 x.2.1.1.2.2.2.1 x.2.1.1.2.2.2.2.1 x.2.1.1.2.2.2.2.2.1 x.2.1.1.2.2.2.2.2.2.1 x.2.1.1.2.2.2.2.2.2.2.1 x.2.1.1.2.2.2.2.2.2.2.2.1 x.2.1.1.2.2.2.2.2.2.2.2.2.1 x.2.1.1.2.2.2.2.2.2.2.2.2.2.1 x.2.1.1.2.2.2.2.2.2.2.2.2.2.2.1 x.2.1.1.2.2.2.2.2.2.2.2.2.2.2.2.1 x.2.2.1
def yBV (x:(yiH).X):(yda).X:=(((x.1.1.1,()),((),()),((),()),(x.1.2.2.2.1.1,()),(0,()),()),((x.2.1.1.1,x.2.1.1.2.1,x.2.1.1.2.2.1,x.2.1.1.2.2.2.1,x.2.1.1.2.2.2.2.1,x.2.1.1.2.2.2.2.2.1,x.2.1.1.2.2.2.2.2.2.1,x.2.1.1.2.2.2.2.2.2.2.1,x.2.1.1.2.2.2.2.2.2.2.2.1,x.2.1.1.2.2.2.2.2.2.2.2.2.1,x.2.1.1.2.2.2.2.2.2.2.2.2.2.1,x.2.1.1.2.2.2.2.2.2.2.2.2.2.2.1,x.2.1.1.2.2.2.2.2.2.2.2.2.2.2.2.1,()),()),(x.2.2.1,()))
def yDY:Code:=(zdI yo2 64 116).getD .skip
theorem yRO:zdI yo2 64 29=some (.block 0 (.loop yDY)):=by kernel_rfl
theorem yUG (x:(yda).X):zg7 ⟨yup,33,yFs⟩ 0 yDY 116 yda yis yi6 x=ydI x:=by kernel_rfl
def yCb (x:(yiH).X):Nat:=18446744073709551616
def yuB (x:(yiH).X):Option ((yis).X ⊕ (yi6).X):=zr ydI (yCb x) (yBV x)
def yCO:Seg:=⟨yiH,yis,yi6,yuB⟩
def yFt:Nat→Option Seg:=fun q=>bif Nat.beq q 29 then some yCO else yFs q
theorem ySC:FrOk Tryz.prog ⟨yup,33,yFt⟩ yo2:=(ySB).loop (sg:=yCO) yda yBV (by decide) yRO ydI yCb (by decide) (fun _=>rfl) (fun x r _ h=>h) yUG
abbrev ykF:List Par:= [.rd tA,.rd tI]
abbrev yuU:List OT:= [⟨false,tI,.fz⟩,⟨false,tB,.fz⟩]
def yqV (a0:dA) (a1:Int):Option (ResD yuU×MutD ykF) :=
 zjw (yuB (((a1,()),((),()),((),()),((a0.2.2.1.length:Int),()),((),()),()),((a0.1,a0.2.1.1,a0.2.1.2,a0.2.2.1,a0.2.2.2.1,a0.2.2.2.2.1,a0.2.2.2.2.2.1,a0.2.2.2.2.2.2.1,a0.2.2.2.2.2.2.2.1,a0.2.2.2.2.2.2.2.2.1,a0.2.2.2.2.2.2.2.2.2.1,a0.2.2.2.2.2.2.2.2.2.2.1,a0.2.2.2.2.2.2.2.2.2.2.2,()),()),(([]:List Int),()))) (fun y2 =>
 let r4:=yb8 y2.2.2.1
 some ((r4,true,()),())) (fun y2 =>
 some ((y2.1.1.1,y2.1.2.1.1,()),()))
theorem yZu (x:InD ykF):zjH ⟨yup,33,yFt⟩ Tryz.f118.results.toList yo2 ykF yuU x=yqV x.1 x.2.1:=by kernel_rfl
theorem yWq:ConOk Tryz.prog 118 ⟨ykF,yuU,fun x=>yqV x.1 x.2.1⟩:=zkh (ySC) Tryz.func118 (by kernel_rfl) (by kernel_rfl) Tryz.ntmps118.symm (by decide) (fun x r h=>(yZu x).trans h)
def ypT (a0:dA) (a1:Int):Int×Bool:=yoZ a0 a1
theorem yYB (a0:dA) (a1:Int) (hk:zi9 ykF (a0,a1,())):yqV a0 a1=(fun n=>some ((n.1,n.2,()),())) (ypT a0 a1):=by
 have hb:a0.2.2.1.length * 80≤2 ^ 47:=hk.1.2.2.1.1
 have h1:yuB (yPO a1 a0.2.2.1.length a0 [])=some (bif yBn a0 a1 then .inl (yCq ((List.range a0.2.2.1.length).foldl (fun n (i:Nat)=>n++ [yjJ a0 i a1]) [])) else .inr (yP2 0 false)) :=
  zhx (step:=ydI) a0.2.2.1.length (fun i s=>ytk a1 a0.2.2.1.length i a0 s) (fun (i:Nat)=>ym a0 i a1) (fun n (i:Nat)=>n++ [yjJ a0 i a1]) (fun i s=>s.length=i) (fun s=> .inl (yCq s)) _ (fun i s hi hs=>⟨by
   simp only [ydI,ytk,ytI,zjI (show (i:Int) < a0.2.2.1.length by omega),cond_true,wr (show -9223372036854775808≤(i:Int)+1 by omega) (by omega),Int.natCast_add,Int.natCast_one,Int.toNat_natCast,zkV,yGF a0 i a1 (zkO hi),yh6,zky]
   rw [show zj4 s.length ([yjJ a0 i a1]:List Int).length 8=true from zkw.2 (by simp only [List.length_cons,List.length_nil]; omega)]
   cases ym a0 i a1<;>rfl,fun _=>by simp [hs]⟩) (fun s _=>by simp only [ydI,ytk,ytI,zkm (Int.le_refl _),cond_false]) [] rfl _ (by show _ < 18446744073709551616; omega)
 unfold yqV ypT yoZ yb8
 rw [h1,yqJ,List.nil_append]
 cases yBn a0 a1<;>rfl
def yF6:Con:=⟨ykF,yuU,fun x=>(fun n=>some ((n.1,n.2,()),())) (ypT x.1 x.2.1)⟩
theorem yYW:ConOk Tryz.prog 118 yF6:=(yWq).mono (fun x r hk h=>(yYB x.1 x.2.1 hk).trans h)
end
section
def yrO:Code:=(Tryz.f32.body).getD .skip
def yxi:Env:=zki TT [(118,yF6)] []
theorem yVC:FrOk Tryz.prog ⟨yxi,28,fun _=>none⟩ yrO:=zkp yb yd ⟨yYW,trivial⟩
def yHZ:Nat→Option Seg:=fun _=>none
def yet:Shape:=⟨[(1,false,[.ptr 0 0]),(3,false,[.int .i64])],[(0,[.int .i64,.int .i64,.int .i64,.br tM,.int .i64,.int .i64,.int .i64,.int .i64,.int .i64,.br tW,.int .i64,.bool,.bool])],[]⟩
def ykZ:Shape:=⟨[(1,false,[.ptr 0 0]),(3,false,[.ci .i64 0])],[(0,[.int .i64,.int .i64,.int .i64,.br tM,.int .i64,.int .i64,.int .i64,.int .i64,.int .i64,.br tW,.int .i64,.bool,.bool])],[]⟩
def ykW:Shape:=⟨[],[],[]⟩
def yk9:Shape:=⟨[(2,false,[.bool])],[],[]⟩
abbrev yvC (v0:Int) (v1:dA):(yet).X:=((((),()),(v0,()),()),((v1.1,v1.2.1.1,v1.2.1.2,v1.2.2.1,v1.2.2.2.1,v1.2.2.2.2.1,v1.2.2.2.2.2.1,v1.2.2.2.2.2.2.1,v1.2.2.2.2.2.2.2.1,v1.2.2.2.2.2.2.2.2.1,v1.2.2.2.2.2.2.2.2.2.1,v1.2.2.2.2.2.2.2.2.2.2.1,v1.2.2.2.2.2.2.2.2.2.2.2,()),()),())
abbrev yTd (v0:dA):(ykZ).X:=((((),()),((),()),()),((v0.1,v0.2.1.1,v0.2.1.2,v0.2.2.1,v0.2.2.2.1,v0.2.2.2.2.1,v0.2.2.2.2.2.1,v0.2.2.2.2.2.2.1,v0.2.2.2.2.2.2.2.1,v0.2.2.2.2.2.2.2.2.1,v0.2.2.2.2.2.2.2.2.2.1,v0.2.2.2.2.2.2.2.2.2.2.1,v0.2.2.2.2.2.2.2.2.2.2.2,()),()),())
abbrev yTa  :(ykW).X:=((),(),())
abbrev yTg (v0:Bool):(yk9).X:=(((v0,()),()),(),())
def ywa (v0 v1 v2 v3:Int) (v4:List dM) (v5 v6 v7 v8 v9:Int) (v10:List dW) (v11:Int) (v12 v13:Bool):Option ((yet).X ⊕ ((ykW).X ⊕ (yk9).X)) :=
 bif (ltb v0 v3) then
 bif (ltb v0 20) then
 let r2:=ypT (v1,(v2,v3),v4,v5,v6,v7,v8,v9,v10,v11,v12,v13) v0
 bif r2.2 then
 bif (r2.1 !=0) then
 some (.inr (.inr (((false,()),()),(),())))
 else
 some (.inl ((((),()),((IntKind.i64.wrap (v0+1)),()),()),((v1,v2,v3,v4,v5,v6,v7,v8,v9,v10,v11,v12,v13,()),()),()))
 else
 some (.inl ((((),()),((IntKind.i64.wrap (v0+1)),()),()),((v1,v2,v3,v4,v5,v6,v7,v8,v9,v10,v11,v12,v13,()),()),()))
 else
 some (.inr (.inl ((),(),())))
 else
 some (.inr (.inl ((),(),())))
def yeF (x:(yet).X):=ywa x.1.2.1.1 x.2.1.1.1 x.2.1.1.2.1 x.2.1.1.2.2.1 x.2.1.1.2.2.2.1 x.2.1.1.2.2.2.2.1 x.2.1.1.2.2.2.2.2.1 x.2.1.1.2.2.2.2.2.2.1 x.2.1.1.2.2.2.2.2.2.2.1 x.2.1.1.2.2.2.2.2.2.2.2.1 x.2.1.1.2.2.2.2.2.2.2.2.2.1 x.2.1.1.2.2.2.2.2.2.2.2.2.2.1 x.2.1.1.2.2.2.2.2.2.2.2.2.2.2.1 x.2.1.1.2.2.2.2.2.2.2.2.2.2.2.2.1
def yEv (x:(ykZ).X):(yet).X:=((((),()),(0,()),()),((x.2.1.1.1,x.2.1.1.2.1,x.2.1.1.2.2.1,x.2.1.1.2.2.2.1,x.2.1.1.2.2.2.2.1,x.2.1.1.2.2.2.2.2.1,x.2.1.1.2.2.2.2.2.2.1,x.2.1.1.2.2.2.2.2.2.2.1,x.2.1.1.2.2.2.2.2.2.2.2.1,x.2.1.1.2.2.2.2.2.2.2.2.2.1,x.2.1.1.2.2.2.2.2.2.2.2.2.2.1,x.2.1.1.2.2.2.2.2.2.2.2.2.2.2.1,x.2.1.1.2.2.2.2.2.2.2.2.2.2.2.2.1,()),()),())
def yF1:Code:=(zdI yrO 64 52).getD .skip
theorem yU9:zdI yrO 64 13=some (.block 0 (.loop yF1)):=by kernel_rfl
theorem yW6 (x:(yet).X):zg7 ⟨yxi,28,yHZ⟩ 0 yF1 52 yet ykW yk9 x=yeF x:=by kernel_rfl
def yEz (x:(ykZ).X):Nat:=18446744073709551616
def ywQ (x:(ykZ).X):Option ((ykW).X ⊕ (yk9).X):=zr yeF (yEz x) (yEv x)
def yEM:Seg:=⟨ykZ,ykW,yk9,ywQ⟩
def yH0:Nat→Option Seg:=fun q=>bif Nat.beq q 13 then some yEM else yHZ q
theorem yVD:FrOk Tryz.prog ⟨yxi,28,yH0⟩ yrO:=(yVC).loop (sg:=yEM) yet yEv (by decide) yU9 yeF yEz (by decide) (fun _=>rfl) (fun x r _ h=>h) yW6
abbrev yns:List Par:= [.rd tA]
abbrev yxk:List OT:= [⟨false,tB,.fz⟩]
def ysT (a0:dA):Option (ResD yxk×MutD yns) :=
 zjw (ywQ ((((),()),((),()),()),((a0.1,a0.2.1.1,a0.2.1.2,a0.2.2.1,a0.2.2.2.1,a0.2.2.2.2.1,a0.2.2.2.2.2.1,a0.2.2.2.2.2.2.1,a0.2.2.2.2.2.2.2.1,a0.2.2.2.2.2.2.2.2.1,a0.2.2.2.2.2.2.2.2.2.1,a0.2.2.2.2.2.2.2.2.2.2.1,a0.2.2.2.2.2.2.2.2.2.2.2,()),()),())) (fun y2 =>
 some ((true,()),())) (fun y2 =>
 some ((y2.1.1.1,()),()))
theorem y0r (x:InD yns):zjH ⟨yxi,28,yH0⟩ Tryz.f32.results.toList yrO yns yxk x=ysT x.1:=by kernel_rfl
theorem yYQ:ConOk Tryz.prog 32 ⟨yns,yxk,fun x=>ysT x.1⟩:=zkh (yVD) Tryz.func32 (by kernel_rfl) (by kernel_rfl) Tryz.ntmps32.symm (by decide) (fun x r h=>(y0r x).trans h)
def yr0 (a0:dA):Bool:=yZd a0
theorem yZ4 (a0:dA) (hk:zi9 yns (a0,())):ysT a0=(fun n=>some ((n,()),())) (yr0 a0):=by
 have h1:ywQ (yTd a0)=some (bif (List.range (min a0.2.1.2.toNat 20)).any (fun (s:Nat)=>(yoZ a0 s).2&&(yoZ a0 s).1 !=0) then .inr (yTg false) else .inl yTa) :=
  zf4 (step:=yeF) (fun i=>yvC i a0) (min a0.2.1.2.toNat 20) _ _ _ (fun i hi=>by
   simp only [yeF,yvC,ywa,zjI (show (i:Int) < a0.2.1.2 by omega),cond_true,wr (show -9223372036854775808≤(i:Int)+1 by omega) (by omega),Int.natCast_add,Int.natCast_one,Int.toNat_natCast,zjI (show (i:Int) < 20 by omega),zkV,ypT]
   cases (yoZ a0 i).2<;>cases ((yoZ a0 i).1 !=0)<;>rfl) (by
   simp only [yeF,yvC,ywa]
   by_cases h:a0.2.1.2≤((min a0.2.1.2.toNat 20:Nat):Int)
   ·rw [zkm h]; rfl
   ·rw [zjI (by omega),zkm (show (20:Int)≤((min a0.2.1.2.toNat 20:Nat):Int) by omega)]; rfl) _ (by show _ < 18446744073709551616; omega)
 unfold ysT yr0 yZd
 rw [h1,List.all_eq_not_any_not]; simp only [Bool.not_not]
 cases (List.range (min a0.2.1.2.toNat 20)).any (fun (s:Nat)=>(yoZ a0 s).2&&(yoZ a0 s).1 !=0)<;>rfl
def yIv:Con:=⟨yns,yxk,fun x=>(fun n=>some ((n,()),())) (yr0 x.1)⟩
theorem yZ9:ConOk Tryz.prog 32 yIv:=(yYQ).mono (fun x r hk h=>(yZ4 x.1 hk).trans h)
end
end
end Go.Tf
