/- Functions of the program, and what they come to. -/
import Derived.Test.YtgmadfpnljibhaaGreatExactFlushAllF2
namespace Go.Tf
noncomputable section
open Go.Proofs
set_option synthInstance.maxHeartbeats 400000
set_option synthInstance.maxSize 10000
set_option linter.unusedVariables false
set_option linter.unusedSimpArgs false
set_option maxRecDepth 100000
section
def ykz:Code:=(Tryz.f132.body).getD .skip
def yqS:Env:=zki TT [(116,yct),(144,yv4)] []
theorem yN5:FrOk Tryz.prog ⟨yqS,44,fun _=>none⟩ ykz:=zkp yb yc ⟨yf7,yIp,trivial⟩
def yCP:Nat→Option Seg:=fun _=>none
def ybr:Shape:=⟨[(1,false,[.ptr 0 0]),(6,false,[.br tW]),(7,false,[.int .i64]),(8,false,[.int .i64])],[(0,[.int .i64,.int .i64,.int .i64,.br tM,.int .i64,.int .i64,.int .i64,.int .i64,.int .i64,.br tW,.int .i64,.bool,.bool])],[]⟩
def yfR:Shape:=⟨[(1,false,[.ptr 0 0]),(6,false,[.br tW]),(7,false,[.int .i64]),(8,false,[.ci .i64 0])],[(0,[.int .i64,.int .i64,.int .i64,.br tM,.int .i64,.int .i64,.int .i64,.int .i64,.int .i64,.br tW,.int .i64,.bool,.bool])],[]⟩
def yfJ:Shape:=⟨[],[],[]⟩
def yfX:Shape:=⟨[(2,false,[.bool])],[],[]⟩
abbrev yqs (v0:List dW) (v1 v2:Int) (v3:dA):(ybr).X:=((((),()),(v0,()),(v1,()),(v2,()),()),((v3.1,v3.2.1.1,v3.2.1.2,v3.2.2.1,v3.2.2.2.1,v3.2.2.2.2.1,v3.2.2.2.2.2.1,v3.2.2.2.2.2.2.1,v3.2.2.2.2.2.2.2.1,v3.2.2.2.2.2.2.2.2.1,v3.2.2.2.2.2.2.2.2.2.1,v3.2.2.2.2.2.2.2.2.2.2.1,v3.2.2.2.2.2.2.2.2.2.2.2,()),()),())
abbrev yMG (v0:List dW) (v1:Int) (v2:dA):(yfR).X:=((((),()),(v0,()),(v1,()),((),()),()),((v2.1,v2.2.1.1,v2.2.1.2,v2.2.2.1,v2.2.2.2.1,v2.2.2.2.2.1,v2.2.2.2.2.2.1,v2.2.2.2.2.2.2.1,v2.2.2.2.2.2.2.2.1,v2.2.2.2.2.2.2.2.2.1,v2.2.2.2.2.2.2.2.2.2.1,v2.2.2.2.2.2.2.2.2.2.2.1,v2.2.2.2.2.2.2.2.2.2.2.2,()),()),())
abbrev yMz  :(yfJ).X:=((),(),())
abbrev yML (v0:Bool):(yfX).X:=(((v0,()),()),(),())
def yqF (v0:List dW) (v1 v2 v3 v4 v5:Int) (v6:List dM) (v7 v8 v9 v10 v11:Int) (v12:List dW) (v13:Int) (v14 v15:Bool):Option ((ybr).X ⊕ ((yfJ).X ⊕ (yfX).X)) :=
 bif (ltb v2 v1) then
 bif (inb v2 v0.length) then
 let r4:=yS (v4,v5) ((nth v0 v2 (0,[])).1)
 bif (!(!r4)) then
 bif (ltb 0 v2) then
 bif (inb (IntKind.i64.wrap (v2 - 1)) v12.length) then
 bif (!(leb ((nth v0 v2 (0,[])).1) ((nth v12 (IntKind.i64.wrap (v2 - 1)) (0,[])).1))) then
 let r5:=ydK (v4,v5) ((nth v0 v2 (0,[])).2)
 bif (!r5) then
 some (.inr (.inr (((false,()),()),(),())))
 else
 some (.inl ((((),()),(v0,()),(v1,()),((IntKind.i64.wrap (v2+1)),()),()),((v3,v4,v5,v6,v7,v8,v9,v10,v11,v12,v13,v14,v15,()),()),()))
 else
 some (.inr (.inr (((false,()),()),(),())))
 else none
 else
 let r6:=ydK (v4,v5) ((nth v0 v2 (0,[])).2)
 bif (!r6) then
 some (.inr (.inr (((false,()),()),(),())))
 else
 some (.inl ((((),()),(v0,()),(v1,()),((IntKind.i64.wrap (v2+1)),()),()),((v3,v4,v5,v6,v7,v8,v9,v10,v11,v12,v13,v14,v15,()),()),()))
 else
 some (.inr (.inr (((false,()),()),(),())))
 else none
 else
 some (.inr (.inl ((),(),())))
def ybH (x:(ybr).X):=yqF x.1.2.1.1 x.1.2.2.1.1 x.1.2.2.2.1.1 x.2.1.1.1 x.2.1.1.2.1 x.2.1.1.2.2.1 x.2.1.1.2.2.2.1 x.2.1.1.2.2.2.2.1 x.2.1.1.2.2.2.2.2.1 x.2.1.1.2.2.2.2.2.2.1 x.2.1.1.2.2.2.2.2.2.2.1 x.2.1.1.2.2.2.2.2.2.2.2.1 x.2.1.1.2.2.2.2.2.2.2.2.2.1 x.2.1.1.2.2.2.2.2.2.2.2.2.2.1 x.2.1.1.2.2.2.2.2.2.2.2.2.2.2.1 x.2.1.1.2.2.2.2.2.2.2.2.2.2.2.2.1
def yzr (x:(yfR).X):(ybr).X:=((((),()),(x.1.2.1.1,()),(x.1.2.2.1.1,()),(0,()),()),((x.2.1.1.1,x.2.1.1.2.1,x.2.1.1.2.2.1,x.2.1.1.2.2.2.1,x.2.1.1.2.2.2.2.1,x.2.1.1.2.2.2.2.2.1,x.2.1.1.2.2.2.2.2.2.1,x.2.1.1.2.2.2.2.2.2.2.1,x.2.1.1.2.2.2.2.2.2.2.2.1,x.2.1.1.2.2.2.2.2.2.2.2.2.1,x.2.1.1.2.2.2.2.2.2.2.2.2.2.1,x.2.1.1.2.2.2.2.2.2.2.2.2.2.2.1,x.2.1.1.2.2.2.2.2.2.2.2.2.2.2.2.1,()),()),())
def yBd:Code:=(zdI ykz 64 52).getD .skip
theorem yNI:zdI ykz 64 13=some (.block 0 (.loop yBd)):=by kernel_rfl
theorem yPq (x:(ybr).X):zg7 ⟨yqS,44,yCP⟩ 0 yBd 52 ybr yfJ yfX x=ybH x:=by kernel_rfl
def yzH (x:(yfR).X):Nat:=18446744073709551616
def yrU (x:(yfR).X):Option ((yfJ).X ⊕ (yfX).X):=zr ybH (yzH x) (yzr x)
def yz6:Seg:=⟨yfR,yfJ,yfX,yrU⟩
def yCQ:Nat→Option Seg:=fun q=>bif Nat.beq q 13 then some yz6 else yCP q
theorem yN6:FrOk Tryz.prog ⟨yqS,44,yCQ⟩ ykz:=(yN5).loop (sg:=yz6) ybr yzr (by decide) yNI ybH yzH (by decide) (fun _=>rfl) (fun x r _ h=>h) yPq
abbrev ydY:List Par:= [.rd tA]
abbrev yla:List OT:= [⟨false,tB,.fz⟩]
def ymA (a0:dA):Option (ResD yla×MutD ydY) :=
 zjw (yrU ((((),()),(a0.2.2.2.2.2.2.2.2.1,()),((a0.2.2.2.2.2.2.2.2.1.length:Int),()),((),()),()),((a0.1,a0.2.1.1,a0.2.1.2,a0.2.2.1,a0.2.2.2.1,a0.2.2.2.2.1,a0.2.2.2.2.2.1,a0.2.2.2.2.2.2.1,a0.2.2.2.2.2.2.2.1,a0.2.2.2.2.2.2.2.2.1,a0.2.2.2.2.2.2.2.2.2.1,a0.2.2.2.2.2.2.2.2.2.2.1,a0.2.2.2.2.2.2.2.2.2.2.2,()),()),())) (fun y6 =>
 some ((true,()),())) (fun y6 =>
 some ((y6.1.1.1,()),()))
theorem yXz (x:InD ydY):zjH ⟨yqS,44,yCQ⟩ Tryz.f132.results.toList ykz ydY yla x=ymA x.1:=by kernel_rfl
theorem ySf:ConOk Tryz.prog 132 ⟨ydY,yla,fun x=>ymA x.1⟩:=zkh (yN6) Tryz.func132 (by kernel_rfl) (by kernel_rfl) Tryz.ntmps132.symm (by decide) (fun x r h=>(yXz x).trans h)
def ylr (a0:dA):Bool:=yaK a0.2.1 a0.2.2.2.2.2.2.2.2.1
def yyc (a0:dA):Bool:=yf a0.2.1
theorem ywm (l:List Int):yO l=l.all isW:=by
 unfold yO
 rw [show yW=isW from funext fun x=>by unfold yW; rw [yaH,yff]; rfl]
theorem yVp (a0:dA) (hk:zi9 ydY (a0,())) (hq:yyc a0=true):ymA a0=(fun n=>some ((n,()),())) (ylr a0):=by
 have hb:a0.2.2.2.2.2.2.2.2.1.length * 32≤2 ^ 47:=hk.1.2.2.2.2.2.2.2.2.1.1
 have hg:=yo.1 hq
 have hq':yf a0.2.1=true:=hq
 have h1:yrU (yMG a0.2.2.2.2.2.2.2.2.1 a0.2.2.2.2.2.2.2.2.1.length a0)=some (bif (List.range a0.2.2.2.2.2.2.2.2.1.length).any (yhS a0.2.1 a0.2.2.2.2.2.2.2.2.1) then .inr (yML false) else .inl yMz) :=
  zf4 (step:=ybH) (fun i=>yqs a0.2.2.2.2.2.2.2.2.1 a0.2.2.2.2.2.2.2.2.1.length i a0) a0.2.2.2.2.2.2.2.2.1.length (yhS a0.2.1 a0.2.2.2.2.2.2.2.2.1) _ _ (fun i hi=>by
   simp only [ybH,yqs,yqF,zjI (show (i:Int) < a0.2.2.2.2.2.2.2.2.1.length by omega),cond_true,wr (show -9223372036854775808≤(i:Int)+1 by omega) (by omega),Int.natCast_add,Int.natCast_one,Int.toNat_natCast,zkO hi,zkV,yS,ydK,yU9,hq',yaH,yff,ywm,wr (show -9223372036854775808≤a0.2.1.2 - 1 by omega) (by omega),wr (show -9223372036854775808≤a0.2.1.1 - 1 by omega) (by omega),yhS,bne]
   rcases Nat.eq_zero_or_pos i with rfl | h0
   ·cases (leb 0 (nth a0.2.2.2.2.2.2.2.2.1 ((0:Nat):Int) (0,[])).1&&leb (nth a0.2.2.2.2.2.2.2.2.1 ((0:Nat):Int) (0,[])).1 (a0.2.1.2 - 1))<;>cases (((nth a0.2.2.2.2.2.2.2.2.1 ((0:Nat):Int) (0,[])).2.length:Int)==a0.2.1.1 - 1)<;>cases ((nth a0.2.2.2.2.2.2.2.2.1 ((0:Nat):Int) (0,[])).2.all isW)<;>rfl
   ·rw [show IntKind.i64.wrap ((i:Int) - 1)=((i - 1:Nat):Int) by rw [wr (by omega) (by omega)]; omega,zkO (show i - 1 < a0.2.2.2.2.2.2.2.2.1.length by omega),zjI (show (0:Int) < i by omega),decide_eq_true h0]
    cases (leb 0 (nth a0.2.2.2.2.2.2.2.2.1 (i:Int) (0,[])).1&&leb (nth a0.2.2.2.2.2.2.2.2.1 (i:Int) (0,[])).1 (a0.2.1.2 - 1))<;>cases (((nth a0.2.2.2.2.2.2.2.2.1 (i:Int) (0,[])).2.length:Int)==a0.2.1.1 - 1)<;>cases ((nth a0.2.2.2.2.2.2.2.2.1 (i:Int) (0,[])).2.all isW)<;>cases leb (nth a0.2.2.2.2.2.2.2.2.1 (i:Int) (0,[])).1 (nth a0.2.2.2.2.2.2.2.2.1 ((i - 1:Nat):Int) (0,[])).1<;>rfl) (by simp only [ybH,yqs,yqF,zkm (Int.le_refl _),cond_false]) _ (by show _ < 18446744073709551616; omega)
 unfold ymA ylr yaK
 rw [h1]
 cases (List.range a0.2.2.2.2.2.2.2.2.1.length).any (yhS a0.2.1 a0.2.2.2.2.2.2.2.2.1)<;>rfl
def yru (a0:dA):Option (ResD yla×MutD ydY):=bif yyc a0 then (fun n=>some ((n,()),())) (ylr a0) else none
theorem yWE (a0:dA) (h:yyc a0=true):yru a0=(fun n=>some ((n,()),())) (ylr a0):=by unfold yru; rw [h]; rfl
def yDx:Con:=⟨ydY,yla,fun x=>yru x.1⟩
theorem yWo:ConOk Tryz.prog 132 yDx:=(ySf).mono (fun x r hk h=>zkW h (fun hq=>yVp x.1 hk hq))
end
section
def yJf:Code:=(Tryz.f220.body).getD .skip
def yJE:Env:=zki TT [(126,yw)] []
theorem yQA:FrOk Tryz.prog ⟨yJE,11,fun _=>none⟩ yJf:=zkp yb yc ⟨yQ,trivial⟩
def yTl:Nat→Option Seg:=fun _=>none
abbrev yna:List Par:= [.rd tM,.rd tI]
abbrev ytb:List OT:= [⟨false,tB,.fz⟩]
def ywL (a0:dM) (a1:Int):Option (ResD ytb×MutD yna) :=
 let r1:=ye a1 0 (IntKind.i64.wrap ((a0.1.length:Int) - 1))
 some ((r1,()),())
theorem y0k (x:InD yna):zjH ⟨yJE,11,yTl⟩ Tryz.f220.results.toList yJf yna ytb x=ywL x.1 x.2.1:=by kernel_rfl
theorem yVS:ConOk Tryz.prog 220 ⟨yna,ytb,fun x=>ywL x.1 x.2.1⟩:=zkh (yQA) Tryz.func220 (by kernel_rfl) (by kernel_rfl) Tryz.ntmps220.symm (by decide) (fun x r h=>(y0k x).trans h)
def ydL (a0:dM) (a1:Int):Bool :=
 let r1:=ye a1 0 (IntKind.i64.wrap ((a0.1.length:Int) - 1))
 r1
def yv5:Con:=⟨yna,ytb,fun x=>(fun n=>some ((n,()),())) (ydL x.1 x.2.1)⟩
theorem yYe (a0:dM) (a1:Int):ywL a0 a1=(fun n=>some ((n,()),())) (ydL a0 a1):=zkS (p:=fun (n:Bool)=>((n,()),())) rfl
theorem yIq:ConOk Tryz.prog 220 yv5:=(yVS).mono (fun x r _ h=>(yYe x.1 x.2.1).trans h)
end
section
def yKO:Code:=(Tryz.f221.body).getD .skip
def yLd:Env:=zki TT [(228,ymp)] []
theorem yUt:FrOk Tryz.prog ⟨yLd,10,fun _=>none⟩ yKO:=zkp yb yc ⟨ywC,trivial⟩
def yW5:Nat→Option Seg:=fun _=>none
abbrev yp2:List Par:= [.rd tL]
abbrev yvz:List OT:= [⟨false,tB,.fz⟩]
def yyi (a0:List Int):Option (ResD yvz×MutD yp2) :=
 bif (leb (a0.length:Int) 12) then
 let r1:=yO a0
 some ((r1,()),())
 else
 some ((false,()),())
theorem y2a (x:InD yp2):zjH ⟨yLd,10,yW5⟩ Tryz.f221.results.toList yKO yp2 yvz x=yyi x.1:=by kernel_rfl
theorem yYO:ConOk Tryz.prog 221 ⟨yp2,yvz,fun x=>yyi x.1⟩:=zkh (yUt) Tryz.func221 (by kernel_rfl) (by kernel_rfl) Tryz.ntmps221.symm (by decide) (fun x r h=>(y2a x).trans h)
def yg4 (a0:List Int):Bool :=
 bif (leb (a0.length:Int) 12) then
 let r1:=yO a0
 r1
 else
 false
def yxY:Con:=⟨yp2,yvz,fun x=>(fun n=>some ((n,()),())) (yg4 x.1)⟩
theorem y0V (a0:List Int):yyi a0=(fun n=>some ((n,()),())) (yg4 a0):=zkS (p:=fun (n:Bool)=>((n,()),())) (zkx (p:=fun (n:Bool)=>((n,()),())) rfl rfl)
theorem yJY:ConOk Tryz.prog 221 yxY:=(yYO).mono (fun x r _ h=>(y0V x.1).trans h)
theorem yGX:yg4=ybA:=funext fun s=>by
 unfold yg4 ybA yO
 rw [show yW=isW from funext fun x=>by unfold yW; rw [yaH,yff]; rfl]
 cases leb (s.length:Int) 12<;>rfl
end
section
def yaR:Code:=(Tryz.f133.body).getD .skip
def yeu:Env:=zki TT [(126,yw),(220,yv5),(221,yxY)] []
theorem yUo:FrOk Tryz.prog ⟨yeu,76,fun _=>none⟩ yaR:=zkp yb yc ⟨yQ,yIq,yJY,trivial⟩
def yHe:Nat→Option Seg:=fun _=>none
def ycR:Shape:=⟨[(1,false,[.ptr 0 0]),(10,false,[.br tL]),(11,false,[.int .i64]),(12,false,[.int .i64])],[(0,[.br tL,.br tW,.bool,.br tI])],[]⟩
def yiz:Shape:=⟨[(1,false,[.ptr 0 0]),(10,false,[.br tL]),(11,false,[.int .i64]),(12,false,[.ci .i64 0])],[(0,[.br tL,.br tW,.bool,.br tI])],[]⟩
def yig:Shape:=⟨[(1,false,[.ptr 0 0])],[(0,[.br tL,.br tW,.bool,.br tI])],[]⟩
def yi1:Shape:=⟨[(2,false,[.bool])],[],[]⟩
abbrev yuc (v0:List (List Int)) (v1 v2:Int) (v3:dM):(ycR).X:=((((),()),(v0,()),(v1,()),(v2,()),()),((v3.1,v3.2.1,v3.2.2.1,v3.2.2.2,()),()),())
abbrev yRw (v0:List (List Int)) (v1:Int) (v2:dM):(yiz).X:=((((),()),(v0,()),(v1,()),((),()),()),((v2.1,v2.2.1,v2.2.2.1,v2.2.2.2,()),()),())
abbrev yRo (v0:dM):(yig).X:=((((),()),()),((v0.1,v0.2.1,v0.2.2.1,v0.2.2.2,()),()),())
abbrev yRJ (v0:Bool):(yi1).X:=(((v0,()),()),(),())
def yuz (v0:List (List Int)) (v1 v2:Int) (v3:List (List Int)) (v4:List dW) (v5:Bool) (v6:List Int):Option ((ycR).X ⊕ ((yig).X ⊕ (yi1).X)) :=
 bif (ltb v2 v1) then
 bif (inb v2 v0.length) then
 let r2:=yg4 (nth v0 v2 [])
 bif (!r2) then
 some (.inr (.inr (((false,()),()),(),())))
 else
 some (.inl ((((),()),(v0,()),(v1,()),((IntKind.i64.wrap (v2+1)),()),()),((v3,v4,v5,v6,()),()),()))
 else none
 else
 some (.inr (.inl ((((),()),()),((v3,v4,v5,v6,()),()),())))
def ydt (x:(ycR).X):=yuz x.1.2.1.1 x.1.2.2.1.1 x.1.2.2.2.1.1 x.2.1.1.1 x.2.1.1.2.1 x.2.1.1.2.2.1 x.2.1.1.2.2.2.1
def yDP (x:(yiz).X):(ycR).X:=((((),()),(x.1.2.1.1,()),(x.1.2.2.1.1,()),(0,()),()),((x.2.1.1.1,x.2.1.1.2.1,x.2.1.1.2.2.1,x.2.1.1.2.2.2.1,()),()),())
def yFY:Code:=(zdI yaR 64 52).getD .skip
theorem yTB:zdI yaR 64 13=some (.block 0 (.loop yFY)):=by kernel_rfl
theorem yWJ (x:(ycR).X):zg7 ⟨yeu,76,yHe⟩ 0 yFY 52 ycR yig yi1 x=ydt x:=by kernel_rfl
def yD6 (x:(yiz).X):Nat:=18446744073709551616
def yvg (x:(yiz).X):Option ((yig).X ⊕ (yi1).X):=zr ydt (yD6 x) (yDP x)
def yEH:Seg:=⟨yiz,yig,yi1,yvg⟩
def yxR:Nat→Option Seg:=fun q=>bif Nat.beq q 13 then some yEH else yHe q
theorem yUp:FrOk Tryz.prog ⟨yeu,76,yxR⟩ yaR:=(yUo).loop (sg:=yEH) ycR yDP (by decide) yTB ydt yD6 (by decide) (fun _=>rfl) (fun x r _ h=>h) yWJ
def ycS:Shape:=⟨[(1,false,[.ptr 0 0]),(21,false,[.br tW]),(22,false,[.int .i64]),(23,false,[.int .i64])],[(0,[.br tL,.br tW,.bool,.br tI])],[]⟩
def yiA:Shape:=⟨[(1,false,[.ptr 0 0]),(21,false,[.br tW]),(22,false,[.int .i64]),(23,false,[.ci .i64 0])],[(0,[.br tL,.br tW,.bool,.br tI])],[]⟩
def yih:Shape:=⟨[(1,false,[.ptr 0 0])],[(0,[.br tL,.br tW,.bool,.br tI])],[]⟩
def yi2:Shape:=⟨[(2,false,[.bool])],[],[]⟩
abbrev yud (v0:List dW) (v1 v2:Int) (v3:dM):(ycS).X:=((((),()),(v0,()),(v1,()),(v2,()),()),((v3.1,v3.2.1,v3.2.2.1,v3.2.2.2,()),()),())
abbrev yRx (v0:List dW) (v1:Int) (v2:dM):(yiA).X:=((((),()),(v0,()),(v1,()),((),()),()),((v2.1,v2.2.1,v2.2.2.1,v2.2.2.2,()),()),())
abbrev yRp (v0:dM):(yih).X:=((((),()),()),((v0.1,v0.2.1,v0.2.2.1,v0.2.2.2,()),()),())
abbrev yRK (v0:Bool):(yi2).X:=(((v0,()),()),(),())
def yuA (v0:List dW) (v1 v2:Int) (v3:List (List Int)) (v4:List dW) (v5:Bool) (v6:List Int):Option ((ycS).X ⊕ ((yih).X ⊕ (yi2).X)) :=
 bif (ltb v2 v1) then
 bif (inb v2 v0.length) then
 let r6:=ydL (v3,v4,v5,v6) ((nth v0 v2 (0,[])).1)
 bif (!(!r6)) then
 let r7:=yg4 ((nth v0 v2 (0,[])).2)
 bif (!r7) then
 some (.inr (.inr (((false,()),()),(),())))
 else
 some (.inl ((((),()),(v0,()),(v1,()),((IntKind.i64.wrap (v2+1)),()),()),((v3,v4,v5,v6,()),()),()))
 else
 some (.inr (.inr (((false,()),()),(),())))
 else none
 else
 some (.inr (.inl ((((),()),()),((v3,v4,v5,v6,()),()),())))
def ydu (x:(ycS).X):=yuA x.1.2.1.1 x.1.2.2.1.1 x.1.2.2.2.1.1 x.2.1.1.1 x.2.1.1.2.1 x.2.1.1.2.2.1 x.2.1.1.2.2.2.1
def yDQ (x:(yiA).X):(ycS).X:=((((),()),(x.1.2.1.1,()),(x.1.2.2.1.1,()),(0,()),()),((x.2.1.1.1,x.2.1.1.2.1,x.2.1.1.2.2.1,x.2.1.1.2.2.2.1,()),()),())
def yFZ:Code:=(zdI yaR 64 116).getD .skip
theorem yTC:zdI yaR 64 29=some (.block 2 (.loop yFZ)):=by kernel_rfl
theorem yWK (x:(ycS).X):zg7 ⟨yeu,76,yxR⟩ 2 yFZ 116 ycS yih yi2 x=ydu x:=by kernel_rfl
def yD7 (x:(yiA).X):Nat:=18446744073709551616
def yvh (x:(yiA).X):Option ((yih).X ⊕ (yi2).X):=zr ydu (yD7 x) (yDQ x)
def yEI:Seg:=⟨yiA,yih,yi2,yvh⟩
def yxS:Nat→Option Seg:=fun q=>bif Nat.beq q 29 then some yEI else yxR q
theorem yUq:FrOk Tryz.prog ⟨yeu,76,yxS⟩ yaR:=(yUp).loop (sg:=yEI) ycS yDQ (by decide) yTC ydu yD7 (by decide) (fun _=>rfl) (fun x r _ h=>h) yWK
def ycT:Shape:=⟨[(1,false,[.ptr 0 0]),(40,false,[.br tI]),(41,false,[.int .i64]),(42,false,[.int .i64])],[(0,[.br tL,.br tW,.bool,.br tI])],[]⟩
def yiB:Shape:=⟨[(1,false,[.ptr 0 0]),(40,false,[.br tI]),(41,false,[.int .i64]),(42,false,[.ci .i64 0])],[(0,[.br tL,.br tW,.bool,.br tI])],[]⟩
def yii:Shape:=⟨[(1,false,[.ptr 0 0])],[(0,[.br tL,.br tW,.bool,.br tI])],[]⟩
def yi3:Shape:=⟨[(2,false,[.bool])],[],[]⟩
abbrev yue (v0:List Int) (v1 v2:Int) (v3:dM):(ycT).X:=((((),()),(v0,()),(v1,()),(v2,()),()),((v3.1,v3.2.1,v3.2.2.1,v3.2.2.2,()),()),())
abbrev yRy (v0:List Int) (v1:Int) (v2:dM):(yiB).X:=((((),()),(v0,()),(v1,()),((),()),()),((v2.1,v2.2.1,v2.2.2.1,v2.2.2.2,()),()),())
abbrev yRq (v0:dM):(yii).X:=((((),()),()),((v0.1,v0.2.1,v0.2.2.1,v0.2.2.2,()),()),())
abbrev yRL (v0:Bool):(yi3).X:=(((v0,()),()),(),())
def yuB (v0:List Int) (v1 v2:Int) (v3:List (List Int)) (v4:List dW) (v5:Bool) (v6:List Int):Option ((ycT).X ⊕ ((yii).X ⊕ (yi3).X)) :=
 bif (ltb v2 v1) then
 bif (inb v2 v0.length) then
 let r10:=ydL (v3,v4,v5,v6) (nth v0 v2 0)
 bif (!(!r10)) then
 bif (ltb 0 v2) then
 bif (inb (IntKind.i64.wrap (v2 - 1)) v6.length) then
 bif (leb (nth v0 v2 0) (nth v6 (IntKind.i64.wrap (v2 - 1)) 0)) then
 some (.inr (.inr (((false,()),()),(),())))
 else
 some (.inl ((((),()),(v0,()),(v1,()),((IntKind.i64.wrap (v2+1)),()),()),((v3,v4,v5,v6,()),()),()))
 else none
 else
 some (.inl ((((),()),(v0,()),(v1,()),((IntKind.i64.wrap (v2+1)),()),()),((v3,v4,v5,v6,()),()),()))
 else
 some (.inr (.inr (((false,()),()),(),())))
 else none
 else
 some (.inr (.inl ((((),()),()),((v3,v4,v5,v6,()),()),())))
def ydv (x:(ycT).X):=yuB x.1.2.1.1 x.1.2.2.1.1 x.1.2.2.2.1.1 x.2.1.1.1 x.2.1.1.2.1 x.2.1.1.2.2.1 x.2.1.1.2.2.2.1
def yDR (x:(yiB).X):(ycT).X:=((((),()),(x.1.2.1.1,()),(x.1.2.2.1.1,()),(0,()),()),((x.2.1.1.1,x.2.1.1.2.1,x.2.1.1.2.2.1,x.2.1.1.2.2.2.1,()),()),())
def yF0:Code:=(zdI yaR 64 244).getD .skip
theorem yTD:zdI yaR 64 61=some (.block 4 (.loop yF0)):=by kernel_rfl
theorem yWL (x:(ycT).X):zg7 ⟨yeu,76,yxS⟩ 4 yF0 244 ycT yii yi3 x=ydv x:=by kernel_rfl
def yD8 (x:(yiB).X):Nat:=18446744073709551616
def yvi (x:(yiB).X):Option ((yii).X ⊕ (yi3).X):=zr ydv (yD8 x) (yDR x)
def yEJ:Seg:=⟨yiB,yii,yi3,yvi⟩
def yHf:Nat→Option Seg:=fun q=>bif Nat.beq q 61 then some yEJ else yxS q
theorem yUr:FrOk Tryz.prog ⟨yeu,76,yHf⟩ yaR:=(yUq).loop (sg:=yEJ) ycT yDR (by decide) yTD ydv yD8 (by decide) (fun _=>rfl) (fun x r _ h=>h) yWL
abbrev ykM:List Par:= [.rd tM]
abbrev yvx:List OT:= [⟨false,tB,.fz⟩]
def yrC (a0:dM):Option (ResD yvx×MutD ykM) :=
 zjw (yvg ((((),()),(a0.1,()),((a0.1.length:Int),()),((),()),()),((a0.1,a0.2.1,a0.2.2.1,a0.2.2.2,()),()),())) (fun y2 =>
 zjw (yvh ((((),()),(y2.2.1.1.2.1,()),((y2.2.1.1.2.1.length:Int),()),((),()),()),((y2.2.1.1.1,y2.2.1.1.2.1,y2.2.1.1.2.2.1,y2.2.1.1.2.2.2.1,()),()),())) (fun y7 =>
 zjw (yvi ((((),()),(y7.2.1.1.2.2.2.1,()),((y7.2.1.1.2.2.2.1.length:Int),()),((),()),()),((y7.2.1.1.1,y7.2.1.1.2.1,y7.2.1.1.2.2.1,y7.2.1.1.2.2.2.1,()),()),())) (fun y10 =>
 let r12:=ye (y10.2.1.1.1.length:Int) 1 20
 bif r12 then
 some (((leb (y10.2.1.1.2.1.length:Int) 60),()),())
 else
 some ((false,()),())) (fun y10 =>
 some ((y10.1.1.1,()),()))) (fun y7 =>
 some ((y7.1.1.1,()),()))) (fun y2 =>
 some ((y2.1.1.1,()),()))
theorem y18 (x:InD ykM):zjH ⟨yeu,76,yHf⟩ Tryz.f133.results.toList yaR ykM yvx x=yrC x.1:=by kernel_rfl
theorem yYM:ConOk Tryz.prog 133 ⟨ykM,yvx,fun x=>yrC x.1⟩:=zkh (yUr) Tryz.func133 (by kernel_rfl) (by kernel_rfl) Tryz.ntmps133.symm (by decide) (fun x r h=>(y18 x).trans h)
def yda (a0:dM):Bool:=yu a0
theorem y0T (a0:dM) (hk:zi9 ykM (a0,())):yrC a0=(fun n=>some ((n,()),())) (yda a0):=by
 have hb1:a0.1.length * 24≤2 ^ 47:=hk.1.1.1
 have hb2:a0.2.1.length * 32≤2 ^ 47:=hk.1.2.1.1
 have hb3:a0.2.2.2.length * 8≤2 ^ 47:=hk.1.2.2.2.1
 have h1:yvg (yRw a0.1 a0.1.length a0)=some (bif a0.1.all ybA then .inl (yRo a0) else .inr (yRJ false)) :=
  zjS (step:=ydt) a0.1 [] (fun i=>yuc a0.1 a0.1.length i a0) ybA _ _ (fun i hi=>by
   simp only [ydt,yuc,yuz,zjI (show (i:Int) < a0.1.length by omega),cond_true,wr (show -9223372036854775808≤(i:Int)+1 by omega) (by omega),Int.natCast_add,Int.natCast_one,Int.toNat_natCast,zkO hi,zjW,yGX]
   cases ybA (a0.1.getD i [])<;>rfl) (by simp only [ydt,yuc,yuz,zkm (Int.le_refl _),cond_false]) _ (by show _ < 18446744073709551616; omega)
 have h2:yvh (yRx a0.2.1 a0.2.1.length a0)=some (bif a0.2.1.all (yyA a0.1.length) then .inl (yRp a0) else .inr (yRK false)) :=
  zjS (step:=ydu) a0.2.1 (0,[]) (fun i=>yud a0.2.1 a0.2.1.length i a0) (yyA a0.1.length) _ _ (fun i hi=>by
   simp only [ydu,yud,yuA,zjI (show (i:Int) < a0.2.1.length by omega),cond_true,wr (show -9223372036854775808≤(i:Int)+1 by omega) (by omega),Int.natCast_add,Int.natCast_one,Int.toNat_natCast,zkO hi,zjW,yGX,ydL,yaH,ywn (show a0.1.length≤1152921504606846976 by omega),yyA]
   cases inb (a0.2.1.getD i (0,[])).1 a0.1.length<;>cases ybA (a0.2.1.getD i (0,[])).2<;>rfl) (by simp only [ydu,yud,yuA,zkm (Int.le_refl _),cond_false]) _ (by show _ < 18446744073709551616; omega)
 have h3:yvi (yRy a0.2.2.2 a0.2.2.2.length a0)=some (bif (List.range a0.2.2.2.length).any (yFV a0.1.length a0.2.2.2) then .inr (yRL false) else .inl (yRq a0)) :=
  zf4 (step:=ydv) (fun i=>yue a0.2.2.2 a0.2.2.2.length i a0) a0.2.2.2.length (yFV a0.1.length a0.2.2.2) _ _ (fun i hi=>by
   simp only [ydv,yue,yuB,zjI (show (i:Int) < a0.2.2.2.length by omega),cond_true,wr (show -9223372036854775808≤(i:Int)+1 by omega) (by omega),Int.natCast_add,Int.natCast_one,Int.toNat_natCast,zkO hi,zjW,ydL,yaH,ywn (show a0.1.length≤1152921504606846976 by omega),yFV]
   rcases Nat.eq_zero_or_pos i with rfl | h0
   ·cases inb (a0.2.2.2.getD 0 0) a0.1.length<;>rfl
   ·rw [show IntKind.i64.wrap ((i:Int) - 1)=((i - 1:Nat):Int) by rw [wr (by omega) (by omega)]; omega,zkO (show i - 1 < a0.2.2.2.length by omega),zjW,zjI (show (0:Int) < i by omega),decide_eq_true h0]
    cases inb (a0.2.2.2.getD i 0) a0.1.length<;>cases leb (a0.2.2.2.getD i 0) (a0.2.2.2.getD (i - 1) 0)<;>rfl) (by simp only [ydv,yue,yuB,zkm (Int.le_refl _),cond_false]) _ (by show _ < 18446744073709551616; omega)
 unfold yrC yda yu
 rw [h1]
 cases a0.1.all ybA
 ·rfl
 simp only [cond_true,zkJ,h2]
 cases a0.2.1.all (yyA a0.1.length)
 ·rfl
 simp only [cond_true,zkJ,h3,yZR,yaH,yff]
 cases yvZ a0.1.length a0.2.2.2
 ·rfl
 simp only [Bool.not_true,cond_false,zkJ]
 cases leb 1 (a0.1.length:Int)<;>cases leb (a0.1.length:Int) 20<;>rfl
def yro:Con:=⟨ykM,yvx,fun x=>(fun n=>some ((n,()),())) (yda x.1)⟩
theorem yAu:ConOk Tryz.prog 133 yro:=(yYM).mono (fun x r hk h=>(y0T x.1 hk).trans h)
end
section
def ypz:Code:=(Tryz.f45.body).getD .skip
def yu5:Env:=zki TT [(100,yDz),(122,yrn),(126,yw),(131,yv6),(132,yDx),(133,yro)] []
theorem yUl:FrOk Tryz.prog ⟨yu5,103,fun _=>none⟩ ypz:=zkp yb yc ⟨yWq,yAt,yQ,yIr,yWo,yAu,trivial⟩
def yHc:Nat→Option Seg:=fun _=>none
def ycQ:Shape:=⟨[(1,false,[.ptr 0 0]),(41,false,[.br tM]),(42,false,[.int .i64]),(43,false,[.int .i64])],[(0,[.int .i64,.int .i64,.int .i64,.br tM,.int .i64,.int .i64,.int .i64,.int .i64,.int .i64,.br tW,.int .i64,.bool,.bool])],[]⟩
def yiy:Shape:=⟨[(1,false,[.ptr 0 0]),(41,false,[.br tM]),(42,false,[.int .i64]),(43,false,[.ci .i64 0])],[(0,[.int .i64,.int .i64,.int .i64,.br tM,.int .i64,.int .i64,.int .i64,.int .i64,.int .i64,.br tW,.int .i64,.bool,.bool])],[]⟩
def yif:Shape:=⟨[(1,false,[.ptr 0 0])],[(0,[.int .i64,.int .i64,.int .i64,.br tM,.int .i64,.int .i64,.int .i64,.int .i64,.int .i64,.br tW,.int .i64,.bool,.bool])],[]⟩
def yiY:Shape:=⟨[(2,false,[.bool])],[],[]⟩
abbrev yub (v0:List dM) (v1 v2:Int) (v3:dA):(ycQ).X:=((((),()),(v0,()),(v1,()),(v2,()),()),((v3.1,v3.2.1.1,v3.2.1.2,v3.2.2.1,v3.2.2.2.1,v3.2.2.2.2.1,v3.2.2.2.2.2.1,v3.2.2.2.2.2.2.1,v3.2.2.2.2.2.2.2.1,v3.2.2.2.2.2.2.2.2.1,v3.2.2.2.2.2.2.2.2.2.1,v3.2.2.2.2.2.2.2.2.2.2.1,v3.2.2.2.2.2.2.2.2.2.2.2,()),()),())
abbrev yRv (v0:List dM) (v1:Int) (v2:dA):(yiy).X:=((((),()),(v0,()),(v1,()),((),()),()),((v2.1,v2.2.1.1,v2.2.1.2,v2.2.2.1,v2.2.2.2.1,v2.2.2.2.2.1,v2.2.2.2.2.2.1,v2.2.2.2.2.2.2.1,v2.2.2.2.2.2.2.2.1,v2.2.2.2.2.2.2.2.2.1,v2.2.2.2.2.2.2.2.2.2.1,v2.2.2.2.2.2.2.2.2.2.2.1,v2.2.2.2.2.2.2.2.2.2.2.2,()),()),())
abbrev yRn (v0:dA):(yif).X:=((((),()),()),((v0.1,v0.2.1.1,v0.2.1.2,v0.2.2.1,v0.2.2.2.1,v0.2.2.2.2.1,v0.2.2.2.2.2.1,v0.2.2.2.2.2.2.1,v0.2.2.2.2.2.2.2.1,v0.2.2.2.2.2.2.2.2.1,v0.2.2.2.2.2.2.2.2.2.1,v0.2.2.2.2.2.2.2.2.2.2.1,v0.2.2.2.2.2.2.2.2.2.2.2,()),()),())
abbrev yRI (v0:Bool):(yiY).X:=(((v0,()),()),(),())
def yuy (v0:List dM) (v1 v2 v3 v4 v5:Int) (v6:List dM) (v7 v8 v9 v10 v11:Int) (v12:List dW) (v13:Int) (v14 v15:Bool):Option ((ycQ).X ⊕ ((yif).X ⊕ (yiY).X)) :=
 bif (ltb v2 v1) then
 bif (inb v2 v0.length) then
 let r7:=yda ((nth v0 v2 ([],[],false,[])).1,((nth v0 v2 ([],[],false,[])).2).1,(((nth v0 v2 ([],[],false,[])).2).2))
 bif (!(!r7)) then
 let r8:=yrs (v4,v5)
 bif (!((((nth v0 v2 ([],[],false,[])).1).length:Int) !=r8)) then
 bif (((nth v0 v2 ([],[],false,[])).2).2).1 then
 bif (v7 !=v2) then
 bif (!v15) then
 some (.inr (.inr (((false,()),()),(),())))
 else
 some (.inl ((((),()),(v0,()),(v1,()),((IntKind.i64.wrap (v2+1)),()),()),((v3,v4,v5,v6,v7,v8,v9,v10,v11,v12,v13,v14,v15,()),()),()))
 else
 some (.inl ((((),()),(v0,()),(v1,()),((IntKind.i64.wrap (v2+1)),()),()),((v3,v4,v5,v6,v7,v8,v9,v10,v11,v12,v13,v14,v15,()),()),()))
 else
 some (.inl ((((),()),(v0,()),(v1,()),((IntKind.i64.wrap (v2+1)),()),()),((v3,v4,v5,v6,v7,v8,v9,v10,v11,v12,v13,v14,v15,()),()),()))
 else
 some (.inr (.inr (((false,()),()),(),())))
 else
 some (.inr (.inr (((false,()),()),(),())))
 else none
 else
 some (.inr (.inl ((((),()),()),((v3,v4,v5,v6,v7,v8,v9,v10,v11,v12,v13,v14,v15,()),()),())))
def yds (x:(ycQ).X):=yuy x.1.2.1.1 x.1.2.2.1.1 x.1.2.2.2.1.1 x.2.1.1.1 x.2.1.1.2.1 x.2.1.1.2.2.1 x.2.1.1.2.2.2.1 x.2.1.1.2.2.2.2.1 x.2.1.1.2.2.2.2.2.1 x.2.1.1.2.2.2.2.2.2.1 x.2.1.1.2.2.2.2.2.2.2.1 x.2.1.1.2.2.2.2.2.2.2.2.1 x.2.1.1.2.2.2.2.2.2.2.2.2.1 x.2.1.1.2.2.2.2.2.2.2.2.2.2.1 x.2.1.1.2.2.2.2.2.2.2.2.2.2.2.1 x.2.1.1.2.2.2.2.2.2.2.2.2.2.2.2.1
def yDO (x:(yiy).X):(ycQ).X:=((((),()),(x.1.2.1.1,()),(x.1.2.2.1.1,()),(0,()),()),((x.2.1.1.1,x.2.1.1.2.1,x.2.1.1.2.2.1,x.2.1.1.2.2.2.1,x.2.1.1.2.2.2.2.1,x.2.1.1.2.2.2.2.2.1,x.2.1.1.2.2.2.2.2.2.1,x.2.1.1.2.2.2.2.2.2.2.1,x.2.1.1.2.2.2.2.2.2.2.2.1,x.2.1.1.2.2.2.2.2.2.2.2.2.1,x.2.1.1.2.2.2.2.2.2.2.2.2.2.1,x.2.1.1.2.2.2.2.2.2.2.2.2.2.2.1,x.2.1.1.2.2.2.2.2.2.2.2.2.2.2.2.1,()),()),())
def yFX:Code:=(zdI ypz 64 116).getD .skip
theorem yTA:zdI ypz 64 29=some (.block 0 (.loop yFX)):=by kernel_rfl
theorem yWI (x:(ycQ).X):zg7 ⟨yu5,103,yHc⟩ 0 yFX 116 ycQ yif yiY x=yds x:=by kernel_rfl
def yD5 (x:(yiy).X):Nat:=18446744073709551616
def yvf (x:(yiy).X):Option ((yif).X ⊕ (yiY).X):=zr yds (yD5 x) (yDO x)
def yEG:Seg:=⟨yiy,yif,yiY,yvf⟩
def yHd:Nat→Option Seg:=fun q=>bif Nat.beq q 29 then some yEG else yHc q
theorem yUm:FrOk Tryz.prog ⟨yu5,103,yHd⟩ ypz:=(yUl).loop (sg:=yEG) ycQ yDO (by decide) yTA yds yD5 (by decide) (fun _=>rfl) (fun x r _ h=>h) yWI
abbrev ykL:List Par:= [.rd tA]
abbrev yvv:List OT:= [⟨false,tB,.fz⟩]
def yrB (a0:dA):Option (ResD yvv×MutD ykL) :=
 let r1:=yeL a0.2.1
 bif (!(!r1)) then
 bif (!((a0.2.2.1.length:Int) !=a0.2.1.1)) then
 let r2:=ye a0.1 1 60000
 bif (!(!r2)) then
 let r3:=yfu a0.2.1 a0.2.2.2.1 a0.2.2.2.2.1
 bif (!(!r3)) then
 bnd (yru a0) fun r4 =>
 bif (!r4.1.1) then
 some ((false,()),())
 else
 zjw (yvf ((((),()),(a0.2.2.1,()),((a0.2.2.1.length:Int),()),((),()),()),((a0.1,a0.2.1.1,a0.2.1.2,a0.2.2.1,a0.2.2.2.1,a0.2.2.2.2.1,a0.2.2.2.2.2.1,a0.2.2.2.2.2.2.1,a0.2.2.2.2.2.2.2.1,a0.2.2.2.2.2.2.2.2.1,a0.2.2.2.2.2.2.2.2.2.1,a0.2.2.2.2.2.2.2.2.2.2.1,a0.2.2.2.2.2.2.2.2.2.2.2,()),()),())) (fun y8 =>
 let r10:=ye y8.2.1.1.2.2.2.2.2.2.1 0 60000
 bif r10 then
 let r11:=ye y8.2.1.1.2.2.2.2.2.2.2.1 0 60000
 bif r11 then
 let r12:=ye y8.2.1.1.2.2.2.2.2.2.2.2.1 0 60000
 bif r12 then
 let r13:=ye (IntKind.i64.wrap (y8.2.1.1.2.2.2.2.2.2.1 - y8.2.1.1.2.2.2.2.2.2.2.1)) 0 4
 bif r13 then
 let r14:=ye y8.2.1.1.2.2.2.2.2.2.2.2.2.2.1 (-1) 1000
 some ((r14,()),())
 else
 some ((false,()),())
 else
 some ((false,()),())
 else
 some ((false,()),())
 else
 some ((false,()),())) (fun y8 =>
 some ((y8.1.1.1,()),()))
 else
 some ((false,()),())
 else
 some ((false,()),())
 else
 some ((false,()),())
 else
 some ((false,()),())
theorem y16 (x:InD ykL):zjH ⟨yu5,103,yHd⟩ Tryz.f45.results.toList ypz ykL yvv x=yrB x.1:=by kernel_rfl
theorem yYK:ConOk Tryz.prog 45 ⟨ykL,yvv,fun x=>yrB x.1⟩:=zkh (yUm) Tryz.func45 (by kernel_rfl) (by kernel_rfl) Tryz.ntmps45.symm (by decide) (fun x r h=>(y16 x).trans h)
theorem y4W {S T G F z TS le:Bool} (h1:T=true→TS=true→S=true) (h2:S=true→T=true→z=(TS&&le)) :
  (bif S then bif T then bif G then bif z then some ((F,()),()) else some ((false,()),()) else some ((false,()),()) else some ((false,()),()) else some ((false,()),()))=some (((T&&(TS&&(le&&(G&&F)))),()),()):=by
 cases S
 ·cases T
  ·rfl
  ·cases TS
   ·rfl
   ·exact absurd (h1 rfl rfl) Bool.false_ne_true
 ·cases T
  ·cases G<;>rfl
  ·rw [h2 rfl rfl]
   cases TS<;>cases le<;>cases G<;>rfl
def yc9 (a0:dA):Bool:=yp a0
theorem y0R (a0:dA) (hk:zi9 ykL (a0,())):yrB a0=(fun n=>some ((n,()),())) (yc9 a0):=by
 have hb:a0.2.2.1.length * 80≤2 ^ 47:=hk.1.2.2.1.1
 unfold yrB yc9 yp
 simp only [yU9,yaH,yff]
 cases hg:yf a0.2.1
 ·rfl
 have hg2:=yo.1 hg
 have h1:yvf (yRv a0.2.2.1 a0.2.2.1.length a0)=some (bif (List.range a0.2.2.1.length).any (yg2 a0) then .inr (yRI false) else .inl (yRn a0)) :=
  zf4 (step:=yds) (fun i=>yub a0.2.2.1 a0.2.2.1.length i a0) a0.2.2.1.length (yg2 a0) _ _ (fun i hi=>by
   simp only [yds,yub,yuy,zjI (show (i:Int) < a0.2.2.1.length by omega),cond_true,wr (show -9223372036854775808≤(i:Int)+1 by omega) (by omega),Int.natCast_add,Int.natCast_one,Int.toNat_natCast,zkO hi,zkV,yda,yg2,yrs,wr (show -9223372036854775808≤6+a0.2.1.2 by omega) (by omega),yh]
   rw [show (a0.2.2.2.1 !=(i:Int))=((i:Int) !=a0.2.2.2.1) from bne_comm]
   cases yu (nth a0.2.2.1 i ([],[],false,[]))<;>cases (((nth a0.2.2.1 i ([],[],false,[])).1.length:Int) !=6+a0.2.1.2)<;>cases (nth a0.2.2.1 i ([],[],false,[])).2.2.1<;>cases ((i:Int) !=a0.2.2.2.1)<;>cases a0.2.2.2.2.2.2.2.2.2.2.2<;>rfl) (by simp only [yds,yub,yuy,zkm (Int.le_refl _),cond_false]) _ (by show _ < 18446744073709551616; omega)
 rw [yWE a0 hg,h1]
 simp only [zky,ylr,yfu,yaH,yff,wr (show -9223372036854775808≤a0.2.1.1 - 1 by omega) (by omega),ynt]
 have hw:(leb 0 a0.2.2.2.2.2.1&&leb a0.2.2.2.2.2.1 60000)=true→(leb 0 a0.2.2.2.2.2.2.1&&leb a0.2.2.2.2.2.2.1 60000)=true→IntKind.i64.wrap (a0.2.2.2.2.2.1 - a0.2.2.2.2.2.2.1)=a0.2.2.2.2.2.1 - a0.2.2.2.2.2.2.1:=fun h h'=>by
  rw [Bool.and_eq_true,zjQ,zjQ]at h h'
  exact wr (by omega) (by omega)
 simp only [bne,Bool.not_not,cond_true,Bool.true_and]
 have h2:(leb 0 a0.2.2.2.2.2.1&&leb a0.2.2.2.2.2.1 60000)=true→(leb 0 a0.2.2.2.2.2.2.1&&leb a0.2.2.2.2.2.2.1 60000)=true→(leb 0 (IntKind.i64.wrap (a0.2.2.2.2.2.1 - a0.2.2.2.2.2.2.1))&&leb (IntKind.i64.wrap (a0.2.2.2.2.2.1 - a0.2.2.2.2.2.2.1)) 4)=((leb a0.2.2.2.2.2.2.1 a0.2.2.2.2.2.1&&leb a0.2.2.2.2.2.1 60000)&&leb a0.2.2.2.2.2.1 (a0.2.2.2.2.2.2.1+4)):=fun h h'=>by
  rw [hw h h',Bool.eq_iff_iff]
  simp only [Bool.and_eq_true,zjQ]at h h' ⊢
  omega
 have h3:(leb 0 a0.2.2.2.2.2.2.1&&leb a0.2.2.2.2.2.2.1 60000)=true→(leb a0.2.2.2.2.2.2.1 a0.2.2.2.2.2.1&&leb a0.2.2.2.2.2.1 60000)=true→(leb 0 a0.2.2.2.2.2.1&&leb a0.2.2.2.2.2.1 60000)=true:=fun h h'=>by
  simp only [Bool.and_eq_true,zjQ]at h h' ⊢
  omega
 cases ((a0.2.2.1.length:Int)==a0.2.1.1)
 ·cases (leb 1 a0.1&&leb a0.1 60000)<;>cases (List.range a0.2.2.1.length).any (yg2 a0)<;>rfl
 cases (leb 1 a0.1&&leb a0.1 60000)
 ·rfl
 cases (leb (-1) a0.2.2.2.1&&leb a0.2.2.2.1 (a0.2.1.1 - 1))
 ·cases (List.range a0.2.2.1.length).any (yg2 a0)<;>cases yaK a0.2.1 a0.2.2.2.2.2.2.2.2.1<;>rfl
 cases (leb 0 a0.2.2.2.2.1&&leb a0.2.2.2.2.1 a0.2.1.2)
 ·cases (List.range a0.2.2.1.length).any (yg2 a0)<;>cases yaK a0.2.1 a0.2.2.2.2.2.2.2.2.1<;>rfl
 cases yaK a0.2.1 a0.2.2.2.2.2.2.2.2.1
 ·cases (List.range a0.2.2.1.length).any (yg2 a0)<;>cases (a0.2.2.2.1== -1)<;>cases (a0.2.2.2.2.1==0)<;>rfl
 cases (List.range a0.2.2.1.length).any (yg2 a0)
 ·cases (a0.2.2.2.1== -1)<;>cases (a0.2.2.2.2.1==0)
  case true.false=>rfl
  all_goals exact y4W h3 h2
 ·cases (a0.2.2.2.1== -1)<;>cases (a0.2.2.2.2.1==0)<;>rfl
def yrm:Con:=⟨ykL,yvv,fun x=>(fun n=>some ((n,()),())) (yc9 x.1)⟩
theorem yAs:ConOk Tryz.prog 45 yrm:=(yYK).mono (fun x r hk h=>(y0R x.1 hk).trans h)
end
section
def yE8:Code:=(Tryz.f200.body).getD .skip
def yFN:Env:=zki TT [] []
theorem yL5:FrOk Tryz.prog ⟨yFN,6,fun _=>none⟩ yE8:=zkp yb yc trivial
def yNx:Nat→Option Seg:=fun _=>none
abbrev yeY:List Par:= [.rd tL]
abbrev yoE:List OT:= [⟨false,tL,(.ow .fz)⟩]
def ykj (a0:List Int):Option (ResD yoE×MutD yeY) :=
 bif (zj4 ([]:List Int).length a0.length 8) then
 some (((([]:List Int)++a0),()),())
 else none
theorem yT2 (x:InD yeY):zjH ⟨yFN,6,yNx⟩ Tryz.f200.results.toList yE8 yeY yoE x=ykj x.1:=by kernel_rfl
theorem yO0:ConOk Tryz.prog 200 ⟨yeY,yoE,fun x=>ykj x.1⟩:=zkh (yL5) Tryz.func200 (by kernel_rfl) (by kernel_rfl) Tryz.ntmps200.symm (by decide) (fun x r h=>(yT2 x).trans h)
def yi (a0:List Int):List Int:=a0
theorem yRW (a0:List Int) (hk:zi9 yeY (a0,())):ykj a0=(fun n=>some ((n,()),())) (yi a0):=by
 have hb:a0.length * 8≤2 ^ 47:=hk.1.1
 unfold ykj yi
 rw [show zj4 ([]:List Int).length a0.length 8=true by rw [zkw,List.length_nil]; omega]
 rfl
def ydp:Con:=⟨yeY,yoE,fun x=>(fun n=>some ((n,()),())) (yi x.1)⟩
theorem yha:ConOk Tryz.prog 200 ydp:=(yO0).mono (fun x r hk h=>(yRW x.1 hk).trans h)
end
end
end Go.Tf
