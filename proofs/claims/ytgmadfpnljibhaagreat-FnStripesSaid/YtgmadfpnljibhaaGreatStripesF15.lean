/- Functions of the program, and what they come to. -/
import Derived.Test.YtgmadfpnljibhaaGreatStripesF14
namespace Go.Tf
noncomputable section
open Go.Proofs
set_option synthInstance.maxHeartbeats 400000
set_option synthInstance.maxSize 10000
set_option linter.unusedVariables false
set_option linter.unusedSimpArgs false
set_option maxRecDepth 100000
section
def yE9:Code:=(Tryz.f100.body).getD .skip
def yFL:Env:=zki TT [] []
theorem yMp:FrOk Tryz.prog ⟨yFL,6,fun _=>none⟩ yE9:=zkp yb yd trivial
def yN9:Nat→Option Seg:=fun _=>none
abbrev ykH:List Par:= [.rd tG]
abbrev yqr:List OT:= [⟨false,tI,.fz⟩]
def ytz (a0:dG):Option (ResD yqr×MutD ykH) :=
 some (((IntKind.i64.wrap (6+a0.2)),()),())
theorem yVj (x:InD ykH):zjH ⟨yFL,6,yN9⟩ Tryz.f100.results.toList yE9 ykH yqr x=ytz x.1:=by kernel_rfl
theorem yQv:ConOk Tryz.prog 100 ⟨ykH,yqr,fun x=>ytz x.1⟩:=zkh (yMp) Tryz.func100 (by kernel_rfl) (by kernel_rfl) Tryz.ntmps100.symm (by decide) (fun x r h=>(yVj x).trans h)
def yqL (a0:dG):Int :=
 (IntKind.i64.wrap (6+a0.2))
def yBE:Con:=⟨ykH,yqr,fun x=>(fun n=>some ((n,()),())) (yqL x.1)⟩
theorem yTq (a0:dG):ytz a0=(fun n=>some ((n,()),())) (yqL a0):=zkS (p:=fun (n:Int)=>((n,()),())) rfl
theorem yUm:ConOk Tryz.prog 100 yBE:=(yQv).mono (fun x r _ h=>(yTq x.1).trans h)
end
section
def yJo:Code:=(Tryz.f122.body).getD .skip
def yJC:Env:=zki TT [(126,yJ)] []
theorem ySs:FrOk Tryz.prog ⟨yJC,11,fun _=>none⟩ yJo:=zkp yb yd ⟨yT,trivial⟩
def yUY:Nat→Option Seg:=fun _=>none
abbrev ypl:List Par:= [.rd tG]
abbrev yuP:List OT:= [⟨false,tB,.fz⟩]
def yxa (a0:dG):Option (ResD yuP×MutD ypl) :=
 let r1:=yf a0.1 3 5
 bif r1 then
 let r2:=yf a0.2 1 8
 some ((r2,()),())
 else
 some ((false,()),())
theorem yZp (x:InD ypl):zjH ⟨yJC,11,yUY⟩ Tryz.f122.results.toList yJo ypl yuP x=yxa x.1:=by kernel_rfl
theorem yWl:ConOk Tryz.prog 122 ⟨ypl,yuP,fun x=>yxa x.1⟩:=zkh (ySs) Tryz.func122 (by kernel_rfl) (by kernel_rfl) Tryz.ntmps122.symm (by decide) (fun x r h=>(yZp x).trans h)
def ye3 (a0:dG):Bool :=
 let r1:=yf a0.1 3 5
 bif r1 then
 let r2:=yf a0.2 1 8
 r2
 else
 false
def yqG:Con:=⟨ypl,yuP,fun x=>(fun n=>some ((n,()),())) (ye3 x.1)⟩
theorem yYw (a0:dG):yxa a0=(fun n=>some ((n,()),())) (ye3 a0):=zkS (p:=fun (n:Bool)=>((n,()),())) (zkx (p:=fun (n:Bool)=>((n,()),())) rfl rfl)
theorem yy1:ConOk Tryz.prog 122 yqG:=(yWl).mono (fun x r _ h=>(yYw x.1).trans h)
theorem yS4 (a:Int×Int):ye3 a=yc a:=by kernel_rfl
end
section
def yHH:Code:=(Tryz.f131.body).getD .skip
def yId:Env:=zki TT [(126,yJ)] []
theorem yOS:FrOk Tryz.prog ⟨yId,26,fun _=>none⟩ yHH:=zkp yb yd ⟨yT,trivial⟩
def yRr:Nat→Option Seg:=fun _=>none
abbrev ymR:List Par:= [.rd tG,.rd tI,.rd tI]
abbrev yso:List OT:= [⟨false,tB,.fz⟩]
def yvW (a0:dG) (a1 a2:Int):Option (ResD yso×MutD ymR) :=
 let r1:=yf a1 (-1) (IntKind.i64.wrap (a0.1 - 1))
 bif r1 then
 let r2:=yf a2 0 a0.2
 bif r2 then
 bif (!(a2==0)) then
 some (((a1 !=(-1)),()),())
 else
 some ((true,()),())
 else
 some ((false,()),())
 else
 some ((false,()),())
theorem yX0 (x:InD ymR):zjH ⟨yId,26,yRr⟩ Tryz.f131.results.toList yHH ymR yso x=yvW x.1 x.2.1 x.2.2.1:=by kernel_rfl
theorem yTQ:ConOk Tryz.prog 131 ⟨ymR,yso,fun x=>yvW x.1 x.2.1 x.2.2.1⟩:=zkh (yOS) Tryz.func131 (by kernel_rfl) (by kernel_rfl) Tryz.ntmps131.symm (by decide) (fun x r h=>(yX0 x).trans h)
def yfJ (a0:dG) (a1 a2:Int):Bool :=
 let r1:=yf a1 (-1) (IntKind.i64.wrap (a0.1 - 1))
 bif r1 then
 let r2:=yf a2 0 a0.2
 bif r2 then
 bif (!(a2==0)) then
 (a1 !=(-1))
 else
 true
 else
 false
 else
 false
def yvh:Con:=⟨ymR,yso,fun x=>(fun n=>some ((n,()),())) (yfJ x.1 x.2.1 x.2.2.1)⟩
theorem yVW (a0:dG) (a1 a2:Int):yvW a0 a1 a2=(fun n=>some ((n,()),())) (yfJ a0 a1 a2):=zkS (p:=fun (n:Bool)=>((n,()),())) (zkx (p:=fun (n:Bool)=>((n,()),())) (zkx (p:=fun (n:Bool)=>((n,()),())) (zkx (p:=fun (n:Bool)=>((n,()),())) rfl rfl) rfl) rfl)
theorem yGz:ConOk Tryz.prog 131 yvh:=(yTQ).mono (fun x r _ h=>(yVW x.1 x.2.1 x.2.2.1).trans h)
end
section
def yAT:Code:=(Tryz.f116.body).getD .skip
def yBg:Env:=zki TT [(122,yqG),(126,yJ)] []
theorem yIP:FrOk Tryz.prog ⟨yBg,14,fun _=>none⟩ yAT:=zkp yb yd ⟨yy1,yT,trivial⟩
def yJB:Nat→Option Seg:=fun _=>none
abbrev ygX:List Par:= [.rd tG,.rd tI]
abbrev ylU:List OT:= [⟨false,tB,.fz⟩]
def ypZ (a0:dG) (a1:Int):Option (ResD ylU×MutD ygX) :=
 let r1:=ye3 a0
 bif r1 then
 let r2:=yf a1 0 (IntKind.i64.wrap (a0.2 - 1))
 some ((r2,()),())
 else
 some ((false,()),())
theorem yOC (x:InD ygX):zjH ⟨yBg,14,yJB⟩ Tryz.f116.results.toList yAT ygX ylU x=ypZ x.1 x.2.1:=by kernel_rfl
theorem yK6:ConOk Tryz.prog 116 ⟨ygX,ylU,fun x=>ypZ x.1 x.2.1⟩:=zkh (yIP) Tryz.func116 (by kernel_rfl) (by kernel_rfl) Tryz.ntmps116.symm (by decide) (fun x r h=>(yOC x).trans h)
def yag (a0:dG) (a1:Int):Bool :=
 let r1:=ye3 a0
 bif r1 then
 let r2:=yf a1 0 (IntKind.i64.wrap (a0.2 - 1))
 r2
 else
 false
def ycL:Con:=⟨ygX,ylU,fun x=>(fun n=>some ((n,()),())) (yag x.1 x.2.1)⟩
theorem yNb (a0:dG) (a1:Int):ypZ a0 a1=(fun n=>some ((n,()),())) (yag a0 a1):=zkS (p:=fun (n:Bool)=>((n,()),())) (zkx (p:=fun (n:Bool)=>((n,()),())) rfl rfl)
theorem ygk:ConOk Tryz.prog 116 ycL:=(yK6).mono (fun x r _ h=>(yNb x.1 x.2.1).trans h)
theorem yxp (g:dG) (s:Int):yag g s=yI g s:=by
 unfold yag yI
 rw [yS4]
 cases hg:yc g
 ·rfl
 have:=yi.1 hg
 rw [yai,ycd,wr (by omega) (by omega)]; rfl
end
section
def yHD:Code:=(Tryz.f144.body).getD .skip
def yH9:Env:=zki TT [(228,yl7)] []
theorem yOO:FrOk Tryz.prog ⟨yH9,15,fun _=>none⟩ yHD:=zkp yb yd ⟨yvN,trivial⟩
def yRn:Nat→Option Seg:=fun _=>none
abbrev ymN:List Par:= [.rd tG,.rd tL]
abbrev ysk:List OT:= [⟨false,tB,.fz⟩]
def yvS (a0:dG) (a1:List Int):Option (ResD ysk×MutD ymN) :=
 bif ((a1.length:Int)==(IntKind.i64.wrap (a0.1 - 1))) then
 let r1:=yac a1
 some ((r1,()),())
 else
 some ((false,()),())
theorem yXW (x:InD ymN):zjH ⟨yH9,15,yRn⟩ Tryz.f144.results.toList yHD ymN ysk x=yvS x.1 x.2.1:=by kernel_rfl
theorem yTM:ConOk Tryz.prog 144 ⟨ymN,ysk,fun x=>yvS x.1 x.2.1⟩:=zkh (yOO) Tryz.func144 (by kernel_rfl) (by kernel_rfl) Tryz.ntmps144.symm (by decide) (fun x r h=>(yXW x).trans h)
def ydY (a0:dG) (a1:List Int):Bool :=
 bif ((a1.length:Int)==(IntKind.i64.wrap (a0.1 - 1))) then
 let r1:=yac a1
 r1
 else
 false
def yvg:Con:=⟨ymN,ysk,fun x=>(fun n=>some ((n,()),())) (ydY x.1 x.2.1)⟩
theorem yVS (a0:dG) (a1:List Int):yvS a0 a1=(fun n=>some ((n,()),())) (ydY a0 a1):=zkS (p:=fun (n:Bool)=>((n,()),())) (zkx (p:=fun (n:Bool)=>((n,()),())) rfl rfl)
theorem yGy:ConOk Tryz.prog 144 yvg:=(yTM).mono (fun x r _ h=>(yVS x.1 x.2.1).trans h)
end
section
def yks:Code:=(Tryz.f132.body).getD .skip
def yqh:Env:=zki TT [(116,ycL),(144,yvg)] []
theorem yMn:FrOk Tryz.prog ⟨yqh,44,fun _=>none⟩ yks:=zkp yb yd ⟨ygk,yGy,trivial⟩
def yA0:Nat→Option Seg:=fun _=>none
def ybG:Shape:=⟨[(1,false,[.ptr 0 0]),(6,false,[.br tW]),(7,false,[.int .i64]),(8,false,[.int .i64])],[(0,[.int .i64,.int .i64,.int .i64,.br tM,.int .i64,.int .i64,.int .i64,.int .i64,.int .i64,.br tW,.int .i64,.bool,.bool])],[]⟩
def yf6:Shape:=⟨[(1,false,[.ptr 0 0]),(6,false,[.br tW]),(7,false,[.int .i64]),(8,false,[.ci .i64 0])],[(0,[.int .i64,.int .i64,.int .i64,.br tM,.int .i64,.int .i64,.int .i64,.int .i64,.int .i64,.br tW,.int .i64,.bool,.bool])],[]⟩
def yfU:Shape:=⟨[],[],[]⟩
def yge:Shape:=⟨[(2,false,[.bool])],[],[]⟩
abbrev ypK (v0:List dW) (v1 v2:Int) (v3:dA):(ybG).X:=((((),()),(v0,()),(v1,()),(v2,()),()),((v3.1,v3.2.1.1,v3.2.1.2,v3.2.2.1,v3.2.2.2.1,v3.2.2.2.2.1,v3.2.2.2.2.2.1,v3.2.2.2.2.2.2.1,v3.2.2.2.2.2.2.2.1,v3.2.2.2.2.2.2.2.2.1,v3.2.2.2.2.2.2.2.2.2.1,v3.2.2.2.2.2.2.2.2.2.2.1,v3.2.2.2.2.2.2.2.2.2.2.2,()),()),())
abbrev yKN (v0:List dW) (v1:Int) (v2:dA):(yf6).X:=((((),()),(v0,()),(v1,()),((),()),()),((v2.1,v2.2.1.1,v2.2.1.2,v2.2.2.1,v2.2.2.2.1,v2.2.2.2.2.1,v2.2.2.2.2.2.1,v2.2.2.2.2.2.2.1,v2.2.2.2.2.2.2.2.1,v2.2.2.2.2.2.2.2.2.1,v2.2.2.2.2.2.2.2.2.2.1,v2.2.2.2.2.2.2.2.2.2.2.1,v2.2.2.2.2.2.2.2.2.2.2.2,()),()),())
abbrev yKE  :(yfU).X:=((),(),())
abbrev yKU (v0:Bool):(yge).X:=(((v0,()),()),(),())
def yp5 (v0:List dW) (v1 v2 v3 v4 v5:Int) (v6:List dM) (v7 v8 v9 v10 v11:Int) (v12:List dW) (v13:Int) (v14 v15:Bool):Option ((ybG).X ⊕ ((yfU).X ⊕ (yge).X)) :=
 bif (ltb v2 v1) then
 bif (inb v2 v0.length) then
 let r4:=yag (v4,v5) ((nth v0 v2 (0,[])).1)
 bif (!(!r4)) then
 bif (ltb 0 v2) then
 bif (inb (IntKind.i64.wrap (v2 - 1)) v12.length) then
 bif (!(leb ((nth v0 v2 (0,[])).1) ((nth v12 (IntKind.i64.wrap (v2 - 1)) (0,[])).1))) then
 let r5:=ydY (v4,v5) ((nth v0 v2 (0,[])).2)
 bif (!r5) then
 some (.inr (.inr (((false,()),()),(),())))
 else
 some (.inl ((((),()),(v0,()),(v1,()),((IntKind.i64.wrap (v2+1)),()),()),((v3,v4,v5,v6,v7,v8,v9,v10,v11,v12,v13,v14,v15,()),()),()))
 else
 some (.inr (.inr (((false,()),()),(),())))
 else none
 else
 let r6:=ydY (v4,v5) ((nth v0 v2 (0,[])).2)
 bif (!r6) then
 some (.inr (.inr (((false,()),()),(),())))
 else
 some (.inl ((((),()),(v0,()),(v1,()),((IntKind.i64.wrap (v2+1)),()),()),((v3,v4,v5,v6,v7,v8,v9,v10,v11,v12,v13,v14,v15,()),()),()))
 else
 some (.inr (.inr (((false,()),()),(),())))
 else none
 else
 some (.inr (.inl ((),(),())))
def ybW (x:(ybG).X):=yp5 x.1.2.1.1 x.1.2.2.1.1 x.1.2.2.2.1.1 x.2.1.1.1 x.2.1.1.2.1 x.2.1.1.2.2.1 x.2.1.1.2.2.2.1 x.2.1.1.2.2.2.2.1 x.2.1.1.2.2.2.2.2.1 x.2.1.1.2.2.2.2.2.2.1 x.2.1.1.2.2.2.2.2.2.2.1 x.2.1.1.2.2.2.2.2.2.2.2.1 x.2.1.1.2.2.2.2.2.2.2.2.2.1 x.2.1.1.2.2.2.2.2.2.2.2.2.2.1 x.2.1.1.2.2.2.2.2.2.2.2.2.2.2.1 x.2.1.1.2.2.2.2.2.2.2.2.2.2.2.2.1
def yx0 (x:(yf6).X):(ybG).X:=((((),()),(x.1.2.1.1,()),(x.1.2.2.1.1,()),(0,()),()),((x.2.1.1.1,x.2.1.1.2.1,x.2.1.1.2.2.1,x.2.1.1.2.2.2.1,x.2.1.1.2.2.2.2.1,x.2.1.1.2.2.2.2.2.1,x.2.1.1.2.2.2.2.2.2.1,x.2.1.1.2.2.2.2.2.2.2.1,x.2.1.1.2.2.2.2.2.2.2.2.1,x.2.1.1.2.2.2.2.2.2.2.2.2.1,x.2.1.1.2.2.2.2.2.2.2.2.2.2.1,x.2.1.1.2.2.2.2.2.2.2.2.2.2.2.1,x.2.1.1.2.2.2.2.2.2.2.2.2.2.2.2.1,()),()),())
def yzE:Code:=(zdI yks 64 52).getD .skip
theorem yL1:zdI yks 64 13=some (.block 0 (.loop yzE)):=by kernel_rfl
theorem yNI (x:(ybG).X):zg7 ⟨yqh,44,yA0⟩ 0 yzE 52 ybG yfU yge x=ybW x:=by kernel_rfl
def yyh (x:(yf6).X):Nat:=18446744073709551616
def yrc (x:(yf6).X):Option ((yfU).X ⊕ (yge).X):=zr ybW (yyh x) (yx0 x)
def yyH:Seg:=⟨yf6,yfU,yge,yrc⟩
def yA1:Nat→Option Seg:=fun q=>bif Nat.beq q 13 then some yyH else yA0 q
theorem yMo:FrOk Tryz.prog ⟨yqh,44,yA1⟩ yks:=(yMn).loop (sg:=yyH) ybG yx0 (by decide) yL1 ybW yyh (by decide) (fun _=>rfl) (fun x r _ h=>h) yNI
abbrev yek:List Par:= [.rd tA]
abbrev yk2:List OT:= [⟨false,tB,.fz⟩]
def ymk (a0:dA):Option (ResD yk2×MutD yek) :=
 zjw (yrc ((((),()),(a0.2.2.2.2.2.2.2.2.1,()),((a0.2.2.2.2.2.2.2.2.1.length:Int),()),((),()),()),((a0.1,a0.2.1.1,a0.2.1.2,a0.2.2.1,a0.2.2.2.1,a0.2.2.2.2.1,a0.2.2.2.2.2.1,a0.2.2.2.2.2.2.1,a0.2.2.2.2.2.2.2.1,a0.2.2.2.2.2.2.2.2.1,a0.2.2.2.2.2.2.2.2.2.1,a0.2.2.2.2.2.2.2.2.2.2.1,a0.2.2.2.2.2.2.2.2.2.2.2,()),()),())) (fun y6 =>
 some ((true,()),())) (fun y6 =>
 some ((y6.1.1.1,()),()))
theorem yVi (x:InD yek):zjH ⟨yqh,44,yA1⟩ Tryz.f132.results.toList yks yek yk2 x=ymk x.1:=by kernel_rfl
theorem yQu:ConOk Tryz.prog 132 ⟨yek,yk2,fun x=>ymk x.1⟩:=zkh (yMo) Tryz.func132 (by kernel_rfl) (by kernel_rfl) Tryz.ntmps132.symm (by decide) (fun x r h=>(yVi x).trans h)
def ylo (a0:dA):Bool:=yaI a0.2.1 a0.2.2.2.2.2.2.2.2.1
def yw5 (a0:dA):Bool:=yc a0.2.1
theorem yvB (l:List Int):yac l=l.all isW:=by
 unfold yac
 rw [show yaj=isW from funext fun x=>by unfold yaj; rw [yai,ycd]; rfl]
theorem yTp (a0:dA) (hk:zi9 yek (a0,())) (hq:yw5 a0=true):ymk a0=(fun n=>some ((n,()),())) (ylo a0):=by
 have hb:a0.2.2.2.2.2.2.2.2.1.length * 32≤2 ^ 47:=hk.1.2.2.2.2.2.2.2.2.1.1
 have hg:=yi.1 hq
 have hq':yc a0.2.1=true:=hq
 have h1:yrc (yKN a0.2.2.2.2.2.2.2.2.1 a0.2.2.2.2.2.2.2.2.1.length a0)=some (bif (List.range a0.2.2.2.2.2.2.2.2.1.length).any (yh4 a0.2.1 a0.2.2.2.2.2.2.2.2.1) then .inr (yKU false) else .inl yKE) :=
  zf4 (step:=ybW) (fun i=>ypK a0.2.2.2.2.2.2.2.2.1 a0.2.2.2.2.2.2.2.2.1.length i a0) a0.2.2.2.2.2.2.2.2.1.length (yh4 a0.2.1 a0.2.2.2.2.2.2.2.2.1) _ _ (fun i hi=>by
   simp only [ybW,ypK,yp5,zjI (show (i:Int) < a0.2.2.2.2.2.2.2.2.1.length by omega),cond_true,wr (show -9223372036854775808≤(i:Int)+1 by omega) (by omega),Int.natCast_add,Int.natCast_one,Int.toNat_natCast,zkO hi,zkV,yag,ydY,yS4,hq',yai,ycd,yvB,wr (show -9223372036854775808≤a0.2.1.2 - 1 by omega) (by omega),wr (show -9223372036854775808≤a0.2.1.1 - 1 by omega) (by omega),yh4,bne]
   rcases Nat.eq_zero_or_pos i with rfl | h0
   ·cases (leb 0 (nth a0.2.2.2.2.2.2.2.2.1 ((0:Nat):Int) (0,[])).1&&leb (nth a0.2.2.2.2.2.2.2.2.1 ((0:Nat):Int) (0,[])).1 (a0.2.1.2 - 1))<;>cases (((nth a0.2.2.2.2.2.2.2.2.1 ((0:Nat):Int) (0,[])).2.length:Int)==a0.2.1.1 - 1)<;>cases ((nth a0.2.2.2.2.2.2.2.2.1 ((0:Nat):Int) (0,[])).2.all isW)<;>rfl
   ·rw [show IntKind.i64.wrap ((i:Int) - 1)=((i - 1:Nat):Int) by rw [wr (by omega) (by omega)]; omega,zkO (show i - 1 < a0.2.2.2.2.2.2.2.2.1.length by omega),zjI (show (0:Int) < i by omega),decide_eq_true h0]
    cases (leb 0 (nth a0.2.2.2.2.2.2.2.2.1 (i:Int) (0,[])).1&&leb (nth a0.2.2.2.2.2.2.2.2.1 (i:Int) (0,[])).1 (a0.2.1.2 - 1))<;>cases (((nth a0.2.2.2.2.2.2.2.2.1 (i:Int) (0,[])).2.length:Int)==a0.2.1.1 - 1)<;>cases ((nth a0.2.2.2.2.2.2.2.2.1 (i:Int) (0,[])).2.all isW)<;>cases leb (nth a0.2.2.2.2.2.2.2.2.1 (i:Int) (0,[])).1 (nth a0.2.2.2.2.2.2.2.2.1 ((i - 1:Nat):Int) (0,[])).1<;>rfl) (by simp only [ybW,ypK,yp5,zkm (Int.le_refl _),cond_false]) _ (by show _ < 18446744073709551616; omega)
 unfold ymk ylo yaI
 rw [h1]
 cases (List.range a0.2.2.2.2.2.2.2.2.1.length).any (yh4 a0.2.1 a0.2.2.2.2.2.2.2.2.1)<;>rfl
def yqQ (a0:dA):Option (ResD yk2×MutD yek):=bif yw5 a0 then (fun n=>some ((n,()),())) (ylo a0) else none
theorem yUy (a0:dA) (h:yw5 a0=true):yqQ a0=(fun n=>some ((n,()),())) (ylo a0):=by unfold yqQ; rw [h]; rfl
def yBD:Con:=⟨yek,yk2,fun x=>yqQ x.1⟩
theorem yUl:ConOk Tryz.prog 132 yBD:=(yQu).mono (fun x r hk h=>zkW h (fun hq=>yTp x.1 hk hq))
end
end
end Go.Tf
