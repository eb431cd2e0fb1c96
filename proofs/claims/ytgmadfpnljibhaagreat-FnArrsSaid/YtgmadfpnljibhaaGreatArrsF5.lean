/- Functions of the program, and what they come to. -/
import Derived.Test.YtgmadfpnljibhaaGreatArrsF4
namespace Go.Tf
noncomputable section
open Go.Proofs
set_option synthInstance.maxHeartbeats 400000
set_option synthInstance.maxSize 10000
set_option linter.unusedVariables false
set_option linter.unusedSimpArgs false
set_option maxRecDepth 100000
section
def yAT:Code:=(Tryz.f116.body).getD .skip
def yBe:Env:=zj2 TT [(122,ygn),(126,yv)] []
theorem yIP:FrOk Tryz.prog ⟨yBe,14,fun _=>none⟩ yAT:=zj6 yc yd ⟨ym2,yB,trivial⟩
def yJE:Nat→Option Seg:=fun _=>none
abbrev ygE:List Par:= [.rd tG,.rd tI]
abbrev ylr:List OT:= [⟨false,tB,.fz⟩]
def ypT (a0:dG) (a1:Int):Option (ResD ylr×MutD ygE) :=
 let r1:=ya6 a0
 bif r1 then
 let r2:=yf a1 0 (IntKind.i64.wrap (a0.2 - 1))
 some ((r2,()),())
 else
 some ((false,()),())
theorem yOw (x:InD ygE):zjx ⟨yBe,14,yJE⟩ Tryz.f116.results.toList yAT ygE ylr x=ypT x.1 x.2.1:=by kernel_rfl
theorem yLb:ConOk Tryz.prog 116 ⟨ygE,ylr,fun x=>ypT x.1 x.2.1⟩:=zj1 (yIP) Tryz.func116 (by kernel_rfl) (by kernel_rfl) Tryz.ntmps116.symm (by decide) (fun x r h=>(yOw x).trans h)
def yam (a0:dG) (a1:Int):Bool :=
 let r1:=ya6 a0
 bif r1 then
 let r2:=yf a1 0 (IntKind.i64.wrap (a0.2 - 1))
 r2
 else
 false
def yeD:Con:=⟨ygE,ylr,fun x=>(fun n=>some ((n,()),())) (yam x.1 x.2.1)⟩
theorem yM9 (a0:dG) (a1:Int):ypT a0 a1=(fun n=>some ((n,()),())) (yam a0 a1):=zkp (p:=fun (n:Bool)=>((n,()),())) (zkb (p:=fun (n:Bool)=>((n,()),())) rfl rfl)
theorem yjP:ConOk Tryz.prog 116 yeD:=(yLb).mono (fun x r _ h=>(yM9 x.1 x.2.1).trans h)
theorem yE7 (g:dG) (s:Int):yam g s=yaM g s:=by
 unfold yam yaM
 rw [yKJ]
 cases hg:yb g
 ·rfl
 have:=yi.1 hg
 rw [yP,ybX,wr (by omega) (by omega)]; rfl
end
section
def yHu:Code:=(Tryz.f144.body).getD .skip
def yH1:Env:=zj2 TT [(228,ys7)] []
theorem yOK:FrOk Tryz.prog ⟨yH1,15,fun _=>none⟩ yHu:=zj6 yc yd ⟨yER,trivial⟩
def yRk:Nat→Option Seg:=fun _=>none
abbrev yml:List Par:= [.rd tG,.rd tL]
abbrev ysh:List OT:= [⟨false,tB,.fz⟩]
def yvK (a0:dG) (a1:List Int):Option (ResD ysh×MutD yml) :=
 bif ((a1.length:Int)==(IntKind.i64.wrap (a0.1 - 1))) then
 let r1:=yav a1
 some ((r1,()),())
 else
 some ((false,()),())
theorem yX4 (x:InD yml):zjx ⟨yH1,15,yRk⟩ Tryz.f144.results.toList yHu yml ysh x=yvK x.1 x.2.1:=by kernel_rfl
theorem yTV:ConOk Tryz.prog 144 ⟨yml,ysh,fun x=>yvK x.1 x.2.1⟩:=zj1 (yOK) Tryz.func144 (by kernel_rfl) (by kernel_rfl) Tryz.ntmps144.symm (by decide) (fun x r h=>(yX4 x).trans h)
def ymU (a0:dG) (a1:List Int):Bool :=
 bif ((a1.length:Int)==(IntKind.i64.wrap (a0.1 - 1))) then
 let r1:=yav a1
 r1
 else
 false
def yEo:Con:=⟨yml,ysh,fun x=>(fun n=>some ((n,()),())) (ymU x.1 x.2.1)⟩
theorem yV7 (a0:dG) (a1:List Int):yvK a0 a1=(fun n=>some ((n,()),())) (ymU a0 a1):=zkp (p:=fun (n:Bool)=>((n,()),())) (zkb (p:=fun (n:Bool)=>((n,()),())) rfl rfl)
theorem yW5:ConOk Tryz.prog 144 yEo:=(yTV).mono (fun x r _ h=>(yV7 x.1 x.2.1).trans h)
end
section
def ykb:Code:=(Tryz.f132.body).getD .skip
def yp7:Env:=zj2 TT [(116,yeD),(144,yEo)] []
theorem yMl:FrOk Tryz.prog ⟨yp7,44,fun _=>none⟩ ykb:=zj6 yc yd ⟨yjP,yW5,trivial⟩
def yAZ:Nat→Option Seg:=fun _=>none
def ybr:Shape:=⟨[(1,false,[.ptr 0 0]),(6,false,[.br tW]),(7,false,[.int .i64]),(8,false,[.int .i64])],[(0,[.int .i64,.int .i64,.int .i64,.br tM,.int .i64,.int .i64,.int .i64,.int .i64,.int .i64,.br tW,.int .i64,.bool,.bool])],[]⟩
def yfQ:Shape:=⟨[(1,false,[.ptr 0 0]),(6,false,[.br tW]),(7,false,[.int .i64]),(8,false,[.ci .i64 0])],[(0,[.int .i64,.int .i64,.int .i64,.br tM,.int .i64,.int .i64,.int .i64,.int .i64,.int .i64,.br tW,.int .i64,.bool,.bool])],[]⟩
def yfG:Shape:=⟨[],[],[]⟩
def yfW:Shape:=⟨[(2,false,[.bool])],[],[]⟩
abbrev ypG (v0:List dW) (v1 v2:Int) (v3:dA):(ybr).X:=((((),()),(v0,()),(v1,()),(v2,()),()),((v3.1,v3.2.1.1,v3.2.1.2,v3.2.2.1,v3.2.2.2.1,v3.2.2.2.2.1,v3.2.2.2.2.2.1,v3.2.2.2.2.2.2.1,v3.2.2.2.2.2.2.2.1,v3.2.2.2.2.2.2.2.2.1,v3.2.2.2.2.2.2.2.2.2.1,v3.2.2.2.2.2.2.2.2.2.2.1,v3.2.2.2.2.2.2.2.2.2.2.2,()),()),())
abbrev yKX (v0:List dW) (v1:Int) (v2:dA):(yfQ).X:=((((),()),(v0,()),(v1,()),((),()),()),((v2.1,v2.2.1.1,v2.2.1.2,v2.2.2.1,v2.2.2.2.1,v2.2.2.2.2.1,v2.2.2.2.2.2.1,v2.2.2.2.2.2.2.1,v2.2.2.2.2.2.2.2.1,v2.2.2.2.2.2.2.2.2.1,v2.2.2.2.2.2.2.2.2.2.1,v2.2.2.2.2.2.2.2.2.2.2.1,v2.2.2.2.2.2.2.2.2.2.2.2,()),()),())
abbrev yKQ  :(yfG).X:=((),(),())
abbrev yK3 (v0:Bool):(yfW).X:=(((v0,()),()),(),())
def ypY (v0:List dW) (v1 v2 v3 v4 v5:Int) (v6:List dM) (v7 v8 v9 v10 v11:Int) (v12:List dW) (v13:Int) (v14 v15:Bool):Option ((ybr).X ⊕ ((yfG).X ⊕ (yfW).X)) :=
 bif (ltb v2 v1) then
 bif (inb v2 v0.length) then
 let r4:=yam (v4,v5) ((nth v0 v2 (0,[])).1)
 bif (!(!r4)) then
 bif (ltb 0 v2) then
 bif (inb (IntKind.i64.wrap (v2 - 1)) v12.length) then
 bif (!(leb ((nth v0 v2 (0,[])).1) ((nth v12 (IntKind.i64.wrap (v2 - 1)) (0,[])).1))) then
 let r5:=ymU (v4,v5) ((nth v0 v2 (0,[])).2)
 bif (!r5) then
 some (.inr (.inr (((false,()),()),(),())))
 else
 some (.inl ((((),()),(v0,()),(v1,()),((IntKind.i64.wrap (v2+1)),()),()),((v3,v4,v5,v6,v7,v8,v9,v10,v11,v12,v13,v14,v15,()),()),()))
 else
 some (.inr (.inr (((false,()),()),(),())))
 else none
 else
 let r6:=ymU (v4,v5) ((nth v0 v2 (0,[])).2)
 bif (!r6) then
 some (.inr (.inr (((false,()),()),(),())))
 else
 some (.inl ((((),()),(v0,()),(v1,()),((IntKind.i64.wrap (v2+1)),()),()),((v3,v4,v5,v6,v7,v8,v9,v10,v11,v12,v13,v14,v15,()),()),()))
 else
 some (.inr (.inr (((false,()),()),(),())))
 else none
 else
 some (.inr (.inl ((),(),())))
def ybJ (x:(ybr).X):=ypY x.1.2.1.1 x.1.2.2.1.1 x.1.2.2.2.1.1 x.2.1.1.1 x.2.1.1.2.1 x.2.1.1.2.2.1 x.2.1.1.2.2.2.1 x.2.1.1.2.2.2.2.1 x.2.1.1.2.2.2.2.2.1 x.2.1.1.2.2.2.2.2.2.1 x.2.1.1.2.2.2.2.2.2.2.1 x.2.1.1.2.2.2.2.2.2.2.2.1 x.2.1.1.2.2.2.2.2.2.2.2.2.1 x.2.1.1.2.2.2.2.2.2.2.2.2.2.1 x.2.1.1.2.2.2.2.2.2.2.2.2.2.2.1 x.2.1.1.2.2.2.2.2.2.2.2.2.2.2.2.1
def yx2 (x:(yfQ).X):(ybr).X:=((((),()),(x.1.2.1.1,()),(x.1.2.2.1.1,()),(0,()),()),((x.2.1.1.1,x.2.1.1.2.1,x.2.1.1.2.2.1,x.2.1.1.2.2.2.1,x.2.1.1.2.2.2.2.1,x.2.1.1.2.2.2.2.2.1,x.2.1.1.2.2.2.2.2.2.1,x.2.1.1.2.2.2.2.2.2.2.1,x.2.1.1.2.2.2.2.2.2.2.2.1,x.2.1.1.2.2.2.2.2.2.2.2.2.1,x.2.1.1.2.2.2.2.2.2.2.2.2.2.1,x.2.1.1.2.2.2.2.2.2.2.2.2.2.2.1,x.2.1.1.2.2.2.2.2.2.2.2.2.2.2.2.1,()),()),())
def yzz:Code:=(zdD ykb 64 52).getD .skip
theorem yL0:zdD ykb 64 13=some (.block 0 (.loop yzz)):=by kernel_rfl
theorem yNI (x:(ybr).X):zg0 ⟨yp7,44,yAZ⟩ 0 yzz 52 ybr yfG yfW x=ybJ x:=by kernel_rfl
def yyf (x:(yfQ).X):Nat:=18446744073709551616
def yq7 (x:(yfQ).X):Option ((yfG).X ⊕ (yfW).X):=zz ybJ (yyf x) (yx2 x)
def yyB:Seg:=⟨yfQ,yfG,yfW,yq7⟩
def yA0:Nat→Option Seg:=fun q=>bif Nat.beq q 13 then some yyB else yAZ q
theorem yMm:FrOk Tryz.prog ⟨yp7,44,yA0⟩ ykb:=(yMl).loop (sg:=yyB) ybr yx2 (by decide) yL0 ybJ yyf (by decide) (fun _=>rfl) (fun x r _ h=>h) yNI
abbrev ydT:List Par:= [.rd tA]
abbrev ykO:List OT:= [⟨false,tB,.fz⟩]
def ylS (a0:dA):Option (ResD ykO×MutD ydT) :=
 zkh (yq7 ((((),()),(a0.2.2.2.2.2.2.2.2.1,()),((a0.2.2.2.2.2.2.2.2.1.length:Int),()),((),()),()),((a0.1,a0.2.1.1,a0.2.1.2,a0.2.2.1,a0.2.2.2.1,a0.2.2.2.2.1,a0.2.2.2.2.2.1,a0.2.2.2.2.2.2.1,a0.2.2.2.2.2.2.2.1,a0.2.2.2.2.2.2.2.2.1,a0.2.2.2.2.2.2.2.2.2.1,a0.2.2.2.2.2.2.2.2.2.2.1,a0.2.2.2.2.2.2.2.2.2.2.2,()),()),())) (fun y6 =>
 some ((true,()),())) (fun y6 =>
 some ((y6.1.1.1,()),()))
theorem yVv (x:InD ydT):zjx ⟨yp7,44,yA0⟩ Tryz.f132.results.toList ykb ydT ykO x=ylS x.1:=by kernel_rfl
theorem yQs:ConOk Tryz.prog 132 ⟨ydT,ykO,fun x=>ylS x.1⟩:=zj1 (yMm) Tryz.func132 (by kernel_rfl) (by kernel_rfl) Tryz.ntmps132.symm (by decide) (fun x r h=>(yVv x).trans h)
def yk2 (a0:dA):Bool:=yaO a0.2.1 a0.2.2.2.2.2.2.2.2.1
def yxc (a0:dA):Bool:=yb a0.2.1
theorem yTe (l:List Int):yav l=l.all isW:=by
 unfold yav
 rw [show y5=isW from funext fun x=>by unfold y5; rw [yP,ybX]; rfl]
theorem yTx (a0:dA) (hk:zi2 ydT (a0,())) (hq:yxc a0=true):ylS a0=(fun n=>some ((n,()),())) (yk2 a0):=by
 have hb:a0.2.2.2.2.2.2.2.2.1.length * 32≤2 ^ 47:=hk.1.2.2.2.2.2.2.2.2.1.1
 have hg:=yi.1 hq
 have hq':yb a0.2.1=true:=hq
 have h1:yq7 (yKX a0.2.2.2.2.2.2.2.2.1 a0.2.2.2.2.2.2.2.2.1.length a0)=some (bif (List.range a0.2.2.2.2.2.2.2.2.1.length).any (yhT a0.2.1 a0.2.2.2.2.2.2.2.2.1) then .inr (yK3 false) else .inl yKQ) :=
  ziO (step:=ybJ) (fun i=>ypG a0.2.2.2.2.2.2.2.2.1 a0.2.2.2.2.2.2.2.2.1.length i a0) a0.2.2.2.2.2.2.2.2.1.length (yhT a0.2.1 a0.2.2.2.2.2.2.2.2.1) _ _ (fun i hi=>by
   simp only [ybJ,ypG,ypY,zj4 (show (i:Int) < a0.2.2.2.2.2.2.2.2.1.length by omega),cond_true,wr (show -9223372036854775808≤(i:Int)+1 by omega) (by omega),Int.natCast_add,Int.natCast_one,Int.toNat_natCast,zkl hi,zkr,yam,ymU,yKJ,hq',yP,ybX,yTe,wr (show -9223372036854775808≤a0.2.1.2 - 1 by omega) (by omega),wr (show -9223372036854775808≤a0.2.1.1 - 1 by omega) (by omega),yhT,bne]
   rcases Nat.eq_zero_or_pos i with rfl | h0
   ·cases (leb 0 (nth a0.2.2.2.2.2.2.2.2.1 ((0:Nat):Int) (0,[])).1&&leb (nth a0.2.2.2.2.2.2.2.2.1 ((0:Nat):Int) (0,[])).1 (a0.2.1.2 - 1))<;>cases (((nth a0.2.2.2.2.2.2.2.2.1 ((0:Nat):Int) (0,[])).2.length:Int)==a0.2.1.1 - 1)<;>cases ((nth a0.2.2.2.2.2.2.2.2.1 ((0:Nat):Int) (0,[])).2.all isW)<;>rfl
   ·rw [show IntKind.i64.wrap ((i:Int) - 1)=((i - 1:Nat):Int) by rw [wr (by omega) (by omega)]; omega,zkl (show i - 1 < a0.2.2.2.2.2.2.2.2.1.length by omega),zj4 (show (0:Int) < i by omega),decide_eq_true h0]
    cases (leb 0 (nth a0.2.2.2.2.2.2.2.2.1 (i:Int) (0,[])).1&&leb (nth a0.2.2.2.2.2.2.2.2.1 (i:Int) (0,[])).1 (a0.2.1.2 - 1))<;>cases (((nth a0.2.2.2.2.2.2.2.2.1 (i:Int) (0,[])).2.length:Int)==a0.2.1.1 - 1)<;>cases ((nth a0.2.2.2.2.2.2.2.2.1 (i:Int) (0,[])).2.all isW)<;>cases leb (nth a0.2.2.2.2.2.2.2.2.1 (i:Int) (0,[])).1 (nth a0.2.2.2.2.2.2.2.2.1 ((i - 1:Nat):Int) (0,[])).1<;>rfl) (by simp only [ybJ,ypG,ypY,zkx (Int.le_refl _),cond_false]) _ (by show _ < 18446744073709551616; omega)
 unfold ylS yk2 yaO
 rw [h1]
 cases (List.range a0.2.2.2.2.2.2.2.2.1.length).any (yhT a0.2.1 a0.2.2.2.2.2.2.2.2.1)<;>rfl
def yqH (a0:dA):Option (ResD ykO×MutD ydT):=bif yxc a0 then (fun n=>some ((n,()),())) (yk2 a0) else none
theorem yUF (a0:dA) (h:yxc a0=true):yqH a0=(fun n=>some ((n,()),())) (yk2 a0):=by unfold yqH; rw [h]; rfl
def yBy:Con:=⟨ydT,ykO,fun x=>yqH x.1⟩
theorem yUt:ConOk Tryz.prog 132 yBy:=(yQs).mono (fun x r hk h=>zks h (fun hq=>yTx x.1 hk hq))
end
section
def yoP:Code:=(Tryz.f45.body).getD .skip
def yt6:Env:=zj2 TT [(100,ys6),(122,ygn),(126,yv),(131,yu3),(132,yBy),(133,ygo)] []
theorem ySs:FrOk Tryz.prog ⟨yt6,103,fun _=>none⟩ yoP:=zj6 yc yd ⟨yEQ,ym2,yB,yGG,yUt,ym3,trivial⟩
def yFx:Nat→Option Seg:=fun _=>none
def ycL:Shape:=⟨[(1,false,[.ptr 0 0]),(41,false,[.br tM]),(42,false,[.int .i64]),(43,false,[.int .i64])],[(0,[.int .i64,.int .i64,.int .i64,.br tM,.int .i64,.int .i64,.int .i64,.int .i64,.int .i64,.br tW,.int .i64,.bool,.bool])],[]⟩
def yir:Shape:=⟨[(1,false,[.ptr 0 0]),(41,false,[.br tM]),(42,false,[.int .i64]),(43,false,[.ci .i64 0])],[(0,[.int .i64,.int .i64,.int .i64,.br tM,.int .i64,.int .i64,.int .i64,.int .i64,.int .i64,.br tW,.int .i64,.bool,.bool])],[]⟩
def yib:Shape:=⟨[(1,false,[.ptr 0 0])],[(0,[.int .i64,.int .i64,.int .i64,.br tM,.int .i64,.int .i64,.int .i64,.int .i64,.int .i64,.br tW,.int .i64,.bool,.bool])],[]⟩
def yiM:Shape:=⟨[(2,false,[.bool])],[],[]⟩
abbrev yte (v0:List dM) (v1 v2:Int) (v3:dA):(ycL).X:=((((),()),(v0,()),(v1,()),(v2,()),()),((v3.1,v3.2.1.1,v3.2.1.2,v3.2.2.1,v3.2.2.2.1,v3.2.2.2.2.1,v3.2.2.2.2.2.1,v3.2.2.2.2.2.2.1,v3.2.2.2.2.2.2.2.1,v3.2.2.2.2.2.2.2.2.1,v3.2.2.2.2.2.2.2.2.2.1,v3.2.2.2.2.2.2.2.2.2.2.1,v3.2.2.2.2.2.2.2.2.2.2.2,()),()),())
abbrev yPB (v0:List dM) (v1:Int) (v2:dA):(yir).X:=((((),()),(v0,()),(v1,()),((),()),()),((v2.1,v2.2.1.1,v2.2.1.2,v2.2.2.1,v2.2.2.2.1,v2.2.2.2.2.1,v2.2.2.2.2.2.1,v2.2.2.2.2.2.2.1,v2.2.2.2.2.2.2.2.1,v2.2.2.2.2.2.2.2.2.1,v2.2.2.2.2.2.2.2.2.2.1,v2.2.2.2.2.2.2.2.2.2.2.1,v2.2.2.2.2.2.2.2.2.2.2.2,()),()),())
abbrev yPs (v0:dA):(yib).X:=((((),()),()),((v0.1,v0.2.1.1,v0.2.1.2,v0.2.2.1,v0.2.2.2.1,v0.2.2.2.2.1,v0.2.2.2.2.2.1,v0.2.2.2.2.2.2.1,v0.2.2.2.2.2.2.2.1,v0.2.2.2.2.2.2.2.2.1,v0.2.2.2.2.2.2.2.2.2.1,v0.2.2.2.2.2.2.2.2.2.2.1,v0.2.2.2.2.2.2.2.2.2.2.2,()),()),())
abbrev yPQ (v0:Bool):(yiM).X:=(((v0,()),()),(),())
def ytC (v0:List dM) (v1 v2 v3 v4 v5:Int) (v6:List dM) (v7 v8 v9 v10 v11:Int) (v12:List dW) (v13:Int) (v14 v15:Bool):Option ((ycL).X ⊕ ((yib).X ⊕ (yiM).X)) :=
 bif (ltb v2 v1) then
 bif (inb v2 v0.length) then
 let r7:=yae ((nth v0 v2 ([],[],false,[])).1,((nth v0 v2 ([],[],false,[])).2).1,(((nth v0 v2 ([],[],false,[])).2).2))
 bif (!(!r7)) then
 let r8:=yd7 (v4,v5)
 bif (!((((nth v0 v2 ([],[],false,[])).1).length:Int) !=r8)) then
 bif (((nth v0 v2 ([],[],false,[])).2).2).1 then
 bif (v7 !=v2) then
 bif (!v15) then
 some (.inr (.inr (((false,()),()),(),())))
 else
 some (.inl ((((),()),(v0,()),(v1,()),((IntKind.i64.wrap (v2+1)),()),()),((v3,v4,v5,v6,v7,v8,v9,v10,v11,v12,v13,v14,v15,()),()),()))
 else
 some (.inl ((((),()),(v0,()),(v1,()),((IntKind.i64.wrap (v2+1)),()),()),((v3,v4,v5,v6,v7,v8,v9,v10,v11,v12,v13,v14,v15,()),()),()))
 else
 some (.inl ((((),()),(v0,()),(v1,()),((IntKind.i64.wrap (v2+1)),()),()),((v3,v4,v5,v6,v7,v8,v9,v10,v11,v12,v13,v14,v15,()),()),()))
 else
 some (.inr (.inr (((false,()),()),(),())))
 else
 some (.inr (.inr (((false,()),()),(),())))
 else none
 else
 some (.inr (.inl ((((),()),()),((v3,v4,v5,v6,v7,v8,v9,v10,v11,v12,v13,v14,v15,()),()),())))
def ydh (x:(ycL).X):=ytC x.1.2.1.1 x.1.2.2.1.1 x.1.2.2.2.1.1 x.2.1.1.1 x.2.1.1.2.1 x.2.1.1.2.2.1 x.2.1.1.2.2.2.1 x.2.1.1.2.2.2.2.1 x.2.1.1.2.2.2.2.2.1 x.2.1.1.2.2.2.2.2.2.1 x.2.1.1.2.2.2.2.2.2.2.1 x.2.1.1.2.2.2.2.2.2.2.2.1 x.2.1.1.2.2.2.2.2.2.2.2.2.1 x.2.1.1.2.2.2.2.2.2.2.2.2.2.1 x.2.1.1.2.2.2.2.2.2.2.2.2.2.2.1 x.2.1.1.2.2.2.2.2.2.2.2.2.2.2.2.1
def yBL (x:(yir).X):(ycL).X:=((((),()),(x.1.2.1.1,()),(x.1.2.2.1.1,()),(0,()),()),((x.2.1.1.1,x.2.1.1.2.1,x.2.1.1.2.2.1,x.2.1.1.2.2.2.1,x.2.1.1.2.2.2.2.1,x.2.1.1.2.2.2.2.2.1,x.2.1.1.2.2.2.2.2.2.1,x.2.1.1.2.2.2.2.2.2.2.1,x.2.1.1.2.2.2.2.2.2.2.2.1,x.2.1.1.2.2.2.2.2.2.2.2.2.1,x.2.1.1.2.2.2.2.2.2.2.2.2.2.1,x.2.1.1.2.2.2.2.2.2.2.2.2.2.2.1,x.2.1.1.2.2.2.2.2.2.2.2.2.2.2.2.1,()),()),())
def yD4:Code:=(zdD yoP 64 116).getD .skip
theorem yRH:zdD yoP 64 29=some (.block 0 (.loop yD4)):=by kernel_rfl
theorem yUL (x:(ycL).X):zg0 ⟨yt6,103,yFx⟩ 0 yD4 116 ycL yib yiM x=ydh x:=by kernel_rfl
def yB4 (x:(yir).X):Nat:=18446744073709551616
def yui (x:(yir).X):Option ((yib).X ⊕ (yiM).X):=zz ydh (yB4 x) (yBL x)
def yCJ:Seg:=⟨yir,yib,yiM,yui⟩
def yFy:Nat→Option Seg:=fun q=>bif Nat.beq q 29 then some yCJ else yFx q
theorem ySt:FrOk Tryz.prog ⟨yt6,103,yFy⟩ yoP:=(ySs).loop (sg:=yCJ) ycL yBL (by decide) yRH ydh yB4 (by decide) (fun _=>rfl) (fun x r _ h=>h) yUL
abbrev ykj:List Par:= [.rd tA]
abbrev yuz:List OT:= [⟨false,tB,.fz⟩]
def yqL (a0:dA):Option (ResD yuz×MutD ykj) :=
 let r1:=ya6 a0.2.1
 bif (!(!r1)) then
 bif (!((a0.2.2.1.length:Int) !=a0.2.1.1)) then
 let r2:=yf a0.1 1 60000
 bif (!(!r2)) then
 let r3:=yfr a0.2.1 a0.2.2.2.1 a0.2.2.2.2.1
 bif (!(!r3)) then
 bnd (yqH a0) fun r4 =>
 bif (!r4.1.1) then
 some ((false,()),())
 else
 zkh (yui ((((),()),(a0.2.2.1,()),((a0.2.2.1.length:Int),()),((),()),()),((a0.1,a0.2.1.1,a0.2.1.2,a0.2.2.1,a0.2.2.2.1,a0.2.2.2.2.1,a0.2.2.2.2.2.1,a0.2.2.2.2.2.2.1,a0.2.2.2.2.2.2.2.1,a0.2.2.2.2.2.2.2.2.1,a0.2.2.2.2.2.2.2.2.2.1,a0.2.2.2.2.2.2.2.2.2.2.1,a0.2.2.2.2.2.2.2.2.2.2.2,()),()),())) (fun y8 =>
 let r10:=yf y8.2.1.1.2.2.2.2.2.2.1 0 60000
 bif r10 then
 let r11:=yf y8.2.1.1.2.2.2.2.2.2.2.1 0 60000
 bif r11 then
 let r12:=yf y8.2.1.1.2.2.2.2.2.2.2.2.1 0 60000
 bif r12 then
 let r13:=yf (IntKind.i64.wrap (y8.2.1.1.2.2.2.2.2.2.1 - y8.2.1.1.2.2.2.2.2.2.2.1)) 0 4
 bif r13 then
 let r14:=yf y8.2.1.1.2.2.2.2.2.2.2.2.2.2.1 (-1) 1000
 some ((r14,()),())
 else
 some ((false,()),())
 else
 some ((false,()),())
 else
 some ((false,()),())
 else
 some ((false,()),())) (fun y8 =>
 some ((y8.1.1.1,()),()))
 else
 some ((false,()),())
 else
 some ((false,()),())
 else
 some ((false,()),())
 else
 some ((false,()),())
theorem yZu (x:InD ykj):zjx ⟨yt6,103,yFy⟩ Tryz.f45.results.toList yoP ykj yuz x=yqL x.1:=by kernel_rfl
theorem yWx:ConOk Tryz.prog 45 ⟨ykj,yuz,fun x=>yqL x.1⟩:=zj1 (ySt) Tryz.func45 (by kernel_rfl) (by kernel_rfl) Tryz.ntmps45.symm (by decide) (fun x r h=>(yZu x).trans h)
theorem y2J {S T G F z TS le:Bool} (h1:T=true→TS=true→S=true) (h2:S=true→T=true→z=(TS&&le)) :
  (bif S then bif T then bif G then bif z then some ((F,()),()) else some ((false,()),()) else some ((false,()),()) else some ((false,()),()) else some ((false,()),()))=some (((T&&(TS&&(le&&(G&&F)))),()),()):=by
 cases S
 ·cases T
  ·rfl
  ·cases TS
   ·rfl
   ·exact absurd (h1 rfl rfl) Bool.false_ne_true
 ·cases T
  ·cases G<;>rfl
  ·rw [h2 rfl rfl]
   cases TS<;>cases le<;>cases G<;>rfl
def yH (a0:dA):Bool:=yV a0
theorem yYC (a0:dA) (hk:zi2 ykj (a0,())):yqL a0=(fun n=>some ((n,()),())) (yH a0):=by
 have hb:a0.2.2.1.length * 80≤2 ^ 47:=hk.1.2.2.1.1
 unfold yqL yH yV
 simp only [yKJ,yP,ybX]
 cases hg:yb a0.2.1
 ·rfl
 have hg2:=yi.1 hg
 have h1:yui (yPB a0.2.2.1 a0.2.2.1.length a0)=some (bif (List.range a0.2.2.1.length).any (yhe a0) then .inr (yPQ false) else .inl (yPs a0)) :=
  ziO (step:=ydh) (fun i=>yte a0.2.2.1 a0.2.2.1.length i a0) a0.2.2.1.length (yhe a0) _ _ (fun i hi=>by
   simp only [ydh,yte,ytC,zj4 (show (i:Int) < a0.2.2.1.length by omega),cond_true,wr (show -9223372036854775808≤(i:Int)+1 by omega) (by omega),Int.natCast_add,Int.natCast_one,Int.toNat_natCast,zkl hi,zkr,yae,yhe,yd7,wr (show -9223372036854775808≤6+a0.2.1.2 by omega) (by omega),noMem]
   rw [show (a0.2.2.2.1 !=(i:Int))=((i:Int) !=a0.2.2.2.1) from bne_comm]
   cases yq (nth a0.2.2.1 i ([],[],false,[]))<;>cases (((nth a0.2.2.1 i ([],[],false,[])).1.length:Int) !=6+a0.2.1.2)<;>cases (nth a0.2.2.1 i ([],[],false,[])).2.2.1<;>cases ((i:Int) !=a0.2.2.2.1)<;>cases a0.2.2.2.2.2.2.2.2.2.2.2<;>rfl) (by simp only [ydh,yte,ytC,zkx (Int.le_refl _),cond_false]) _ (by show _ < 18446744073709551616; omega)
 rw [yUF a0 hg,h1]
 simp only [zkc,yk2,yfr,yP,ybX,wr (show -9223372036854775808≤a0.2.1.1 - 1 by omega) (by omega),ymM]
 have hw:(leb 0 a0.2.2.2.2.2.1&&leb a0.2.2.2.2.2.1 60000)=true→(leb 0 a0.2.2.2.2.2.2.1&&leb a0.2.2.2.2.2.2.1 60000)=true→IntKind.i64.wrap (a0.2.2.2.2.2.1 - a0.2.2.2.2.2.2.1)=a0.2.2.2.2.2.1 - a0.2.2.2.2.2.2.1:=fun h h'=>by
  rw [Bool.and_eq_true,zjE,zjE]at h h'
  exact wr (by omega) (by omega)
 simp only [bne,Bool.not_not,cond_true,Bool.true_and]
 have h2:(leb 0 a0.2.2.2.2.2.1&&leb a0.2.2.2.2.2.1 60000)=true→(leb 0 a0.2.2.2.2.2.2.1&&leb a0.2.2.2.2.2.2.1 60000)=true→(leb 0 (IntKind.i64.wrap (a0.2.2.2.2.2.1 - a0.2.2.2.2.2.2.1))&&leb (IntKind.i64.wrap (a0.2.2.2.2.2.1 - a0.2.2.2.2.2.2.1)) 4)=((leb a0.2.2.2.2.2.2.1 a0.2.2.2.2.2.1&&leb a0.2.2.2.2.2.1 60000)&&leb a0.2.2.2.2.2.1 (a0.2.2.2.2.2.2.1+4)):=fun h h'=>by
  rw [hw h h',Bool.eq_iff_iff]
  simp only [Bool.and_eq_true,zjE]at h h' ⊢
  omega
 have h3:(leb 0 a0.2.2.2.2.2.2.1&&leb a0.2.2.2.2.2.2.1 60000)=true→(leb a0.2.2.2.2.2.2.1 a0.2.2.2.2.2.1&&leb a0.2.2.2.2.2.1 60000)=true→(leb 0 a0.2.2.2.2.2.1&&leb a0.2.2.2.2.2.1 60000)=true:=fun h h'=>by
  simp only [Bool.and_eq_true,zjE]at h h' ⊢
  omega
 cases ((a0.2.2.1.length:Int)==a0.2.1.1)
 ·cases (leb 1 a0.1&&leb a0.1 60000)<;>cases (List.range a0.2.2.1.length).any (yhe a0)<;>rfl
 cases (leb 1 a0.1&&leb a0.1 60000)
 ·rfl
 cases (leb (-1) a0.2.2.2.1&&leb a0.2.2.2.1 (a0.2.1.1 - 1))
 ·cases (List.range a0.2.2.1.length).any (yhe a0)<;>cases yaO a0.2.1 a0.2.2.2.2.2.2.2.2.1<;>rfl
 cases (leb 0 a0.2.2.2.2.1&&leb a0.2.2.2.2.1 a0.2.1.2)
 ·cases (List.range a0.2.2.1.length).any (yhe a0)<;>cases yaO a0.2.1 a0.2.2.2.2.2.2.2.2.1<;>rfl
 cases yaO a0.2.1 a0.2.2.2.2.2.2.2.2.1
 ·cases (List.range a0.2.2.1.length).any (yhe a0)<;>cases (a0.2.2.2.1== -1)<;>cases (a0.2.2.2.2.1==0)<;>rfl
 cases (List.range a0.2.2.1.length).any (yhe a0)
 ·cases (a0.2.2.2.1== -1)<;>cases (a0.2.2.2.2.1==0)
  case true.false=>rfl
  all_goals exact y2J h3 h2
 ·cases (a0.2.2.2.1== -1)<;>cases (a0.2.2.2.2.1==0)<;>rfl
def ygm:Con:=⟨ykj,yuz,fun x=>(fun n=>some ((n,()),())) (yH x.1)⟩
theorem ym1:ConOk Tryz.prog 45 ygm:=(yWx).mono (fun x r hk h=>(yYC x.1 hk).trans h)
end
section
def yrM:Code:=(Tryz.f33.body).getD .skip
def yxp:Env:=zj2 TT [(45,ygm),(118,ywV)] []
theorem yVP:FrOk Tryz.prog ⟨yxp,29,fun _=>none⟩ yrM:=zj6 yc yd ⟨ym1,yIq,trivial⟩
def yHQ:Nat→Option Seg:=fun _=>none
def yd1:Shape:=⟨[(1,false,[.ptr 0 0]),(3,false,[.int .i64]),(13,false,[.int .i64]),(14,false,[.int .i64])],[(0,[.int .i64,.int .i64,.int .i64,.br tM,.int .i64,.int .i64,.int .i64,.int .i64,.int .i64,.br tW,.int .i64,.bool,.bool])],[]⟩
def ykK:Shape:=⟨[(1,false,[.ptr 0 0]),(3,false,[.ci .i64 0]),(13,false,[.int .i64]),(14,false,[.ci .i64 0])],[(0,[.int .i64,.int .i64,.int .i64,.br tM,.int .i64,.int .i64,.int .i64,.int .i64,.int .i64,.br tW,.int .i64,.bool,.bool])],[]⟩
def ykG:Shape:=⟨[(3,false,[.int .i64])],[],[]⟩
def yqv:Shape:=⟨[],[],[]⟩
abbrev yvr (v0 v1 v2:Int) (v3:dA):(yd1).X:=((((),()),(v0,()),(v1,()),(v2,()),()),((v3.1,v3.2.1.1,v3.2.1.2,v3.2.2.1,v3.2.2.2.1,v3.2.2.2.2.1,v3.2.2.2.2.2.1,v3.2.2.2.2.2.2.1,v3.2.2.2.2.2.2.2.1,v3.2.2.2.2.2.2.2.2.1,v3.2.2.2.2.2.2.2.2.2.1,v3.2.2.2.2.2.2.2.2.2.2.1,v3.2.2.2.2.2.2.2.2.2.2.2,()),()),())
abbrev yTm (v0:Int) (v1:dA):(ykK).X:=((((),()),((),()),(v0,()),((),()),()),((v1.1,v1.2.1.1,v1.2.1.2,v1.2.2.1,v1.2.2.2.1,v1.2.2.2.2.1,v1.2.2.2.2.2.1,v1.2.2.2.2.2.2.1,v1.2.2.2.2.2.2.2.1,v1.2.2.2.2.2.2.2.2.1,v1.2.2.2.2.2.2.2.2.2.1,v1.2.2.2.2.2.2.2.2.2.2.1,v1.2.2.2.2.2.2.2.2.2.2.2,()),()),())
abbrev yTi (v0:Int):(ykG).X:=(((v0,()),()),(),())
def yv3 (v0 v1 v2 v3 v4 v5:Int) (v6:List dM) (v7 v8 v9 v10 v11:Int) (v12:List dW) (v13:Int) (v14 v15:Bool):Option ((yd1).X ⊕ ((ykG).X ⊕ (yqv).X)) :=
 bif (ltb v2 v1) then
 let r3:=yhh (v3,(v4,v5),v6,v7,v8,v9,v10,v11,v12,v13,v14,v15) v2
 bif (!r3.2) then
 some (.inl ((((),()),((IntKind.i64.wrap (v0+1)),()),(v1,()),((IntKind.i64.wrap (v2+1)),()),()),((v3,v4,v5,v6,v7,v8,v9,v10,v11,v12,v13,v14,v15,()),()),()))
 else
 some (.inl ((((),()),(v0,()),(v1,()),((IntKind.i64.wrap (v2+1)),()),()),((v3,v4,v5,v6,v7,v8,v9,v10,v11,v12,v13,v14,v15,()),()),()))
 else
 some (.inr (.inl (((v0,()),()),(),())))
def yea (x:(yd1).X):=yv3 x.1.2.1.1 x.1.2.2.1.1 x.1.2.2.2.1.1 x.2.1.1.1 x.2.1.1.2.1 x.2.1.1.2.2.1 x.2.1.1.2.2.2.1 x.2.1.1.2.2.2.2.1 x.2.1.1.2.2.2.2.2.1 x.2.1.1.2.2.2.2.2.2.1 x.2.1.1.2.2.2.2.2.2.2.1 x.2.1.1.2.2.2.2.2.2.2.2.1 x.2.1.1.2.2.2.2.2.2.2.2.2.1 x.2.1.1.2.2.2.2.2.2.2.2.2.2.1 x.2.1.1.2.2.2.2.2.2.2.2.2.2.2.1 x.2.1.1.2.2.2.2.2.2.2.2.2.2.2.2.1
def yEF (x:(ykK).X):(yd1).X:=((((),()),(0,()),(x.1.2.2.1.1,()),(0,()),()),((x.2.1.1.1,x.2.1.1.2.1,x.2.1.1.2.2.1,x.2.1.1.2.2.2.1,x.2.1.1.2.2.2.2.1,x.2.1.1.2.2.2.2.2.1,x.2.1.1.2.2.2.2.2.2.1,x.2.1.1.2.2.2.2.2.2.2.1,x.2.1.1.2.2.2.2.2.2.2.2.1,x.2.1.1.2.2.2.2.2.2.2.2.2.1,x.2.1.1.2.2.2.2.2.2.2.2.2.2.1,x.2.1.1.2.2.2.2.2.2.2.2.2.2.2.1,x.2.1.1.2.2.2.2.2.2.2.2.2.2.2.2.1,()),()),())
def yGh:Code:=(zdD yrM 64 244).getD .skip
theorem yVl:zdD yrM 64 61=some (.block 0 (.loop yGh)):=by kernel_rfl
theorem yXp (x:(yd1).X):zg0 ⟨yxp,29,yHQ⟩ 0 yGh 244 yd1 ykG yqv x=yea x:=by kernel_rfl
def yEK (x:(ykK).X):Nat:=18446744073709551616
def ywQ (x:(ykK).X):Option ((ykG).X ⊕ (yqv).X):=zz yea (yEK x) (yEF x)
def yEY:Seg:=⟨ykK,ykG,yqv,ywQ⟩
def yHR:Nat→Option Seg:=fun q=>bif Nat.beq q 61 then some yEY else yHQ q
theorem yVQ:FrOk Tryz.prog ⟨yxp,29,yHR⟩ yrM:=(yVP).loop (sg:=yEY) yd1 yEF (by decide) yVl yea yEK (by decide) (fun _=>rfl) (fun x r _ h=>h) yXp
abbrev ynb:List Par:= [.rd tA]
abbrev yxt:List OT:= [⟨false,tI,.fz⟩]
def ysP (a0:dA):Option (ResD yxt×MutD ynb) :=
 let r1:=yH a0
 bif (!r1) then
 some ((0,()),())
 else
 zkh (ywQ ((((),()),((),()),(a0.2.1.2,()),((),()),()),((a0.1,a0.2.1.1,a0.2.1.2,a0.2.2.1,a0.2.2.2.1,a0.2.2.2.2.1,a0.2.2.2.2.2.1,a0.2.2.2.2.2.2.1,a0.2.2.2.2.2.2.2.1,a0.2.2.2.2.2.2.2.2.1,a0.2.2.2.2.2.2.2.2.2.1,a0.2.2.2.2.2.2.2.2.2.2.1,a0.2.2.2.2.2.2.2.2.2.2.2,()),()),())) (fun y3 =>
 some ((y3.1.1.1,()),())) (fun y3 =>
 none)
theorem y0x (x:InD ynb):zjx ⟨yxp,29,yHR⟩ Tryz.f33.results.toList yrM ynb yxt x=ysP x.1:=by kernel_rfl
theorem yYY:ConOk Tryz.prog 33 ⟨ynb,yxt,fun x=>ysP x.1⟩:=zj1 (yVQ) Tryz.func33 (by kernel_rfl) (by kernel_rfl) Tryz.ntmps33.symm (by decide) (fun x r h=>(y0x x).trans h)
def yrW (a0:dA):Int:=yZn a0
theorem y0b (a0:dA) (hk:zi2 ynb (a0,())):ysP a0=(fun n=>some ((n,()),())) (yrW a0):=by
 unfold ysP yrW yZn yH
 cases ha:yV a0
 ·rfl
 have hg:=yi.1 (ypu ha)
 have h1:ywQ (yTm a0.2.1.2 a0)=some (.inl (yTi ((yi4 (fun (s:Nat)=>(yga a0 s).2) a0.2.1.2.toNat:Nat):Int))) :=
  zkf (step:=yea) (fun i=>yvr ((yi4 (fun (s:Nat)=>(yga a0 s).2) i:Nat):Int) a0.2.1.2 i a0) a0.2.1.2.toNat _ (fun i hi=>by
   have:=y2b (fun (s:Nat)=>(yga a0 s).2) i
   simp only [yea,yvr,yv3,zj4 (show (i:Int) < a0.2.1.2 by omega),cond_true,wr (show -9223372036854775808≤(i:Int)+1 by omega) (by omega),Int.natCast_add,Int.natCast_one,Int.toNat_natCast,zkr,yhh,yvp,wr (show -9223372036854775808≤((yi4 (fun (s:Nat)=>(yga a0 s).2) i:Nat):Int)+1 by omega) (by omega)]
   cases (yga a0 i).2<;>rfl) (by simp only [yea,yvr,yv3,zkx (show a0.2.1.2≤(a0.2.1.2.toNat:Int) by omega),cond_false]) _ (by show _ < 18446744073709551616; omega)
 rw [h1]; rfl
def yIn:Con:=⟨ynb,yxt,fun x=>(fun n=>some ((n,()),())) (yrW x.1)⟩
theorem y0i:ConOk Tryz.prog 33 yIn:=(yYY).mono (fun x r hk h=>(y0b x.1 hk).trans h)
end
section
def yHp:Code:=(Tryz.f120.body).getD .skip
def yHW:Env:=zj2 TT [(122,ygn)] []
theorem yOD:FrOk Tryz.prog ⟨yHW,12,fun _=>none⟩ yHp:=zj6 yc yd ⟨ym2,trivial⟩
def yRf:Nat→Option Seg:=fun _=>none
abbrev ymj:List Par:= [.rd tG]
abbrev ysb:List OT:= [⟨false,tI,.fz⟩]
def yvI (a0:dG):Option (ResD ysb×MutD ymj) :=
 let r1:=ya6 a0
 bif (!r1) then
 some ((0,()),())
 else
 some (((IntKind.i64.wrap (a0.2 * (IntKind.i64.wrap (a0.1 - 1)))),()),())
theorem yXY (x:InD ymj):zjx ⟨yHW,12,yRf⟩ Tryz.f120.results.toList yHp ymj ysb x=yvI x.1:=by kernel_rfl
theorem yTP:ConOk Tryz.prog 120 ⟨ymj,ysb,fun x=>yvI x.1⟩:=zj1 (yOD) Tryz.func120 (by kernel_rfl) (by kernel_rfl) Tryz.ntmps120.symm (by decide) (fun x r h=>(yXY x).trans h)
def yfp (a0:dG):Int :=
 let r1:=ya6 a0
 bif (!r1) then
 0
 else
 (IntKind.i64.wrap (a0.2 * (IntKind.i64.wrap (a0.1 - 1))))
def yoj:Con:=⟨ymj,ysb,fun x=>(fun n=>some ((n,()),())) (yfp x.1)⟩
theorem yV1 (a0:dG):yvI a0=(fun n=>some ((n,()),())) (yfp a0):=zkp (p:=fun (n:Int)=>((n,()),())) (zkb (p:=fun (n:Int)=>((n,()),())) rfl rfl)
theorem yw4:ConOk Tryz.prog 120 yoj:=(yTP).mono (fun x r _ h=>(yV1 x.1).trans h)
end
end
end Go.Tf
