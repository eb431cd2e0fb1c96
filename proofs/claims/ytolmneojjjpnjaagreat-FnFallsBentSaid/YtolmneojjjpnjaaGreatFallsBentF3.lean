/- Functions of the program, and what they come to. -/
import Derived.Test.YtolmneojjjpnjaaGreatFallsBentF2
namespace Go.Tf
noncomputable section
open Go.Proofs Go.Proofs.Tryz IntKind
set_option synthInstance.maxHeartbeats 400000
set_option synthInstance.maxSize 10000
set_option linter.unusedVariables false
set_option linter.unusedSimpArgs false
set_option maxRecDepth 100000
def y3t:Code:=(f135.body).getD .skip
def y31:Env:=zkw TT [(81,yF)] []
theorem yTd:FrOk prog ⟨y31,5,fun _=>none⟩ y3t:=zkA mixed yd ⟨yS,trivial⟩
abbrev yBG:List Par:= [.rd tI]
abbrev yB8:List OT:= [⟨false,tB,.fz⟩]
def yI8 (a0:Int):Option (zaY yB8×zak yBG) :=let r1:=yg a0 0 65535;some ((r1,()),())
theorem yYU:ConOk prog 135 ⟨yBG,yB8,fun x=>yI8 x.1⟩:=zkI (yTd) func135 ntmps135.symm fun x=>by kernel_rfl
def yar (a0:Int):Bool :=let r1:=yg a0 0 65535;r1
def yIh:Con:=⟨yBG,yB8,fun x=>(fun n=>some ((n,()),())) (yar x.1)⟩
theorem y1l (a0:Int):yI8 a0=(fun n=>some ((n,()),())) (yar a0):=zkV (p:=fun(n:Bool)=>((n,()),())) rfl
theorem y2n:ConOk prog 135 yIh:=(yYU).mono (fun x r _ h=>(y1l x.1).trans h)
def ypC:Code:=(f187.body).getD .skip
def yyo:Env:=zkw TT [(135,yIh)] []
theorem yQl:FrOk prog ⟨yyo,15,fun _=>none⟩ ypC:=zkA mixed yd ⟨y2n,trivial⟩
def yEL:Nat→Option Seg:=fun _=>none
def yd1:Shape:=⟨[(5,false,[.br tI]),(6,false,[.int .i64]),(7,false,[.int .i64])],[],[]⟩
def yjR:Shape:=⟨[(5,false,[.br tI]),(6,false,[.int .i64]),(7,false,[.ci .i64 0])],[],[]⟩
def yjP:Shape:=⟨[],[],[]⟩
def yjY:Shape:=⟨[(2,false,[.bool])],[],[]⟩
def ypm (v0:List Int) (v1 v2:Int):Option ((yd1).X ⊕ ((yjP).X ⊕ (yjY).X)) :=bif(ltb v2 v1)then bif(inb v2 v0.length)then let r2:=yar (nth v0 v2 0);bif(!r2)then some (.inr (.inr (((false,()),()),(),()))) else some (.inl (((v0,()),(v1,()),((i64.wrap (v2+1)),()),()),(),())) else none else some (.inr (.inl ((),(),())))
def ycn (x:(yd1).X):=ypm x.1.1.1 x.1.2.1.1 x.1.2.2.1.1
def yAt (x:(yjR).X):(yd1).X:=(((x.1.1.1,()),(x.1.2.1.1,()),(0,()),()),(),())
def yDg:Code:=(zd7 ypC 64 52).getD .skip
theorem yPT:zd7 ypC 64 13=some (.block 0 (.loop yDg)):=by kernel_rfl
theorem yR3 (x:(yd1).X):zhu ⟨yyo,15,yEL⟩ 0 yDg 52 yd1 yjP yjY x=ycn x:=by kernel_rfl
def yAL (x:(yjR).X):Nat:=18446744073709551616
def yqw (x:(yjR).X):Option ((yjP).X ⊕ (yjY).X):=zF ycn (yAL x) (yAt x)
def yBf:Seg:=⟨yjR,yjP,yjY,yqw⟩
def ySz:Nat→Option Seg:=fun q=>bif Nat.beq q 13 then some yBf else yEL q
theorem yQm:FrOk prog ⟨yyo,15,ySz⟩ ypC:=(yQl).loop (sg:=yBf) yd1 yAt (by decide) yPT ycn yAL (by decide) (fun _=>rfl) (fun x r _ h=>h) yR3
abbrev ypP:List Par:= [.rd tL]
abbrev yyT:List OT:= [⟨false,tB,.fz⟩]
def ytB (a0:List Int):Option (zaY yyT×zak ypP) :=zkt (yqw (((a0,()),((a0.length:Int),()),((),()),()),(),())) (fun y2 =>some ((true,()),())) (fun y2 =>some ((y2.1.1.1,()),()))
theorem yU9:ConOk prog 187 ⟨ypP,yyT,fun x=>ytB x.1⟩:=zkI (yQm) func187 ntmps187.symm fun x=>by kernel_rfl
def yaf (a0:List Int):Bool:=a0.all yar
theorem yYs (a0:List Int) (hk:zjx ypP (a0,())):ytB a0=(fun n=>some ((n,()),())) (yaf a0):=by
 have hb:a0.length*8≤2^47:=hk.1.1
 have hl:yqw (((a0,()),((a0.length:Int),()),((),()),()),(),())=some (bif a0.all yar then .inl ((),(),())else .inr (((false,()),()),(),())) :=
  zj9 (step:=ycn) a0 0 (fun i=>(((a0,()),((a0.length:Int),()),((i:Int),()),()),(),())) yar _ _ (fun i hi=>by
   simp only[ycn,ypm,zkR hi,zkS,zky (show(i:Int)<a0.length by omega),cond_true,wq ((i:Int)+1) (by omega) (by omega),Int.natCast_add,Int.natCast_one]
   cases yar (a0.getD i 0)<;>rfl) (by simp only[ycn,ypm,zk3 (Int.le_refl _),cond_false]) _ (by show _<18446744073709551616; omega)
 unfold ytB yaf;rw[hl];cases a0.all yar<;>rfl
def ylG:Con:=⟨ypP,yyT,fun x=>(fun n=>some ((n,()),())) (yaf x.1)⟩
theorem ywC:ConOk prog 187 ylG:=(yU9).mono (fun x r hk h=>(yYs x.1 hk).trans h)
def y3r:Code:=(f129.body).getD .skip
def y3Z:Env:=zkw TT [(187,ylG)] []
theorem yTb:FrOk prog ⟨y3Z,15,fun _=>none⟩ y3r:=zkA mixed yd ⟨ywC,trivial⟩
abbrev yBE:List Par:= [.rd tG,.rd tL]
abbrev yB6:List OT:= [⟨false,tB,.fz⟩]
def yI6 (a0:dG) (a1:List Int):Option (zaY yB6×zak yBE) :=bif((a1.length:Int)==(i64.wrap (a0.1-1)))then let r1:=yaf a1;some ((r1,()),()) else some ((false,()),())
theorem yYS:ConOk prog 129 ⟨yBE,yB6,fun x=>yI6 x.1 x.2.1⟩:=zkI (yTb) func129 ntmps129.symm fun x=>by kernel_rfl
def yms (a0:dG) (a1:List Int):Bool :=bif((a1.length:Int)==(i64.wrap (a0.1-1)))then let r1:=yaf a1;r1 else false
def yIg:Con:=⟨yBE,yB6,fun x=>(fun n=>some ((n,()),())) (yms x.1 x.2.1)⟩
theorem y1j (a0:dG) (a1:List Int):yI6 a0 a1=(fun n=>some ((n,()),())) (yms a0 a1):=zkV (p:=fun(n:Bool)=>((n,()),())) (zkG (p:=fun(n:Bool)=>((n,()),())) rfl rfl)
theorem y2m:ConOk prog 129 yIg:=(yYS).mono (fun x r _ h=>(y1j x.1 x.2.1).trans h)
def ypB:Code:=(f126.body).getD .skip
def yyn:Env:=zkw TT [(109,yjh),(129,yIg)] []
theorem yQh:FrOk prog ⟨yyn,44,fun _=>none⟩ ypB:=zkA mixed yd ⟨yrc,y2m,trivial⟩
def yEK:Nat→Option Seg:=fun _=>none
def yb0:Shape:=⟨[(1,false,[.ptr 0 0]),(6,false,[.br tW]),(7,false,[.int .i64]),(8,false,[.int .i64])],[(0,[.int .i64,.int .i64,.int .i64,.br tM,.int .i64,.int .i64,.int .i64,.int .i64,.int .i64,.br tW,.int .i64,.bool,.bool])],[]⟩
def ygv:Shape:=⟨[(1,false,[.ptr 0 0]),(6,false,[.br tW]),(7,false,[.int .i64]),(8,false,[.ci .i64 0])],[(0,[.int .i64,.int .i64,.int .i64,.br tM,.int .i64,.int .i64,.int .i64,.int .i64,.int .i64,.br tW,.int .i64,.bool,.bool])],[]⟩
def ygg:Shape:=⟨[],[],[]⟩
def ygG:Shape:=⟨[(2,false,[.bool])],[],[]⟩
abbrev yoS (v0:List dW) (v1 v2:Int) (v3:dA):(yb0).X:=((((),()),(v0,()),(v1,()),(v2,()),()),((v3.1,v3.2.1.1,v3.2.1.2,v3.2.2.1,v3.2.2.2.1,v3.2.2.2.2.1,v3.2.2.2.2.2.1,v3.2.2.2.2.2.2.1,v3.2.2.2.2.2.2.2.1,v3.2.2.2.2.2.2.2.2.1,v3.2.2.2.2.2.2.2.2.2.1,v3.2.2.2.2.2.2.2.2.2.2.1,v3.2.2.2.2.2.2.2.2.2.2.2,()),()),())
abbrev yOt (v0:List dW) (v1:Int) (v2:dA):(ygv).X:=((((),()),(v0,()),(v1,()),((),()),()),((v2.1,v2.2.1.1,v2.2.1.2,v2.2.2.1,v2.2.2.2.1,v2.2.2.2.2.1,v2.2.2.2.2.2.1,v2.2.2.2.2.2.2.1,v2.2.2.2.2.2.2.2.1,v2.2.2.2.2.2.2.2.2.1,v2.2.2.2.2.2.2.2.2.2.1,v2.2.2.2.2.2.2.2.2.2.2.1,v2.2.2.2.2.2.2.2.2.2.2.2,()),()),())
abbrev yOh  :(ygg).X:=((),(),())
abbrev yOE (v0:Bool):(ygG).X:=(((v0,()),()),(),())
def ypl (v0:List dW) (v1 v2 v3 v4 v5:Int) (v6:List dM) (v7 v8 v9 v10 v11:Int) (v12:List dW) (v13:Int) (v14 v15:Bool):Option ((yb0).X ⊕ ((ygg).X ⊕ (ygG).X)) :=bif(ltb v2 v1)then bif(inb v2 v0.length)then let r4:=ybB (v4,v5) ((nth v0 v2 (0,[])).1);bif(!(!r4))then bif(ltb 0 v2)then bif(inb (i64.wrap (v2-1)) v12.length)then bif(!(leb ((nth v0 v2 (0,[])).1) ((nth v12 (i64.wrap (v2-1)) (0,[])).1)))then let r5:=yms (v4,v5) ((nth v0 v2 (0,[])).2);bif(!r5)then some (.inr (.inr (((false,()),()),(),()))) else some (.inl ((((),()),(v0,()),(v1,()),((i64.wrap (v2+1)),()),()),((v3,v4,v5,v6,v7,v8,v9,v10,v11,v12,v13,v14,v15,()),()),())) else some (.inr (.inr (((false,()),()),(),()))) else none else let r6:=yms (v4,v5) ((nth v0 v2 (0,[])).2);bif(!r6)then some (.inr (.inr (((false,()),()),(),()))) else some (.inl ((((),()),(v0,()),(v1,()),((i64.wrap (v2+1)),()),()),((v3,v4,v5,v6,v7,v8,v9,v10,v11,v12,v13,v14,v15,()),()),())) else some (.inr (.inr (((false,()),()),(),()))) else none else some (.inr (.inl ((),(),())))
def ycm (x:(yb0).X):=ypl x.1.2.1.1 x.1.2.2.1.1 x.1.2.2.2.1.1 x.2.1.1.1 x.2.1.1.2.1 x.2.1.1.2.2.1 x.2.1.1.2.2.2.1 x.2.1.1.2.2.2.2.1 x.2.1.1.2.2.2.2.2.1 x.2.1.1.2.2.2.2.2.2.1 x.2.1.1.2.2.2.2.2.2.2.1 x.2.1.1.2.2.2.2.2.2.2.2.1 x.2.1.1.2.2.2.2.2.2.2.2.2.1 x.2.1.1.2.2.2.2.2.2.2.2.2.2.1 x.2.1.1.2.2.2.2.2.2.2.2.2.2.2.1 x.2.1.1.2.2.2.2.2.2.2.2.2.2.2.2.1
def yAs (x:(ygv).X):(yb0).X:=((((),()),(x.1.2.1.1,()),(x.1.2.2.1.1,()),(0,()),()),((x.2.1.1.1,x.2.1.1.2.1,x.2.1.1.2.2.1,x.2.1.1.2.2.2.1,x.2.1.1.2.2.2.2.1,x.2.1.1.2.2.2.2.2.1,x.2.1.1.2.2.2.2.2.2.1,x.2.1.1.2.2.2.2.2.2.2.1,x.2.1.1.2.2.2.2.2.2.2.2.1,x.2.1.1.2.2.2.2.2.2.2.2.2.1,x.2.1.1.2.2.2.2.2.2.2.2.2.2.1,x.2.1.1.2.2.2.2.2.2.2.2.2.2.2.1,x.2.1.1.2.2.2.2.2.2.2.2.2.2.2.2.1,()),()),())
def yDf:Code:=(zd7 ypB 64 52).getD .skip
theorem yPS:zd7 ypB 64 13=some (.block 0 (.loop yDf)):=by kernel_rfl
theorem yR2 (x:(yb0).X):zhu ⟨yyn,44,yEK⟩ 0 yDf 52 yb0 ygg ygG x=ycm x:=by kernel_rfl
def yAK (x:(ygv).X):Nat:=18446744073709551616
def yqv (x:(ygv).X):Option ((ygg).X ⊕ (ygG).X):=zF ycm (yAK x) (yAs x)
def yBe:Seg:=⟨ygv,ygg,ygG,yqv⟩
def ySy:Nat→Option Seg:=fun q=>bif Nat.beq q 13 then some yBe else yEK q
theorem yQi:FrOk prog ⟨yyn,44,ySy⟩ ypB:=(yQh).loop (sg:=yBe) yb0 yAs (by decide) yPS ycm yAK (by decide) (fun _=>rfl) (fun x r _ h=>h) yR2
abbrev ykj:List Par:= [.rd tA]
abbrev ypW:List OT:= [⟨false,tB,.fz⟩]
def ytA (a0:dA):Option (zaY ypW×zak ykj) :=zkt (yqv ((((),()),(a0.2.2.2.2.2.2.2.2.1,()),((a0.2.2.2.2.2.2.2.2.1.length:Int),()),((),()),()),((a0.1,a0.2.1.1,a0.2.1.2,a0.2.2.1,a0.2.2.2.1,a0.2.2.2.2.1,a0.2.2.2.2.2.1,a0.2.2.2.2.2.2.1,a0.2.2.2.2.2.2.2.1,a0.2.2.2.2.2.2.2.2.1,a0.2.2.2.2.2.2.2.2.2.1,a0.2.2.2.2.2.2.2.2.2.2.1,a0.2.2.2.2.2.2.2.2.2.2.2,()),()),())) (fun y6 =>some ((true,()),())) (fun y6 =>some ((y6.1.1.1,()),()))
theorem yU6:ConOk prog 126 ⟨ykj,ypW,fun x=>ytA x.1⟩:=zkI (yQi) func126 ntmps126.symm fun x=>by kernel_rfl
def ykP (a0:dA):Bool:=yaC a0.2.1 a0.2.2.2.2.2.2.2.2.1
def yzt (a0:dA):Bool:=yf a0.2.1
theorem yIG (l:List Int):yaf l=l.all isW:=by
 unfold yaf;rw[show yar=isW from funext fun x=>by unfold yar; rw[yai,ybm]; rfl]
theorem yYp (a0:dA) (hk:zjx ykj (a0,())) (hq:yzt a0=true):ytA a0=(fun n=>some ((n,()),())) (ykP a0):=by
 have hb:a0.2.2.2.2.2.2.2.2.1.length*32≤2^47:=hk.1.2.2.2.2.2.2.2.2.1.1;have hg:=yk.1 hq;have hq':yf a0.2.1=true:=hq
 have h1:yqv (yOt a0.2.2.2.2.2.2.2.2.1 a0.2.2.2.2.2.2.2.2.1.length a0)=some (bif(List.range a0.2.2.2.2.2.2.2.2.1.length).any (yib a0.2.1 a0.2.2.2.2.2.2.2.2.1)then .inr (yOE false)else .inl yOh) :=
  zji (step:=ycm) (fun i=>yoS a0.2.2.2.2.2.2.2.2.1 a0.2.2.2.2.2.2.2.2.1.length i a0) a0.2.2.2.2.2.2.2.2.1.length (yib a0.2.1 a0.2.2.2.2.2.2.2.2.1) _ _ (fun i hi=>by
   simp only[ycm,yoS,ypl,zky (show(i:Int)<a0.2.2.2.2.2.2.2.2.1.length by omega),cond_true,wq ((i:Int)+1) (by omega) (by omega),Int.natCast_add,Int.natCast_one,Int.toNat_natCast,zkR hi,zkX,ybB,yms,yX4,hq',yai,ybm,yIG,wq (a0.2.1.2-1) (by omega) (by omega),wq (a0.2.1.1-1) (by omega) (by omega),yib,bne];rcases Nat.eq_zero_or_pos i with rfl | h0
   ·cases(leb 0 (nth a0.2.2.2.2.2.2.2.2.1 ((0:Nat):Int) (0,[])).1&&leb (nth a0.2.2.2.2.2.2.2.2.1 ((0:Nat):Int) (0,[])).1 (a0.2.1.2-1))<;>cases(((nth a0.2.2.2.2.2.2.2.2.1 ((0:Nat):Int) (0,[])).2.length:Int)==a0.2.1.1-1)<;>cases((nth a0.2.2.2.2.2.2.2.2.1 ((0:Nat):Int) (0,[])).2.all isW)<;>rfl
   ·rw[show i64.wrap ((i:Int)-1)=((i-1:Nat):Int)by rw[wr (by omega) (by omega)]; omega,zkR (show i-1<a0.2.2.2.2.2.2.2.2.1.length by omega),zky (show(0:Int)<i by omega),decide_eq_true h0]
    cases(leb 0 (nth a0.2.2.2.2.2.2.2.2.1 (i:Int) (0,[])).1&&leb (nth a0.2.2.2.2.2.2.2.2.1 (i:Int) (0,[])).1 (a0.2.1.2-1))<;>cases(((nth a0.2.2.2.2.2.2.2.2.1 (i:Int) (0,[])).2.length:Int)==a0.2.1.1-1)<;>cases((nth a0.2.2.2.2.2.2.2.2.1 (i:Int) (0,[])).2.all isW)<;>cases leb (nth a0.2.2.2.2.2.2.2.2.1 (i:Int) (0,[])).1 (nth a0.2.2.2.2.2.2.2.2.1 ((i-1:Nat):Int) (0,[])).1<;>rfl) (by simp only[ycm,yoS,ypl,zk3 (Int.le_refl _),cond_false]) _ (by show _<18446744073709551616; omega)
 unfold ytA ykP yaC;rw[h1];cases(List.range a0.2.2.2.2.2.2.2.2.1.length).any (yib a0.2.1 a0.2.2.2.2.2.2.2.2.1)<;>rfl
def yqg (a0:dA):Option (zaY ypW×zak ykj):=bif yzt a0 then(fun n=>some ((n,()),())) (ykP a0)else none
theorem yZI (a0:dA) (h:yzt a0=true):yqg a0=(fun n=>some ((n,()),())) (ykP a0):=by unfold yqg; rw[h]; rfl
def yFY:Con:=⟨ykj,ypW,fun x=>yqg x.1⟩
theorem yZv:ConOk prog 126 yFY:=(yU6).mono (fun x r hk h=>zkY h (fun hq=>yYp x.1 hk hq))
def y3s:Code:=(f156.body).getD .skip
def y30:Env:=zkw TT [(81,yF)] []
theorem yTc:FrOk prog ⟨y30,11,fun _=>none⟩ y3s:=zkA mixed yd ⟨yS,trivial⟩
abbrev yBF:List Par:= [.rd tM,.rd tI]
abbrev yB7:List OT:= [⟨false,tB,.fz⟩]
def yI7 (a0:dM) (a1:Int):Option (zaY yB7×zak yBF) :=let r1:=yg a1 0 (i64.wrap ((a0.1.length:Int)-1));some ((r1,()),())
theorem yYT:ConOk prog 156 ⟨yBF,yB7,fun x=>yI7 x.1 x.2.1⟩:=zkI (yTc) func156 ntmps156.symm fun x=>by kernel_rfl
def ybF (a0:dM) (a1:Int):Bool :=let r1:=yg a1 0 (i64.wrap ((a0.1.length:Int)-1));r1
def yn4:Con:=⟨yBF,yB7,fun x=>(fun n=>some ((n,()),())) (ybF x.1 x.2.1)⟩
theorem y1k (a0:dM) (a1:Int):yI7 a0 a1=(fun n=>some ((n,()),())) (ybF a0 a1):=zkV (p:=fun(n:Bool)=>((n,()),())) rfl
theorem yzm:ConOk prog 156 yn4:=(yYT).mono (fun x r _ h=>(y1k x.1 x.2.1).trans h)
def y45:Code:=(f186.body).getD .skip
def y5k:Env:=zkw TT [(187,ylG)] []
theorem yXu:FrOk prog ⟨y5k,10,fun _=>none⟩ y45:=zkA mixed yd ⟨ywC,trivial⟩
abbrev yE7:List Par:= [.rd tL]
abbrev yFn:List OT:= [⟨false,tB,.fz⟩]
def yKL (a0:List Int):Option (zaY yFn×zak yE7) :=bif(leb (a0.length:Int) 12)then let r1:=yaf a0;some ((r1,()),()) else some ((false,()),())
theorem y1P:ConOk prog 186 ⟨yE7,yFn,fun x=>yKL x.1⟩:=zkI (yXu) func186 ntmps186.symm fun x=>by kernel_rfl
def yhN (a0:List Int):Bool :=bif(leb (a0.length:Int) 12)then let r1:=yaf a0;r1 else false
def yza:Con:=⟨yE7,yFn,fun x=>(fun n=>some ((n,()),())) (yhN x.1)⟩
theorem y4v (a0:List Int):yKL a0=(fun n=>some ((n,()),())) (yhN a0):=zkV (p:=fun(n:Bool)=>((n,()),())) (zkG (p:=fun(n:Bool)=>((n,()),())) rfl rfl)
theorem yLP:ConOk prog 186 yza:=(y1P).mono (fun x r _ h=>(y4v x.1).trans h)
theorem yJB:yhN=yam:=funext fun s=>by
 unfold yhN yam yaf;rw[show yar=isW from funext fun x=>by unfold yar; rw[yai,ybm]; rfl];cases leb (s.length:Int) 12<;>rfl
def ycy:Code:=(f127.body).getD .skip
def yha:Env:=zkw TT [(81,yF),(156,yn4),(186,yza)] []
theorem yXp:FrOk prog ⟨yha,76,fun _=>none⟩ ycy:=zkA mixed yd ⟨yS,yzm,yLP,trivial⟩
def yJM:Nat→Option Seg:=fun _=>none
def ydt:Shape:=⟨[(1,false,[.ptr 0 0]),(10,false,[.br tL]),(11,false,[.int .i64]),(12,false,[.int .i64])],[(0,[.br tL,.br tW,.bool,.br tI])],[]⟩
def yiK:Shape:=⟨[(1,false,[.ptr 0 0]),(10,false,[.br tL]),(11,false,[.int .i64]),(12,false,[.ci .i64 0])],[(0,[.br tL,.br tW,.bool,.br tI])],[]⟩
def yiv:Shape:=⟨[(1,false,[.ptr 0 0])],[(0,[.br tL,.br tW,.bool,.br tI])],[]⟩
def yi2:Shape:=⟨[(2,false,[.bool])],[],[]⟩
abbrev ytb (v0:List (List Int)) (v1 v2:Int) (v3:dM):(ydt).X:=((((),()),(v0,()),(v1,()),(v2,()),()),((v3.1,v3.2.1,v3.2.2.1,v3.2.2.2,()),()),())
abbrev yUc (v0:List (List Int)) (v1:Int) (v2:dM):(yiK).X:=((((),()),(v0,()),(v1,()),((),()),()),((v2.1,v2.2.1,v2.2.2.1,v2.2.2.2,()),()),())
abbrev yT3 (v0:dM):(yiv).X:=((((),()),()),((v0.1,v0.2.1,v0.2.2.1,v0.2.2.2,()),()),())
abbrev yUq (v0:Bool):(yi2).X:=(((v0,()),()),(),())
def ytR (v0:List (List Int)) (v1 v2:Int) (v3:List (List Int)) (v4:List dW) (v5:Bool) (v6:List Int):Option ((ydt).X ⊕ ((yiv).X ⊕ (yi2).X)) :=bif(ltb v2 v1)then bif(inb v2 v0.length)then let r2:=yhN (nth v0 v2 []);bif(!r2)then some (.inr (.inr (((false,()),()),(),()))) else some (.inl ((((),()),(v0,()),(v1,()),((i64.wrap (v2+1)),()),()),((v3,v4,v5,v6,()),()),())) else none else some (.inr (.inl ((((),()),()),((v3,v4,v5,v6,()),()),())))
def yd6 (x:(ydt).X):=ytR x.1.2.1.1 x.1.2.2.1.1 x.1.2.2.2.1.1 x.2.1.1.1 x.2.1.1.2.1 x.2.1.1.2.2.1 x.2.1.1.2.2.2.1
def yGe (x:(yiK).X):(ydt).X:=((((),()),(x.1.2.1.1,()),(x.1.2.2.1.1,()),(0,()),()),((x.2.1.1.1,x.2.1.1.2.1,x.2.1.1.2.2.1,x.2.1.1.2.2.2.1,()),()),())
def yHW:Code:=(zd7 ycy 64 52).getD .skip
theorem yWY:zd7 ycy 64 13=some (.block 0 (.loop yHW)):=by kernel_rfl
theorem yZO (x:(ydt).X):zhu ⟨yha,76,yJM⟩ 0 yHW 52 ydt yiv yi2 x=yd6 x:=by kernel_rfl
def yGu (x:(yiK).X):Nat:=18446744073709551616
def yuJ (x:(yiK).X):Option ((yiv).X ⊕ (yi2).X):=zF yd6 (yGu x) (yGe x)
def yHl:Seg:=⟨yiK,yiv,yi2,yuJ⟩
def yyf:Nat→Option Seg:=fun q=>bif Nat.beq q 13 then some yHl else yJM q
theorem yXq:FrOk prog ⟨yha,76,yyf⟩ ycy:=(yXp).loop (sg:=yHl) ydt yGe (by decide) yWY yd6 yGu (by decide) (fun _=>rfl) (fun x r _ h=>h) yZO
def ydu:Shape:=⟨[(1,false,[.ptr 0 0]),(21,false,[.br tW]),(22,false,[.int .i64]),(23,false,[.int .i64])],[(0,[.br tL,.br tW,.bool,.br tI])],[]⟩
def yiL:Shape:=⟨[(1,false,[.ptr 0 0]),(21,false,[.br tW]),(22,false,[.int .i64]),(23,false,[.ci .i64 0])],[(0,[.br tL,.br tW,.bool,.br tI])],[]⟩
def yiw:Shape:=⟨[(1,false,[.ptr 0 0])],[(0,[.br tL,.br tW,.bool,.br tI])],[]⟩
def yi3:Shape:=⟨[(2,false,[.bool])],[],[]⟩
abbrev ytc (v0:List dW) (v1 v2:Int) (v3:dM):(ydu).X:=((((),()),(v0,()),(v1,()),(v2,()),()),((v3.1,v3.2.1,v3.2.2.1,v3.2.2.2,()),()),())
abbrev yUd (v0:List dW) (v1:Int) (v2:dM):(yiL).X:=((((),()),(v0,()),(v1,()),((),()),()),((v2.1,v2.2.1,v2.2.2.1,v2.2.2.2,()),()),())
abbrev yT4 (v0:dM):(yiw).X:=((((),()),()),((v0.1,v0.2.1,v0.2.2.1,v0.2.2.2,()),()),())
abbrev yUr (v0:Bool):(yi3).X:=(((v0,()),()),(),())
def ytS (v0:List dW) (v1 v2:Int) (v3:List (List Int)) (v4:List dW) (v5:Bool) (v6:List Int):Option ((ydu).X ⊕ ((yiw).X ⊕ (yi3).X)) :=bif(ltb v2 v1)then bif(inb v2 v0.length)then let r6:=ybF (v3,v4,v5,v6) ((nth v0 v2 (0,[])).1);bif(!(!r6))then let r7:=yhN ((nth v0 v2 (0,[])).2);bif(!r7)then some (.inr (.inr (((false,()),()),(),()))) else some (.inl ((((),()),(v0,()),(v1,()),((i64.wrap (v2+1)),()),()),((v3,v4,v5,v6,()),()),())) else some (.inr (.inr (((false,()),()),(),()))) else none else some (.inr (.inl ((((),()),()),((v3,v4,v5,v6,()),()),())))
def yd7 (x:(ydu).X):=ytS x.1.2.1.1 x.1.2.2.1.1 x.1.2.2.2.1.1 x.2.1.1.1 x.2.1.1.2.1 x.2.1.1.2.2.1 x.2.1.1.2.2.2.1
def yGf (x:(yiL).X):(ydu).X:=((((),()),(x.1.2.1.1,()),(x.1.2.2.1.1,()),(0,()),()),((x.2.1.1.1,x.2.1.1.2.1,x.2.1.1.2.2.1,x.2.1.1.2.2.2.1,()),()),())
def yHX:Code:=(zd7 ycy 64 116).getD .skip
theorem yWZ:zd7 ycy 64 29=some (.block 2 (.loop yHX)):=by kernel_rfl
theorem yZP (x:(ydu).X):zhu ⟨yha,76,yyf⟩ 2 yHX 116 ydu yiw yi3 x=yd7 x:=by kernel_rfl
def yGv (x:(yiL).X):Nat:=18446744073709551616
def yuK (x:(yiL).X):Option ((yiw).X ⊕ (yi3).X):=zF yd7 (yGv x) (yGf x)
def yHm:Seg:=⟨yiL,yiw,yi3,yuK⟩
def yyg:Nat→Option Seg:=fun q=>bif Nat.beq q 29 then some yHm else yyf q
theorem yXr:FrOk prog ⟨yha,76,yyg⟩ ycy:=(yXq).loop (sg:=yHm) ydu yGf (by decide) yWZ yd7 yGv (by decide) (fun _=>rfl) (fun x r _ h=>h) yZP
def ydv:Shape:=⟨[(1,false,[.ptr 0 0]),(40,false,[.br tI]),(41,false,[.int .i64]),(42,false,[.int .i64])],[(0,[.br tL,.br tW,.bool,.br tI])],[]⟩
def yiM:Shape:=⟨[(1,false,[.ptr 0 0]),(40,false,[.br tI]),(41,false,[.int .i64]),(42,false,[.ci .i64 0])],[(0,[.br tL,.br tW,.bool,.br tI])],[]⟩
def yix:Shape:=⟨[(1,false,[.ptr 0 0])],[(0,[.br tL,.br tW,.bool,.br tI])],[]⟩
def yi4:Shape:=⟨[(2,false,[.bool])],[],[]⟩
abbrev ytd (v0:List Int) (v1 v2:Int) (v3:dM):(ydv).X:=((((),()),(v0,()),(v1,()),(v2,()),()),((v3.1,v3.2.1,v3.2.2.1,v3.2.2.2,()),()),())
abbrev yUe (v0:List Int) (v1:Int) (v2:dM):(yiM).X:=((((),()),(v0,()),(v1,()),((),()),()),((v2.1,v2.2.1,v2.2.2.1,v2.2.2.2,()),()),())
abbrev yT5 (v0:dM):(yix).X:=((((),()),()),((v0.1,v0.2.1,v0.2.2.1,v0.2.2.2,()),()),())
abbrev yUs (v0:Bool):(yi4).X:=(((v0,()),()),(),())
def ytT (v0:List Int) (v1 v2:Int) (v3:List (List Int)) (v4:List dW) (v5:Bool) (v6:List Int):Option ((ydv).X ⊕ ((yix).X ⊕ (yi4).X)) :=bif(ltb v2 v1)then bif(inb v2 v0.length)then let r10:=ybF (v3,v4,v5,v6) (nth v0 v2 0);bif(!(!r10))then bif(ltb 0 v2)then bif(inb (i64.wrap (v2-1)) v6.length)then bif(leb (nth v0 v2 0) (nth v6 (i64.wrap (v2-1)) 0))then some (.inr (.inr (((false,()),()),(),()))) else some (.inl ((((),()),(v0,()),(v1,()),((i64.wrap (v2+1)),()),()),((v3,v4,v5,v6,()),()),())) else none else some (.inl ((((),()),(v0,()),(v1,()),((i64.wrap (v2+1)),()),()),((v3,v4,v5,v6,()),()),())) else some (.inr (.inr (((false,()),()),(),()))) else none else some (.inr (.inl ((((),()),()),((v3,v4,v5,v6,()),()),())))
def yd8 (x:(ydv).X):=ytT x.1.2.1.1 x.1.2.2.1.1 x.1.2.2.2.1.1 x.2.1.1.1 x.2.1.1.2.1 x.2.1.1.2.2.1 x.2.1.1.2.2.2.1
def yGg (x:(yiM).X):(ydv).X:=((((),()),(x.1.2.1.1,()),(x.1.2.2.1.1,()),(0,()),()),((x.2.1.1.1,x.2.1.1.2.1,x.2.1.1.2.2.1,x.2.1.1.2.2.2.1,()),()),())
def yHY:Code:=(zd7 ycy 64 244).getD .skip
theorem yW0:zd7 ycy 64 61=some (.block 4 (.loop yHY)):=by kernel_rfl
theorem yZQ (x:(ydv).X):zhu ⟨yha,76,yyg⟩ 4 yHY 244 ydv yix yi4 x=yd8 x:=by kernel_rfl
def yGw (x:(yiM).X):Nat:=18446744073709551616
def yuL (x:(yiM).X):Option ((yix).X ⊕ (yi4).X):=zF yd8 (yGw x) (yGg x)
def yHn:Seg:=⟨yiM,yix,yi4,yuL⟩
def y0n:Nat→Option Seg:=fun q=>bif Nat.beq q 61 then some yHn else yyg q
theorem yXs:FrOk prog ⟨yha,76,y0n⟩ ycy:=(yXr).loop (sg:=yHn) ydv yGg (by decide) yW0 yd8 yGw (by decide) (fun _=>rfl) (fun x r _ h=>h) yZQ
abbrev yuY:List Par:= [.rd tM]
abbrev yFl:List OT:= [⟨false,tB,.fz⟩]
def yzA (a0:dM):Option (zaY yFl×zak yuY) :=zkt (yuJ ((((),()),(a0.1,()),((a0.1.length:Int),()),((),()),()),((a0.1,a0.2.1,a0.2.2.1,a0.2.2.2,()),()),())) (fun y2 =>zkt (yuK ((((),()),(y2.2.1.1.2.1,()),((y2.2.1.1.2.1.length:Int),()),((),()),()),((y2.2.1.1.1,y2.2.1.1.2.1,y2.2.1.1.2.2.1,y2.2.1.1.2.2.2.1,()),()),())) (fun y7 =>zkt (yuL ((((),()),(y7.2.1.1.2.2.2.1,()),((y7.2.1.1.2.2.2.1.length:Int),()),((),()),()),((y7.2.1.1.1,y7.2.1.1.2.1,y7.2.1.1.2.2.1,y7.2.1.1.2.2.2.1,()),()),())) (fun y10 =>let r12:=yg (y10.2.1.1.1.length:Int) 1 20;bif r12 then some (((leb (y10.2.1.1.2.1.length:Int) 60),()),()) else some ((false,()),())) (fun y10 =>some ((y10.1.1.1,()),()))) (fun y7 =>some ((y7.1.1.1,()),()))) (fun y2 =>some ((y2.1.1.1,()),()))
theorem y1N:ConOk prog 127 ⟨yuY,yFl,fun x=>yzA x.1⟩:=zkI (yXs) func127 ntmps127.symm fun x=>by kernel_rfl
def yaa (a0:dM):Bool:=yu a0
theorem y4t (a0:dM) (hk:zjx yuY (a0,())):yzA a0=(fun n=>some ((n,()),())) (yaa a0):=by
 have hb1:a0.1.length*24≤2^47:=hk.1.1.1;have hb2:a0.2.1.length*32≤2^47:=hk.1.2.1.1;have hb3:a0.2.2.2.length*8≤2^47:=hk.1.2.2.2.1
 have h1:yuJ (yUc a0.1 a0.1.length a0)=some (bif a0.1.all yam then .inl (yT3 a0)else .inr (yUq false)) :=
  zj9 (step:=yd6) a0.1 [] (fun i=>ytb a0.1 a0.1.length i a0) yam _ _ (fun i hi=>by
   simp only[yd6,ytb,ytR,zky (show(i:Int)<a0.1.length by omega),cond_true,wq ((i:Int)+1) (by omega) (by omega),Int.natCast_add,Int.natCast_one,Int.toNat_natCast,zkR hi,zkS,yJB]
   cases yam (a0.1.getD i [])<;>rfl) (by simp only[yd6,ytb,ytR,zk3 (Int.le_refl _),cond_false]) _ (by show _<18446744073709551616; omega)
 have h2:yuK (yUd a0.2.1 a0.2.1.length a0)=some (bif a0.2.1.all (yxh a0.1.length)then .inl (yT4 a0)else .inr (yUr false)) :=
  zj9 (step:=yd7) a0.2.1 (0,[]) (fun i=>ytc a0.2.1 a0.2.1.length i a0) (yxh a0.1.length) _ _ (fun i hi=>by
   simp only[yd7,ytc,ytS,zky (show(i:Int)<a0.2.1.length by omega),cond_true,wq ((i:Int)+1) (by omega) (by omega),Int.natCast_add,Int.natCast_one,Int.toNat_natCast,zkR hi,zkS,yJB,ybF,yai,yrR (show a0.1.length≤1152921504606846976 by omega),yxh]
   cases inb (a0.2.1.getD i (0,[])).1 a0.1.length<;>cases yam (a0.2.1.getD i (0,[])).2<;>rfl) (by simp only[yd7,ytc,ytS,zk3 (Int.le_refl _),cond_false]) _ (by show _<18446744073709551616; omega)
 have h3:yuL (yUe a0.2.2.2 a0.2.2.2.length a0)=some (bif(List.range a0.2.2.2.length).any (yHT a0.1.length a0.2.2.2)then .inr (yUs false)else .inl (yT5 a0)) :=
  zji (step:=yd8) (fun i=>ytd a0.2.2.2 a0.2.2.2.length i a0) a0.2.2.2.length (yHT a0.1.length a0.2.2.2) _ _ (fun i hi=>by
   simp only[yd8,ytd,ytT,zky (show(i:Int)<a0.2.2.2.length by omega),cond_true,wq ((i:Int)+1) (by omega) (by omega),Int.natCast_add,Int.natCast_one,Int.toNat_natCast,zkR hi,zkS,ybF,yai,yrR (show a0.1.length≤1152921504606846976 by omega),yHT];rcases Nat.eq_zero_or_pos i with rfl | h0
   ·cases inb (a0.2.2.2.getD 0 0) a0.1.length<;>rfl
   ·rw[show i64.wrap ((i:Int)-1)=((i-1:Nat):Int)by rw[wr (by omega) (by omega)]; omega,zkR (show i-1<a0.2.2.2.length by omega),zkS,zky (show(0:Int)<i by omega),decide_eq_true h0]
    cases inb (a0.2.2.2.getD i 0) a0.1.length<;>cases leb (a0.2.2.2.getD i 0) (a0.2.2.2.getD (i-1) 0)<;>rfl) (by simp only[yd8,ytd,ytT,zk3 (Int.le_refl _),cond_false]) _ (by show _<18446744073709551616; omega)
 unfold yzA yaa yu;rw[h1];cases a0.1.all yam
 ·rfl
 simp only[cond_true,zkN,h2];cases a0.2.1.all (yxh a0.1.length)
 ·rfl
 simp only[cond_true,zkN,h3,y2N,yai,ybm];cases yp7 a0.1.length a0.2.2.2
 ·rfl
 simp only[Bool.not_true,cond_false,zkN];cases leb 1 (a0.1.length:Int)<;>cases leb (a0.1.length:Int) 20<;>rfl
def yeU:Con:=⟨yuY,yFl,fun x=>(fun n=>some ((n,()),())) (yaa x.1)⟩
theorem yie:ConOk prog 127 yeU:=(y1N).mono (fun x r hk h=>(y4t x.1 hk).trans h)
def yZ7:Code:=(f128.body).getD .skip
def y0A:Env:=zkw TT [] []
theorem yQj:FrOk prog ⟨y0A,6,fun _=>none⟩ yZ7:=zkA mixed yd trivial
abbrev yyB:List Par:= [.rd tG]
abbrev yyR:List OT:= [⟨false,tI,.fz⟩]
def yHd (a0:dG):Option (zaY yyR×zak yyB) :=some (((i64.wrap (6+a0.2)),()),())
theorem yU7:ConOk prog 128 ⟨yyB,yyR,fun x=>yHd x.1⟩:=zkI (yQj) func128 ntmps128.symm fun x=>by kernel_rfl
def yqc (a0:dG):Int :=(i64.wrap (6+a0.2))
def yFZ:Con:=⟨yyB,yyR,fun x=>(fun n=>some ((n,()),())) (yqc x.1)⟩
theorem yYq (a0:dG):yHd a0=(fun n=>some ((n,()),())) (yqc a0):=zkV (p:=fun(n:Int)=>((n,()),())) rfl
theorem yZw:ConOk prog 128 yFZ:=(yU7).mono (fun x r _ h=>(yYq x.1).trans h)
def yui:Code:=(f55.body).getD .skip
def yEV:Env:=zkw TT [(81,yF),(123,yp9),(125,yvO),(126,yFY),(127,yeU),(128,yFZ)] []
theorem yXm:FrOk prog ⟨yEV,103,fun _=>none⟩ yui:=zkA mixed yd ⟨yS,yCN,yKv,yZv,yie,yZw,trivial⟩
def yJL:Nat→Option Seg:=fun _=>none
def yds:Shape:=⟨[(1,false,[.ptr 0 0]),(41,false,[.br tM]),(42,false,[.int .i64]),(43,false,[.int .i64])],[(0,[.int .i64,.int .i64,.int .i64,.br tM,.int .i64,.int .i64,.int .i64,.int .i64,.int .i64,.br tW,.int .i64,.bool,.bool])],[]⟩
def yiJ:Shape:=⟨[(1,false,[.ptr 0 0]),(41,false,[.br tM]),(42,false,[.int .i64]),(43,false,[.ci .i64 0])],[(0,[.int .i64,.int .i64,.int .i64,.br tM,.int .i64,.int .i64,.int .i64,.int .i64,.int .i64,.br tW,.int .i64,.bool,.bool])],[]⟩
def yiu:Shape:=⟨[(1,false,[.ptr 0 0])],[(0,[.int .i64,.int .i64,.int .i64,.br tM,.int .i64,.int .i64,.int .i64,.int .i64,.int .i64,.br tW,.int .i64,.bool,.bool])],[]⟩
def yiY:Shape:=⟨[(2,false,[.bool])],[],[]⟩
abbrev yta (v0:List dM) (v1 v2:Int) (v3:dA):(yds).X:=((((),()),(v0,()),(v1,()),(v2,()),()),((v3.1,v3.2.1.1,v3.2.1.2,v3.2.2.1,v3.2.2.2.1,v3.2.2.2.2.1,v3.2.2.2.2.2.1,v3.2.2.2.2.2.2.1,v3.2.2.2.2.2.2.2.1,v3.2.2.2.2.2.2.2.2.1,v3.2.2.2.2.2.2.2.2.2.1,v3.2.2.2.2.2.2.2.2.2.2.1,v3.2.2.2.2.2.2.2.2.2.2.2,()),()),())
abbrev yUb (v0:List dM) (v1:Int) (v2:dA):(yiJ).X:=((((),()),(v0,()),(v1,()),((),()),()),((v2.1,v2.2.1.1,v2.2.1.2,v2.2.2.1,v2.2.2.2.1,v2.2.2.2.2.1,v2.2.2.2.2.2.1,v2.2.2.2.2.2.2.1,v2.2.2.2.2.2.2.2.1,v2.2.2.2.2.2.2.2.2.1,v2.2.2.2.2.2.2.2.2.2.1,v2.2.2.2.2.2.2.2.2.2.2.1,v2.2.2.2.2.2.2.2.2.2.2.2,()),()),())
abbrev yT2 (v0:dA):(yiu).X:=((((),()),()),((v0.1,v0.2.1.1,v0.2.1.2,v0.2.2.1,v0.2.2.2.1,v0.2.2.2.2.1,v0.2.2.2.2.2.1,v0.2.2.2.2.2.2.1,v0.2.2.2.2.2.2.2.1,v0.2.2.2.2.2.2.2.2.1,v0.2.2.2.2.2.2.2.2.2.1,v0.2.2.2.2.2.2.2.2.2.2.1,v0.2.2.2.2.2.2.2.2.2.2.2,()),()),())
abbrev yUp (v0:Bool):(yiY).X:=(((v0,()),()),(),())
def ytQ (v0:List dM) (v1 v2 v3 v4 v5:Int) (v6:List dM) (v7 v8 v9 v10 v11:Int) (v12:List dW) (v13:Int) (v14 v15:Bool):Option ((yds).X ⊕ ((yiu).X ⊕ (yiY).X)) :=bif(ltb v2 v1)then bif(inb v2 v0.length)then let r7:=yaa ((nth v0 v2 ([],[],false,[])).1,((nth v0 v2 ([],[],false,[])).2).1,(((nth v0 v2 ([],[],false,[])).2).2));bif(!(!r7))then let r8:=yqc (v4,v5);bif(!((((nth v0 v2 ([],[],false,[])).1).length:Int) !=r8))then bif(((nth v0 v2 ([],[],false,[])).2).2).1 then bif(v7 !=v2)then bif(!v15)then some (.inr (.inr (((false,()),()),(),()))) else some (.inl ((((),()),(v0,()),(v1,()),((i64.wrap (v2+1)),()),()),((v3,v4,v5,v6,v7,v8,v9,v10,v11,v12,v13,v14,v15,()),()),())) else some (.inl ((((),()),(v0,()),(v1,()),((i64.wrap (v2+1)),()),()),((v3,v4,v5,v6,v7,v8,v9,v10,v11,v12,v13,v14,v15,()),()),())) else some (.inl ((((),()),(v0,()),(v1,()),((i64.wrap (v2+1)),()),()),((v3,v4,v5,v6,v7,v8,v9,v10,v11,v12,v13,v14,v15,()),()),())) else some (.inr (.inr (((false,()),()),(),()))) else some (.inr (.inr (((false,()),()),(),()))) else none else some (.inr (.inl ((((),()),()),((v3,v4,v5,v6,v7,v8,v9,v10,v11,v12,v13,v14,v15,()),()),())))
def yd5 (x:(yds).X):=ytQ x.1.2.1.1 x.1.2.2.1.1 x.1.2.2.2.1.1 x.2.1.1.1 x.2.1.1.2.1 x.2.1.1.2.2.1 x.2.1.1.2.2.2.1 x.2.1.1.2.2.2.2.1 x.2.1.1.2.2.2.2.2.1 x.2.1.1.2.2.2.2.2.2.1 x.2.1.1.2.2.2.2.2.2.2.1 x.2.1.1.2.2.2.2.2.2.2.2.1 x.2.1.1.2.2.2.2.2.2.2.2.2.1 x.2.1.1.2.2.2.2.2.2.2.2.2.2.1 x.2.1.1.2.2.2.2.2.2.2.2.2.2.2.1 x.2.1.1.2.2.2.2.2.2.2.2.2.2.2.2.1
def yGd (x:(yiJ).X):(yds).X:=((((),()),(x.1.2.1.1,()),(x.1.2.2.1.1,()),(0,()),()),((x.2.1.1.1,x.2.1.1.2.1,x.2.1.1.2.2.1,x.2.1.1.2.2.2.1,x.2.1.1.2.2.2.2.1,x.2.1.1.2.2.2.2.2.1,x.2.1.1.2.2.2.2.2.2.1,x.2.1.1.2.2.2.2.2.2.2.1,x.2.1.1.2.2.2.2.2.2.2.2.1,x.2.1.1.2.2.2.2.2.2.2.2.2.1,x.2.1.1.2.2.2.2.2.2.2.2.2.2.1,x.2.1.1.2.2.2.2.2.2.2.2.2.2.2.1,x.2.1.1.2.2.2.2.2.2.2.2.2.2.2.2.1,()),()),())
def yHV:Code:=(zd7 yui 64 116).getD .skip
theorem yWX:zd7 yui 64 29=some (.block 0 (.loop yHV)):=by kernel_rfl
theorem yZN (x:(yds).X):zhu ⟨yEV,103,yJL⟩ 0 yHV 116 yds yiu yiY x=yd5 x:=by kernel_rfl
def yGt (x:(yiJ).X):Nat:=18446744073709551616
def yuI (x:(yiJ).X):Option ((yiu).X ⊕ (yiY).X):=zF yd5 (yGt x) (yGd x)
def yHk:Seg:=⟨yiJ,yiu,yiY,yuI⟩
def y0m:Nat→Option Seg:=fun q=>bif Nat.beq q 29 then some yHk else yJL q
theorem yXn:FrOk prog ⟨yEV,103,y0m⟩ yui:=(yXm).loop (sg:=yHk) yds yGd (by decide) yWX yd5 yGt (by decide) (fun _=>rfl) (fun x r _ h=>h) yZN
abbrev yuX:List Par:= [.rd tA]
abbrev yFj:List OT:= [⟨false,tB,.fz⟩]
def yzz (a0:dA):Option (zaY yFj×zak yuX) :=let r1:=yfE a0.2.1;bif(!(!r1))then bif(!((a0.2.2.1.length:Int) !=a0.2.1.1))then let r2:=yg a0.1 1 60000;bif(!(!r2))then let r3:=yf5 a0.2.1 a0.2.2.2.1 a0.2.2.2.2.1;bif(!(!r3))then bnd (yqg a0) fun r4 =>bif(!r4.1.1)then some ((false,()),()) else zkt (yuI ((((),()),(a0.2.2.1,()),((a0.2.2.1.length:Int),()),((),()),()),((a0.1,a0.2.1.1,a0.2.1.2,a0.2.2.1,a0.2.2.2.1,a0.2.2.2.2.1,a0.2.2.2.2.2.1,a0.2.2.2.2.2.2.1,a0.2.2.2.2.2.2.2.1,a0.2.2.2.2.2.2.2.2.1,a0.2.2.2.2.2.2.2.2.2.1,a0.2.2.2.2.2.2.2.2.2.2.1,a0.2.2.2.2.2.2.2.2.2.2.2,()),()),())) (fun y8 =>let r10:=yg y8.2.1.1.2.2.2.2.2.2.1 0 60000;bif r10 then let r11:=yg y8.2.1.1.2.2.2.2.2.2.2.1 0 60000;bif r11 then let r12:=yg y8.2.1.1.2.2.2.2.2.2.2.2.1 0 60000;bif r12 then let r13:=yg (i64.wrap (y8.2.1.1.2.2.2.2.2.2.1-y8.2.1.1.2.2.2.2.2.2.2.1)) 0 4;bif r13 then let r14:=yg y8.2.1.1.2.2.2.2.2.2.2.2.2.2.1 (-1) 1000;some ((r14,()),()) else some ((false,()),()) else some ((false,()),()) else some ((false,()),()) else some ((false,()),())) (fun y8 =>some ((y8.1.1.1,()),())) else some ((false,()),()) else some ((false,()),()) else some ((false,()),()) else some ((false,()),())
theorem y1L:ConOk prog 55 ⟨yuX,yFj,fun x=>yzz x.1⟩:=zkI (yXn) func55 ntmps55.symm fun x=>by kernel_rfl
theorem y8j {S T G F z TS le:Bool} (h1:T=true→TS=true→S=true) (h2:S=true→T=true→z=(TS&&le)) :
  (bif S then bif T then bif G then bif z then some ((F,()),())else some ((false,()),())else some ((false,()),())else some ((false,()),())else some ((false,()),()))=some (((T&&(TS&&(le&&(G&&F)))),()),()):=by
 cases S
 ·cases T
  ·rfl
  ·cases TS
   ·rfl
   ·exact absurd (h1 rfl rfl) Bool.false_ne_true
 ·cases T
  ·cases G<;>rfl
  ·rw[h2 rfl rfl]
   cases TS<;>cases le<;>cases G<;>rfl
def ybA (a0:dA):Bool:=yE a0
theorem y4r (a0:dA) (hk:zjx yuX (a0,())):yzz a0=(fun n=>some ((n,()),())) (ybA a0):=by
 have hb:a0.2.2.1.length*80≤2^47:=hk.1.2.2.1.1;unfold yzz ybA yE;simp only[yX4,yai,ybm];cases hg:yf a0.2.1
 ·rfl
 have hg2:=yk.1 hg
 have h1:yuI (yUb a0.2.2.1 a0.2.2.1.length a0)=some (bif(List.range a0.2.2.1.length).any (yhL a0)then .inr (yUp false)else .inl (yT2 a0)) :=
  zji (step:=yd5) (fun i=>yta a0.2.2.1 a0.2.2.1.length i a0) a0.2.2.1.length (yhL a0) _ _ (fun i hi=>by
   simp only[yd5,yta,ytQ,zky (show(i:Int)<a0.2.2.1.length by omega),cond_true,wq ((i:Int)+1) (by omega) (by omega),Int.natCast_add,Int.natCast_one,Int.toNat_natCast,zkR hi,zkX,yaa,yhL,yqc,wq (6+a0.2.1.2) (by omega) (by omega),yc];rw[show(a0.2.2.2.1 !=(i:Int))=((i:Int) !=a0.2.2.2.1)from bne_comm]
   cases yu (nth a0.2.2.1 i ([],[],false,[]))<;>cases(((nth a0.2.2.1 i ([],[],false,[])).1.length:Int) !=6+a0.2.1.2)<;>cases(nth a0.2.2.1 i ([],[],false,[])).2.2.1<;>cases((i:Int) !=a0.2.2.2.1)<;>cases a0.2.2.2.2.2.2.2.2.2.2.2<;>rfl) (by simp only[yd5,yta,ytQ,zk3 (Int.le_refl _),cond_false]) _ (by show _<18446744073709551616; omega)
 rw[yZI a0 hg,h1];simp only[zkH,ykP,yf5,yai,ybm,wq (a0.2.1.1-1) (by omega) (by omega),yml]
 have hw:(leb 0 a0.2.2.2.2.2.1&&leb a0.2.2.2.2.2.1 60000)=true→(leb 0 a0.2.2.2.2.2.2.1&&leb a0.2.2.2.2.2.2.1 60000)=true→i64.wrap (a0.2.2.2.2.2.1-a0.2.2.2.2.2.2.1)=a0.2.2.2.2.2.1-a0.2.2.2.2.2.2.1:=fun h h'=>by
  rw[Bool.and_eq_true,zj7,zj7]at h h';exact wr (by omega) (by omega)
 simp only[bne,Bool.not_not,cond_true,Bool.true_and]
 have h2:(leb 0 a0.2.2.2.2.2.1&&leb a0.2.2.2.2.2.1 60000)=true→(leb 0 a0.2.2.2.2.2.2.1&&leb a0.2.2.2.2.2.2.1 60000)=true→(leb 0 (i64.wrap (a0.2.2.2.2.2.1-a0.2.2.2.2.2.2.1))&&leb (i64.wrap (a0.2.2.2.2.2.1-a0.2.2.2.2.2.2.1)) 4)=((leb a0.2.2.2.2.2.2.1 a0.2.2.2.2.2.1&&leb a0.2.2.2.2.2.1 60000)&&leb a0.2.2.2.2.2.1 (a0.2.2.2.2.2.2.1+4)):=fun h h'=>by
  rw[hw h h',Bool.eq_iff_iff];simp only[Bool.and_eq_true,zj7]at h h' ⊢;omega
 have h3:(leb 0 a0.2.2.2.2.2.2.1&&leb a0.2.2.2.2.2.2.1 60000)=true→(leb a0.2.2.2.2.2.2.1 a0.2.2.2.2.2.1&&leb a0.2.2.2.2.2.1 60000)=true→(leb 0 a0.2.2.2.2.2.1&&leb a0.2.2.2.2.2.1 60000)=true:=fun h h'=>by
  simp only[Bool.and_eq_true,zj7]at h h' ⊢;omega
 cases((a0.2.2.1.length:Int)==a0.2.1.1)
 ·cases(leb 1 a0.1&&leb a0.1 60000)<;>cases(List.range a0.2.2.1.length).any (yhL a0)<;>rfl
 cases(leb 1 a0.1&&leb a0.1 60000)
 ·rfl
 cases(leb (-1) a0.2.2.2.1&&leb a0.2.2.2.1 (a0.2.1.1-1))
 ·cases(List.range a0.2.2.1.length).any (yhL a0)<;>cases yaC a0.2.1 a0.2.2.2.2.2.2.2.2.1<;>rfl
 cases(leb 0 a0.2.2.2.2.1&&leb a0.2.2.2.2.1 a0.2.1.2)
 ·cases(List.range a0.2.2.1.length).any (yhL a0)<;>cases yaC a0.2.1 a0.2.2.2.2.2.2.2.2.1<;>rfl
 cases yaC a0.2.1 a0.2.2.2.2.2.2.2.2.1
 ·cases(List.range a0.2.2.1.length).any (yhL a0)<;>cases(a0.2.2.2.1== -1)<;>cases(a0.2.2.2.2.1==0)<;>rfl
 cases(List.range a0.2.2.1.length).any (yhL a0)
 ·cases(a0.2.2.2.1== -1)<;>cases(a0.2.2.2.2.1==0)
  case true.false=>rfl
  all_goals exact y8j h3 h2
 ·cases(a0.2.2.2.1== -1)<;>cases(a0.2.2.2.2.1==0)<;>rfl
def yp8:Con:=⟨yuX,yFj,fun x=>(fun n=>some ((n,()),())) (ybA x.1)⟩
theorem yCM:ConOk prog 55 yp8:=(y1L).mono (fun x r hk h=>(y4r x.1 hk).trans h)
def yih:Code:=(f201.body).getD .skip
def yok:Env:=zkw TT [] []
theorem yKe:FrOk prog ⟨yok,19,fun _=>none⟩ yih:=zkA mixed yd trivial
def yus:Nat→Option Seg:=fun _=>none
def yau:Shape:=⟨[(0,false,[.br tI]),(1,false,[.int .i64]),(7,false,[.int .i64]),(8,false,[.int .i64])],[],[]⟩
def yc4:Shape:=⟨[(0,false,[.br tI]),(1,false,[.int .i64]),(7,false,[.int .i64]),(8,false,[.ci .i64 0])],[],[]⟩
def yc2:Shape:=⟨[],[],[]⟩
def yc6:Shape:=⟨[(4,false,[.int .i64])],[],[]⟩
abbrev yjG (v0:List Int) (v1 v2 v3:Int):(yau).X:=(((v0,()),(v1,()),(v2,()),(v3,()),()),(),())
abbrev yJE (v0:List Int) (v1 v2:Int):(yc4).X:=(((v0,()),(v1,()),(v2,()),((),()),()),(),())
abbrev yJC  :(yc2).X:=((),(),())
abbrev yrS (v0:Int):(yc6).X:=(((v0,()),()),(),())
def yjM (v0:List Int) (v1 v2 v3:Int):Option ((yau).X ⊕ ((yc2).X ⊕ (yc6).X)) :=bif(ltb v3 v2)then bif(inb v3 v0.length)then bif(v1==(nth v0 v3 0))then some (.inr (.inr (((v3,()),()),(),()))) else some (.inl (((v0,()),(v1,()),(v2,()),((i64.wrap (v3+1)),()),()),(),())) else none else some (.inr (.inl ((),(),())))
def yaE (x:(yau).X):=yjM x.1.1.1 x.1.2.1.1 x.1.2.2.1.1 x.1.2.2.2.1.1
def yrN (x:(yc4).X):(yau).X:=(((x.1.1.1,()),(x.1.2.1.1,()),(x.1.2.2.1.1,()),(0,()),()),(),())
def yt4:Code:=(zd7 yih 64 52).getD .skip
theorem yJY:zd7 yih 64 13=some (.block 0 (.loop yt4)):=by kernel_rfl
theorem yKH (x:(yau).X):zhu ⟨yok,19,yus⟩ 0 yt4 52 yau yc2 yc6 x=yaE x:=by kernel_rfl
def yrP (x:(yc4).X):Nat:=18446744073709551616
def ykg (x:(yc4).X):Option ((yc2).X ⊕ (yc6).X):=zF yaE (yrP x) (yrN x)
def yrU:Seg:=⟨yc4,yc2,yc6,ykg⟩
def yKR:Nat→Option Seg:=fun q=>bif Nat.beq q 13 then some yrU else yus q
theorem yKf:FrOk prog ⟨yok,19,yKR⟩ yih:=(yKe).loop (sg:=yrU) yau yrN (by decide) yJY yaE yrP (by decide) (fun _=>rfl) (fun x r _ h=>h) yKH
abbrev yip:List Par:= [.rd tL,.rd tI]
abbrev yoD:List OT:= [⟨false,tI,.fz⟩]
def yl0 (a0:List Int) (a1:Int):Option (zaY yoD×zak yip) :=zkt (ykg (((a0,()),(a1,()),((a0.length:Int),()),((),()),()),(),())) (fun y0 =>some (((-1),()),())) (fun y0 =>some ((y0.1.1.1,()),()))
theorem yLt:ConOk prog 201 ⟨yip,yoD,fun x=>yl0 x.1 x.2.1⟩:=zkI (yKf) func201 ntmps201.symm fun x=>by kernel_rfl
def y08 (l:List Int) (x:Int):Int:=bif l.any (· ==x)then((l.takeWhile (· !=x)).length:Int)else -1
def yfF (a0:List Int) (a1:Int):Int:=y08 a0 a1
theorem y6Z {A B α:Type} {step:A→Option (A ⊕ B)} (l:List α) (d:α) (f:Nat→A) (p:α→Bool) (b:Nat→B) (c:B)
  (h: ∀i,i<l.length→step (f i)=some (bif p (l.getD i d)then .inr (b i)else .inl (f (i+1)))) (e:step (f l.length)=some (.inr c)) (fuel:Nat) (hf:l.length<fuel) :
  zF step fuel (f 0)=some (bif l.any p then b (l.takeWhile (fun x=> !p x)).length else c):=by
 have: ∀(t q:List α) (fuel:Nat),q++t=l→t.length<fuel→zF step fuel (f q.length)=some (bif t.any p then b (q.length+(t.takeWhile (fun x=> !p x)).length)else c):=by
  intro t
  induction t with
  | nil =>
   intro q fuel hq hf;obtain⟨fuel,rfl⟩: ∃m,fuel=m+1:=⟨fuel-1,by omega⟩;rw[List.append_nil]at hq;subst hq;simp only[zF,e,List.any_nil,cond_false]
  | cons x t ih =>
   intro q fuel hq hf;obtain⟨fuel,rfl⟩: ∃m,fuel=m+1:=⟨fuel-1,by omega⟩
   have hx:l.getD q.length d=x:=by
    subst hq;rw[zkJ (by simp)]; simp
   have hs:=h q.length (by rw[← hq]; simp);rw[hx]at hs;cases hp:p x
   ·rw[hp]at hs
    have:=ih (q++ [x]) fuel (by rw[← hq]; simp) (by simp at hf; omega);simp only[List.length_append,List.length_cons,List.length_nil]at this;simp only[zF,hs,cond_false];simp only[List.any_cons,hp,Bool.false_or,List.takeWhile_cons,Bool.not_false,if_true,List.length_cons];rw[show q.length+((t.takeWhile (fun x=> !p x)).length+1)=q.length+(0+1)+(t.takeWhile (fun x=> !p x)).length by omega];exact this
   ·rw[hp]at hs
    simp only[zF,hs,cond_true,List.any_cons,hp,Bool.true_or,List.takeWhile_cons,Bool.not_true,Bool.false_eq_true,if_false,List.length_nil,Nat.add_zero]
 have:=this l [] fuel rfl hf;simpa using this
theorem yMG (a0:List Int) (a1:Int) (hk:zjx yip (a0,a1,())):yl0 a0 a1=(fun n=>some ((n,()),())) (yfF a0 a1):=by
 have hb:a0.length*8≤2^47:=hk.1.1
 have h1:ykg (yJE a0 a1 a0.length)=some (bif a0.any (· ==a1)then .inr (yrS ((a0.takeWhile (fun x=> !(x==a1))).length:Int))else .inl yJC) :=
  y6Z (step:=yaE) a0 0 (fun i=>yjG a0 a1 a0.length i) (· ==a1) (fun i=> .inr (yrS (i:Int))) _ (fun i hi=>by
   simp only[yaE,yjG,yjM,zky (show(i:Int)<a0.length by omega),cond_true,wq ((i:Int)+1) (by omega) (by omega),Int.natCast_add,Int.natCast_one,Int.toNat_natCast,zkR hi,zkS];rw[show(a1==a0.getD i 0)=(a0.getD i 0==a1)by rw[Bool.eq_iff_iff,beq_iff_eq,beq_iff_eq]; exact eq_comm]
   cases(a0.getD i 0==a1)<;>rfl) (by simp only[yaE,yjG,yjM,zk3 (Int.le_refl _),cond_false]) _ (by show _<18446744073709551616; omega)
 unfold yl0 yfF y08;rw[h1];cases a0.any (· ==a1)<;>rfl
def yvP:Con:=⟨yip,yoD,fun x=>(fun n=>some ((n,()),())) (yfF x.1 x.2.1)⟩
theorem yMO:ConOk prog 201 yvP:=(yLt).mono (fun x r hk h=>(yMG x.1 x.2.1 hk).trans h)
def yJK:Code:=(f157.body).getD .skip
def yJX:Env:=zkw TT [(201,yvP)] []
theorem yGs:FrOk prog ⟨yJX,9,fun _=>none⟩ yJK:=zkA mixed yd ⟨yMO,trivial⟩
abbrev yfM:List Par:= [.rd tL,.rd tI]
abbrev ykA:List OT:= [⟨false,tB,.fz⟩]
def yia (a0:List Int) (a1:Int):Option (zaY ykA×zak yfM) :=let r1:=yfF a0 a1;some (((leb 0 r1),()),())
theorem yHD:ConOk prog 157 ⟨yfM,ykA,fun x=>yia x.1 x.2.1⟩:=zkI (yGs) func157 ntmps157.symm fun x=>by kernel_rfl
def yda (a0:List Int) (a1:Int):Bool:=a0.any (· ==a1)
theorem yJG (a0:List Int) (a1:Int) (hk:zjx yfM (a0,a1,())):yia a0 a1=(fun n=>some ((n,()),())) (yda a0 a1):=by
 unfold yia yda yfF y08;cases a0.any (· ==a1)
 ·rfl
 ·simp only[cond_true]
  rw[zk2 (show(0:Int)≤((a0.takeWhile (· !=a1)).length:Int)by omega)]
def yqn:Con:=⟨yfM,ykA,fun x=>(fun n=>some ((n,()),())) (yda x.1 x.2.1)⟩
theorem yJH:ConOk prog 157 yqn:=(yHD).mono (fun x r hk h=>(yJG x.1 x.2.1 hk).trans h)
def yWc:Code:=(f158.body).getD .skip
def yWJ:Env:=zkw TT [] []
theorem yNK:FrOk prog ⟨yWJ,6,fun _=>none⟩ yWc:=zkA mixed yd trivial
abbrev ynB:List Par:= [.rd tL]
abbrev yvl:List OT:= [⟨false,tL,(.ow .fz)⟩]
def yrm (a0:List Int):Option (zaY yvl×zak ynB) :=bif(zkl ([]:List Int).length a0.length 8)then some (((([]:List Int)++a0),()),()) else none
theorem yRt:ConOk prog 158 ⟨ynB,yvl,fun x=>yrm x.1⟩:=zkI (yNK) func158 ntmps158.symm fun x=>by kernel_rfl
def yn (a0:List Int):List Int:=a0
theorem yUH (a0:List Int) (hk:zjx ynB (a0,())):yrm a0=(fun n=>some ((n,()),())) (yn a0):=by
 have hb:a0.length*8≤2^47:=hk.1.1;unfold yrm yn;rw[show zkl ([]:List Int).length a0.length 8=true by rw[zkF,List.length_nil]; omega];rfl
def yaX:Con:=⟨ynB,yvl,fun x=>(fun n=>some ((n,()),())) (yn x.1)⟩
theorem ycY:ConOk prog 158 yaX:=(yRt).mono (fun x r hk h=>(yUH x.1 hk).trans h)
def ypz:Code:=(f87.body).getD .skip
def yyl:Env:=zkw TT [(127,yeU),(156,yn4),(157,yqn),(158,yaX)] []
theorem yP8:FrOk prog ⟨yyl,49,fun _=>none⟩ ypz:=zkA mixed yd ⟨yie,yzm,yJH,ycY,trivial⟩
def yEH:Nat→Option Seg:=fun _=>none
def ybW:Shape:=⟨[(1,false,[.int .i64]),(6,false,[.br tI]),(34,false,[.br tW]),(35,false,[.int .i64]),(36,false,[.int .i64])],[],[]⟩
def ygr:Shape:=⟨[(1,false,[.int .i64]),(6,false,[.br tI]),(34,false,[.br tW]),(35,false,[.int .i64]),(36,false,[.ci .i64 0])],[],[]⟩
def ygc:Shape:=⟨[(6,false,[.br tI])],[],[]⟩
def yjU:Shape:=⟨[],[],[]⟩
abbrev yoO (v0:Int) (v1:List Int) (v2:List dW) (v3 v4:Int):(ybW).X:=(((v0,()),(v1,()),(v2,()),(v3,()),(v4,()),()),(),())
abbrev yOp (v0:Int) (v1:List Int) (v2:List dW) (v3:Int):(ygr).X:=(((v0,()),(v1,()),(v2,()),(v3,()),((),()),()),(),())
abbrev yAY (v0:List Int):(ygc).X:=(((v0,()),()),(),())
def yph (v0:Int) (v1:List Int) (v2:List dW) (v3 v4:Int):Option ((ybW).X ⊕ ((ygc).X ⊕ (yjU).X)) :=bif(ltb v4 v3)then bif(inb v4 v2.length)then bif((nth v2 v4 (0,[])).1==v0)then some (.inl (((v0,()),((nth v2 v4 (0,[])).2,()),(v2,()),(v3,()),((i64.wrap (v4+1)),()),()),(),())) else some (.inl (((v0,()),(v1,()),(v2,()),(v3,()),((i64.wrap (v4+1)),()),()),(),())) else none else some (.inr (.inl (((v1,()),()),(),())))
def yci (x:(ybW).X):=yph x.1.1.1 x.1.2.1.1 x.1.2.2.1.1 x.1.2.2.2.1.1 x.1.2.2.2.2.1.1
def yAo (x:(ygr).X):(ybW).X:=(((x.1.1.1,()),(x.1.2.1.1,()),(x.1.2.2.1.1,()),(x.1.2.2.2.1.1,()),(0,()),()),(),())
def yDb:Code:=(zd7 ypz 64 244).getD .skip
theorem yPO:zd7 ypz 64 61=some (.block 0 (.loop yDb)):=by kernel_rfl
theorem yRY (x:(ybW).X):zhu ⟨yyl,49,yEH⟩ 0 yDb 244 ybW ygc yjU x=yci x:=by kernel_rfl
def yAG (x:(ygr).X):Nat:=18446744073709551616
def yqr (x:(ygr).X):Option ((ygc).X ⊕ (yjU).X):=zF yci (yAG x) (yAo x)
def yBa:Seg:=⟨ygr,ygc,yjU,yqr⟩
def ySv:Nat→Option Seg:=fun q=>bif Nat.beq q 61 then some yBa else yEH q
theorem yP9:FrOk prog ⟨yyl,49,ySv⟩ ypz:=(yP8).loop (sg:=yBa) ybW yAo (by decide) yPO yci yAG (by decide) (fun _=>rfl) (fun x r _ h=>h) yRY
abbrev ypL:List Par:= [.rd tM,.rd tI]
abbrev yyM:List OT:= [⟨false,tL,(.ow .fz)⟩,⟨false,tB,.fz⟩]
def ytw (a0:dM) (a1:Int):Option (zaY yyM×zak ypL) :=let r1:=yaa a0;bif(!(!r1))then bif(!a0.2.2.1)then let r2:=ybF a0 a1;bif(!(!r2))then let r3:=yda a0.2.2.2 a1;bif r3 then some (([],false,()),()) else bif(inb a1 a0.1.length)then zkt (yqr (((a1,()),((nth a0.1 a1 []),()),(a0.2.1,()),((a0.2.1.length:Int),()),((),()),()),(),())) (fun y3 =>let r5:=yn y3.1.1.1;some ((r5,true,()),())) (fun y3 =>none) else none else some (([],false,()),()) else some (([],false,()),()) else some (([],false,()),())
theorem yU1:ConOk prog 87 ⟨ypL,yyM,fun x=>ytw x.1 x.2.1⟩:=zkI (yP9) func87 ntmps87.symm fun x=>by kernel_rfl
def yeX (a0:dM) (a1:Int):List Int×Bool:=yr a0 a1
theorem yYk (a0:dM) (a1:Int) (hk:zjx ypL (a0,a1,())):ytw a0 a1=(fun n=>some ((n.1,n.2,()),())) (yeX a0 a1):=by
 have hb1:a0.1.length*24≤2^47:=hk.1.1.1;have hb2:a0.2.1.length*32≤2^47:=hk.1.2.1.1
 have h1: ∀s,yqr (yOp a1 s a0.2.1 a0.2.1.length)=some (.inl (yAY (yKp a1 a0.2.1 s))):=fun s =>
  zkx (step:=yci) a0.2.1 (0,[]) (fun i s=>yoO a1 s a0.2.1 a0.2.1.length i) (fun s w=>bif w.1==a1 then w.2 else s) (fun _ _=>True) (fun s=> .inl (yAY s)) (fun i s hi _=>⟨by
   simp only[yci,yoO,yph,zky (show(i:Int)<a0.2.1.length by omega),cond_true,wq ((i:Int)+1) (by omega) (by omega),Int.natCast_add,Int.natCast_one,Int.toNat_natCast,zkR hi,zkS]
   cases((a0.2.1.getD i (0,[])).1==a1)<;>rfl,trivial⟩) (fun s _=>by simp only[yci,yoO,yph,zk3 (Int.le_refl _),cond_false]) s trivial _ (by show _<18446744073709551616; omega)
 unfold ytw yeX yr yEC ybF;rw[yai,yrR (show a0.1.length≤1152921504606846976 by omega)];unfold yaa yda yn;simp only[h1,zkN];cases yu a0
 ·rfl
 cases a0.2.2.1
 ·cases inb a1 a0.1.length
  ·rfl
  ·cases a0.2.2.2.any (· ==a1)<;>rfl
 ·rfl
def ys0:Con:=⟨ypL,yyM,fun x=>(fun n=>some ((n.1,n.2,()),())) (yeX x.1 x.2.1)⟩
theorem yIP:ConOk prog 87 ys0:=(yU1).mono (fun x r hk h=>(yYk x.1 x.2.1 hk).trans h)
def yZ6:Code:=(f212.body).getD .skip
def y0z:Env:=zkw TT [(81,yF),(123,yp9),(125,yvO)] []
theorem yQb:FrOk prog ⟨y0z,44,fun _=>none⟩ yZ6:=zkA mixed yd ⟨yS,yCN,yKv,trivial⟩
abbrev yyA:List Par:= [.rd tS]
abbrev yyO:List OT:= [⟨false,tB,.fz⟩]
def yHc (a0:dS):Option (zaY yyO×zak yyA) :=let r1:=yg a0.1 1 60000;bif r1 then let r2:=yg a0.2.1 0 60000;bif r2 then let r3:=yg a0.2.2.2.2.2.1 0 60000;bif r3 then let r4:=yfE (a0.2.2.2.1,a0.2.2.2.2.1);bif r4 then let r5:=yg a0.2.2.1 0 (i64.wrap (a0.2.2.2.1-1));bif r5 then let r6:=yf5 (a0.2.2.2.1,a0.2.2.2.2.1) a0.2.2.2.2.2.2.1 a0.2.2.2.2.2.2.2;some ((r6,()),()) else some ((false,()),()) else some ((false,()),()) else some ((false,()),()) else some ((false,()),()) else some ((false,()),())
theorem yU3:ConOk prog 212 ⟨yyA,yyO,fun x=>yHc x.1⟩:=zkI (yQb) func212 ntmps212.symm fun x=>by kernel_rfl
def yeY (a0:dS):Bool :=let r1:=yg a0.1 1 60000;bif r1 then let r2:=yg a0.2.1 0 60000;bif r2 then let r3:=yg a0.2.2.2.2.2.1 0 60000;bif r3 then let r4:=yfE (a0.2.2.2.1,a0.2.2.2.2.1);bif r4 then let r5:=yg a0.2.2.1 0 (i64.wrap (a0.2.2.2.1-1));bif r5 then let r6:=yf5 (a0.2.2.2.1,a0.2.2.2.2.1) a0.2.2.2.2.2.2.1 a0.2.2.2.2.2.2.2;r6 else false else false else false else false else false
def ys1:Con:=⟨yyA,yyO,fun x=>(fun n=>some ((n,()),())) (yeY x.1)⟩
theorem yYm (a0:dS):yHc a0=(fun n=>some ((n,()),())) (yeY a0):=zkV (p:=fun(n:Bool)=>((n,()),())) (zkG (p:=fun(n:Bool)=>((n,()),())) (zkG (p:=fun(n:Bool)=>((n,()),())) (zkG (p:=fun(n:Bool)=>((n,()),())) (zkG (p:=fun(n:Bool)=>((n,()),())) (zkG (p:=fun(n:Bool)=>((n,()),())) rfl rfl) rfl) rfl) rfl) rfl)
theorem yIQ:ConOk prog 212 ys1:=(yU3).mono (fun x r _ h=>(yYm x.1).trans h)
theorem yLN (s:dS):yeY s=yC s:=by
 rw[Bool.eq_iff_iff,y6u];unfold yeY yf5;simp only[yX4,yai];cases hg:yf (s.2.2.2.1,s.2.2.2.2.1)
 ·cases ya s.1 1 60000<;>cases ya s.2.1 0 60000<;>cases ya s.2.2.2.2.2.1 0 60000<;>simp
 have hg2:=yk.1 hg;simp only at hg2;rw[wq (s.2.2.2.1-1) (by omega) (by omega)];simp only[← ywm];cases ya s.1 1 60000
 ·simp
 cases ya s.2.1 0 60000
 ·simp
 cases ya s.2.2.2.2.2.1 0 60000
 ·simp
 cases ya s.2.2.1 0 (s.2.2.2.1-1)
 ·simp
 cases hl:ya s.2.2.2.2.2.2.1 (-1) (s.2.2.2.1-1)
 ·simp
 cases ya s.2.2.2.2.2.2.2 0 s.2.2.2.2.1
 ·simp
 have:=ywm.1 hl;by_cases h0:s.2.2.2.2.2.2.2=0
 ·simp[h0]
 ·simp[h0]; omega
def yV7:Code:=(f198.body).getD .skip
def yWE:Env:=zkw TT [(212,ys1)] []
theorem yNF:FrOk prog ⟨yWE,46,fun _=>none⟩ yV7:=zkA mixed yd ⟨yIQ,trivial⟩
abbrev ynx:List Par:= [.rd tL]
abbrev yvg:List OT:= [⟨false,tS,(.pr .fz (.pr .fz (.pr .fz (.pr .fz (.pr .fz (.pr .fz (.pr .fz .fz)))))))⟩,⟨false,tB,.fz⟩]
def yri (a0:List Int):Option (zaY yvg×zak ynx) :=bif(!((a0.length:Int) !=9))then bif(inb 0 a0.length)then bif((nth a0 0 0) !=21317)then some (((0,0,0,0,0,0,0,0),false,()),()) else bif(inb 1 a0.length)then bif(inb 2 a0.length)then bif(inb 3 a0.length)then bif(inb 4 a0.length)then bif(inb 5 a0.length)then bif(inb 6 a0.length)then bif(inb 7 a0.length)then bif(inb 8 a0.length)then let r1:=yeY ((nth a0 1 0),(nth a0 2 0),(nth a0 3 0),(nth a0 4 0),(nth a0 5 0),(nth a0 6 0),(i64.wrap ((nth a0 7 0)-1)),(nth a0 8 0));bif(!r1)then some (((0,0,0,0,0,0,0,0),false,()),()) else some ((((nth a0 1 0),(nth a0 2 0),(nth a0 3 0),(nth a0 4 0),(nth a0 5 0),(nth a0 6 0),(i64.wrap ((nth a0 7 0)-1)),(nth a0 8 0)),true,()),()) else none else none else none else none else none else none else none else none else none else some (((0,0,0,0,0,0,0,0),false,()),())
theorem yRo:ConOk prog 198 ⟨ynx,yvg,fun x=>yri x.1⟩:=zkI (yNF) func198 ntmps198.symm fun x=>by kernel_rfl
def yjm (a0:List Int):dS×Bool:=ydO a0
theorem yUC (a0:List Int) (hk:zjx ynx (a0,())):yri a0=(fun n=>some ((n.1,n.2,()),())) (yjm a0):=by
 unfold yri yjm ydO;by_cases h:(a0.length:Int)=9
 ·simp only[bne,h,yLN,beq_self_eq_true,zj6.2 (show(0:Int)≤0∧(0:Int)<a0.length by omega),zj6.2 (show(0:Int)≤1∧(1:Int)<a0.length by omega),zj6.2 (show(0:Int)≤2∧(2:Int)<a0.length by omega),zj6.2 (show(0:Int)≤3∧(3:Int)<a0.length by omega),zj6.2 (show(0:Int)≤4∧(4:Int)<a0.length by omega),zj6.2 (show(0:Int)≤5∧(5:Int)<a0.length by omega),zj6.2 (show(0:Int)≤6∧(6:Int)<a0.length by omega),zj6.2 (show(0:Int)≤7∧(7:Int)<a0.length by omega),zj6.2 (show(0:Int)≤8∧(8:Int)<a0.length by omega)]
  rw[show yC (nth a0 1 0,nth a0 2 0,nth a0 3 0,nth a0 4 0,nth a0 5 0,nth a0 6 0,i64.wrap (nth a0 7 0-1),nth a0 8 0)=yC (yED a0)from rfl];cases(nth a0 0 0==21317)<;>cases yC (yED a0)<;>rfl
 ·rw[show((a0.length:Int) !=9)=true from bne_iff_ne.2 h,show((a0.length:Int)==9)=false from beq_eq_false_iff_ne.2 h]; rfl
def yDt:Con:=⟨ynx,yvg,fun x=>(fun n=>some ((n.1,n.2,()),())) (yjm x.1)⟩
theorem yVx:ConOk prog 198 yDt:=(yRo).mono (fun x r hk h=>(yUC x.1 hk).trans h)
def yli:Code:=(f148.body).getD .skip
def ysC:Env:=zkw TT [(87,ys0),(198,yDt)] []
theorem yMi:FrOk prog ⟨ysC,60,fun _=>none⟩ yli:=zkA mixed yd ⟨yIP,yVx,trivial⟩
def yzX:Nat→Option Seg:=fun _=>none
def ya0:Shape:=⟨[(1,false,[.int .i64]),(2,false,[.ptr 0 0]),(4,false,[.ptr 64 0]),(6,false,[.ptr 4160 0]),(7,false,[.bool]),(14,false,[.int .i64])],[(0,[.br tL,.br tW,.bool,.br tI]),(64,[.int .i64,.int .i64,.int .i64,.int .i64,.int .i64,.int .i64,.int .i64,.int .i64]),(4160,[.int .i64,.int .i64,.int .i64,.int .i64,.int .i64,.int .i64,.int .i64,.int .i64])],[]⟩
def yeC:Shape:=⟨[(1,false,[.int .i64]),(2,false,[.ptr 0 0]),(4,false,[.ptr 64 0]),(6,false,[.ptr 4160 0]),(7,false,[.cb false]),(14,false,[.ci .i64 0])],[(0,[.br tL,.br tW,.bool,.br tI]),(64,[.int .i64,.int .i64,.int .i64,.int .i64,.int .i64,.int .i64,.int .i64,.int .i64]),(4160,[.int .i64,.int .i64,.int .i64,.int .i64,.int .i64,.int .i64,.int .i64,.int .i64])],[]⟩
def yet:Shape:=⟨[(4,false,[.ptr 64 0]),(6,false,[.ptr 4160 0]),(7,false,[.bool])],[(64,[.int .i64,.int .i64,.int .i64,.int .i64,.int .i64,.int .i64,.int .i64,.int .i64]),(4160,[.int .i64,.int .i64,.int .i64,.int .i64,.int .i64,.int .i64,.int .i64,.int .i64])],[]⟩
def yhY:Shape:=⟨[],[],[]⟩
abbrev ylN (v0:Int) (v1:Bool) (v2:Int) (v3:dM) (v4 v5:dS):(ya0).X:=(((v0,()),((),()),((),()),((),()),(v1,()),(v2,()),()),((v3.1,v3.2.1,v3.2.2.1,v3.2.2.2,()),(v4.1,v4.2.1,v4.2.2.1,v4.2.2.2.1,v4.2.2.2.2.1,v4.2.2.2.2.2.1,v4.2.2.2.2.2.2.1,v4.2.2.2.2.2.2.2,()),(v5.1,v5.2.1,v5.2.2.1,v5.2.2.2.1,v5.2.2.2.2.1,v5.2.2.2.2.2.1,v5.2.2.2.2.2.2.1,v5.2.2.2.2.2.2.2,()),()),())
abbrev yLj (v0:Int) (v1:dM) (v2 v3:dS):(yeC).X:=(((v0,()),((),()),((),()),((),()),((),()),((),()),()),((v1.1,v1.2.1,v1.2.2.1,v1.2.2.2,()),(v2.1,v2.2.1,v2.2.2.1,v2.2.2.2.1,v2.2.2.2.2.1,v2.2.2.2.2.2.1,v2.2.2.2.2.2.2.1,v2.2.2.2.2.2.2.2,()),(v3.1,v3.2.1,v3.2.2.1,v3.2.2.2.1,v3.2.2.2.2.1,v3.2.2.2.2.2.1,v3.2.2.2.2.2.2.1,v3.2.2.2.2.2.2.2,()),()),())
abbrev yLd (v0:Bool) (v1 v2:dS):(yet).X:=((((),()),((),()),(v0,()),()),((v1.1,v1.2.1,v1.2.2.1,v1.2.2.2.1,v1.2.2.2.2.1,v1.2.2.2.2.2.1,v1.2.2.2.2.2.2.1,v1.2.2.2.2.2.2.2,()),(v2.1,v2.2.1,v2.2.2.1,v2.2.2.2.1,v2.2.2.2.2.1,v2.2.2.2.2.2.1,v2.2.2.2.2.2.2.1,v2.2.2.2.2.2.2.2,()),()),())
def yl4 (v0:Int) (v1:Bool) (v2:Int) (v3:List (List Int)) (v4:List dW) (v5:Bool) (v6:List Int) (v7 v8 v9 v10 v11 v12 v13 v14 v15 v16 v17 v18 v19 v20 v21 v22:Int):Option ((ya0).X ⊕ ((yet).X ⊕ (yhY).X)) :=bif(ltb v2 2)then let r3:=yeX (v3,v4,v5,v6) v2;let r4:=yjm r3.1;bif r3.2 then bif r4.2 then bif(r4.1.1==v0)then bif((r4.1.2.1.tmod 2)==v2)then bif(!(!v1))then bif(ltb v16 r4.1.2.1)then some (.inl (((v0,()),((),()),((),()),((),()),(true,()),((i64.wrap (v2+1)),()),()),((v3,v4,v5,v6,()),(v7,v8,v9,v10,v11,v12,v13,v14,()),(r4.1.1,r4.1.2.1,r4.1.2.2.1,r4.1.2.2.2.1,r4.1.2.2.2.2.1,r4.1.2.2.2.2.2.1,r4.1.2.2.2.2.2.2.1,r4.1.2.2.2.2.2.2.2,()),()),())) else some (.inl (((v0,()),((),()),((),()),((),()),(v1,()),((i64.wrap (v2+1)),()),()),((v3,v4,v5,v6,()),(v7,v8,v9,v10,v11,v12,v13,v14,()),(v15,v16,v17,v18,v19,v20,v21,v22,()),()),())) else some (.inl (((v0,()),((),()),((),()),((),()),(true,()),((i64.wrap (v2+1)),()),()),((v3,v4,v5,v6,()),(v7,v8,v9,v10,v11,v12,v13,v14,()),(r4.1.1,r4.1.2.1,r4.1.2.2.1,r4.1.2.2.2.1,r4.1.2.2.2.2.1,r4.1.2.2.2.2.2.1,r4.1.2.2.2.2.2.2.1,r4.1.2.2.2.2.2.2.2,()),()),())) else some (.inl (((v0,()),((),()),((),()),((),()),(v1,()),((i64.wrap (v2+1)),()),()),((v3,v4,v5,v6,()),(v7,v8,v9,v10,v11,v12,v13,v14,()),(v15,v16,v17,v18,v19,v20,v21,v22,()),()),())) else some (.inl (((v0,()),((),()),((),()),((),()),(v1,()),((i64.wrap (v2+1)),()),()),((v3,v4,v5,v6,()),(v7,v8,v9,v10,v11,v12,v13,v14,()),(v15,v16,v17,v18,v19,v20,v21,v22,()),()),())) else some (.inl (((v0,()),((),()),((),()),((),()),(v1,()),((i64.wrap (v2+1)),()),()),((v3,v4,v5,v6,()),(v7,v8,v9,v10,v11,v12,v13,v14,()),(v15,v16,v17,v18,v19,v20,v21,v22,()),()),())) else some (.inl (((v0,()),((),()),((),()),((),()),(v1,()),((i64.wrap (v2+1)),()),()),((v3,v4,v5,v6,()),(v7,v8,v9,v10,v11,v12,v13,v14,()),(v15,v16,v17,v18,v19,v20,v21,v22,()),()),())) else some (.inr (.inl ((((),()),((),()),(v1,()),()),((v7,v8,v9,v10,v11,v12,v13,v14,()),(v15,v16,v17,v18,v19,v20,v21,v22,()),()),())))
def ybf (x:(ya0).X):=yl4 x.1.1.1 x.1.2.2.2.2.1.1 x.1.2.2.2.2.2.1.1 x.2.1.1.1 x.2.1.1.2.1 x.2.1.1.2.2.1 x.2.1.1.2.2.2.1 x.2.1.2.1.1 x.2.1.2.1.2.1 x.2.1.2.1.2.2.1 x.2.1.2.1.2.2.2.1 x.2.1.2.1.2.2.2.2.1 x.2.1.2.1.2.2.2.2.2.1 x.2.1.2.1.2.2.2.2.2.2.1 x.2.1.2.1.2.2.2.2.2.2.2.1 x.2.1.2.2.1.1 x.2.1.2.2.1.2.1 x.2.1.2.2.1.2.2.1 x.2.1.2.2.1.2.2.2.1 x.2.1.2.2.1.2.2.2.2.1 x.2.1.2.2.1.2.2.2.2.2.1 x.2.1.2.2.1.2.2.2.2.2.2.1 x.2.1.2.2.1.2.2.2.2.2.2.2.1
def yv4 (x:(yeC).X):(ya0).X:=(((x.1.1.1,()),((),()),((),()),((),()),(false,()),(0,()),()),((x.2.1.1.1,x.2.1.1.2.1,x.2.1.1.2.2.1,x.2.1.1.2.2.2.1,()),(x.2.1.2.1.1,x.2.1.2.1.2.1,x.2.1.2.1.2.2.1,x.2.1.2.1.2.2.2.1,x.2.1.2.1.2.2.2.2.1,x.2.1.2.1.2.2.2.2.2.1,x.2.1.2.1.2.2.2.2.2.2.1,x.2.1.2.1.2.2.2.2.2.2.2.1,()),(x.2.1.2.2.1.1,x.2.1.2.2.1.2.1,x.2.1.2.2.1.2.2.1,x.2.1.2.2.1.2.2.2.1,x.2.1.2.2.1.2.2.2.2.1,x.2.1.2.2.1.2.2.2.2.2.1,x.2.1.2.2.1.2.2.2.2.2.2.1,x.2.1.2.2.1.2.2.2.2.2.2.2.1,()),()),())
def yxl:Code:=(zd7 yli 64 116).getD .skip
theorem yL6:zd7 yli 64 29=some (.block 0 (.loop yxl)):=by kernel_rfl
theorem yMU (x:(ya0).X):zhu ⟨ysC,60,yzX⟩ 0 yxl 116 ya0 yet yhY x=ybf x:=by kernel_rfl
def ywf (x:(yeC).X):Nat:=18446744073709551616
def ymK (x:(yeC).X):Option ((yet).X ⊕ (yhY).X):=zF ybf (ywf x) (yv4 x)
def yw5:Seg:=⟨yeC,yet,yhY,ymK⟩
def yM5:Nat→Option Seg:=fun q=>bif Nat.beq q 29 then some yw5 else yzX q
theorem yMj:FrOk prog ⟨ysC,60,yM5⟩ yli:=(yMi).loop (sg:=yw5) ya0 yv4 (by decide) yL6 ybf ywf (by decide) (fun _=>rfl) (fun x r _ h=>h) yMU
abbrev ylp:List Par:= [.rd tM,.rd tI]
abbrev ysU:List OT:= [⟨false,tS,(.pr .fz (.pr .fz (.pr .fz (.pr .fz (.pr .fz (.pr .fz (.pr .fz .fz)))))))⟩,⟨false,tB,.fz⟩]
def ypb (a0:dM) (a1:Int):Option (zaY ysU×zak ylp) :=zkt (ymK (((a1,()),((),()),((),()),((),()),((),()),((),()),()),((a0.1,a0.2.1,a0.2.2.1,a0.2.2.2,()),(0,0,0,0,0,0,0,0,()),(0,0,0,0,0,0,0,0,()),()),())) (fun y4 =>some (((y4.2.1.2.1.1,y4.2.1.2.1.2.1,y4.2.1.2.1.2.2.1,y4.2.1.2.1.2.2.2.1,y4.2.1.2.1.2.2.2.2.1,y4.2.1.2.1.2.2.2.2.2.1,y4.2.1.2.1.2.2.2.2.2.2.1,y4.2.1.2.1.2.2.2.2.2.2.2.1),y4.1.2.2.1.1,()),())) (fun y4 =>none)
theorem yOQ:ConOk prog 148 ⟨ylp,ysU,fun x=>ypb x.1 x.2.1⟩:=zkI (yMj) func148 ntmps148.symm fun x=>by kernel_rfl
def yhM (a0:dM) (a1:Int):dS×Bool:=yaW a0 a1
theorem yRg (a0:dM) (a1:Int) (hk:zjx ylp (a0,a1,())):ypb a0 a1=(fun n=>some ((n.1,n.2,()),())) (yhM a0 a1):=by
 have h1:=zkD (step:=ybf) 2 (fun i s=>ylN a1 s.2 i a0 yaD s.1) (fun(s:dS×Bool) (i:Nat)=>ymh s (yFV a0 a1 i) (ySY a0 i)) (fun _ _=>True) (fun s=> .inl (yLd s.2 yaD s.1)) (fun i s hi _=>⟨by
  simp only[ybf,ylN,yl4,zky (show(i:Int)<2 by omega),cond_true,wq ((i:Int)+1) (by omega) (by omega),Int.natCast_add,Int.natCast_one,Int.toNat_natCast,zkX,yeX,yjm];unfold yFV ymh ySY
  cases(yr a0 i).2<;>cases(ydO (yr a0 i).1).2<;>cases((ydO (yr a0 i).1).1.1==a1)<;>cases((ydO (yr a0 i).1).1.2.1.tmod 2==(i:Int))<;>cases hf:s.2<;>cases ltb s.1.2.1 (ydO (yr a0 i).1).1.2.1<;>simp only[Bool.not_true,Bool.not_false,cond_true,cond_false,Bool.and_true,Bool.true_and,Bool.false_and,Bool.and_false,Bool.or_true,Bool.true_or,Bool.false_or,Bool.or_false,hf],trivial⟩) (fun s _=>by simp only[ybf,ylN,yl4]; rfl) (yaD,false) trivial 18446744073709551616 (by omega)
 unfold ypb yhM;rw[show ymK (yLj a1 a0 yaD yaD)=_ from h1]; rfl
def yAi:Con:=⟨ylp,ysU,fun x=>(fun n=>some ((n.1,n.2,()),())) (yhM x.1 x.2.1)⟩
theorem yRR:ConOk prog 148 yAi:=(yOQ).mono (fun x r hk h=>(yRg x.1 x.2.1 hk).trans h)
def yWe:Code:=(f73.body).getD .skip
def yWL:Env:=zkw TT [(127,yeU),(148,yAi)] []
theorem yNO:FrOk prog ⟨yWL,35,fun _=>none⟩ yWe:=zkA mixed yd ⟨yie,yRR,trivial⟩
abbrev ynD:List Par:= [.rd tM,.rd tI,.rd tI]
abbrev yvo:List OT:= [⟨false,tS,(.pr .fz (.pr .fz (.pr .fz (.pr .fz (.pr .fz (.pr .fz (.pr .fz .fz)))))))⟩,⟨false,tB,.fz⟩]
def yro (a0:dM) (a1 a2:Int):Option (zaY yvo×zak ynD) :=let r1:=yhM a0 a2;let r2:=yaa a0;bif(!(!r2))then bif(!a0.2.2.1)then bif(!(!r1.2))then bif(r1.1.2.2.1 !=a1)then some (((0,0,0,0,0,0,0,0),false,()),()) else some ((r1.1,true,()),()) else some (((0,0,0,0,0,0,0,0),false,()),()) else some (((0,0,0,0,0,0,0,0),false,()),()) else some (((0,0,0,0,0,0,0,0),false,()),())
theorem yRw:ConOk prog 73 ⟨ynD,yvo,fun x=>yro x.1 x.2.1 x.2.2.1⟩:=zkI (yNO) func73 ntmps73.symm fun x=>by kernel_rfl
def ydS (a0:dM) (a1 a2:Int):dS×Bool:=bif ylX a0 a1 a2 then((yaW a0 a2).1,true)else(yaD,false)
theorem yUK (a0:dM) (a1 a2:Int) (hk:zjx ynD (a0,a1,a2,())):yro a0 a1 a2=(fun n=>some ((n.1,n.2,()),())) (ydS a0 a1 a2):=by
 unfold yro ydS ylX;simp only[yhM,yaa,bne];cases hb:(yaW a0 a2).2
 ·cases yu a0<;>cases a0.2.2.1<;>rfl
 ·rw[y7L hb]
  cases a0.2.2.1<;>cases((yaW a0 a2).1.2.2.1==a1)<;>rfl
def yDy:Con:=⟨ynD,yvo,fun x=>(fun n=>some ((n.1,n.2,()),())) (ydS x.1 x.2.1 x.2.2.1)⟩
theorem yVC:ConOk prog 73 yDy:=(yRw).mono (fun x r hk h=>(yUK x.1 x.2.1 x.2.2.1 hk).trans h)
def yeO:Code:=(f133.body).getD .skip
def yke:Env:=zkw TT [(158,yaX)] []
theorem yQe:FrOk prog ⟨yke,49,fun _=>none⟩ yeO:=zkA mixed yd ⟨ycY,trivial⟩
def yEJ:Nat→Option Seg:=fun _=>none
def ybY:Shape:=⟨[(1,false,[.ptr 0 0]),(2,false,[.ptr 64 0]),(3,false,[.ptr 4480 0]),(15,false,[.br tL]),(16,false,[.int .i64]),(17,false,[.int .i64])],[(0,[.br tL,.br tW,.bool,.br tI]),(64,[.nil,.nil,.bool,.nil]),(4480,[.at 800000001,.nil,.bool,.at 800000000])],[(800000001,tL,(.ow .fz)),(800000000,tI,.fz)]⟩
def ygt:Shape:=⟨[(1,false,[.ptr 0 0]),(2,false,[.ptr 64 0]),(3,false,[.ptr 4480 0]),(15,false,[.br tL]),(16,false,[.int .i64]),(17,false,[.ci .i64 0])],[(0,[.br tL,.br tW,.bool,.br tI]),(64,[.nil,.nil,.bool,.nil]),(4480,[.at 800000001,.nil,.bool,.at 800000000])],[(800000001,tL,(.ow .fz)),(800000000,tI,.fz)]⟩
def yge:Shape:=⟨[(1,false,[.ptr 0 0]),(2,false,[.ptr 64 0]),(3,false,[.ptr 4480 0])],[(0,[.br tL,.br tW,.bool,.br tI]),(64,[.nil,.nil,.bool,.nil]),(4480,[.at 800000000,.nil,.bool,.at 800000001])],[(800000000,tL,(.ow .fz)),(800000001,tI,.fz)]⟩
def yjW:Shape:=⟨[],[],[]⟩
abbrev yoQ (v0:List (List Int)) (v1 v2:Int) (v3 v4 v5:dM):(ybY).X:=((((),()),((),()),((),()),(v0,()),(v1,()),(v2,()),()),((v3.1,v3.2.1,v3.2.2.1,v3.2.2.2,()),((),(),v4.2.2.1,(),()),((),(),v5.2.2.1,(),()),()),(v5.1,v5.2.2.2,()))
abbrev yOr (v0:List (List Int)) (v1:Int) (v2 v3 v4:dM):(ygt).X:=((((),()),((),()),((),()),(v0,()),(v1,()),((),()),()),((v2.1,v2.2.1,v2.2.2.1,v2.2.2.2,()),((),(),v3.2.2.1,(),()),((),(),v4.2.2.1,(),()),()),(v4.1,v4.2.2.2,()))
abbrev yAZ (v0 v1 v2:dM):(yge).X:=((((),()),((),()),((),()),()),((v0.1,v0.2.1,v0.2.2.1,v0.2.2.2,()),((),(),v1.2.2.1,(),()),((),(),v2.2.2.1,(),()),()),(v2.1,v2.2.2.2,()))
def ypj (v0:List (List Int)) (v1 v2:Int) (v3:List (List Int)) (v4:List dW) (v5:Bool) (v6:List Int) (v7 v8:Bool) (v9:List (List Int)) (v10:List Int):Option ((ybY).X ⊕ ((yge).X ⊕ (yjW).X)) :=bif(ltb v2 v1)then bif(inb v2 v0.length)then let r4:=yn (nth v0 v2 []);bif(zkl v9.length ([r4]:List (List Int)).length 24)then some (.inl ((((),()),((),()),((),()),(v0,()),(v1,()),((i64.wrap (v2+1)),()),()),((v3,v4,v5,v6,()),((),(),v7,(),()),((),(),v8,(),()),()),((v9++([r4]:List (List Int))),v10,()))) else none else none else some (.inr (.inl ((((),()),((),()),((),()),()),((v3,v4,v5,v6,()),((),(),v7,(),()),((),(),v8,(),()),()),(v9,v10,()))))
def yck (x:(ybY).X):=ypj x.1.2.2.2.1.1 x.1.2.2.2.2.1.1 x.1.2.2.2.2.2.1.1 x.2.1.1.1 x.2.1.1.2.1 x.2.1.1.2.2.1 x.2.1.1.2.2.2.1 x.2.1.2.1.2.2.1 x.2.1.2.2.1.2.2.1 x.2.2.1 x.2.2.2.1
def yAq (x:(ygt).X):(ybY).X:=((((),()),((),()),((),()),(x.1.2.2.2.1.1,()),(x.1.2.2.2.2.1.1,()),(0,()),()),((x.2.1.1.1,x.2.1.1.2.1,x.2.1.1.2.2.1,x.2.1.1.2.2.2.1,()),((),(),x.2.1.2.1.2.2.1,(),()),((),(),x.2.1.2.2.1.2.2.1,(),()),()),(x.2.2.1,x.2.2.2.1,()))
def yDd:Code:=(zd7 yeO 64 116).getD .skip
theorem yPQ:zd7 yeO 64 29=some (.block 0 (.loop yDd)):=by kernel_rfl
theorem yR0 (x:(ybY).X):zhu ⟨yke,49,yEJ⟩ 0 yDd 116 ybY yge yjW x=yck x:=by kernel_rfl
def yAI (x:(ygt).X):Nat:=18446744073709551616
def yqt (x:(ygt).X):Option ((yge).X ⊕ (yjW).X):=zF yck (yAI x) (yAq x)
def yBc:Seg:=⟨ygt,yge,yjW,yqt⟩
def ysA:Nat→Option Seg:=fun q=>bif Nat.beq q 29 then some yBc else yEJ q
theorem yQf:FrOk prog ⟨yke,49,ysA⟩ yeO:=(yQe).loop (sg:=yBc) ybY yAq (by decide) yPQ yck yAI (by decide) (fun _=>rfl) (fun x r _ h=>h) yR0
def ybZ:Shape:=⟨[(2,false,[.ptr 64 0]),(3,false,[.ptr 4480 0]),(30,false,[.br tW]),(31,false,[.int .i64]),(32,false,[.int .i64])],[(64,[.nil,.nil,.bool,.nil]),(4480,[.at 800000000,.at 800000002,.bool,.at 800000001])],[(800000000,tL,(.ow .fz)),(800000002,tW,(.pr .fz (.ow .fz))),(800000001,tI,.fz)]⟩
def ygu:Shape:=⟨[(2,false,[.ptr 64 0]),(3,false,[.ptr 4480 0]),(30,false,[.br tW]),(31,false,[.int .i64]),(32,false,[.ci .i64 0])],[(64,[.nil,.nil,.bool,.nil]),(4480,[.at 800000000,.at 800000002,.bool,.at 800000001])],[(800000000,tL,(.ow .fz)),(800000002,tW,(.pr .fz (.ow .fz))),(800000001,tI,.fz)]⟩
def ygf:Shape:=⟨[(2,false,[.ptr 64 0]),(3,false,[.ptr 4480 0])],[(64,[.nil,.nil,.bool,.nil]),(4480,[.at 800000000,.at 800000001,.bool,.at 800000002])],[(800000000,tL,(.ow .fz)),(800000001,tW,(.pr .fz (.ow .fz))),(800000002,tI,.fz)]⟩
def yjX:Shape:=⟨[],[],[]⟩
abbrev yoR (v0:List dW) (v1 v2:Int) (v3 v4:dM):(ybZ).X:=((((),()),((),()),(v0,()),(v1,()),(v2,()),()),(((),(),v3.2.2.1,(),()),((),(),v4.2.2.1,(),()),()),(v4.1,v4.2.1,v4.2.2.2,()))
abbrev yOs (v0:List dW) (v1:Int) (v2 v3:dM):(ygu).X:=((((),()),((),()),(v0,()),(v1,()),((),()),()),(((),(),v2.2.2.1,(),()),((),(),v3.2.2.1,(),()),()),(v3.1,v3.2.1,v3.2.2.2,()))
abbrev yA0 (v0 v1:dM):(ygf).X:=((((),()),((),()),()),(((),(),v0.2.2.1,(),()),((),(),v1.2.2.1,(),()),()),(v1.1,v1.2.1,v1.2.2.2,()))
def ypk (v0:List dW) (v1 v2:Int) (v3 v4:Bool) (v5:List (List Int)) (v6:List dW) (v7:List Int):Option ((ybZ).X ⊕ ((ygf).X ⊕ (yjX).X)) :=bif(ltb v2 v1)then bif(inb v2 v0.length)then let r8:=yn ((nth v0 v2 (0,[])).2);bif(zkl v6.length ([((nth v0 v2 (0,[])).1,r8)]:List dW).length 32)then some (.inl ((((),()),((),()),(v0,()),(v1,()),((i64.wrap (v2+1)),()),()),(((),(),v3,(),()),((),(),v4,(),()),()),(v5,(v6++([((nth v0 v2 (0,[])).1,r8)]:List dW)),v7,()))) else none else none else some (.inr (.inl ((((),()),((),()),()),(((),(),v3,(),()),((),(),v4,(),()),()),(v5,v6,v7,()))))
def ycl (x:(ybZ).X):=ypk x.1.2.2.1.1 x.1.2.2.2.1.1 x.1.2.2.2.2.1.1 x.2.1.1.2.2.1 x.2.1.2.1.2.2.1 x.2.2.1 x.2.2.2.1 x.2.2.2.2.1
def yAr (x:(ygu).X):(ybZ).X:=((((),()),((),()),(x.1.2.2.1.1,()),(x.1.2.2.2.1.1,()),(0,()),()),(((),(),x.2.1.1.2.2.1,(),()),((),(),x.2.1.2.1.2.2.1,(),()),()),(x.2.2.1,x.2.2.2.1,x.2.2.2.2.1,()))
def yDe:Code:=(zd7 yeO 64 244).getD .skip
theorem yPR:zd7 yeO 64 61=some (.block 2 (.loop yDe)):=by kernel_rfl
theorem yR1 (x:(ybZ).X):zhu ⟨yke,49,ysA⟩ 2 yDe 244 ybZ ygf yjX x=ycl x:=by kernel_rfl
def yAJ (x:(ygu).X):Nat:=18446744073709551616
def yqu (x:(ygu).X):Option ((ygf).X ⊕ (yjX).X):=zF ycl (yAJ x) (yAr x)
def yBd:Seg:=⟨ygu,ygf,yjX,yqu⟩
def ySx:Nat→Option Seg:=fun q=>bif Nat.beq q 61 then some yBd else ysA q
theorem yQg:FrOk prog ⟨yke,49,ySx⟩ yeO:=(yQf).loop (sg:=yBd) ybZ yAr (by decide) yPR ycl yAJ (by decide) (fun _=>rfl) (fun x r _ h=>h) yR1
abbrev ypO:List Par:= [.rd tM]
abbrev yyQ:List OT:= [⟨false,tM,(.pr (.ow (.ow .fz)) (.pr (.ow (.pr .fz (.ow .fz))) (.pr .fz (.ow .fz))))⟩]
def ytz (a0:dM):Option (zaY yyQ×zak ypO) :=let r1:=yn a0.2.2.2;zkt (yqt ((((),()),((),()),((),()),(a0.1,()),((a0.1.length:Int),()),((),()),()),((a0.1,a0.2.1,a0.2.2.1,a0.2.2.2,()),((),(),false,(),()),((),(),a0.2.2.1,(),()),()),([],r1,()))) (fun y4 =>zkt (yqu ((((),()),((),()),(y4.2.1.1.2.1,()),((y4.2.1.1.2.1.length:Int),()),((),()),()),(((),(),y4.2.1.2.1.2.2.1,(),()),((),(),y4.2.1.2.2.1.2.2.1,(),()),()),(y4.2.2.1,[],y4.2.2.2.1,()))) (fun y8 =>some (((y8.2.2.1,y8.2.2.2.1,y8.2.1.2.1.2.2.1,y8.2.2.2.2.1),()),())) (fun y8 =>none)) (fun y4 =>none)
theorem yU5:ConOk prog 133 ⟨ypO,yyQ,fun x=>ytz x.1⟩:=zkI (yQg) func133 ntmps133.symm fun x=>by kernel_rfl
def yaw (a0:dM):dM:=a0
theorem yYo (a0:dM) (hk:zjx ypO (a0,())):ytz a0=(fun n=>some ((n,()),())) (yaw a0):=by
 have hb1:a0.1.length*24≤2^47:=hk.1.1.1;have hb2:a0.2.1.length*32≤2^47:=hk.1.2.1.1
 have h1:yqt (yOr a0.1 a0.1.length a0 yc ([],[],a0.2.2.1,a0.2.2.2))=some (.inl (yAZ a0 yc (a0.1,[],a0.2.2.1,a0.2.2.2))):=by
  have:=zkx (step:=yck) a0.1 [] (fun i s=>yoQ a0.1 a0.1.length i a0 yc (s,[],a0.2.2.1,a0.2.2.2)) (fun s x=>s++ [x]) (fun i s=>s.length=i) (fun s=> .inl (yAZ a0 yc (s,[],a0.2.2.1,a0.2.2.2))) (fun i s hi hs2=>⟨by
   simp only[yck,yoQ,ypj,zky (show(i:Int)<a0.1.length by omega),cond_true,wq ((i:Int)+1) (by omega) (by omega),Int.natCast_add,Int.natCast_one,Int.toNat_natCast,zkR hi,zkS,yn]
   rw[zkF.2 (show(s.length+ [a0.1.getD i []].length)*24≤140737488355328 by simp only[List.length_cons,List.length_nil]; omega)]; rfl,by simp[hs2]⟩) (fun s _=>by simp only[yck,yoQ,ypj,zk3 (Int.le_refl _),cond_false]) [] rfl 18446744073709551616 (by omega)
  rw[ys9]at this;exact this
 have h2:yqu (yOs a0.2.1 a0.2.1.length yc (a0.1,[],a0.2.2.1,a0.2.2.2))=some (.inl (yA0 yc a0)):=by
  have:=zkx (step:=ycl) a0.2.1 (0,[]) (fun i s=>yoR a0.2.1 a0.2.1.length i yc (a0.1,s,a0.2.2.1,a0.2.2.2)) (fun s x=>s++ [x]) (fun i s=>s.length=i) (fun s=> .inl (yA0 yc (a0.1,s,a0.2.2.1,a0.2.2.2))) (fun i s hi hs2=>⟨by
   simp only[ycl,yoR,ypk,zky (show(i:Int)<a0.2.1.length by omega),cond_true,wq ((i:Int)+1) (by omega) (by omega),Int.natCast_add,Int.natCast_one,Int.toNat_natCast,zkR hi,zkS,yn,zkX]
   rw[zkF.2 (show(s.length+ [a0.2.1.getD i (0,[])].length)*32≤140737488355328 by simp only[List.length_cons,List.length_nil]; omega)]; rfl,by simp[hs2]⟩) (fun s _=>by simp only[ycl,yoR,ypk,zk3 (Int.le_refl _),cond_false]) [] rfl 18446744073709551616 (by omega)
  rw[ys9]at this;exact this
 unfold ytz yaw;simp only[yn,h1,zkN,h2]
def yhJ:Con:=⟨ypO,yyQ,fun x=>(fun n=>some ((n,()),())) (yaw x.1)⟩
theorem yog:ConOk prog 133 yhJ:=(yU5).mono (fun x r hk h=>(yYo x.1 hk).trans h)
def ynm:Code:=(f74.body).getD .skip
def yuA:Env:=zkw TT [(133,yhJ)] []
theorem yNL:FrOk prog ⟨yuA,20,fun _=>none⟩ ynm:=zkA mixed yd ⟨yog,trivial⟩
def yC2:Nat→Option Seg:=fun _=>none
def ybs:Shape:=⟨[(3,false,[.at 800000000]),(7,false,[.br tM]),(8,false,[.int .i64]),(9,false,[.int .i64])],[],[(800000000,tM,(.pr (.ow (.ow .fz)) (.pr (.ow (.pr .fz (.ow .fz))) (.pr .fz (.ow .fz)))))]⟩
def yfv:Shape:=⟨[(3,false,[.at 800000000]),(7,false,[.br tM]),(8,false,[.int .i64]),(9,false,[.ci .i64 0])],[],[(800000000,tM,(.pr (.ow (.ow .fz)) (.pr (.ow (.pr .fz (.ow .fz))) (.pr .fz (.ow .fz)))))]⟩
def yfk:Shape:=⟨[(3,false,[.at 800000000])],[],[(800000000,tM,(.pr (.ow (.ow .fz)) (.pr (.ow (.pr .fz (.ow .fz))) (.pr .fz (.ow .fz)))))]⟩
def yi5:Shape:=⟨[],[],[]⟩
abbrev ym0 (v0:List dM) (v1 v2:Int) (v3:List dM):(ybs).X:=((((),()),(v0,()),(v1,()),(v2,()),()),(),(v3,()))
abbrev yMz (v0:List dM) (v1:Int) (v2:List dM):(yfv).X:=((((),()),(v0,()),(v1,()),((),()),()),(),(v2,()))
abbrev yMr (v0:List dM):(yfk).X:=((((),()),()),(),(v0,()))
def yne (v0:List dM) (v1 v2:Int) (v3:List dM):Option ((ybs).X ⊕ ((yfk).X ⊕ (yi5).X)) :=bif(ltb v2 v1)then bif(inb v2 v0.length)then let r2:=yaw ((nth v0 v2 ([],[],false,[])).1,((nth v0 v2 ([],[],false,[])).2).1,(((nth v0 v2 ([],[],false,[])).2).2));bif(zkl v3.length ([r2]:List dM).length 80)then some (.inl ((((),()),(v0,()),(v1,()),((i64.wrap (v2+1)),()),()),(),((v3++([r2]:List dM)),()))) else none else none else some (.inr (.inl ((((),()),()),(),(v3,()))))
def ybP (x:(ybs).X):=yne x.1.2.1.1 x.1.2.2.1.1 x.1.2.2.2.1.1 x.2.2.1
def yxB (x:(yfv).X):(ybs).X:=((((),()),(x.1.2.1.1,()),(x.1.2.2.1.1,()),(0,()),()),(),(x.2.2.1,()))
def yz9:Code:=(zd7 ynm 64 116).getD .skip
theorem yNh:zd7 ynm 64 29=some (.block 0 (.loop yz9)):=by kernel_rfl
theorem yPa (x:(ybs).X):zhu ⟨yuA,20,yC2⟩ 0 yz9 116 ybs yfk yi5 x=ybP x:=by kernel_rfl
def yxN (x:(yfv).X):Nat:=18446744073709551616
def yoq (x:(yfv).X):Option ((yfk).X ⊕ (yi5).X):=zF ybP (yxN x) (yxB x)
def yx8:Seg:=⟨yfv,yfk,yi5,yoq⟩
def yPB:Nat→Option Seg:=fun q=>bif Nat.beq q 29 then some yx8 else yC2 q
theorem yNM:FrOk prog ⟨yuA,20,yPB⟩ ynm:=(yNL).loop (sg:=yx8) ybs yxB (by decide) yNh ybP yxN (by decide) (fun _=>rfl) (fun x r _ h=>h) yPa
abbrev ynC:List Par:= [.rd tMs]
abbrev yvm:List OT:= [⟨false,tMs,(.ow (.pr (.ow (.ow .fz)) (.pr (.ow (.pr .fz (.ow .fz))) (.pr .fz (.ow .fz)))))⟩]
def yrn (a0:List dM):Option (zaY yvm×zak ynC) :=zkt (yoq ((((),()),(a0,()),((a0.length:Int),()),((),()),()),(),(([]:List dM),()))) (fun y2 =>some ((y2.2.2.1,()),())) (fun y2 =>none)
theorem yRu:ConOk prog 74 ⟨ynC,yvm,fun x=>yrn x.1⟩:=zkI (yNM) func74 ntmps74.symm fun x=>by kernel_rfl
def yfS (a0:List dM):List dM:=a0
theorem yUI (a0:List dM) (hk:zjx ynC (a0,())):yrn a0=(fun n=>some ((n,()),())) (yfS a0):=by
 have hb:a0.length*80≤2^47:=hk.1.1
 have h1:=zkx (step:=ybP) a0 yc (fun i s=>ym0 a0 a0.length i s) (fun s x=>s++ [x]) (fun i s=>s.length=i) (fun s=> .inl (yMr s)) (fun i s hi hs=>⟨by
   simp only[ybP,ym0,yne,zky (show(i:Int)<a0.length by omega),cond_true,wq ((i:Int)+1) (by omega) (by omega),Int.natCast_add,Int.natCast_one,Int.toNat_natCast,zkR hi,zkS,yaw,zkX]
   rw[zkF.2 (show(s.length+ [a0.getD i ([],[],false,[])].length)*80≤140737488355328 by simp only[List.length_cons,List.length_nil]; omega)]; rfl,by simp[hs]⟩) (fun s hs=>by simp only[ybP,ym0,yne,zk3 (Int.le_refl _),cond_false]) [] rfl 18446744073709551616 (by omega)
 rw[ys9]at h1;unfold yrn yfS;rw[show yoq (yMz a0 a0.length [])=_ from h1]; rfl
def yqR:Con:=⟨ynC,yvm,fun x=>(fun n=>some ((n,()),())) (yfS x.1)⟩
theorem yGZ:ConOk prog 74 yqR:=(yRu).mono (fun x r hk h=>(yUI x.1 hk).trans h)
def ydr:Code:=(f16.body).getD .skip
def yij:Env:=zkw TT [(55,yp8),(73,yDy),(74,yqR)] []
theorem yNA:FrOk prog ⟨yij,109,fun _=>none⟩ ydr:=zkA mixed yd ⟨yCM,yVC,yGZ,trivial⟩
def yC0:Nat→Option Seg:=fun _=>none
def ybp:Shape:=⟨[(0,false,[.br tM]),(1,false,[.int .i64]),(4,false,[.ptr 0 0]),(6,false,[.ptr 4160 0]),(7,false,[.bool]),(18,false,[.br tM]),(19,false,[.int .i64]),(20,false,[.int .i64])],[(0,[.int .i64,.int .i64,.int .i64,.nil,.int .i64,.int .i64,.int .i64,.int .i64,.int .i64,.nil,.int .i64,.bool,.bool]),(4160,[.int .i64,.int .i64,.int .i64,.int .i64,.int .i64,.int .i64,.int .i64,.int .i64])],[]⟩
def yfs:Shape:=⟨[(0,false,[.br tM]),(1,false,[.int .i64]),(4,false,[.ptr 0 0]),(6,false,[.ptr 4160 0]),(7,false,[.cb false]),(18,false,[.br tM]),(19,false,[.int .i64]),(20,false,[.ci .i64 0])],[(0,[.int .i64,.int .i64,.int .i64,.nil,.int .i64,.int .i64,.int .i64,.int .i64,.int .i64,.nil,.int .i64,.bool,.bool]),(4160,[.int .i64,.int .i64,.int .i64,.int .i64,.int .i64,.int .i64,.int .i64,.int .i64])],[]⟩
def yfh:Shape:=⟨[(0,false,[.br tM]),(1,false,[.int .i64]),(4,false,[.ptr 0 0]),(6,false,[.ptr 4160 0]),(7,false,[.bool])],[(0,[.int .i64,.int .i64,.int .i64,.nil,.int .i64,.int .i64,.int .i64,.int .i64,.int .i64,.nil,.int .i64,.bool,.bool]),(4160,[.int .i64,.int .i64,.int .i64,.int .i64,.int .i64,.int .i64,.int .i64,.int .i64])],[]⟩
def yiZ:Shape:=⟨[],[],[]⟩
abbrev ymX (v0:List dM) (v1:Int) (v2:Bool) (v3:List dM) (v4 v5:Int) (v6:dA) (v7:dS):(ybp).X:=(((v0,()),(v1,()),((),()),((),()),(v2,()),(v3,()),(v4,()),(v5,()),()),((v6.1,v6.2.1.1,v6.2.1.2,(),v6.2.2.2.1,v6.2.2.2.2.1,v6.2.2.2.2.2.1,v6.2.2.2.2.2.2.1,v6.2.2.2.2.2.2.2.1,(),v6.2.2.2.2.2.2.2.2.2.1,v6.2.2.2.2.2.2.2.2.2.2.1,v6.2.2.2.2.2.2.2.2.2.2.2,()),(v7.1,v7.2.1,v7.2.2.1,v7.2.2.2.1,v7.2.2.2.2.1,v7.2.2.2.2.2.1,v7.2.2.2.2.2.2.1,v7.2.2.2.2.2.2.2,()),()),())
abbrev yMw (v0:List dM) (v1:Int) (v2:List dM) (v3:Int) (v4:dA) (v5:dS):(yfs).X:=(((v0,()),(v1,()),((),()),((),()),((),()),(v2,()),(v3,()),((),()),()),((v4.1,v4.2.1.1,v4.2.1.2,(),v4.2.2.2.1,v4.2.2.2.2.1,v4.2.2.2.2.2.1,v4.2.2.2.2.2.2.1,v4.2.2.2.2.2.2.2.1,(),v4.2.2.2.2.2.2.2.2.2.1,v4.2.2.2.2.2.2.2.2.2.2.1,v4.2.2.2.2.2.2.2.2.2.2.2,()),(v5.1,v5.2.1,v5.2.2.1,v5.2.2.2.1,v5.2.2.2.2.1,v5.2.2.2.2.2.1,v5.2.2.2.2.2.2.1,v5.2.2.2.2.2.2.2,()),()),())
abbrev yxU (v0:List dM) (v1:Int) (v2:Bool) (v3:dA) (v4:dS):(yfh).X:=(((v0,()),(v1,()),((),()),((),()),(v2,()),()),((v3.1,v3.2.1.1,v3.2.1.2,(),v3.2.2.2.1,v3.2.2.2.2.1,v3.2.2.2.2.2.1,v3.2.2.2.2.2.2.1,v3.2.2.2.2.2.2.2.1,(),v3.2.2.2.2.2.2.2.2.2.1,v3.2.2.2.2.2.2.2.2.2.2.1,v3.2.2.2.2.2.2.2.2.2.2.2,()),(v4.1,v4.2.1,v4.2.2.1,v4.2.2.2.1,v4.2.2.2.2.1,v4.2.2.2.2.2.1,v4.2.2.2.2.2.2.1,v4.2.2.2.2.2.2.2,()),()),())
def ynb (v0:List dM) (v1:Int) (v2:Bool) (v3:List dM) (v4 v5 v6 v7 v8 v9 v10 v11 v12 v13 v14:Int) (v15 v16:Bool) (v17 v18 v19 v20 v21 v22 v23 v24:Int):Option ((ybp).X ⊕ ((yfh).X ⊕ (yiZ).X)) :=bif(ltb v5 v4)then bif(inb v5 v3.length)then let r2:=ydS ((nth v3 v5 ([],[],false,[])).1,((nth v3 v5 ([],[],false,[])).2).1,(((nth v3 v5 ([],[],false,[])).2).2)) v5 v1;bif r2.2 then bif(!(!v2))then bif(ltb v18 r2.1.2.1)then some (.inl (((v0,()),(v1,()),((),()),((),()),(true,()),(v3,()),(v4,()),((i64.wrap (v5+1)),()),()),((v6,v7,v8,(),v9,v10,v11,v12,v13,(),v14,v15,v16,()),(r2.1.1,r2.1.2.1,r2.1.2.2.1,r2.1.2.2.2.1,r2.1.2.2.2.2.1,r2.1.2.2.2.2.2.1,r2.1.2.2.2.2.2.2.1,r2.1.2.2.2.2.2.2.2,()),()),())) else some (.inl (((v0,()),(v1,()),((),()),((),()),(v2,()),(v3,()),(v4,()),((i64.wrap (v5+1)),()),()),((v6,v7,v8,(),v9,v10,v11,v12,v13,(),v14,v15,v16,()),(v17,v18,v19,v20,v21,v22,v23,v24,()),()),())) else some (.inl (((v0,()),(v1,()),((),()),((),()),(true,()),(v3,()),(v4,()),((i64.wrap (v5+1)),()),()),((v6,v7,v8,(),v9,v10,v11,v12,v13,(),v14,v15,v16,()),(r2.1.1,r2.1.2.1,r2.1.2.2.1,r2.1.2.2.2.1,r2.1.2.2.2.2.1,r2.1.2.2.2.2.2.1,r2.1.2.2.2.2.2.2.1,r2.1.2.2.2.2.2.2.2,()),()),())) else some (.inl (((v0,()),(v1,()),((),()),((),()),(v2,()),(v3,()),(v4,()),((i64.wrap (v5+1)),()),()),((v6,v7,v8,(),v9,v10,v11,v12,v13,(),v14,v15,v16,()),(v17,v18,v19,v20,v21,v22,v23,v24,()),()),())) else none else some (.inr (.inl (((v0,()),(v1,()),((),()),((),()),(v2,()),()),((v6,v7,v8,(),v9,v10,v11,v12,v13,(),v14,v15,v16,()),(v17,v18,v19,v20,v21,v22,v23,v24,()),()),())))
def ybM (x:(ybp).X):=ynb x.1.1.1 x.1.2.1.1 x.1.2.2.2.2.1.1 x.1.2.2.2.2.2.1.1 x.1.2.2.2.2.2.2.1.1 x.1.2.2.2.2.2.2.2.1.1 x.2.1.1.1 x.2.1.1.2.1 x.2.1.1.2.2.1 x.2.1.1.2.2.2.2.1 x.2.1.1.2.2.2.2.2.1 x.2.1.1.2.2.2.2.2.2.1 x.2.1.1.2.2.2.2.2.2.2.1 x.2.1.1.2.2.2.2.2.2.2.2.1 x.2.1.1.2.2.2.2.2.2.2.2.2.2.1 x.2.1.1.2.2.2.2.2.2.2.2.2.2.2.1 x.2.1.1.2.2.2.2.2.2.2.2.2.2.2.2.1 x.2.1.2.1.1 x.2.1.2.1.2.1 x.2.1.2.1.2.2.1 x.2.1.2.1.2.2.2.1 x.2.1.2.1.2.2.2.2.1 x.2.1.2.1.2.2.2.2.2.1 x.2.1.2.1.2.2.2.2.2.2.1 x.2.1.2.1.2.2.2.2.2.2.2.1
def yxy (x:(yfs).X):(ybp).X:=(((x.1.1.1,()),(x.1.2.1.1,()),((),()),((),()),(false,()),(x.1.2.2.2.2.2.1.1,()),(x.1.2.2.2.2.2.2.1.1,()),(0,()),()),((x.2.1.1.1,x.2.1.1.2.1,x.2.1.1.2.2.1,(),x.2.1.1.2.2.2.2.1,x.2.1.1.2.2.2.2.2.1,x.2.1.1.2.2.2.2.2.2.1,x.2.1.1.2.2.2.2.2.2.2.1,x.2.1.1.2.2.2.2.2.2.2.2.1,(),x.2.1.1.2.2.2.2.2.2.2.2.2.2.1,x.2.1.1.2.2.2.2.2.2.2.2.2.2.2.1,x.2.1.1.2.2.2.2.2.2.2.2.2.2.2.2.1,()),(x.2.1.2.1.1,x.2.1.2.1.2.1,x.2.1.2.1.2.2.1,x.2.1.2.1.2.2.2.1,x.2.1.2.1.2.2.2.2.1,x.2.1.2.1.2.2.2.2.2.1,x.2.1.2.1.2.2.2.2.2.2.1,x.2.1.2.1.2.2.2.2.2.2.2.1,()),()),())
def yz6:Code:=(zd7 ydr 64 116).getD .skip
theorem yNe:zd7 ydr 64 29=some (.block 0 (.loop yz6)):=by kernel_rfl
theorem yO7 (x:(ybp).X):zhu ⟨yij,109,yC0⟩ 0 yz6 116 ybp yfh yiZ x=ybM x:=by kernel_rfl
def yxK (x:(yfs).X):Nat:=18446744073709551616
def yoo (x:(yfs).X):Option ((yfh).X ⊕ (yiZ).X):=zF ybM (yxK x) (yxy x)
def yx5:Seg:=⟨yfs,yfh,yiZ,yoo⟩
def yqo:Nat→Option Seg:=fun q=>bif Nat.beq q 29 then some yx5 else yC0 q
theorem yNB:FrOk prog ⟨yij,109,yqo⟩ ydr:=(yNA).loop (sg:=yx5) ybp yxy (by decide) yNe ybM yxK (by decide) (fun _=>rfl) (fun x r _ h=>h) yO7
def yaZ:Shape:=⟨[(1,false,[.int .i64]),(4,false,[.ptr 0 0]),(12,false,[.ptr 46272 0]),(75,false,[.br tM]),(76,false,[.int .i64]),(77,false,[.int .i64])],[(0,[.int .i64,.int .i64,.int .i64,.nil,.int .i64,.int .i64,.int .i64,.int .i64,.int .i64,.nil,.int .i64,.bool,.bool]),(46272,[.int .i64,.int .i64,.int .i64,.at 800000000,.int .i64,.int .i64,.int .i64,.int .i64,.int .i64,.nil,.int .i64,.bool,.bool])],[(800000000,tM,(.pr (.ow (.ow .fz)) (.pr (.ow (.pr .fz (.ow .fz))) (.pr .fz (.ow .fz)))))]⟩
def yeB:Shape:=⟨[(1,false,[.int .i64]),(4,false,[.ptr 0 0]),(12,false,[.ptr 46272 0]),(75,false,[.br tM]),(76,false,[.int .i64]),(77,false,[.ci .i64 0])],[(0,[.int .i64,.int .i64,.int .i64,.nil,.int .i64,.int .i64,.int .i64,.int .i64,.int .i64,.nil,.int .i64,.bool,.bool]),(46272,[.int .i64,.int .i64,.int .i64,.at 800000000,.int .i64,.int .i64,.int .i64,.int .i64,.int .i64,.nil,.int .i64,.bool,.bool])],[(800000000,tM,(.pr (.ow (.ow .fz)) (.pr (.ow (.pr .fz (.ow .fz))) (.pr .fz (.ow .fz)))))]⟩
def yes:Shape:=⟨[(4,false,[.ptr 0 0]),(12,false,[.ptr 46272 0])],[(0,[.int .i64,.int .i64,.int .i64,.nil,.int .i64,.int .i64,.int .i64,.int .i64,.int .i64,.nil,.int .i64,.bool,.bool]),(46272,[.int .i64,.int .i64,.int .i64,.at 800000000,.int .i64,.int .i64,.int .i64,.int .i64,.int .i64,.nil,.int .i64,.bool,.bool])],[(800000000,tM,(.pr (.ow (.ow .fz)) (.pr (.ow (.pr .fz (.ow .fz))) (.pr .fz (.ow .fz)))))]⟩
def yhX:Shape:=⟨[],[],[]⟩
abbrev ylM (v0:Int) (v1:List dM) (v2 v3:Int) (v4 v5:dA):(yaZ).X:=(((v0,()),((),()),((),()),(v1,()),(v2,()),(v3,()),()),((v4.1,v4.2.1.1,v4.2.1.2,(),v4.2.2.2.1,v4.2.2.2.2.1,v4.2.2.2.2.2.1,v4.2.2.2.2.2.2.1,v4.2.2.2.2.2.2.2.1,(),v4.2.2.2.2.2.2.2.2.2.1,v4.2.2.2.2.2.2.2.2.2.2.1,v4.2.2.2.2.2.2.2.2.2.2.2,()),(v5.1,v5.2.1.1,v5.2.1.2,(),v5.2.2.2.1,v5.2.2.2.2.1,v5.2.2.2.2.2.1,v5.2.2.2.2.2.2.1,v5.2.2.2.2.2.2.2.1,(),v5.2.2.2.2.2.2.2.2.2.1,v5.2.2.2.2.2.2.2.2.2.2.1,v5.2.2.2.2.2.2.2.2.2.2.2,()),()),(v5.2.2.1,()))
abbrev yLi (v0:Int) (v1:List dM) (v2:Int) (v3 v4:dA):(yeB).X:=(((v0,()),((),()),((),()),(v1,()),(v2,()),((),()),()),((v3.1,v3.2.1.1,v3.2.1.2,(),v3.2.2.2.1,v3.2.2.2.2.1,v3.2.2.2.2.2.1,v3.2.2.2.2.2.2.1,v3.2.2.2.2.2.2.2.1,(),v3.2.2.2.2.2.2.2.2.2.1,v3.2.2.2.2.2.2.2.2.2.2.1,v3.2.2.2.2.2.2.2.2.2.2.2,()),(v4.1,v4.2.1.1,v4.2.1.2,(),v4.2.2.2.1,v4.2.2.2.2.1,v4.2.2.2.2.2.1,v4.2.2.2.2.2.2.1,v4.2.2.2.2.2.2.2.1,(),v4.2.2.2.2.2.2.2.2.2.1,v4.2.2.2.2.2.2.2.2.2.2.1,v4.2.2.2.2.2.2.2.2.2.2.2,()),()),(v4.2.2.1,()))
abbrev ywt (v0 v1:dA):(yes).X:=((((),()),((),()),()),((v0.1,v0.2.1.1,v0.2.1.2,(),v0.2.2.2.1,v0.2.2.2.2.1,v0.2.2.2.2.2.1,v0.2.2.2.2.2.2.1,v0.2.2.2.2.2.2.2.1,(),v0.2.2.2.2.2.2.2.2.2.1,v0.2.2.2.2.2.2.2.2.2.2.1,v0.2.2.2.2.2.2.2.2.2.2.2,()),(v1.1,v1.2.1.1,v1.2.1.2,(),v1.2.2.2.1,v1.2.2.2.2.1,v1.2.2.2.2.2.1,v1.2.2.2.2.2.2.1,v1.2.2.2.2.2.2.2.1,(),v1.2.2.2.2.2.2.2.2.2.1,v1.2.2.2.2.2.2.2.2.2.2.1,v1.2.2.2.2.2.2.2.2.2.2.2,()),()),(v1.2.2.1,()))
def yl3 (v0:Int) (v1:List dM) (v2 v3 v4 v5 v6 v7 v8 v9 v10 v11 v12:Int) (v13 v14:Bool) (v15 v16 v17 v18 v19 v20 v21 v22 v23:Int) (v24 v25:Bool) (v26:List dM):Option ((yaZ).X ⊕ ((yes).X ⊕ (yhX).X)) :=bif(ltb v3 v2)then bif(inb v3 v1.length)then let r6:=ydS ((nth v1 v3 ([],[],false,[])).1,((nth v1 v3 ([],[],false,[])).2).1,(((nth v1 v3 ([],[],false,[])).2).2)) v3 v0;bif r6.2 then some (.inl (((v0,()),((),()),((),()),(v1,()),(v2,()),((i64.wrap (v3+1)),()),()),((v4,v5,v6,(),v7,v8,v9,v10,v11,(),v12,v13,v14,()),(v15,v16,v17,(),v18,v19,v20,v21,v22,(),v23,v24,v25,()),()),(v26,()))) else bif(!(v18==(-1)))then bif(v18==v3)then some (.inl (((v0,()),((),()),((),()),(v1,()),(v2,()),((i64.wrap (v3+1)),()),()),((v4,v5,v6,(),v7,v8,v9,v10,v11,(),v12,v13,v14,()),(v15,v16,v17,(),v3,0,v20,v21,v22,(),v23,v24,v25,()),()),(v26,()))) else some (.inl (((v0,()),((),()),((),()),(v1,()),(v2,()),((i64.wrap (v3+1)),()),()),((v4,v5,v6,(),v7,v8,v9,v10,v11,(),v12,v13,v14,()),(v15,v16,v17,(),v18,v19,v20,v21,v22,(),v23,v24,true,()),()),(v26,()))) else some (.inl (((v0,()),((),()),((),()),(v1,()),(v2,()),((i64.wrap (v3+1)),()),()),((v4,v5,v6,(),v7,v8,v9,v10,v11,(),v12,v13,v14,()),(v15,v16,v17,(),v3,0,v20,v21,v22,(),v23,v24,v25,()),()),(v26,()))) else none else some (.inr (.inl ((((),()),((),()),()),((v4,v5,v6,(),v7,v8,v9,v10,v11,(),v12,v13,v14,()),(v15,v16,v17,(),v18,v19,v20,v21,v22,(),v23,v24,v25,()),()),(v26,()))))
def ybe (x:(yaZ).X):=yl3 x.1.1.1 x.1.2.2.2.1.1 x.1.2.2.2.2.1.1 x.1.2.2.2.2.2.1.1 x.2.1.1.1 x.2.1.1.2.1 x.2.1.1.2.2.1 x.2.1.1.2.2.2.2.1 x.2.1.1.2.2.2.2.2.1 x.2.1.1.2.2.2.2.2.2.1 x.2.1.1.2.2.2.2.2.2.2.1 x.2.1.1.2.2.2.2.2.2.2.2.1 x.2.1.1.2.2.2.2.2.2.2.2.2.2.1 x.2.1.1.2.2.2.2.2.2.2.2.2.2.2.1 x.2.1.1.2.2.2.2.2.2.2.2.2.2.2.2.1 x.2.1.2.1.1 x.2.1.2.1.2.1 x.2.1.2.1.2.2.1 x.2.1.2.1.2.2.2.2.1 x.2.1.2.1.2.2.2.2.2.1 x.2.1.2.1.2.2.2.2.2.2.1 x.2.1.2.1.2.2.2.2.2.2.2.1 x.2.1.2.1.2.2.2.2.2.2.2.2.1 x.2.1.2.1.2.2.2.2.2.2.2.2.2.2.1 x.2.1.2.1.2.2.2.2.2.2.2.2.2.2.2.1 x.2.1.2.1.2.2.2.2.2.2.2.2.2.2.2.2.1 x.2.2.1
def yv3 (x:(yeB).X):(yaZ).X:=(((x.1.1.1,()),((),()),((),()),(x.1.2.2.2.1.1,()),(x.1.2.2.2.2.1.1,()),(0,()),()),((x.2.1.1.1,x.2.1.1.2.1,x.2.1.1.2.2.1,(),x.2.1.1.2.2.2.2.1,x.2.1.1.2.2.2.2.2.1,x.2.1.1.2.2.2.2.2.2.1,x.2.1.1.2.2.2.2.2.2.2.1,x.2.1.1.2.2.2.2.2.2.2.2.1,(),x.2.1.1.2.2.2.2.2.2.2.2.2.2.1,x.2.1.1.2.2.2.2.2.2.2.2.2.2.2.1,x.2.1.1.2.2.2.2.2.2.2.2.2.2.2.2.1,()),(x.2.1.2.1.1,x.2.1.2.1.2.1,x.2.1.2.1.2.2.1,(),x.2.1.2.1.2.2.2.2.1,x.2.1.2.1.2.2.2.2.2.1,x.2.1.2.1.2.2.2.2.2.2.1,x.2.1.2.1.2.2.2.2.2.2.2.1,x.2.1.2.1.2.2.2.2.2.2.2.2.1,(),x.2.1.2.1.2.2.2.2.2.2.2.2.2.2.1,x.2.1.2.1.2.2.2.2.2.2.2.2.2.2.2.1,x.2.1.2.1.2.2.2.2.2.2.2.2.2.2.2.2.1,()),()),(x.2.2.1,()))
def yxk:Code:=(zd7 ydr 64 1012).getD .skip
theorem yL5:zd7 ydr 64 253=some (.block 2 (.loop yxk)):=by kernel_rfl
theorem yMT (x:(yaZ).X):zhu ⟨yij,109,yqo⟩ 2 yxk 1012 yaZ yes yhX x=ybe x:=by kernel_rfl
def ywe (x:(yeB).X):Nat:=18446744073709551616
def ymJ (x:(yeB).X):Option ((yes).X ⊕ (yhX).X):=zF ybe (ywe x) (yv3 x)
def yw4:Seg:=⟨yeB,yes,yhX,ymJ⟩
def yPz:Nat→Option Seg:=fun q=>bif Nat.beq q 253 then some yw4 else yqo q
theorem yNC:FrOk prog ⟨yij,109,yPz⟩ ydr:=(yNB).loop (sg:=yw4) yaZ yv3 (by decide) yL5 ybe ywe (by decide) (fun _=>rfl) (fun x r _ h=>h) yMT
abbrev ynv:List Par:= [.rd tMs,.rd tI]
abbrev yve:List OT:= [⟨false,tA,(.pr .fz (.pr (.pr .fz .fz) (.pr (.ow (.pr (.ow (.ow .fz)) (.pr (.ow (.pr .fz (.ow .fz))) (.pr .fz (.ow .fz))))) (.pr .fz (.pr .fz (.pr .fz (.pr .fz (.pr .fz (.pr (.ow (.pr .fz (.ow .fz))) (.pr .fz (.pr .fz .fz)))))))))))⟩,⟨false,tB,.fz⟩]
def yrg (a0:List dM) (a1:Int):Option (zaY yve×zak ynv) :=zkt (yoo (((a0,()),(a1,()),((),()),((),()),((),()),(a0,()),((a0.length:Int),()),((),()),()),((0,0,0,(),0,0,0,0,0,(),0,false,false,()),(0,0,0,0,0,0,0,0,()),()),())) (fun y2 =>bif(!(!y2.1.2.2.2.2.1.1))then bif((y2.1.1.1.length:Int) !=y2.2.1.2.1.2.2.2.1)then some (((0,(0,0),[],0,0,0,0,0,[],0,false,false),false,()),()) else let r4:=yfS y2.1.1.1;zkt (ymJ (((y2.1.2.1.1,()),((),()),((),()),(y2.1.1.1,()),((y2.1.1.1.length:Int),()),((),()),()),((y2.2.1.1.1,y2.2.1.1.2.1,y2.2.1.1.2.2.1,(),y2.2.1.1.2.2.2.2.1,y2.2.1.1.2.2.2.2.2.1,y2.2.1.1.2.2.2.2.2.2.1,y2.2.1.1.2.2.2.2.2.2.2.1,y2.2.1.1.2.2.2.2.2.2.2.2.1,(),y2.2.1.1.2.2.2.2.2.2.2.2.2.2.1,y2.2.1.1.2.2.2.2.2.2.2.2.2.2.2.1,y2.2.1.1.2.2.2.2.2.2.2.2.2.2.2.2.1,()),(y2.1.2.1.1,y2.2.1.2.1.2.2.2.1,y2.2.1.2.1.2.2.2.2.1,(),y2.2.1.2.1.2.2.2.2.2.2.1,y2.2.1.2.1.2.2.2.2.2.2.2.1,y2.2.1.2.1.2.2.2.2.2.1,y2.2.1.2.1.2.2.2.2.2.1,y2.2.1.2.1.2.1,(),(-1),false,false,()),()),(r4,()))) (fun y6 =>let r8:=ybA (y6.2.1.2.1.1,(y6.2.1.2.1.2.1,y6.2.1.2.1.2.2.1),y6.2.2.1,y6.2.1.2.1.2.2.2.2.1,y6.2.1.2.1.2.2.2.2.2.1,y6.2.1.2.1.2.2.2.2.2.2.1,y6.2.1.2.1.2.2.2.2.2.2.2.1,y6.2.1.2.1.2.2.2.2.2.2.2.2.1,[],y6.2.1.2.1.2.2.2.2.2.2.2.2.2.2.1,y6.2.1.2.1.2.2.2.2.2.2.2.2.2.2.2.1,y6.2.1.2.1.2.2.2.2.2.2.2.2.2.2.2.2.1);bif(!r8)then some (((0,(0,0),[],0,0,0,0,0,[],0,false,false),false,()),()) else some (((y6.2.1.2.1.1,(y6.2.1.2.1.2.1,y6.2.1.2.1.2.2.1),y6.2.2.1,y6.2.1.2.1.2.2.2.2.1,y6.2.1.2.1.2.2.2.2.2.1,y6.2.1.2.1.2.2.2.2.2.2.1,y6.2.1.2.1.2.2.2.2.2.2.2.1,y6.2.1.2.1.2.2.2.2.2.2.2.2.1,[],y6.2.1.2.1.2.2.2.2.2.2.2.2.2.2.1,y6.2.1.2.1.2.2.2.2.2.2.2.2.2.2.2.1,y6.2.1.2.1.2.2.2.2.2.2.2.2.2.2.2.2.1),true,()),())) (fun y6 =>none) else some (((0,(0,0),[],0,0,0,0,0,[],0,false,false),false,()),())) (fun y2 =>none)
theorem yRm:ConOk prog 16 ⟨ynv,yve,fun x=>yrg x.1 x.2.1⟩:=zkI (yNC) func16 ntmps16.symm fun x=>by kernel_rfl
def ydP (a0:List dM) (a1:Int):dA×Bool:=yca a0 a1
theorem yUA (a0:List dM) (a1:Int) (hk:zjx ynv (a0,a1,())):yrg a0 a1=(fun n=>some ((n.1,n.2,()),())) (ydP a0 a1):=by
 have hb:a0.length*80≤2^47:=hk.1.1
 have h0:yoo (yMw a0 a1 a0 a0.length yK yaD)=some (.inl (yxU a0 a1 (yan a0 a1).2 yK (yan a0 a1).1)) :=
  zkD (step:=ybM) a0.length (fun i (s:dS×Bool)=>ymX a0 a1 s.2 a0 a0.length i yK s.1) (fun(s:dS×Bool) (i:Nat)=>ymh s (ylX (nth a0 i yc) i a1) (yaW (nth a0 i yc) a1).1) (fun _ _=>True) (fun(s:dS×Bool)=> .inl (yxU a0 a1 s.2 yK s.1)) (fun i s hi _=>⟨by
  simp only[ybM,ymX,ynb,zky (show(i:Int)<a0.length by omega),cond_true,wq ((i:Int)+1) (by omega) (by omega),Int.natCast_add,Int.natCast_one,Int.toNat_natCast,zkR hi,zkX,ydS];cases ylX (nth a0 i yc) i a1
  ·rfl
  simp only[cond_true];unfold ymh
  cases hf:s.2<;>cases ltb s.1.2.1 (yaW (nth a0 i yc) a1).1.2.1<;>simp only[Bool.not_true,Bool.not_false,cond_true,cond_false,Bool.and_true,Bool.true_and,Bool.false_and,Bool.and_false,Bool.or_true,Bool.true_or,Bool.false_or,Bool.or_false,hf],trivial⟩) (fun s _=>by simp only[ybM,ymX,ynb,zk3 (Int.le_refl _),cond_false]) (yaD,false) trivial _ (by show _<18446744073709551616; omega)
 have h1: ∀(b:dS) (s:Int×Int×Bool),ymJ (yLi a1 a0 a0.length yK (yhI b a0 a1 s))=some (.inl (ywt yK (yhI b a0 a1 ((List.range a0.length).foldl (ykD a0 a1) s)))):=fun b s =>
  zkD (step:=ybe) a0.length (fun i s=>ylM a1 a0 a0.length i yK (yhI b a0 a1 s)) (ykD a0 a1) (fun _ _=>True) (fun s=> .inl (ywt yK (yhI b a0 a1 s))) (fun i s hi _=>⟨by
   simp only[ybe,ylM,yl3,zky (show(i:Int)<a0.length by omega),cond_true,wq ((i:Int)+1) (by omega) (by omega),Int.natCast_add,Int.natCast_one,Int.toNat_natCast,zkR hi,zkX,ydS,yhI];unfold ykD
   cases ylX (nth a0 i yc) i a1<;>cases(s.1== -1)<;>cases(s.1==(i:Int))<;>rfl,trivial⟩) (fun s _=>by simp only[ybe,ylM,yl3,zk3 (Int.le_refl _),cond_false]) s trivial _ (by show _<18446744073709551616; omega)
 unfold yrg ydP yca yJ0;refine(congrArg (fun z=>zkt z _ _) h0).trans ?_;simp only[zkN,yfS,bne];cases(yan a0 a1).2
 ·rfl
 cases((a0.length:Int)==(yan a0 a1).1.2.2.2.1)
 ·rfl
 have h2:=h1 (yan a0 a1).1 ((yan a0 a1).1.2.2.2.2.2.2.1,(yan a0 a1).1.2.2.2.2.2.2.2,false);simp only[Bool.not_true,Bool.not_false,cond_true,cond_false,Bool.true_and];refine(congrArg (fun z=>zkt z _ _) h2).trans ?_;simp only[zkN,ybA];show(bif !(yE (yhI (yan a0 a1).1 a0 a1 ((List.range a0.length).foldl (ykD a0 a1) ((yan a0 a1).1.2.2.2.2.2.2.1,(yan a0 a1).1.2.2.2.2.2.2.2,false))))then _ else _)=_;cases yE (yhI (yan a0 a1).1 a0 a1 ((List.range a0.length).foldl (ykD a0 a1) ((yan a0 a1).1.2.2.2.2.2.2.1,(yan a0 a1).1.2.2.2.2.2.2.2,false)))<;>rfl
def yqP:Con:=⟨ynv,yve,fun x=>(fun n=>some ((n.1,n.2,()),())) (ydP x.1 x.2.1)⟩
theorem yGX:ConOk prog 16 yqP:=(yRm).mono (fun x r hk h=>(yUA x.1 x.2.1 hk).trans h)
def yWh:Code:=(f199.body).getD .skip
def yWO:Env:=zkw TT [(195,ys4)] []
theorem yNZ:FrOk prog ⟨yWO,46,fun _=>none⟩ yWh:=zkA mixed yd ⟨yIT,trivial⟩
abbrev ynH:List Par:= [.rd tL]
abbrev yvv:List OT:= [⟨false,tS,(.pr .fz (.pr .fz (.pr .fz (.pr .fz (.pr .fz (.pr .fz (.pr .fz .fz)))))))⟩,⟨false,tB,.fz⟩]
def yrs (a0:List Int):Option (zaY yvv×zak ynH) :=bif(!((a0.length:Int) !=9))then bif(inb 0 a0.length)then bif((nth a0 0 0) !=21317)then some (((0,0,0,0,0,0,0,0),false,()),()) else bif(inb 1 a0.length)then bif(inb 2 a0.length)then bif(inb 3 a0.length)then bif(inb 4 a0.length)then bif(inb 5 a0.length)then bif(inb 6 a0.length)then bif(inb 7 a0.length)then bif(inb 8 a0.length)then let r1:=yC ((nth a0 1 0),(nth a0 2 0),(nth a0 3 0),(nth a0 4 0),(nth a0 5 0),(nth a0 6 0),(i64.wrap ((nth a0 7 0)-1)),(nth a0 8 0));bif(!r1)then some (((0,0,0,0,0,0,0,0),false,()),()) else some ((((nth a0 1 0),(nth a0 2 0),(nth a0 3 0),(nth a0 4 0),(nth a0 5 0),(nth a0 6 0),(i64.wrap ((nth a0 7 0)-1)),(nth a0 8 0)),true,()),()) else none else none else none else none else none else none else none else none else none else some (((0,0,0,0,0,0,0,0),false,()),())
theorem yRD:ConOk prog 199 ⟨ynH,yvv,fun x=>yrs x.1⟩:=zkI (yNZ) func199 ntmps199.symm fun x=>by kernel_rfl
def yjq (a0:List Int):dS×Bool:=ydO a0
theorem yUO (a0:List Int) (hk:zjx ynH (a0,())):yrs a0=(fun n=>some ((n.1,n.2,()),())) (yjq a0):=by
 unfold yrs yjq ydO;by_cases h:(a0.length:Int)=9
 ·simp only[bne,h,beq_self_eq_true,zj6.2 (show(0:Int)≤0∧(0:Int)<a0.length by omega),zj6.2 (show(0:Int)≤1∧(1:Int)<a0.length by omega),zj6.2 (show(0:Int)≤2∧(2:Int)<a0.length by omega),zj6.2 (show(0:Int)≤3∧(3:Int)<a0.length by omega),zj6.2 (show(0:Int)≤4∧(4:Int)<a0.length by omega),zj6.2 (show(0:Int)≤5∧(5:Int)<a0.length by omega),zj6.2 (show(0:Int)≤6∧(6:Int)<a0.length by omega),zj6.2 (show(0:Int)≤7∧(7:Int)<a0.length by omega),zj6.2 (show(0:Int)≤8∧(8:Int)<a0.length by omega)]
  rw[show yC (nth a0 1 0,nth a0 2 0,nth a0 3 0,nth a0 4 0,nth a0 5 0,nth a0 6 0,i64.wrap (nth a0 7 0-1),nth a0 8 0)=yC (yED a0)from rfl];cases(nth a0 0 0==21317)<;>cases yC (yED a0)<;>rfl
 ·rw[show((a0.length:Int) !=9)=true from bne_iff_ne.2 h,show((a0.length:Int)==9)=false from beq_eq_false_iff_ne.2 h]; rfl
def yDB:Con:=⟨ynH,yvv,fun x=>(fun n=>some ((n.1,n.2,()),())) (yjq x.1)⟩
theorem yVF:ConOk prog 199 yDB:=(yRD).mono (fun x r hk h=>(yUO x.1 hk).trans h)
def ylk:Code:=(f149.body).getD .skip
def ysE:Env:=zkw TT [(90,ylI),(199,yDB)] []
theorem yMn:FrOk prog ⟨ysE,60,fun _=>none⟩ ylk:=zkA mixed yd ⟨ywE,yVF,trivial⟩
def yzZ:Nat→Option Seg:=fun _=>none
def ya4:Shape:=⟨[(1,false,[.int .i64]),(2,false,[.ptr 0 0]),(4,false,[.ptr 64 0]),(6,false,[.ptr 4160 0]),(7,false,[.bool]),(8,false,[.int .i64])],[(0,[.br tL,.br tW,.bool,.br tI]),(64,[.int .i64,.int .i64,.int .i64,.int .i64,.int .i64,.int .i64,.int .i64,.int .i64]),(4160,[.int .i64,.int .i64,.int .i64,.int .i64,.int .i64,.int .i64,.int .i64,.int .i64])],[]⟩
def yeG:Shape:=⟨[(1,false,[.int .i64]),(2,false,[.ptr 0 0]),(4,false,[.ptr 64 0]),(6,false,[.ptr 4160 0]),(7,false,[.cb false]),(8,false,[.ci .i64 0])],[(0,[.br tL,.br tW,.bool,.br tI]),(64,[.int .i64,.int .i64,.int .i64,.int .i64,.int .i64,.int .i64,.int .i64,.int .i64]),(4160,[.int .i64,.int .i64,.int .i64,.int .i64,.int .i64,.int .i64,.int .i64,.int .i64])],[]⟩
def yex:Shape:=⟨[(4,false,[.ptr 64 0]),(6,false,[.ptr 4160 0]),(7,false,[.bool])],[(64,[.int .i64,.int .i64,.int .i64,.int .i64,.int .i64,.int .i64,.int .i64,.int .i64]),(4160,[.int .i64,.int .i64,.int .i64,.int .i64,.int .i64,.int .i64,.int .i64,.int .i64])],[]⟩
def yh2:Shape:=⟨[],[],[]⟩
abbrev ylR (v0:Int) (v1:Bool) (v2:Int) (v3:dM) (v4 v5:dS):(ya4).X:=(((v0,()),((),()),((),()),((),()),(v1,()),(v2,()),()),((v3.1,v3.2.1,v3.2.2.1,v3.2.2.2,()),(v4.1,v4.2.1,v4.2.2.1,v4.2.2.2.1,v4.2.2.2.2.1,v4.2.2.2.2.2.1,v4.2.2.2.2.2.2.1,v4.2.2.2.2.2.2.2,()),(v5.1,v5.2.1,v5.2.2.1,v5.2.2.2.1,v5.2.2.2.2.1,v5.2.2.2.2.2.1,v5.2.2.2.2.2.2.1,v5.2.2.2.2.2.2.2,()),()),())
abbrev yLn (v0:Int) (v1:dM) (v2 v3:dS):(yeG).X:=(((v0,()),((),()),((),()),((),()),((),()),((),()),()),((v1.1,v1.2.1,v1.2.2.1,v1.2.2.2,()),(v2.1,v2.2.1,v2.2.2.1,v2.2.2.2.1,v2.2.2.2.2.1,v2.2.2.2.2.2.1,v2.2.2.2.2.2.2.1,v2.2.2.2.2.2.2.2,()),(v3.1,v3.2.1,v3.2.2.1,v3.2.2.2.1,v3.2.2.2.2.1,v3.2.2.2.2.2.1,v3.2.2.2.2.2.2.1,v3.2.2.2.2.2.2.2,()),()),())
abbrev yLe (v0:Bool) (v1 v2:dS):(yex).X:=((((),()),((),()),(v0,()),()),((v1.1,v1.2.1,v1.2.2.1,v1.2.2.2.1,v1.2.2.2.2.1,v1.2.2.2.2.2.1,v1.2.2.2.2.2.2.1,v1.2.2.2.2.2.2.2,()),(v2.1,v2.2.1,v2.2.2.1,v2.2.2.2.1,v2.2.2.2.2.1,v2.2.2.2.2.2.1,v2.2.2.2.2.2.2.1,v2.2.2.2.2.2.2.2,()),()),())
def yl8 (v0:Int) (v1:Bool) (v2:Int) (v3:List (List Int)) (v4:List dW) (v5:Bool) (v6:List Int) (v7 v8 v9 v10 v11 v12 v13 v14 v15 v16 v17 v18 v19 v20 v21 v22:Int):Option ((ya4).X ⊕ ((yex).X ⊕ (yh2).X)) :=bif(ltb v2 2)then let r3:=ybJ (v3,v4,v5,v6) v2;let r4:=yjq r3.1;bif r3.2 then bif r4.2 then bif(r4.1.1==v0)then bif((r4.1.2.1.tmod 2)==v2)then bif(!(!v1))then bif(ltb v16 r4.1.2.1)then some (.inl (((v0,()),((),()),((),()),((),()),(true,()),((i64.wrap (v2+1)),()),()),((v3,v4,v5,v6,()),(v7,v8,v9,v10,v11,v12,v13,v14,()),(r4.1.1,r4.1.2.1,r4.1.2.2.1,r4.1.2.2.2.1,r4.1.2.2.2.2.1,r4.1.2.2.2.2.2.1,r4.1.2.2.2.2.2.2.1,r4.1.2.2.2.2.2.2.2,()),()),())) else some (.inl (((v0,()),((),()),((),()),((),()),(v1,()),((i64.wrap (v2+1)),()),()),((v3,v4,v5,v6,()),(v7,v8,v9,v10,v11,v12,v13,v14,()),(v15,v16,v17,v18,v19,v20,v21,v22,()),()),())) else some (.inl (((v0,()),((),()),((),()),((),()),(true,()),((i64.wrap (v2+1)),()),()),((v3,v4,v5,v6,()),(v7,v8,v9,v10,v11,v12,v13,v14,()),(r4.1.1,r4.1.2.1,r4.1.2.2.1,r4.1.2.2.2.1,r4.1.2.2.2.2.1,r4.1.2.2.2.2.2.1,r4.1.2.2.2.2.2.2.1,r4.1.2.2.2.2.2.2.2,()),()),())) else some (.inl (((v0,()),((),()),((),()),((),()),(v1,()),((i64.wrap (v2+1)),()),()),((v3,v4,v5,v6,()),(v7,v8,v9,v10,v11,v12,v13,v14,()),(v15,v16,v17,v18,v19,v20,v21,v22,()),()),())) else some (.inl (((v0,()),((),()),((),()),((),()),(v1,()),((i64.wrap (v2+1)),()),()),((v3,v4,v5,v6,()),(v7,v8,v9,v10,v11,v12,v13,v14,()),(v15,v16,v17,v18,v19,v20,v21,v22,()),()),())) else some (.inl (((v0,()),((),()),((),()),((),()),(v1,()),((i64.wrap (v2+1)),()),()),((v3,v4,v5,v6,()),(v7,v8,v9,v10,v11,v12,v13,v14,()),(v15,v16,v17,v18,v19,v20,v21,v22,()),()),())) else some (.inl (((v0,()),((),()),((),()),((),()),(v1,()),((i64.wrap (v2+1)),()),()),((v3,v4,v5,v6,()),(v7,v8,v9,v10,v11,v12,v13,v14,()),(v15,v16,v17,v18,v19,v20,v21,v22,()),()),())) else some (.inr (.inl ((((),()),((),()),(v1,()),()),((v7,v8,v9,v10,v11,v12,v13,v14,()),(v15,v16,v17,v18,v19,v20,v21,v22,()),()),())))
def ybj (x:(ya4).X):=yl8 x.1.1.1 x.1.2.2.2.2.1.1 x.1.2.2.2.2.2.1.1 x.2.1.1.1 x.2.1.1.2.1 x.2.1.1.2.2.1 x.2.1.1.2.2.2.1 x.2.1.2.1.1 x.2.1.2.1.2.1 x.2.1.2.1.2.2.1 x.2.1.2.1.2.2.2.1 x.2.1.2.1.2.2.2.2.1 x.2.1.2.1.2.2.2.2.2.1 x.2.1.2.1.2.2.2.2.2.2.1 x.2.1.2.1.2.2.2.2.2.2.2.1 x.2.1.2.2.1.1 x.2.1.2.2.1.2.1 x.2.1.2.2.1.2.2.1 x.2.1.2.2.1.2.2.2.1 x.2.1.2.2.1.2.2.2.2.1 x.2.1.2.2.1.2.2.2.2.2.1 x.2.1.2.2.1.2.2.2.2.2.2.1 x.2.1.2.2.1.2.2.2.2.2.2.2.1
def yv8 (x:(yeG).X):(ya4).X:=(((x.1.1.1,()),((),()),((),()),((),()),(false,()),(0,()),()),((x.2.1.1.1,x.2.1.1.2.1,x.2.1.1.2.2.1,x.2.1.1.2.2.2.1,()),(x.2.1.2.1.1,x.2.1.2.1.2.1,x.2.1.2.1.2.2.1,x.2.1.2.1.2.2.2.1,x.2.1.2.1.2.2.2.2.1,x.2.1.2.1.2.2.2.2.2.1,x.2.1.2.1.2.2.2.2.2.2.1,x.2.1.2.1.2.2.2.2.2.2.2.1,()),(x.2.1.2.2.1.1,x.2.1.2.2.1.2.1,x.2.1.2.2.1.2.2.1,x.2.1.2.2.1.2.2.2.1,x.2.1.2.2.1.2.2.2.2.1,x.2.1.2.2.1.2.2.2.2.2.1,x.2.1.2.2.1.2.2.2.2.2.2.1,x.2.1.2.2.1.2.2.2.2.2.2.2.1,()),()),())
def yxp:Code:=(zd7 ylk 64 244).getD .skip
theorem yMa:zd7 ylk 64 61=some (.block 0 (.loop yxp)):=by kernel_rfl
theorem yMY (x:(ya4).X):zhu ⟨ysE,60,yzZ⟩ 0 yxp 244 ya4 yex yh2 x=ybj x:=by kernel_rfl
def ywj (x:(yeG).X):Nat:=18446744073709551616
def ymO (x:(yeG).X):Option ((yex).X ⊕ (yh2).X):=zF ybj (ywj x) (yv8 x)
def yw9:Seg:=⟨yeG,yex,yh2,ymO⟩
def yM7:Nat→Option Seg:=fun q=>bif Nat.beq q 61 then some yw9 else yzZ q
theorem yMo:FrOk prog ⟨ysE,60,yM7⟩ ylk:=(yMn).loop (sg:=yw9) ya4 yv8 (by decide) yMa ybj ywj (by decide) (fun _=>rfl) (fun x r _ h=>h) yMY
abbrev ylq:List Par:= [.rd tM,.rd tI]
abbrev ysX:List OT:= [⟨false,tS,(.pr .fz (.pr .fz (.pr .fz (.pr .fz (.pr .fz (.pr .fz (.pr .fz .fz)))))))⟩,⟨false,tB,.fz⟩]
def ypc (a0:dM) (a1:Int):Option (zaY ysX×zak ylq) :=zkt (ymO (((a1,()),((),()),((),()),((),()),((),()),((),()),()),((a0.1,a0.2.1,a0.2.2.1,a0.2.2.2,()),(0,0,0,0,0,0,0,0,()),(0,0,0,0,0,0,0,0,()),()),())) (fun y4 =>some (((y4.2.1.2.1.1,y4.2.1.2.1.2.1,y4.2.1.2.1.2.2.1,y4.2.1.2.1.2.2.2.1,y4.2.1.2.1.2.2.2.2.1,y4.2.1.2.1.2.2.2.2.2.1,y4.2.1.2.1.2.2.2.2.2.2.1,y4.2.1.2.1.2.2.2.2.2.2.2.1),y4.1.2.2.1.1,()),())) (fun y4 =>none)
theorem yOT:ConOk prog 149 ⟨ylq,ysX,fun x=>ypc x.1 x.2.1⟩:=zkI (yMo) func149 ntmps149.symm fun x=>by kernel_rfl
def yhO (a0:dM) (a1:Int):dS×Bool:=yaW a0 a1
theorem yRi (a0:dM) (a1:Int) (hk:zjx ylq (a0,a1,())):ypc a0 a1=(fun n=>some ((n.1,n.2,()),())) (yhO a0 a1):=by
 have h1:=zkD (step:=ybj) 2 (fun i s=>ylR a1 s.2 i a0 yaD s.1) (fun(s:dS×Bool) (i:Nat)=>ymh s (yFV a0 a1 i) (ySY a0 i)) (fun _ _=>True) (fun s=> .inl (yLe s.2 yaD s.1)) (fun i s hi _=>⟨by
  simp only[ybj,ylR,yl8,zky (show(i:Int)<2 by omega),cond_true,wq ((i:Int)+1) (by omega) (by omega),Int.natCast_add,Int.natCast_one,Int.toNat_natCast,zkX,ybJ,yjq];unfold yFV ymh ySY
  cases(yr a0 i).2<;>cases(ydO (yr a0 i).1).2<;>cases((ydO (yr a0 i).1).1.1==a1)<;>cases((ydO (yr a0 i).1).1.2.1.tmod 2==(i:Int))<;>cases hf:s.2<;>cases ltb s.1.2.1 (ydO (yr a0 i).1).1.2.1<;>simp only[Bool.not_true,Bool.not_false,cond_true,cond_false,Bool.and_true,Bool.true_and,Bool.false_and,Bool.and_false,Bool.or_true,Bool.true_or,Bool.false_or,Bool.or_false,hf],trivial⟩) (fun s _=>by simp only[ybj,ylR,yl8]; rfl) (yaD,false) trivial 18446744073709551616 (by omega)
 unfold ypc yhO;rw[show ymO (yLn a1 a0 yaD yaD)=_ from h1]; rfl
def yAk:Con:=⟨ylq,ysX,fun x=>(fun n=>some ((n.1,n.2,()),())) (yhO x.1 x.2.1)⟩
theorem yRT:ConOk prog 149 yAk:=(yOT).mono (fun x r hk h=>(yRi x.1 x.2.1 hk).trans h)
def y0l:Code:=(f77.body).getD .skip
def y0O:Env:=zkw TT [(149,yAk)] []
theorem yQQ:FrOk prog ⟨y0O,33,fun _=>none⟩ y0l:=zkA mixed yd ⟨yRT,trivial⟩
abbrev ykr:List Par:= [.rd tMs,.rd tI,.rd tI]
abbrev yp4:List OT:= [⟨false,tS,(.pr .fz (.pr .fz (.pr .fz (.pr .fz (.pr .fz (.pr .fz (.pr .fz .fz)))))))⟩,⟨false,tB,.fz⟩]
def ytO (a0:List dM) (a1 a2:Int):Option (zaY yp4×zak ykr) :=bif(inb a1 a0.length)then bif(((nth a0 a1 ([],[],false,[])).2).2).1 then some (((0,0,0,0,0,0,0,0),false,()),()) else bif(inb a1 a0.length)then let r1:=yhO ((nth a0 a1 ([],[],false,[])).1,((nth a0 a1 ([],[],false,[])).2).1,(((nth a0 a1 ([],[],false,[])).2).2)) a2;bif r1.2 then some ((r1.1,(r1.1.2.2.1==a1),()),()) else some ((r1.1,false,()),()) else none else none
theorem yVu:ConOk prog 77 ⟨ykr,yp4,fun x=>ytO x.1 x.2.1 x.2.2.1⟩:=zkI (yQQ) func77 ntmps77.symm fun x=>by kernel_rfl
def yg5 (a0:List dM) (a1 a2:Int):dS×Bool:=bif(nth a0 a1 yc).2.2.1 then(yaD,false)else((yaW (nth a0 a1 yc) a2).1,ylX (nth a0 a1 yc) a1 a2)
def yzy (a0:List dM) (a1 a2:Int):Bool:=inb a1 a0.length
theorem yYJ (a0:List dM) (a1 a2:Int) (hk:zjx ykr (a0,a1,a2,())) (hq:yzy a0 a1 a2=true):ytO a0 a1 a2=(fun n=>some ((n.1,n.2,()),())) (yg5 a0 a1 a2):=by
 unfold ytO yg5 ylX;rw[show inb a1 a0.length=true from hq];simp only[zkX,yhO];cases(nth a0 a1 yc).2.2.1
 ·cases(yaW (nth a0 a1 yc) a2).2<;>rfl
 ·rfl
def yk2 (a0:List dM) (a1 a2:Int):Option (zaY yp4×zak ykr):=bif yzy a0 a1 a2 then(fun n=>some ((n.1,n.2,()),())) (yg5 a0 a1 a2)else none
theorem yI2 (a0:List dM) (a1 a2:Int) (h:yzy a0 a1 a2=true):yk2 a0 a1 a2=(fun n=>some ((n.1,n.2,()),())) (yg5 a0 a1 a2):=by unfold yk2; rw[h]; rfl
def ys8:Con:=⟨ykr,yp4,fun x=>yk2 x.1 x.2.1 x.2.2.1⟩
theorem yIX:ConOk prog 77 ys8:=(yVu).mono (fun x r hk h=>zkY h (fun hq=>yYJ x.1 x.2.1 x.2.2.1 hk hq))
def yr5:Code:=(f75.body).getD .skip
def yBz:Env:=zkw TT [(77,ys8)] []
theorem yTY:FrOk prog ⟨yBz,40,fun _=>none⟩ yr5:=zkA mixed yd ⟨yIX,trivial⟩
def yHR:Nat→Option Seg:=fun _=>none
def ycV:Shape:=⟨[(0,false,[.br tM]),(1,false,[.int .i64]),(4,false,[.ptr 0 0]),(6,false,[.ptr 4160 0]),(7,false,[.bool]),(8,false,[.int .i64])],[(0,[.int .i64,.int .i64,.int .i64,.int .i64,.int .i64,.int .i64,.int .i64,.int .i64]),(4160,[.int .i64,.int .i64,.int .i64,.int .i64,.int .i64,.int .i64,.int .i64,.int .i64])],[]⟩
def yhE:Shape:=⟨[(0,false,[.br tM]),(1,false,[.int .i64]),(4,false,[.ptr 0 0]),(6,false,[.ptr 4160 0]),(7,false,[.cb false]),(8,false,[.ci .i64 0])],[(0,[.int .i64,.int .i64,.int .i64,.int .i64,.int .i64,.int .i64,.int .i64,.int .i64]),(4160,[.int .i64,.int .i64,.int .i64,.int .i64,.int .i64,.int .i64,.int .i64,.int .i64])],[]⟩
def yhr:Shape:=⟨[(4,false,[.ptr 0 0]),(6,false,[.ptr 4160 0]),(7,false,[.bool])],[(0,[.int .i64,.int .i64,.int .i64,.int .i64,.int .i64,.int .i64,.int .i64,.int .i64]),(4160,[.int .i64,.int .i64,.int .i64,.int .i64,.int .i64,.int .i64,.int .i64,.int .i64])],[]⟩
def ylE:Shape:=⟨[],[],[]⟩
abbrev yq8 (v0:List dM) (v1:Int) (v2:Bool) (v3:Int) (v4 v5:dS):(ycV).X:=(((v0,()),(v1,()),((),()),((),()),(v2,()),(v3,()),()),((v4.1,v4.2.1,v4.2.2.1,v4.2.2.2.1,v4.2.2.2.2.1,v4.2.2.2.2.2.1,v4.2.2.2.2.2.2.1,v4.2.2.2.2.2.2.2,()),(v5.1,v5.2.1,v5.2.2.1,v5.2.2.2.1,v5.2.2.2.2.1,v5.2.2.2.2.2.1,v5.2.2.2.2.2.2.1,v5.2.2.2.2.2.2.2,()),()),())
abbrev yRa (v0:List dM) (v1:Int) (v2 v3:dS):(yhE).X:=(((v0,()),(v1,()),((),()),((),()),((),()),((),()),()),((v2.1,v2.2.1,v2.2.2.1,v2.2.2.2.1,v2.2.2.2.2.1,v2.2.2.2.2.2.1,v2.2.2.2.2.2.2.1,v2.2.2.2.2.2.2.2,()),(v3.1,v3.2.1,v3.2.2.1,v3.2.2.2.1,v3.2.2.2.2.1,v3.2.2.2.2.2.1,v3.2.2.2.2.2.2.1,v3.2.2.2.2.2.2.2,()),()),())
abbrev yQY (v0:Bool) (v1 v2:dS):(yhr).X:=((((),()),((),()),(v0,()),()),((v1.1,v1.2.1,v1.2.2.1,v1.2.2.2.1,v1.2.2.2.2.1,v1.2.2.2.2.2.1,v1.2.2.2.2.2.2.1,v1.2.2.2.2.2.2.2,()),(v2.1,v2.2.1,v2.2.2.1,v2.2.2.2.1,v2.2.2.2.2.1,v2.2.2.2.2.2.1,v2.2.2.2.2.2.2.1,v2.2.2.2.2.2.2.2,()),()),())
def yrM (v0:List dM) (v1:Int) (v2:Bool) (v3 v4 v5 v6 v7 v8 v9 v10 v11 v12 v13 v14 v15 v16 v17 v18 v19:Int):Option ((ycV).X ⊕ ((yhr).X ⊕ (ylE).X)) :=bif(ltb v3 (v0.length:Int))then bnd (yk2 v0 v3 v1) fun r2 =>bif r2.1.2.1 then bif(!(!v2))then bif(ltb v13 r2.1.1.2.1)then some (.inl (((v0,()),(v1,()),((),()),((),()),(true,()),((i64.wrap (v3+1)),()),()),((v4,v5,v6,v7,v8,v9,v10,v11,()),(r2.1.1.1,r2.1.1.2.1,r2.1.1.2.2.1,r2.1.1.2.2.2.1,r2.1.1.2.2.2.2.1,r2.1.1.2.2.2.2.2.1,r2.1.1.2.2.2.2.2.2.1,r2.1.1.2.2.2.2.2.2.2,()),()),())) else some (.inl (((v0,()),(v1,()),((),()),((),()),(v2,()),((i64.wrap (v3+1)),()),()),((v4,v5,v6,v7,v8,v9,v10,v11,()),(v12,v13,v14,v15,v16,v17,v18,v19,()),()),())) else some (.inl (((v0,()),(v1,()),((),()),((),()),(true,()),((i64.wrap (v3+1)),()),()),((v4,v5,v6,v7,v8,v9,v10,v11,()),(r2.1.1.1,r2.1.1.2.1,r2.1.1.2.2.1,r2.1.1.2.2.2.1,r2.1.1.2.2.2.2.1,r2.1.1.2.2.2.2.2.1,r2.1.1.2.2.2.2.2.2.1,r2.1.1.2.2.2.2.2.2.2,()),()),())) else some (.inl (((v0,()),(v1,()),((),()),((),()),(v2,()),((i64.wrap (v3+1)),()),()),((v4,v5,v6,v7,v8,v9,v10,v11,()),(v12,v13,v14,v15,v16,v17,v18,v19,()),()),())) else some (.inr (.inl ((((),()),((),()),(v2,()),()),((v4,v5,v6,v7,v8,v9,v10,v11,()),(v12,v13,v14,v15,v16,v17,v18,v19,()),()),())))
def ydp (x:(ycV).X):=yrM x.1.1.1 x.1.2.1.1 x.1.2.2.2.2.1.1 x.1.2.2.2.2.2.1.1 x.2.1.1.1 x.2.1.1.2.1 x.2.1.1.2.2.1 x.2.1.1.2.2.2.1 x.2.1.1.2.2.2.2.1 x.2.1.1.2.2.2.2.2.1 x.2.1.1.2.2.2.2.2.2.1 x.2.1.1.2.2.2.2.2.2.2.1 x.2.1.2.1.1 x.2.1.2.1.2.1 x.2.1.2.1.2.2.1 x.2.1.2.1.2.2.2.1 x.2.1.2.1.2.2.2.2.1 x.2.1.2.1.2.2.2.2.2.1 x.2.1.2.1.2.2.2.2.2.2.1 x.2.1.2.1.2.2.2.2.2.2.2.1
def yDT (x:(yhE).X):(ycV).X:=(((x.1.1.1,()),(x.1.2.1.1,()),((),()),((),()),(false,()),(0,()),()),((x.2.1.1.1,x.2.1.1.2.1,x.2.1.1.2.2.1,x.2.1.1.2.2.2.1,x.2.1.1.2.2.2.2.1,x.2.1.1.2.2.2.2.2.1,x.2.1.1.2.2.2.2.2.2.1,x.2.1.1.2.2.2.2.2.2.2.1,()),(x.2.1.2.1.1,x.2.1.2.1.2.1,x.2.1.2.1.2.2.1,x.2.1.2.1.2.2.2.1,x.2.1.2.1.2.2.2.2.1,x.2.1.2.1.2.2.2.2.2.1,x.2.1.2.1.2.2.2.2.2.2.1,x.2.1.2.1.2.2.2.2.2.2.2.1,()),()),())
def yFU:Code:=(zd7 yr5 64 244).getD .skip
theorem ySX:zd7 yr5 64 61=some (.block 0 (.loop yFU)):=by kernel_rfl
theorem yV2 (x:(ycV).X):zhu ⟨yBz,40,yHR⟩ 0 yFU 244 ycV yhr ylE x=ydp x:=by kernel_rfl
def yD6 (x:(yhE).X):Nat:=18446744073709551616
def ysR (x:(yhE).X):Option ((yhr).X ⊕ (ylE).X):=zF ydp (yD6 x) (yDT x)
def yEs:Seg:=⟨yhE,yhr,ylE,ysR⟩
def yWC:Nat→Option Seg:=fun q=>bif Nat.beq q 61 then some yEs else yHR q
theorem yTZ:FrOk prog ⟨yBz,40,yWC⟩ yr5:=(yTY).loop (sg:=yEs) ycV yDT (by decide) ySX ydp yD6 (by decide) (fun _=>rfl) (fun x r _ h=>h) yV2
abbrev yso:List Par:= [.rd tMs,.rd tI]
abbrev yCB:List OT:= [⟨false,tS,(.pr .fz (.pr .fz (.pr .fz (.pr .fz (.pr .fz (.pr .fz (.pr .fz .fz)))))))⟩,⟨false,tB,.fz⟩]
def yw1 (a0:List dM) (a1:Int):Option (zaY yCB×zak yso) :=zkt (ysR (((a0,()),(a1,()),((),()),((),()),((),()),((),()),()),((0,0,0,0,0,0,0,0,()),(0,0,0,0,0,0,0,0,()),()),())) (fun y2 =>some (((y2.2.1.2.1.1,y2.2.1.2.1.2.1,y2.2.1.2.1.2.2.1,y2.2.1.2.1.2.2.2.1,y2.2.1.2.1.2.2.2.2.1,y2.2.1.2.1.2.2.2.2.2.1,y2.2.1.2.1.2.2.2.2.2.2.1,y2.2.1.2.1.2.2.2.2.2.2.2.1),y2.1.2.2.1.1,()),())) (fun y2 =>none)
theorem yZr:ConOk prog 75 ⟨yso,yCB,fun x=>yw1 x.1 x.2.1⟩:=zkI (yTZ) func75 ntmps75.symm fun x=>by kernel_rfl
def ymz (a0:List dM) (a1:Int):dS×Bool:=yan a0 a1
theorem y1K (a0:List dM) (a1:Int) (hk:zjx yso (a0,a1,())):yw1 a0 a1=(fun n=>some ((n.1,n.2,()),())) (ymz a0 a1):=by
 have hb:a0.length*80≤2^47:=hk.1.1
 have h1:=zkD (step:=ydp) a0.length (fun i s=>yq8 a0 a1 s.2 i yaD s.1) (fun(s:dS×Bool) (i:Nat)=>ymh s (ylX (nth a0 i yc) i a1) (yaW (nth a0 i yc) a1).1) (fun _ _=>True) (fun s=> .inl (yQY s.2 yaD s.1)) (fun i s hi _=>⟨by
  simp only[ydp,yq8,yrM,zky (show(i:Int)<a0.length by omega),cond_true,wq ((i:Int)+1) (by omega) (by omega),Int.natCast_add,Int.natCast_one,Int.toNat_natCast,zkX,yI2 a0 i a1 (zkR hi),zkH,yg5];cases hx:(nth a0 i yc).2.2.1
  ·simp only[cond_false]
   unfold ymh;cases ylX (nth a0 i yc) i a1<;>cases hf:s.2<;>cases ltb s.1.2.1 (yaW (nth a0 i yc) a1).1.2.1<;>simp only[Bool.not_true,Bool.not_false,cond_true,cond_false,Bool.and_true,Bool.true_and,Bool.false_and,Bool.and_false,Bool.or_true,Bool.true_or,Bool.false_or,Bool.or_false,hf]
  ·unfold ymh ylX
   rw[hx]; rfl,trivial⟩) (fun s _=>by simp only[ydp,yq8,yrM,zk3 (Int.le_refl _),cond_false]) (yaD,false) trivial 18446744073709551616 (by omega)
 unfold yw1 ymz;rw[show ysR (yRa a0 a1 yaD yaD)=_ from h1]; rfl
def yIu:Con:=⟨yso,yCB,fun x=>(fun n=>some ((n.1,n.2,()),())) (ymz x.1 x.2.1)⟩
theorem y2A:ConOk prog 75 yIu:=(yZr).mono (fun x r hk h=>(y1K x.1 x.2.1 hk).trans h)
def ynp:Code:=(f17.body).getD .skip
def yuD:Env:=zkw TT [(75,yIu),(76,ycd),(77,ys8),(78,ykE)] [(33216,(.pr (.ow .fz) (.pr (.ow (.pr .fz .fz)) (.pr .fz (.ow .fz))))),(33280,(.pr (.ow .fz) (.pr (.ow (.pr .fz .fz)) (.pr .fz (.ow .fz)))))]
theorem yNT:FrOk prog ⟨yuD,89,fun _=>none⟩ ynp:=zkA mixed yd ⟨y2A,ye4,yIX,ysx,trivial⟩
def yC5:Nat→Option Seg:=fun _=>none
def ya3:Shape:=⟨[(0,false,[.br tM]),(1,false,[.int .i64]),(4,false,[.ptr 0 0]),(8,false,[.ptr 17472 0]),(9,false,[.int .i64])],[(0,[.int .i64,.int .i64,.int .i64,.nil,.int .i64,.int .i64,.int .i64,.int .i64,.int .i64,.nil,.int .i64,.bool,.bool]),(17472,[.int .i64,.int .i64,.int .i64,.at 800000000,.int .i64,.int .i64,.int .i64,.int .i64,.int .i64,.nil,.int .i64,.bool,.bool])],[(800000000,tM,(.pr (.ow .fz) (.pr (.ow (.pr .fz .fz)) (.pr .fz (.ow .fz)))))]⟩
def yeF:Shape:=⟨[(0,false,[.br tM]),(1,false,[.int .i64]),(4,false,[.ptr 0 0]),(8,false,[.ptr 17472 0]),(9,false,[.ci .i64 0])],[(0,[.int .i64,.int .i64,.int .i64,.nil,.int .i64,.int .i64,.int .i64,.int .i64,.int .i64,.nil,.int .i64,.bool,.bool]),(17472,[.int .i64,.int .i64,.int .i64,.at 800000000,.int .i64,.int .i64,.int .i64,.int .i64,.int .i64,.nil,.int .i64,.bool,.bool])],[(800000000,tM,(.pr (.ow .fz) (.pr (.ow (.pr .fz .fz)) (.pr .fz (.ow .fz)))))]⟩
def yew:Shape:=⟨[(4,false,[.ptr 0 0]),(8,false,[.ptr 17472 0])],[(0,[.int .i64,.int .i64,.int .i64,.nil,.int .i64,.int .i64,.int .i64,.int .i64,.int .i64,.nil,.int .i64,.bool,.bool]),(17472,[.int .i64,.int .i64,.int .i64,.at 800000000,.int .i64,.int .i64,.int .i64,.int .i64,.int .i64,.nil,.int .i64,.bool,.bool])],[(800000000,tM,(.pr (.ow .fz) (.pr (.ow (.pr .fz .fz)) (.pr .fz (.ow .fz)))))]⟩
def yh1:Shape:=⟨[],[],[]⟩
abbrev ylQ (v0:List dM) (v1 v2:Int) (v3 v4:dA):(ya3).X:=(((v0,()),(v1,()),((),()),((),()),(v2,()),()),((v3.1,v3.2.1.1,v3.2.1.2,(),v3.2.2.2.1,v3.2.2.2.2.1,v3.2.2.2.2.2.1,v3.2.2.2.2.2.2.1,v3.2.2.2.2.2.2.2.1,(),v3.2.2.2.2.2.2.2.2.2.1,v3.2.2.2.2.2.2.2.2.2.2.1,v3.2.2.2.2.2.2.2.2.2.2.2,()),(v4.1,v4.2.1.1,v4.2.1.2,(),v4.2.2.2.1,v4.2.2.2.2.1,v4.2.2.2.2.2.1,v4.2.2.2.2.2.2.1,v4.2.2.2.2.2.2.2.1,(),v4.2.2.2.2.2.2.2.2.2.1,v4.2.2.2.2.2.2.2.2.2.2.1,v4.2.2.2.2.2.2.2.2.2.2.2,()),()),(v4.2.2.1,()))
abbrev yLm (v0:List dM) (v1:Int) (v2 v3:dA):(yeF).X:=(((v0,()),(v1,()),((),()),((),()),((),()),()),((v2.1,v2.2.1.1,v2.2.1.2,(),v2.2.2.2.1,v2.2.2.2.2.1,v2.2.2.2.2.2.1,v2.2.2.2.2.2.2.1,v2.2.2.2.2.2.2.2.1,(),v2.2.2.2.2.2.2.2.2.2.1,v2.2.2.2.2.2.2.2.2.2.2.1,v2.2.2.2.2.2.2.2.2.2.2.2,()),(v3.1,v3.2.1.1,v3.2.1.2,(),v3.2.2.2.1,v3.2.2.2.2.1,v3.2.2.2.2.2.1,v3.2.2.2.2.2.2.1,v3.2.2.2.2.2.2.2.1,(),v3.2.2.2.2.2.2.2.2.2.1,v3.2.2.2.2.2.2.2.2.2.2.1,v3.2.2.2.2.2.2.2.2.2.2.2,()),()),(v3.2.2.1,()))
abbrev yww (v0 v1:dA):(yew).X:=((((),()),((),()),()),((v0.1,v0.2.1.1,v0.2.1.2,(),v0.2.2.2.1,v0.2.2.2.2.1,v0.2.2.2.2.2.1,v0.2.2.2.2.2.2.1,v0.2.2.2.2.2.2.2.1,(),v0.2.2.2.2.2.2.2.2.2.1,v0.2.2.2.2.2.2.2.2.2.2.1,v0.2.2.2.2.2.2.2.2.2.2.2,()),(v1.1,v1.2.1.1,v1.2.1.2,(),v1.2.2.2.1,v1.2.2.2.2.1,v1.2.2.2.2.2.1,v1.2.2.2.2.2.2.1,v1.2.2.2.2.2.2.2.1,(),v1.2.2.2.2.2.2.2.2.2.1,v1.2.2.2.2.2.2.2.2.2.2.1,v1.2.2.2.2.2.2.2.2.2.2.2,()),()),(v1.2.2.1,()))
def yl7 (v0:List dM) (v1 v2 v3 v4 v5 v6 v7 v8 v9 v10 v11:Int) (v12 v13:Bool) (v14 v15 v16 v17 v18 v19 v20 v21 v22:Int) (v23 v24:Bool) (v25:List dM):Option ((ya3).X ⊕ ((yew).X ⊕ (yh1).X)) :=bif(ltb v2 (v0.length:Int))then bif(inb v2 v0.length)then let r6:=yD ((nth v0 v2 ([],[],false,[])).1,((nth v0 v2 ([],[],false,[])).2).1,(((nth v0 v2 ([],[],false,[])).2).2));bif(zkl v25.length ([r6]:List dM).length 80)then bnd (yk2 v0 v2 v1) fun r7 =>bif r7.1.2.1 then some (.inl (((v0,()),(v1,()),((),()),((),()),((i64.wrap (v2+1)),()),()),((v3,v4,v5,(),v6,v7,v8,v9,v10,(),v11,v12,v13,()),(v14,v15,v16,(),v17,v18,v19,v20,v21,(),v22,v23,v24,()),()),((v25++([r6]:List dM)),()))) else bif(!(v17==(-1)))then bif(v17==v2)then some (.inl (((v0,()),(v1,()),((),()),((),()),((i64.wrap (v2+1)),()),()),((v3,v4,v5,(),v6,v7,v8,v9,v10,(),v11,v12,v13,()),(v14,v15,v16,(),v2,0,v19,v20,v21,(),v22,v23,v24,()),()),((v25++([r6]:List dM)),()))) else some (.inl (((v0,()),(v1,()),((),()),((),()),((i64.wrap (v2+1)),()),()),((v3,v4,v5,(),v6,v7,v8,v9,v10,(),v11,v12,v13,()),(v14,v15,v16,(),v17,v18,v19,v20,v21,(),v22,v23,true,()),()),((v25++([r6]:List dM)),()))) else some (.inl (((v0,()),(v1,()),((),()),((),()),((i64.wrap (v2+1)),()),()),((v3,v4,v5,(),v6,v7,v8,v9,v10,(),v11,v12,v13,()),(v14,v15,v16,(),v2,0,v19,v20,v21,(),v22,v23,v24,()),()),((v25++([r6]:List dM)),()))) else none else none else some (.inr (.inl ((((),()),((),()),()),((v3,v4,v5,(),v6,v7,v8,v9,v10,(),v11,v12,v13,()),(v14,v15,v16,(),v17,v18,v19,v20,v21,(),v22,v23,v24,()),()),(v25,()))))
def ybi (x:(ya3).X):=yl7 x.1.1.1 x.1.2.1.1 x.1.2.2.2.2.1.1 x.2.1.1.1 x.2.1.1.2.1 x.2.1.1.2.2.1 x.2.1.1.2.2.2.2.1 x.2.1.1.2.2.2.2.2.1 x.2.1.1.2.2.2.2.2.2.1 x.2.1.1.2.2.2.2.2.2.2.1 x.2.1.1.2.2.2.2.2.2.2.2.1 x.2.1.1.2.2.2.2.2.2.2.2.2.2.1 x.2.1.1.2.2.2.2.2.2.2.2.2.2.2.1 x.2.1.1.2.2.2.2.2.2.2.2.2.2.2.2.1 x.2.1.2.1.1 x.2.1.2.1.2.1 x.2.1.2.1.2.2.1 x.2.1.2.1.2.2.2.2.1 x.2.1.2.1.2.2.2.2.2.1 x.2.1.2.1.2.2.2.2.2.2.1 x.2.1.2.1.2.2.2.2.2.2.2.1 x.2.1.2.1.2.2.2.2.2.2.2.2.1 x.2.1.2.1.2.2.2.2.2.2.2.2.2.2.1 x.2.1.2.1.2.2.2.2.2.2.2.2.2.2.2.1 x.2.1.2.1.2.2.2.2.2.2.2.2.2.2.2.2.1 x.2.2.1
def yv7 (x:(yeF).X):(ya3).X:=(((x.1.1.1,()),(x.1.2.1.1,()),((),()),((),()),(0,()),()),((x.2.1.1.1,x.2.1.1.2.1,x.2.1.1.2.2.1,(),x.2.1.1.2.2.2.2.1,x.2.1.1.2.2.2.2.2.1,x.2.1.1.2.2.2.2.2.2.1,x.2.1.1.2.2.2.2.2.2.2.1,x.2.1.1.2.2.2.2.2.2.2.2.1,(),x.2.1.1.2.2.2.2.2.2.2.2.2.2.1,x.2.1.1.2.2.2.2.2.2.2.2.2.2.2.1,x.2.1.1.2.2.2.2.2.2.2.2.2.2.2.2.1,()),(x.2.1.2.1.1,x.2.1.2.1.2.1,x.2.1.2.1.2.2.1,(),x.2.1.2.1.2.2.2.2.1,x.2.1.2.1.2.2.2.2.2.1,x.2.1.2.1.2.2.2.2.2.2.1,x.2.1.2.1.2.2.2.2.2.2.2.1,x.2.1.2.1.2.2.2.2.2.2.2.2.1,(),x.2.1.2.1.2.2.2.2.2.2.2.2.2.2.1,x.2.1.2.1.2.2.2.2.2.2.2.2.2.2.2.1,x.2.1.2.1.2.2.2.2.2.2.2.2.2.2.2.2.1,()),()),(x.2.2.1,()))
def yxo:Code:=(zd7 ynp 64 500).getD .skip
theorem yL9:zd7 ynp 64 125=some (.block 0 (.loop yxo)):=by kernel_rfl
theorem yMX (x:(ya3).X):zhu ⟨yuD,89,yC5⟩ 0 yxo 500 ya3 yew yh1 x=ybi x:=by kernel_rfl
def ywi (x:(yeF).X):Nat:=18446744073709551616
def ymN (x:(yeF).X):Option ((yew).X ⊕ (yh1).X):=zF ybi (ywi x) (yv7 x)
def yw8:Seg:=⟨yeF,yew,yh1,ymN⟩
def yPE:Nat→Option Seg:=fun q=>bif Nat.beq q 125 then some yw8 else yC5 q
theorem yNU:FrOk prog ⟨yuD,89,yPE⟩ ynp:=(yNT).loop (sg:=yw8) ya3 yv7 (by decide) yL9 ybi ywi (by decide) (fun _=>rfl) (fun x r _ h=>h) yMX
abbrev ynF:List Par:= [.rd tMs,.rd tI]
abbrev yvr:List OT:= [⟨false,tA,(.pr .fz (.pr (.pr .fz .fz) (.pr (.ow (.pr (.ow .fz) (.pr (.ow (.pr .fz .fz)) (.pr .fz (.ow .fz))))) (.pr .fz (.pr .fz (.pr .fz (.pr .fz (.pr .fz (.pr (.ow (.pr .fz .fz)) (.pr .fz (.pr .fz .fz)))))))))))⟩,⟨false,tB,.fz⟩]
def yrq (a0:List dM) (a1:Int):Option (zaY yvr×zak ynF) :=let r1:=ymz a0 a1;bif(!(!r1.2))then bif((a0.length:Int) !=r1.1.2.2.2.1)then some (((0,(0,0),[],0,0,0,0,0,[],0,false,false),false,()),()) else zkt (ymN (((a0,()),(a1,()),((),()),((),()),((),()),()),((0,0,0,(),0,0,0,0,0,(),0,false,false,()),(a1,r1.1.2.2.2.1,r1.1.2.2.2.2.1,(),r1.1.2.2.2.2.2.2.1,r1.1.2.2.2.2.2.2.2,r1.1.2.2.2.2.2.1,r1.1.2.2.2.2.2.1,r1.1.2.1,(),(-1),false,false,()),()),([],()))) (fun y7 =>let r9:=yaN (y7.2.1.2.1.1,(y7.2.1.2.1.2.1,y7.2.1.2.1.2.2.1),y7.2.2.1,y7.2.1.2.1.2.2.2.2.1,y7.2.1.2.1.2.2.2.2.2.1,y7.2.1.2.1.2.2.2.2.2.2.1,y7.2.1.2.1.2.2.2.2.2.2.2.1,y7.2.1.2.1.2.2.2.2.2.2.2.2.1,[],y7.2.1.2.1.2.2.2.2.2.2.2.2.2.2.1,y7.2.1.2.1.2.2.2.2.2.2.2.2.2.2.2.1,y7.2.1.2.1.2.2.2.2.2.2.2.2.2.2.2.2.1);bif(!r9)then some (((0,(0,0),[],0,0,0,0,0,[],0,false,false),false,()),()) else some (((y7.2.1.2.1.1,(y7.2.1.2.1.2.1,y7.2.1.2.1.2.2.1),y7.2.2.1,y7.2.1.2.1.2.2.2.2.1,y7.2.1.2.1.2.2.2.2.2.1,y7.2.1.2.1.2.2.2.2.2.2.1,y7.2.1.2.1.2.2.2.2.2.2.2.1,y7.2.1.2.1.2.2.2.2.2.2.2.2.1,[],y7.2.1.2.1.2.2.2.2.2.2.2.2.2.2.1,y7.2.1.2.1.2.2.2.2.2.2.2.2.2.2.2.1,y7.2.1.2.1.2.2.2.2.2.2.2.2.2.2.2.2.1),true,()),())) (fun y7 =>none) else some (((0,(0,0),[],0,0,0,0,0,[],0,false,false),false,()),())
theorem yRz:ConOk prog 17 ⟨ynF,yvr,fun x=>yrq x.1 x.2.1⟩:=zkI (yNU) func17 ntmps17.symm fun x=>by kernel_rfl
def ybb (a0:List dM) (a1:Int):dA×Bool:=yca a0 a1
theorem yUM (a0:List dM) (a1:Int) (hk:zjx ynF (a0,a1,())):yrq a0 a1=(fun n=>some ((n.1,n.2,()),())) (ybb a0 a1):=by
 have hb:a0.length*80≤2^47:=hk.1.1
 have h1: ∀(b:dS) (s:Int×Int×Bool),ymN (yLm a0 a1 yK (yhI b [] a1 s))=some (.inl (yww yK (yhI b a0 a1 ((List.range a0.length).foldl (ykD a0 a1) s)))):=fun b s=>by
  have:=zkD (step:=ybi) a0.length (fun i s=>ylQ a0 a1 i yK (yhI b (a0.take i) a1 s)) (ykD a0 a1) (fun _ _=>True) (fun s=> .inl (yww yK (yhI b (a0.take a0.length) a1 s))) (fun i s hi _=>⟨by
   simp only[ybi,ylQ,yl7,zky (show(i:Int)<a0.length by omega),cond_true,wq ((i:Int)+1) (by omega) (by omega),Int.natCast_add,Int.natCast_one,Int.toNat_natCast,zkR hi,zkX,yI2 a0 i a1 (zkR hi),zkH,yg5,yD,yhI];rw[zkF.2 (show((a0.take i).length+ [nth a0 i yc].length)*80≤140737488355328 by simp only[List.length_cons,List.length_nil,List.length_take]; omega),y3e a0 yc hi];unfold ykD;cases hx:(nth a0 i yc).2.2.1
   ·cases ylX (nth a0 i yc) i a1<;>cases(s.1== -1)<;>cases(s.1==(i:Int))<;>rfl
   ·rw[show ylX (nth a0 i yc) i a1=false by unfold ylX; rw[hx]; rfl]
    cases(s.1== -1)<;>cases(s.1==(i:Int))<;>rfl,trivial⟩) (fun s _=>by simp only[ybi,ylQ,yl7,zk3 (Int.le_refl _),cond_false]) s trivial 18446744073709551616 (by omega)
  rw[List.take_length]at this;exact this
 unfold yrq ybb yca yJ0;simp only[ymz,bne];cases(yan a0 a1).2
 ·rfl
 cases((a0.length:Int)==(yan a0 a1).1.2.2.2.1)
 ·rfl
 have h2:=h1 (yan a0 a1).1 ((yan a0 a1).1.2.2.2.2.2.2.1,(yan a0 a1).1.2.2.2.2.2.2.2,false);simp only[Bool.not_true,Bool.not_false,cond_true,cond_false,Bool.true_and];refine(congrArg (fun z=>zkt z _ _) h2).trans ?_;simp only[zkN,yaN];show(bif !(yE (yhI (yan a0 a1).1 a0 a1 ((List.range a0.length).foldl (ykD a0 a1) ((yan a0 a1).1.2.2.2.2.2.2.1,(yan a0 a1).1.2.2.2.2.2.2.2,false))))then _ else _)=_;cases yE (yhI (yan a0 a1).1 a0 a1 ((List.range a0.length).foldl (ykD a0 a1) ((yan a0 a1).1.2.2.2.2.2.2.1,(yan a0 a1).1.2.2.2.2.2.2.2,false)))<;>rfl
def yj7:Con:=⟨ynF,yvr,fun x=>(fun n=>some ((n.1,n.2,()),())) (ybb x.1 x.2.1)⟩
theorem ytq:ConOk prog 17 yj7:=(yRz).mono (fun x r hk h=>(yUM x.1 x.2.1 hk).trans h)
def ypJ:Code:=(f79.body).getD .skip
def yyv:Env:=zkw TT [(72,ym),(80,yae)] []
theorem yQO:FrOk prog ⟨yyv,19,fun _=>none⟩ ypJ:=zkA mixed yd ⟨yv,yaR,trivial⟩
def yEU:Nat→Option Seg:=fun _=>none
def yb8:Shape:=⟨[(0,false,[.ptr 1000000000 0]),(3,false,[.at 800000000]),(4,false,[.int .i64])],[(1000000000,[.fz tY,.int .i64,.int .i64])],[(800000000,tI,.fz)]⟩
def ygD:Shape:=⟨[(0,false,[.ptr 1000000000 0]),(3,false,[.at 800000000]),(4,false,[.ci .i64 0])],[(1000000000,[.fz tY,.int .i64,.int .i64])],[(800000000,tI,.fz)]⟩
def ygo:Shape:=⟨[(3,false,[.at 800000000])],[(1000000000,[.fz tY,.int .i64,.int .i64])],[(800000000,tI,.fz)]⟩
def yj4:Shape:=⟨[],[],[]⟩
abbrev yo0 (v0:Int) (v1:dU) (v2:List Int):(yb8).X:=((((),()),((),()),(v0,()),()),((v1.1,v1.2.1,v1.2.2,()),()),(v2,()))
abbrev yOB (v0:dU) (v1:List Int):(ygD).X:=((((),()),((),()),((),()),()),((v0.1,v0.2.1,v0.2.2,()),()),(v1,()))
abbrev yOm (v0:dU) (v1:List Int):(ygo).X:=((((),()),()),((v0.1,v0.2.1,v0.2.2,()),()),(v1,()))
def ypv (v0:Int) (v1:List Int) (v2 v3:Int) (v4:List Int):Option ((yb8).X ⊕ ((ygo).X ⊕ (yj4).X)) :=bif(ltb v0 5)then bnd (yb (v1,v2,v3) 4096) fun r3 =>bnd (yp r3.2.1 ([0,1,2,3,5,7,1048575,r3.1.1]:List Int)) fun r4 =>bif(zkl v4.length ([r4.1.1]:List Int).length 8)then some (.inl ((((),()),((),()),((i64.wrap (v0+1)),()),()),((r4.2.1.1,r4.2.1.2.1,r4.2.1.2.2,()),()),((v4++([r4.1.1]:List Int)),()))) else none else some (.inr (.inl ((((),()),()),((v1,v2,v3,()),()),(v4,()))))
def ycw (x:(yb8).X):=ypv x.1.2.2.1.1 x.2.1.1.1 x.2.1.1.2.1 x.2.1.1.2.2.1 x.2.2.1
def yAC (x:(ygD).X):(yb8).X:=((((),()),((),()),(0,()),()),((x.2.1.1.1,x.2.1.1.2.1,x.2.1.1.2.2.1,()),()),(x.2.2.1,()))
def yDp:Code:=(zd7 ypJ 64 116).getD .skip
theorem yP2:zd7 ypJ 64 29=some (.block 0 (.loop yDp)):=by kernel_rfl
theorem ySc (x:(yb8).X):zhu ⟨yyv,19,yEU⟩ 0 yDp 116 yb8 ygo yj4 x=ycw x:=by kernel_rfl
def yAU (x:(ygD).X):Nat:=18446744073709551616
def yqF (x:(ygD).X):Option ((ygo).X ⊕ (yj4).X):=zF ycw (yAU x) (yAC x)
def yBo:Seg:=⟨ygD,ygo,yj4,yqF⟩
def ySH:Nat→Option Seg:=fun q=>bif Nat.beq q 29 then some yBo else yEU q
theorem yQP:FrOk prog ⟨yyv,19,ySH⟩ ypJ:=(yQO).loop (sg:=yBo) yb8 yAC (by decide) yP2 ycw yAU (by decide) (fun _=>rfl) (fun x r _ h=>h) ySc
abbrev yyK:List Par:= [.pt tU .fz]
abbrev yy6:List OT:= [⟨false,tL,(.ow .fz)⟩]
def ye7 (a0:dU):Option (zaY yy6×zak yyK) :=zkt (yqF ((((),()),((),()),((),()),()),((a0.1,a0.2.1,a0.2.2,()),()),(([]:List Int),()))) (fun y4 =>some ((y4.2.2.1,()),((y4.2.1.1.1,y4.2.1.1.2.1,y4.2.1.1.2.2.1),()))) (fun y4 =>none)
theorem yVt:ConOk prog 79 ⟨yyK,yy6,fun x=>ye7 x.1⟩:=zkI (yQP) func79 ntmps79.symm fun x=>by kernel_rfl
def ys7:Con:=⟨yyK,yy6,fun x=>ye7 x.1⟩
theorem yIW:ConOk prog 79 ys7:=yVt
theorem ySg: ∀(n:Nat) (u:dU) (l:List Int) (fuel:Nat),n≤5→n<fuel→yA u→n+l.length≤1000 →
  ∃(u':dU) (l':List Int),zF ycw fuel (yo0 (5-(n:Int)) u l)=some (.inl (yOm u' l'))∧yA u'∧l'.length=n+l.length
 | 0,u,l,fuel+1,_,_,hu,_=>⟨u,l,by simp only[zF,ycw,yo0,ypv]; rfl,hu,by omega⟩
 | n+1,u,l,fuel+1,hn,hf,hu,hl=>by
  obtain⟨x,u1,e1,_,d1⟩:=yo u 4096 hu;obtain⟨y,u2,e2,_,d2⟩:=yeJ u1 [0,1,2,3,5,7,1048575,x] d1 (by simp);obtain⟨u',l',e3,d3,h3⟩:=ySg n u2 (l++ [y]) fuel (by omega) (by omega) d2 (by rw[List.length_append]; simp only[List.length_cons,List.length_nil]; omega);refine⟨u',l',?_,d3,by rw[h3,List.length_append]; simp only[List.length_cons,List.length_nil]; omega⟩;rw[← e3,zF]
  simp only[ycw,yo0,ypv,zky (show(5-((n+1:Nat):Int))<5 by omega),cond_true,zkX,e1,e2,zkH,wq ((5-((n+1:Nat):Int))+1) (by omega) (by omega),show(5-((n+1:Nat):Int))+1=5-(n:Int)by omega,wq (5-(n:Int)) (by omega) (by omega),
   zkF.2 (show(l.length+ [y].length)*8≤140737488355328 by simp only[List.length_cons,List.length_nil]; omega)]
theorem yXj (u:dU) (h:yA u): ∃(l:List Int) (u':dU),ye7 u=some ((l,()),(u',()))∧l.length=5∧yA u':=by
 obtain⟨u',l',e,d,hl⟩:=ySg 5 u [] 18446744073709551616 (by omega) (by omega) h (by simp);unfold ye7;refine⟨l',u',?_,by rw[hl]; rfl,d⟩;exact(congrArg (fun z=>zkt z _ _) (show yqF (yOB u [])=_ from e)).trans rfl
def yM3:Code:=(f18.body).getD .skip
def yNb:Env:=zkw TT [(69,yc7),(70,yob),(71,ycc),(72,ym),(79,ys7),(80,yae)] []
theorem yKh:FrOk prog ⟨yNb,23,fun _=>none⟩ yM3:=zkA mixed yd ⟨yf7,yzs,ye3,yv,yIW,yaR,trivial⟩
abbrev yox:List Par:= [.kp tYs .fz]
abbrev yoF:List OT:= [⟨false,tMs,(.ow .fz)⟩,⟨false,tL,(.ow .fz)⟩,⟨false,tI,.fz⟩,⟨false,tI,.fz⟩]
def ydX (a0:List Int):Option (zaY yoF×zak yox) :=let r1:=yaP a0;bnd (ye7 r1) fun r2 =>let r3:=yas a0 12;bnd (ydZ r2.2.1 r3) fun r4 =>bnd (yb r4.2.1 2) fun r5 =>bnd (yp r5.2.1 ([(-1),(-1),0,2,5,9,14,1001,(-2)]:List Int)) fun r6 =>some ((r4.1.1,r2.1.1,(i64.wrap (1+r5.1.1)),r6.1.1,()),())
theorem yLv:ConOk prog 18 ⟨yox,yoF,fun x=>ydX x.1⟩:=zkI (yKh) func18 ntmps18.symm fun x=>by kernel_rfl
def yvR:Con:=⟨yox,yoF,fun x=>ydX x.1⟩
theorem yMQ:ConOk prog 18 yvR:=yLv
theorem y0W (a0:List Int) (hb:a0.length≤140737488355328): ∃(l:List dM) (ks:List Int) (id f:Int),ydX a0=some ((l,ks,id,f,()),())∧LM l:=by
 unfold ydX;obtain⟨h1,h2⟩:=yzj a0 12 (by omega) hb;obtain⟨ks,u1,e1,_,d1⟩:=yXj _ (yGc a0 hb);obtain⟨l,u2,e2,q2,d2⟩:=yNs u1 _ d1 h1 (by omega);obtain⟨x,u3,e3,_,d3⟩:=yo u2 2 d2;obtain⟨f,u4,e4,_,d4⟩:=yeJ u3 [(-1),(-1),0,2,5,9,14,1001,(-2)] d3 (by simp);simp only[e1,e2,e3,e4,zkH];exact⟨_,_,_,_,rfl,q2⟩
end
end Go.Tf
