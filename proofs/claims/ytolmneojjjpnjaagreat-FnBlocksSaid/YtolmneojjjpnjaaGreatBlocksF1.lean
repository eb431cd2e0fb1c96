/- Functions of the program, and what they come to. -/
import Derived.Test.YtolmneojjjpnjaaGreatBlocksF0
namespace Go.Tf
noncomputable section
open Go.Proofs Go.Proofs.Tryz IntKind
set_option synthInstance.maxHeartbeats 400000
set_option synthInstance.maxSize 10000
set_option linter.unusedVariables false
set_option linter.unusedSimpArgs false
set_option maxRecDepth 100000
def yZg:Code:=(f123.body).getD .skip
def yZt:Env:=zkw TT [(81,yJ)] []
theorem yRY:FrOk prog ⟨yZt,11,fun _=>none⟩ yZg:=zkA mixed yc ⟨yY,trivial⟩
abbrev yBJ:List Par:= [.rd tG]
abbrev yBT:List OT:= [⟨false,tB,.fz⟩]
def yG0 (a0:dG):Option (zaY yBT×zak yBJ) :=let r1:=yf a0.1 3 5;bif r1 then let r2:=yf a0.2 1 8;some ((r2,()),()) else some ((false,()),())
theorem yV8:ConOk prog 123 ⟨yBJ,yBT,fun x=>yG0 x.1⟩:=zkI (yRY) func123 ntmps123.symm fun x=>by kernel_rfl
def ybw (a0:dG):Bool :=let r1:=yf a0.1 3 5;bif r1 then let r2:=yf a0.2 1 8;r2 else false
def ygi:Con:=⟨yBJ,yBT,fun x=>(fun n=>some ((n,()),())) (ybw x.1)⟩
theorem yYv (a0:dG):yG0 a0=(fun n=>some ((n,()),())) (ybw a0):=zkV (p:=fun(n:Bool)=>((n,()),())) (zkG (p:=fun(n:Bool)=>((n,()),())) rfl rfl)
theorem yls:ConOk prog 123 ygi:=(yV8).mono (fun x r _ h=>(yYv x.1).trans h)
theorem yJW (a:Int×Int):ybw a=ye a:=by kernel_rfl
def yXu:Code:=(f51.body).getD .skip
def yXZ:Env:=zkw TT [(123,ygi)] []
theorem yOb:FrOk prog ⟨yXZ,12,fun _=>none⟩ yXu:=zkA mixed yc ⟨yls,trivial⟩
abbrev yyE:List Par:= [.rd tG]
abbrev yyZ:List OT:= [⟨false,tI,.fz⟩]
def yFh (a0:dG):Option (zaY yyZ×zak yyE) :=let r1:=ybw a0;bif(!r1)then some ((0,()),()) else some (((i64.wrap (a0.2*(i64.wrap (a0.1-1)))),()),())
theorem yTe:ConOk prog 51 ⟨yyE,yyZ,fun x=>yFh x.1⟩:=zkI (yOb) func51 ntmps51.symm fun x=>by kernel_rfl
def yd5 (a0:dG):Int :=let r1:=ybw a0;bif(!r1)then 0 else (i64.wrap (a0.2*(i64.wrap (a0.1-1))))
def ymQ:Con:=⟨yyE,yyZ,fun x=>(fun n=>some ((n,()),())) (yd5 x.1)⟩
theorem yVy (a0:dG):yFh a0=(fun n=>some ((n,()),())) (yd5 a0):=zkV (p:=fun(n:Int)=>((n,()),())) (zkG (p:=fun(n:Int)=>((n,()),())) rfl rfl)
theorem ywy:ConOk prog 51 ymQ:=(yTe).mono (fun x r _ h=>(yVy x.1).trans h)
def yXE:Code:=(f125.body).getD .skip
def yX9:Env:=zkw TT [(81,yJ)] []
theorem yOn:FrOk prog ⟨yX9,26,fun _=>none⟩ yXE:=zkA mixed yc ⟨yY,trivial⟩
abbrev yyL:List Par:= [.rd tG,.rd tI,.rd tI]
abbrev yza:List OT:= [⟨false,tB,.fz⟩]
def yFo (a0:dG) (a1 a2:Int):Option (zaY yza×zak yyL) :=let r1:=yf a1 (-1) (i64.wrap (a0.1-1));bif r1 then let r2:=yf a2 0 a0.2;bif r2 then bif(!(a2==0))then some (((a1 !=(-1)),()),()) else some ((true,()),()) else some ((false,()),()) else some ((false,()),())
theorem yTp:ConOk prog 125 ⟨yyL,yza,fun x=>yFo x.1 x.2.1 x.2.2.1⟩:=zkI (yOn) func125 ntmps125.symm fun x=>by kernel_rfl
def yfu (a0:dG) (a1 a2:Int):Bool :=let r1:=yf a1 (-1) (i64.wrap (a0.1-1));bif r1 then let r2:=yf a2 0 a0.2;bif r2 then bif(!(a2==0))then (a1 !=(-1)) else true else false else false
def ytV:Con:=⟨yyL,yza,fun x=>(fun n=>some ((n,()),())) (yfu x.1 x.2.1 x.2.2.1)⟩
theorem yVJ (a0:dG) (a1 a2:Int):yFo a0 a1 a2=(fun n=>some ((n,()),())) (yfu a0 a1 a2):=zkV (p:=fun(n:Bool)=>((n,()),())) (zkG (p:=fun(n:Bool)=>((n,()),())) (zkG (p:=fun(n:Bool)=>((n,()),())) (zkG (p:=fun(n:Bool)=>((n,()),())) rfl rfl) rfl) rfl)
theorem yGR:ConOk prog 125 ytV:=(yTp).mono (fun x r _ h=>(yVJ x.1 x.2.1 x.2.2.1).trans h)
def yNI:Code:=(f109.body).getD .skip
def yNX:Env:=zkw TT [(81,yJ),(123,ygi)] []
theorem yIk:FrOk prog ⟨yNX,14,fun _=>none⟩ yNI:=zkA mixed yc ⟨yY,yls,trivial⟩
abbrev yqW:List Par:= [.rd tG,.rd tI]
abbrev yqZ:List OT:= [⟨false,tB,.fz⟩]
def yye (a0:dG) (a1:Int):Option (zaY yqZ×zak yqW) :=let r1:=ybw a0;bif r1 then let r2:=yf a1 0 (i64.wrap (a0.2-1));some ((r2,()),()) else some ((false,()),())
theorem yKt:ConOk prog 109 ⟨yqW,yqZ,fun x=>yye x.1 x.2.1⟩:=zkI (yIk) func109 ntmps109.symm fun x=>by kernel_rfl
def yaj (a0:dG) (a1:Int):Bool :=let r1:=ybw a0;bif r1 then let r2:=yf a1 0 (i64.wrap (a0.2-1));r2 else false
def ybv:Con:=⟨yqW,yqZ,fun x=>(fun n=>some ((n,()),())) (yaj x.1 x.2.1)⟩
theorem yMI (a0:dG) (a1:Int):yye a0 a1=(fun n=>some ((n,()),())) (yaj a0 a1):=zkV (p:=fun(n:Bool)=>((n,()),())) (zkG (p:=fun(n:Bool)=>((n,()),())) rfl rfl)
theorem ydP:ConOk prog 109 ybv:=(yKt).mono (fun x r _ h=>(yMI x.1 x.2.1).trans h)
theorem yp3 (g:dG) (s:Int):yaj g s=yG g s:=by
 unfold yaj yG;rw[yJW];cases hg:ye g
 ·rfl
 have:=yj.1 hg;rw[yas,yb6,wr (by omega) (by omega)]; rfl
def yXA:Code:=(f129.body).getD .skip
def yX5:Env:=zkw TT [(187,ykJ)] []
theorem yOj:FrOk prog ⟨yX5,15,fun _=>none⟩ yXA:=zkA mixed yc ⟨yus,trivial⟩
abbrev yyH:List Par:= [.rd tG,.rd tL]
abbrev yy6:List OT:= [⟨false,tB,.fz⟩]
def yFk (a0:dG) (a1:List Int):Option (zaY yy6×zak yyH) :=bif((a1.length:Int)==(i64.wrap (a0.1-1)))then let r1:=yar a1;some ((r1,()),()) else some ((false,()),())
theorem yTl:ConOk prog 129 ⟨yyH,yy6,fun x=>yFk x.1 x.2.1⟩:=zkI (yOj) func129 ntmps129.symm fun x=>by kernel_rfl
def yd6 (a0:dG) (a1:List Int):Bool :=bif((a1.length:Int)==(i64.wrap (a0.1-1)))then let r1:=yar a1;r1 else false
def ytT:Con:=⟨yyH,yy6,fun x=>(fun n=>some ((n,()),())) (yd6 x.1 x.2.1)⟩
theorem yVF (a0:dG) (a1:List Int):yFk a0 a1=(fun n=>some ((n,()),())) (yd6 a0 a1):=zkV (p:=fun(n:Bool)=>((n,()),())) (zkG (p:=fun(n:Bool)=>((n,()),())) rfl rfl)
theorem yGP:ConOk prog 129 ytT:=(yTl).mono (fun x r _ h=>(yVF x.1 x.2.1).trans h)
def yoc:Code:=(f126.body).getD .skip
def yvJ:Env:=zkw TT [(109,ybv),(129,ytT)] []
theorem yLU:FrOk prog ⟨yvJ,44,fun _=>none⟩ yoc:=zkA mixed yc ⟨ydP,yGP,trivial⟩
def yBp:Nat→Option Seg:=fun _=>none
def ybW:Shape:=⟨[(1,false,[.ptr 0 0]),(6,false,[.br tW]),(7,false,[.int .i64]),(8,false,[.int .i64])],[(0,[.int .i64,.int .i64,.int .i64,.br tM,.int .i64,.int .i64,.int .i64,.int .i64,.int .i64,.br tW,.int .i64,.bool,.bool])],[]⟩
def yfR:Shape:=⟨[(1,false,[.ptr 0 0]),(6,false,[.br tW]),(7,false,[.int .i64]),(8,false,[.ci .i64 0])],[(0,[.int .i64,.int .i64,.int .i64,.br tM,.int .i64,.int .i64,.int .i64,.int .i64,.int .i64,.br tW,.int .i64,.bool,.bool])],[]⟩
def yfF:Shape:=⟨[],[],[]⟩
def yfZ:Shape:=⟨[(2,false,[.bool])],[],[]⟩
abbrev ynD (v0:List dW) (v1 v2:Int) (v3:dA):(ybW).X:=((((),()),(v0,()),(v1,()),(v2,()),()),((v3.1,v3.2.1.1,v3.2.1.2,v3.2.2.1,v3.2.2.2.1,v3.2.2.2.2.1,v3.2.2.2.2.2.1,v3.2.2.2.2.2.2.1,v3.2.2.2.2.2.2.2.1,v3.2.2.2.2.2.2.2.2.1,v3.2.2.2.2.2.2.2.2.2.1,v3.2.2.2.2.2.2.2.2.2.2.1,v3.2.2.2.2.2.2.2.2.2.2.2,()),()),())
abbrev yKa (v0:List dW) (v1:Int) (v2:dA):(yfR).X:=((((),()),(v0,()),(v1,()),((),()),()),((v2.1,v2.2.1.1,v2.2.1.2,v2.2.2.1,v2.2.2.2.1,v2.2.2.2.2.1,v2.2.2.2.2.2.1,v2.2.2.2.2.2.2.1,v2.2.2.2.2.2.2.2.1,v2.2.2.2.2.2.2.2.2.1,v2.2.2.2.2.2.2.2.2.2.1,v2.2.2.2.2.2.2.2.2.2.2.1,v2.2.2.2.2.2.2.2.2.2.2.2,()),()),())
abbrev yJ1  :(yfF).X:=((),(),())
abbrev yKh (v0:Bool):(yfZ).X:=(((v0,()),()),(),())
def yn0 (v0:List dW) (v1 v2 v3 v4 v5:Int) (v6:List dM) (v7 v8 v9 v10 v11:Int) (v12:List dW) (v13:Int) (v14 v15:Bool):Option ((ybW).X ⊕ ((yfF).X ⊕ (yfZ).X)) :=bif(ltb v2 v1)then bif(inb v2 v0.length)then let r4:=yaj (v4,v5) ((nth v0 v2 (0,[])).1);bif(!(!r4))then bif(ltb 0 v2)then bif(inb (i64.wrap (v2-1)) v12.length)then bif(!(leb ((nth v0 v2 (0,[])).1) ((nth v12 (i64.wrap (v2-1)) (0,[])).1)))then let r5:=yd6 (v4,v5) ((nth v0 v2 (0,[])).2);bif(!r5)then some (.inr (.inr (((false,()),()),(),()))) else some (.inl ((((),()),(v0,()),(v1,()),((i64.wrap (v2+1)),()),()),((v3,v4,v5,v6,v7,v8,v9,v10,v11,v12,v13,v14,v15,()),()),())) else some (.inr (.inr (((false,()),()),(),()))) else none else let r6:=yd6 (v4,v5) ((nth v0 v2 (0,[])).2);bif(!r6)then some (.inr (.inr (((false,()),()),(),()))) else some (.inl ((((),()),(v0,()),(v1,()),((i64.wrap (v2+1)),()),()),((v3,v4,v5,v6,v7,v8,v9,v10,v11,v12,v13,v14,v15,()),()),())) else some (.inr (.inr (((false,()),()),(),()))) else none else some (.inr (.inl ((),(),())))
def ycj (x:(ybW).X):=yn0 x.1.2.1.1 x.1.2.2.1.1 x.1.2.2.2.1.1 x.2.1.1.1 x.2.1.1.2.1 x.2.1.1.2.2.1 x.2.1.1.2.2.2.1 x.2.1.1.2.2.2.2.1 x.2.1.1.2.2.2.2.2.1 x.2.1.1.2.2.2.2.2.2.1 x.2.1.1.2.2.2.2.2.2.2.1 x.2.1.1.2.2.2.2.2.2.2.2.1 x.2.1.1.2.2.2.2.2.2.2.2.2.1 x.2.1.1.2.2.2.2.2.2.2.2.2.2.1 x.2.1.1.2.2.2.2.2.2.2.2.2.2.2.1 x.2.1.1.2.2.2.2.2.2.2.2.2.2.2.2.1
def yxB (x:(yfR).X):(ybW).X:=((((),()),(x.1.2.1.1,()),(x.1.2.2.1.1,()),(0,()),()),((x.2.1.1.1,x.2.1.1.2.1,x.2.1.1.2.2.1,x.2.1.1.2.2.2.1,x.2.1.1.2.2.2.2.1,x.2.1.1.2.2.2.2.2.1,x.2.1.1.2.2.2.2.2.2.1,x.2.1.1.2.2.2.2.2.2.2.1,x.2.1.1.2.2.2.2.2.2.2.2.1,x.2.1.1.2.2.2.2.2.2.2.2.2.1,x.2.1.1.2.2.2.2.2.2.2.2.2.2.1,x.2.1.1.2.2.2.2.2.2.2.2.2.2.2.1,x.2.1.1.2.2.2.2.2.2.2.2.2.2.2.2.1,()),()),())
def yz5:Code:=(zd7 yoc 64 52).getD .skip
theorem yLz:zd7 yoc 64 13=some (.block 0 (.loop yz5)):=by kernel_rfl
theorem yNm (x:(ybW).X):zhu ⟨yvJ,44,yBp⟩ 0 yz5 52 ybW yfF yfZ x=ycj x:=by kernel_rfl
def yxS (x:(yfR).X):Nat:=18446744073709551616
def yoY (x:(yfR).X):Option ((yfF).X ⊕ (yfZ).X):=zF ycj (yxS x) (yxB x)
def yyl:Seg:=⟨yfR,yfF,yfZ,yoY⟩
def yNN:Nat→Option Seg:=fun q=>bif Nat.beq q 13 then some yyl else yBp q
theorem yLV:FrOk prog ⟨yvJ,44,yNN⟩ yoc:=(yLU).loop (sg:=yyl) ybW yxB (by decide) yLz ycj yxS (by decide) (fun _=>rfl) (fun x r _ h=>h) yNm
abbrev yjq:List Par:= [.rd tA]
abbrev yos:List OT:= [⟨false,tB,.fz⟩]
def yry (a0:dA):Option (zaY yos×zak yjq) :=zkt (yoY ((((),()),(a0.2.2.2.2.2.2.2.2.1,()),((a0.2.2.2.2.2.2.2.2.1.length:Int),()),((),()),()),((a0.1,a0.2.1.1,a0.2.1.2,a0.2.2.1,a0.2.2.2.1,a0.2.2.2.2.1,a0.2.2.2.2.2.1,a0.2.2.2.2.2.2.1,a0.2.2.2.2.2.2.2.1,a0.2.2.2.2.2.2.2.2.1,a0.2.2.2.2.2.2.2.2.2.1,a0.2.2.2.2.2.2.2.2.2.2.1,a0.2.2.2.2.2.2.2.2.2.2.2,()),()),())) (fun y6 =>some ((true,()),())) (fun y6 =>some ((y6.1.1.1,()),()))
theorem yP4:ConOk prog 126 ⟨yjq,yos,fun x=>yry x.1⟩:=zkI (yLV) func126 ntmps126.symm fun x=>by kernel_rfl
def yjW (a0:dA):Bool:=yaq a0.2.1 a0.2.2.2.2.2.2.2.2.1
def ywF (a0:dA):Bool:=ye a0.2.1
theorem yuc (l:List Int):yar l=l.all isW:=by
 unfold yar;rw[show yai=isW from funext fun x=>by unfold yai; rw[yas,yb6]; rfl]
theorem ySW (a0:dA) (hk:zjx yjq (a0,())) (hq:ywF a0=true):yry a0=(fun n=>some ((n,()),())) (yjW a0):=by
 have hb:a0.2.2.2.2.2.2.2.2.1.length*32≤2^47:=hk.1.2.2.2.2.2.2.2.2.1.1;have hg:=yj.1 hq;have hq':ye a0.2.1=true:=hq
 have h1:yoY (yKa a0.2.2.2.2.2.2.2.2.1 a0.2.2.2.2.2.2.2.2.1.length a0)=some (bif(List.range a0.2.2.2.2.2.2.2.2.1.length).any (yhr a0.2.1 a0.2.2.2.2.2.2.2.2.1)then .inr (yKh false)else .inl yJ1) :=
  zji (step:=ycj) (fun i=>ynD a0.2.2.2.2.2.2.2.2.1 a0.2.2.2.2.2.2.2.2.1.length i a0) a0.2.2.2.2.2.2.2.2.1.length (yhr a0.2.1 a0.2.2.2.2.2.2.2.2.1) _ _ (fun i hi=>by
   simp only[ycj,ynD,yn0,zky (show(i:Int)<a0.2.2.2.2.2.2.2.2.1.length by omega),cond_true,wq ((i:Int)+1) (by omega) (by omega),Int.natCast_add,Int.natCast_one,Int.toNat_natCast,zkR hi,zkX,yaj,yd6,yJW,hq',yas,yb6,yuc,wq (a0.2.1.2-1) (by omega) (by omega),wq (a0.2.1.1-1) (by omega) (by omega),yhr,bne];rcases Nat.eq_zero_or_pos i with rfl | h0
   ·cases(leb 0 (nth a0.2.2.2.2.2.2.2.2.1 ((0:Nat):Int) (0,[])).1&&leb (nth a0.2.2.2.2.2.2.2.2.1 ((0:Nat):Int) (0,[])).1 (a0.2.1.2-1))<;>cases(((nth a0.2.2.2.2.2.2.2.2.1 ((0:Nat):Int) (0,[])).2.length:Int)==a0.2.1.1-1)<;>cases((nth a0.2.2.2.2.2.2.2.2.1 ((0:Nat):Int) (0,[])).2.all isW)<;>rfl
   ·rw[show i64.wrap ((i:Int)-1)=((i-1:Nat):Int)by rw[wr (by omega) (by omega)]; omega,zkR (show i-1<a0.2.2.2.2.2.2.2.2.1.length by omega),zky (show(0:Int)<i by omega),decide_eq_true h0]
    cases(leb 0 (nth a0.2.2.2.2.2.2.2.2.1 (i:Int) (0,[])).1&&leb (nth a0.2.2.2.2.2.2.2.2.1 (i:Int) (0,[])).1 (a0.2.1.2-1))<;>cases(((nth a0.2.2.2.2.2.2.2.2.1 (i:Int) (0,[])).2.length:Int)==a0.2.1.1-1)<;>cases((nth a0.2.2.2.2.2.2.2.2.1 (i:Int) (0,[])).2.all isW)<;>cases leb (nth a0.2.2.2.2.2.2.2.2.1 (i:Int) (0,[])).1 (nth a0.2.2.2.2.2.2.2.2.1 ((i-1:Nat):Int) (0,[])).1<;>rfl) (by simp only[ycj,ynD,yn0,zk3 (Int.le_refl _),cond_false]) _ (by show _<18446744073709551616; omega)
 unfold yry yjW yaq;rw[h1];cases(List.range a0.2.2.2.2.2.2.2.2.1.length).any (yhr a0.2.1 a0.2.2.2.2.2.2.2.2.1)<;>rfl
def yoK (a0:dA):Option (zaY yos×zak yjq):=bif ywF a0 then(fun n=>some ((n,()),())) (yjW a0)else none
theorem yT8 (a0:dA) (h:ywF a0=true):yoK a0=(fun n=>some ((n,()),())) (yjW a0):=by unfold yoK; rw[h]; rfl
def yCu:Con:=⟨yjq,yos,fun x=>yoK x.1⟩
theorem yTT:ConOk prog 126 yCu:=(yP4).mono (fun x r hk h=>zkY h (fun hq=>ySW x.1 hk hq))
def yUA:Code:=(f128.body).getD .skip
def yU3:Env:=zkw TT [] []
theorem yLX:FrOk prog ⟨yU3,6,fun _=>none⟩ yUA:=zkA mixed yc trivial
abbrev yvU:List Par:= [.rd tG]
abbrev ywb:List OT:= [⟨false,tI,.fz⟩]
def yDF (a0:dG):Option (zaY ywb×zak yvU) :=some (((i64.wrap (6+a0.2)),()),())
theorem yP6:ConOk prog 128 ⟨yvU,ywb,fun x=>yDF x.1⟩:=zkI (yLX) func128 ntmps128.symm fun x=>by kernel_rfl
def yoF (a0:dG):Int :=(i64.wrap (6+a0.2))
def yCw:Con:=⟨yvU,ywb,fun x=>(fun n=>some ((n,()),())) (yoF x.1)⟩
theorem ySY (a0:dG):yDF a0=(fun n=>some ((n,()),())) (yoF a0):=zkV (p:=fun(n:Int)=>((n,()),())) rfl
theorem yTV:ConOk prog 128 yCw:=(yP6).mono (fun x r _ h=>(ySY x.1).trans h)
def ysl:Code:=(f55.body).getD .skip
def yBy:Env:=zkw TT [(81,yJ),(123,ygi),(125,ytV),(126,yCu),(127,yjH),(128,yCw)] []
theorem yRV:FrOk prog ⟨yBy,103,fun _=>none⟩ ysl:=zkA mixed yc ⟨yY,yls,yGR,yTT,yqF,yTV,trivial⟩
def yFZ:Nat→Option Seg:=fun _=>none
def ydi:Shape:=⟨[(1,false,[.ptr 0 0]),(41,false,[.br tM]),(42,false,[.int .i64]),(43,false,[.int .i64])],[(0,[.int .i64,.int .i64,.int .i64,.br tM,.int .i64,.int .i64,.int .i64,.int .i64,.int .i64,.br tW,.int .i64,.bool,.bool])],[]⟩
def yhX:Shape:=⟨[(1,false,[.ptr 0 0]),(41,false,[.br tM]),(42,false,[.int .i64]),(43,false,[.ci .i64 0])],[(0,[.int .i64,.int .i64,.int .i64,.br tM,.int .i64,.int .i64,.int .i64,.int .i64,.int .i64,.br tW,.int .i64,.bool,.bool])],[]⟩
def yhI:Shape:=⟨[(1,false,[.ptr 0 0])],[(0,[.int .i64,.int .i64,.int .i64,.br tM,.int .i64,.int .i64,.int .i64,.int .i64,.int .i64,.br tW,.int .i64,.bool,.bool])],[]⟩
def yic:Shape:=⟨[(2,false,[.bool])],[],[]⟩
abbrev yq8 (v0:List dM) (v1 v2:Int) (v3:dA):(ydi).X:=((((),()),(v0,()),(v1,()),(v2,()),()),((v3.1,v3.2.1.1,v3.2.1.2,v3.2.2.1,v3.2.2.2.1,v3.2.2.2.2.1,v3.2.2.2.2.2.1,v3.2.2.2.2.2.2.1,v3.2.2.2.2.2.2.2.1,v3.2.2.2.2.2.2.2.2.1,v3.2.2.2.2.2.2.2.2.2.1,v3.2.2.2.2.2.2.2.2.2.2.1,v3.2.2.2.2.2.2.2.2.2.2.2,()),()),())
abbrev yPc (v0:List dM) (v1:Int) (v2:dA):(yhX).X:=((((),()),(v0,()),(v1,()),((),()),()),((v2.1,v2.2.1.1,v2.2.1.2,v2.2.2.1,v2.2.2.2.1,v2.2.2.2.2.1,v2.2.2.2.2.2.1,v2.2.2.2.2.2.2.1,v2.2.2.2.2.2.2.2.1,v2.2.2.2.2.2.2.2.2.1,v2.2.2.2.2.2.2.2.2.2.1,v2.2.2.2.2.2.2.2.2.2.2.1,v2.2.2.2.2.2.2.2.2.2.2.2,()),()),())
abbrev yO4 (v0:dA):(yhI).X:=((((),()),()),((v0.1,v0.2.1.1,v0.2.1.2,v0.2.2.1,v0.2.2.2.1,v0.2.2.2.2.1,v0.2.2.2.2.2.1,v0.2.2.2.2.2.2.1,v0.2.2.2.2.2.2.2.1,v0.2.2.2.2.2.2.2.2.1,v0.2.2.2.2.2.2.2.2.2.1,v0.2.2.2.2.2.2.2.2.2.2.1,v0.2.2.2.2.2.2.2.2.2.2.2,()),()),())
abbrev yPq (v0:Bool):(yic).X:=(((v0,()),()),(),())
def yrJ (v0:List dM) (v1 v2 v3 v4 v5:Int) (v6:List dM) (v7 v8 v9 v10 v11:Int) (v12:List dW) (v13:Int) (v14 v15:Bool):Option ((ydi).X ⊕ ((yhI).X ⊕ (yic).X)) :=bif(ltb v2 v1)then bif(inb v2 v0.length)then let r7:=ybx ((nth v0 v2 ([],[],false,[])).1,((nth v0 v2 ([],[],false,[])).2).1,(((nth v0 v2 ([],[],false,[])).2).2));bif(!(!r7))then let r8:=yoF (v4,v5);bif(!((((nth v0 v2 ([],[],false,[])).1).length:Int) !=r8))then bif(((nth v0 v2 ([],[],false,[])).2).2).1 then bif(v7 !=v2)then bif(!v15)then some (.inr (.inr (((false,()),()),(),()))) else some (.inl ((((),()),(v0,()),(v1,()),((i64.wrap (v2+1)),()),()),((v3,v4,v5,v6,v7,v8,v9,v10,v11,v12,v13,v14,v15,()),()),())) else some (.inl ((((),()),(v0,()),(v1,()),((i64.wrap (v2+1)),()),()),((v3,v4,v5,v6,v7,v8,v9,v10,v11,v12,v13,v14,v15,()),()),())) else some (.inl ((((),()),(v0,()),(v1,()),((i64.wrap (v2+1)),()),()),((v3,v4,v5,v6,v7,v8,v9,v10,v11,v12,v13,v14,v15,()),()),())) else some (.inr (.inr (((false,()),()),(),()))) else some (.inr (.inr (((false,()),()),(),()))) else none else some (.inr (.inl ((((),()),()),((v3,v4,v5,v6,v7,v8,v9,v10,v11,v12,v13,v14,v15,()),()),())))
def ydR (x:(ydi).X):=yrJ x.1.2.1.1 x.1.2.2.1.1 x.1.2.2.2.1.1 x.2.1.1.1 x.2.1.1.2.1 x.2.1.1.2.2.1 x.2.1.1.2.2.2.1 x.2.1.1.2.2.2.2.1 x.2.1.1.2.2.2.2.2.1 x.2.1.1.2.2.2.2.2.2.1 x.2.1.1.2.2.2.2.2.2.2.1 x.2.1.1.2.2.2.2.2.2.2.2.1 x.2.1.1.2.2.2.2.2.2.2.2.2.1 x.2.1.1.2.2.2.2.2.2.2.2.2.2.1 x.2.1.1.2.2.2.2.2.2.2.2.2.2.2.1 x.2.1.1.2.2.2.2.2.2.2.2.2.2.2.2.1
def yCK (x:(yhX).X):(ydi).X:=((((),()),(x.1.2.1.1,()),(x.1.2.2.1.1,()),(0,()),()),((x.2.1.1.1,x.2.1.1.2.1,x.2.1.1.2.2.1,x.2.1.1.2.2.2.1,x.2.1.1.2.2.2.2.1,x.2.1.1.2.2.2.2.2.1,x.2.1.1.2.2.2.2.2.2.1,x.2.1.1.2.2.2.2.2.2.2.1,x.2.1.1.2.2.2.2.2.2.2.2.1,x.2.1.1.2.2.2.2.2.2.2.2.2.1,x.2.1.1.2.2.2.2.2.2.2.2.2.2.1,x.2.1.1.2.2.2.2.2.2.2.2.2.2.2.1,x.2.1.1.2.2.2.2.2.2.2.2.2.2.2.2.1,()),()),())
def yEl:Code:=(zd7 ysl 64 116).getD .skip
theorem yRw:zd7 ysl 64 29=some (.block 0 (.loop yEl)):=by kernel_rfl
theorem yUd (x:(ydi).X):zhu ⟨yBy,103,yFZ⟩ 0 yEl 116 ydi yhI yic x=ydR x:=by kernel_rfl
def yC0 (x:(yhX).X):Nat:=18446744073709551616
def ysL (x:(yhX).X):Option ((yhI).X ⊕ (yic).X):=zF ydR (yC0 x) (yCK x)
def yDK:Seg:=⟨yhX,yhI,yic,ysL⟩
def yUN:Nat→Option Seg:=fun q=>bif Nat.beq q 29 then some yDK else yFZ q
theorem yRW:FrOk prog ⟨yBy,103,yUN⟩ ysl:=(yRV).loop (sg:=yDK) ydi yCK (by decide) yRw ydR yC0 (by decide) (fun _=>rfl) (fun x r _ h=>h) yUd
abbrev ys0:List Par:= [.rd tA]
abbrev yBR:List OT:= [⟨false,tB,.fz⟩]
def ywK (a0:dA):Option (zaY yBR×zak ys0) :=let r1:=ybw a0.2.1;bif(!(!r1))then bif(!((a0.2.2.1.length:Int) !=a0.2.1.1))then let r2:=yf a0.1 1 60000;bif(!(!r2))then let r3:=yfu a0.2.1 a0.2.2.2.1 a0.2.2.2.2.1;bif(!(!r3))then bnd (yoK a0) fun r4 =>bif(!r4.1.1)then some ((false,()),()) else zkt (ysL ((((),()),(a0.2.2.1,()),((a0.2.2.1.length:Int),()),((),()),()),((a0.1,a0.2.1.1,a0.2.1.2,a0.2.2.1,a0.2.2.2.1,a0.2.2.2.2.1,a0.2.2.2.2.2.1,a0.2.2.2.2.2.2.1,a0.2.2.2.2.2.2.2.1,a0.2.2.2.2.2.2.2.2.1,a0.2.2.2.2.2.2.2.2.2.1,a0.2.2.2.2.2.2.2.2.2.2.1,a0.2.2.2.2.2.2.2.2.2.2.2,()),()),())) (fun y8 =>let r10:=yf y8.2.1.1.2.2.2.2.2.2.1 0 60000;bif r10 then let r11:=yf y8.2.1.1.2.2.2.2.2.2.2.1 0 60000;bif r11 then let r12:=yf y8.2.1.1.2.2.2.2.2.2.2.2.1 0 60000;bif r12 then let r13:=yf (i64.wrap (y8.2.1.1.2.2.2.2.2.2.1-y8.2.1.1.2.2.2.2.2.2.2.1)) 0 4;bif r13 then let r14:=yf y8.2.1.1.2.2.2.2.2.2.2.2.2.2.1 (-1) 1000;some ((r14,()),()) else some ((false,()),()) else some ((false,()),()) else some ((false,()),()) else some ((false,()),())) (fun y8 =>some ((y8.1.1.1,()),())) else some ((false,()),()) else some ((false,()),()) else some ((false,()),()) else some ((false,()),())
theorem yV6:ConOk prog 55 ⟨ys0,yBR,fun x=>ywK x.1⟩:=zkI (yRW) func55 ntmps55.symm fun x=>by kernel_rfl
theorem y3p {S T G F z TS le:Bool} (h1:T=true→TS=true→S=true) (h2:S=true→T=true→z=(TS&&le)) :
  (bif S then bif T then bif G then bif z then some ((F,()),())else some ((false,()),())else some ((false,()),())else some ((false,()),())else some ((false,()),()))=some (((T&&(TS&&(le&&(G&&F)))),()),()):=by
 cases S
 ·cases T
  ·rfl
  ·cases TS
   ·rfl
   ·exact absurd (h1 rfl rfl) Bool.false_ne_true
 ·cases T
  ·cases G<;>rfl
  ·rw[h2 rfl rfl]
   cases TS<;>cases le<;>cases G<;>rfl
def yat (a0:dA):Bool:=yO a0
theorem yYt (a0:dA) (hk:zjx ys0 (a0,())):ywK a0=(fun n=>some ((n,()),())) (yat a0):=by
 have hb:a0.2.2.1.length*80≤2^47:=hk.1.2.2.1.1;unfold ywK yat yO;simp only[yJW,yas,yb6];cases hg:ye a0.2.1
 ·rfl
 have hg2:=yj.1 hg
 have h1:ysL (yPc a0.2.2.1 a0.2.2.1.length a0)=some (bif(List.range a0.2.2.1.length).any (ygX a0)then .inr (yPq false)else .inl (yO4 a0)) :=
  zji (step:=ydR) (fun i=>yq8 a0.2.2.1 a0.2.2.1.length i a0) a0.2.2.1.length (ygX a0) _ _ (fun i hi=>by
   simp only[ydR,yq8,yrJ,zky (show(i:Int)<a0.2.2.1.length by omega),cond_true,wq ((i:Int)+1) (by omega) (by omega),Int.natCast_add,Int.natCast_one,Int.toNat_natCast,zkR hi,zkX,ybx,ygX,yoF,wq (6+a0.2.1.2) (by omega) (by omega),yh];rw[show(a0.2.2.2.1 !=(i:Int))=((i:Int) !=a0.2.2.2.1)from bne_comm]
   cases yz (nth a0.2.2.1 i ([],[],false,[]))<;>cases(((nth a0.2.2.1 i ([],[],false,[])).1.length:Int) !=6+a0.2.1.2)<;>cases(nth a0.2.2.1 i ([],[],false,[])).2.2.1<;>cases((i:Int) !=a0.2.2.2.1)<;>cases a0.2.2.2.2.2.2.2.2.2.2.2<;>rfl) (by simp only[ydR,yq8,yrJ,zk3 (Int.le_refl _),cond_false]) _ (by show _<18446744073709551616; omega)
 rw[yT8 a0 hg,h1];simp only[zkH,yjW,yfu,yas,yb6,wq (a0.2.1.1-1) (by omega) (by omega),ylg]
 have hw:(leb 0 a0.2.2.2.2.2.1&&leb a0.2.2.2.2.2.1 60000)=true→(leb 0 a0.2.2.2.2.2.2.1&&leb a0.2.2.2.2.2.2.1 60000)=true→i64.wrap (a0.2.2.2.2.2.1-a0.2.2.2.2.2.2.1)=a0.2.2.2.2.2.1-a0.2.2.2.2.2.2.1:=fun h h'=>by
  rw[Bool.and_eq_true,zj7,zj7]at h h';exact wr (by omega) (by omega)
 simp only[bne,Bool.not_not,cond_true,Bool.true_and]
 have h2:(leb 0 a0.2.2.2.2.2.1&&leb a0.2.2.2.2.2.1 60000)=true→(leb 0 a0.2.2.2.2.2.2.1&&leb a0.2.2.2.2.2.2.1 60000)=true→(leb 0 (i64.wrap (a0.2.2.2.2.2.1-a0.2.2.2.2.2.2.1))&&leb (i64.wrap (a0.2.2.2.2.2.1-a0.2.2.2.2.2.2.1)) 4)=((leb a0.2.2.2.2.2.2.1 a0.2.2.2.2.2.1&&leb a0.2.2.2.2.2.1 60000)&&leb a0.2.2.2.2.2.1 (a0.2.2.2.2.2.2.1+4)):=fun h h'=>by
  rw[hw h h',Bool.eq_iff_iff];simp only[Bool.and_eq_true,zj7]at h h' ⊢;omega
 have h3:(leb 0 a0.2.2.2.2.2.2.1&&leb a0.2.2.2.2.2.2.1 60000)=true→(leb a0.2.2.2.2.2.2.1 a0.2.2.2.2.2.1&&leb a0.2.2.2.2.2.1 60000)=true→(leb 0 a0.2.2.2.2.2.1&&leb a0.2.2.2.2.2.1 60000)=true:=fun h h'=>by
  simp only[Bool.and_eq_true,zj7]at h h' ⊢;omega
 cases((a0.2.2.1.length:Int)==a0.2.1.1)
 ·cases(leb 1 a0.1&&leb a0.1 60000)<;>cases(List.range a0.2.2.1.length).any (ygX a0)<;>rfl
 cases(leb 1 a0.1&&leb a0.1 60000)
 ·rfl
 cases(leb (-1) a0.2.2.2.1&&leb a0.2.2.2.1 (a0.2.1.1-1))
 ·cases(List.range a0.2.2.1.length).any (ygX a0)<;>cases yaq a0.2.1 a0.2.2.2.2.2.2.2.2.1<;>rfl
 cases(leb 0 a0.2.2.2.2.1&&leb a0.2.2.2.2.1 a0.2.1.2)
 ·cases(List.range a0.2.2.1.length).any (ygX a0)<;>cases yaq a0.2.1 a0.2.2.2.2.2.2.2.2.1<;>rfl
 cases yaq a0.2.1 a0.2.2.2.2.2.2.2.2.1
 ·cases(List.range a0.2.2.1.length).any (ygX a0)<;>cases(a0.2.2.2.1== -1)<;>cases(a0.2.2.2.2.1==0)<;>rfl
 cases(List.range a0.2.2.1.length).any (ygX a0)
 ·cases(a0.2.2.2.1== -1)<;>cases(a0.2.2.2.2.1==0)
  case true.false=>rfl
  all_goals exact y3p h3 h2
 ·cases(a0.2.2.2.1== -1)<;>cases(a0.2.2.2.2.1==0)<;>rfl
def ygh:Con:=⟨ys0,yBR,fun x=>(fun n=>some ((n,()),())) (yat x.1)⟩
theorem ylr:ConOk prog 55 ygh:=(yV6).mono (fun x r hk h=>(yYt x.1 hk).trans h)
def yXH:Code:=(f119.body).getD .skip
def yYc:Env:=zkw TT [(150,ygj)] []
theorem yOt:FrOk prog ⟨yYc,12,fun _=>none⟩ yXH:=zkA mixed yc ⟨ylt,trivial⟩
abbrev yyN:List Par:= [.rd tG]
abbrev yzd:List OT:= [⟨false,tI,.fz⟩]
def yFq (a0:dG):Option (zaY yzd×zak yyN) :=let r1:=ye a0;bif(!r1)then some ((0,()),()) else some (((i64.wrap (a0.2*(i64.wrap (a0.1-1)))),()),())
theorem yTt:ConOk prog 119 ⟨yyN,yzd,fun x=>yFq x.1⟩:=zkI (yOt) func119 ntmps119.symm fun x=>by kernel_rfl
def yd (a0:dG):Int :=let r1:=ye a0;bif(!r1)then 0 else (i64.wrap (a0.2*(i64.wrap (a0.1-1))))
def ymT:Con:=⟨yyN,yzd,fun x=>(fun n=>some ((n,()),())) (yd x.1)⟩
theorem yVN (a0:dG):yFq a0=(fun n=>some ((n,()),())) (yd a0):=zkV (p:=fun(n:Int)=>((n,()),())) (zkG (p:=fun(n:Int)=>((n,()),())) rfl rfl)
theorem ywA:ConOk prog 119 ymT:=(yTt).mono (fun x r _ h=>(yVN x.1).trans h)
theorem yoP (a:Int×Int):0≤yd a∧yd a≤32:=by
 unfold yd;cases h:ye a
 ·simp
 ·obtain⟨⟨h1,h2⟩,h3,h4⟩:=yj.1 h
  have h5:0≤a.2*(a.1-1):=Int.mul_nonneg (by omega) (by omega);have h6:a.2*(a.1-1)≤8*4:=Int.mul_le_mul h4 (by omega) (by omega) (by omega);simp only[Bool.not_true,cond_false,wq (a.1-1) (by omega) (by omega),wq (a.2*(a.1-1)) (by omega) (by omega)];omega
theorem ykg {a:Int×Int} (h:ye a=true):yd a=a.2*(a.1-1):=by
 unfold yd;obtain⟨⟨h1,h2⟩,h3,h4⟩:=yj.1 h;have h5:0≤a.2*(a.1-1):=Int.mul_nonneg (by omega) (by omega);have h6:a.2*(a.1-1)≤8*4:=Int.mul_le_mul h4 (by omega) (by omega) (by omega);simp only[h,Bool.not_true,cond_false,wq (a.1-1) (by omega) (by omega),wq (a.2*(a.1-1)) (by omega) (by omega)]
def yi (l:List dW) (s:Int):Int:=yU (fun e:dW=>e.1==s) l
def yax (g:dG) (b:Int):Bool:=leb 0 b&&leb b (yd g-1)
def yp (g:dG) (b:Int):Int:=bif yax g b then b.tdiv (g.1-1)else -1
def yC (g:dG) (b:Int):Int:=bif yax g b then b.tmod (g.1-1)else -1
theorem ye1 {g:dG} {b:Int} (h:yax g b=true):ye g=true∧(0≤b.tdiv (g.1-1)∧b.tdiv (g.1-1)≤g.2-1)∧(0≤b.tmod (g.1-1)∧b.tmod (g.1-1)≤g.1-2):=by
 simp only[yax,Bool.and_eq_true,zj7]at h;cases hg:ye g
 ·have:yd g=0:=by unfold yd; rw[hg]; rfl
  omega
 ·rw[ykg hg]at h
  have h2:=yj.1 hg;rw[Int.tdiv_eq_ediv_of_nonneg h.1,Int.tmod_eq_emod_of_nonneg h.1];have h3:=Int.ediv_lt_of_lt_mul (show 0<g.1-1 by omega) (show b<g.2*(g.1-1)by omega);have h4:=Int.ediv_nonneg h.1 (show 0≤g.1-1 by omega);have h5:=Int.emod_nonneg b (show g.1-1≠0 by omega);have h6:=Int.emod_lt_of_pos b (show 0<g.1-1 by omega);exact⟨rfl,⟨h4,by omega⟩,h5,by omega⟩
theorem ygg {g:dG} {b:Int} (h:yax g b=true):yG g (yp g b)=true:=by
 obtain⟨h1,h2,_⟩:=ye1 h;unfold yp;rw[h,cond_true,yM];exact⟨h1,h2⟩
def yb4 (a:dA) (b:Int):Int:=bif !(yO a)then 1 else bif a.2.2.2.2.2.2.2.2.2.2.1 then 6 else bif yax a.2.1 b then 0 else 2
def ym (a:dA) (s:Int):List Int×Bool:=bif leb 0 (yi a.2.2.2.2.2.2.2.2.1 s)then((nth a.2.2.2.2.2.2.2.2.1 (yi a.2.2.2.2.2.2.2.2.1 s) (0,[])).2,true)else bif a.2.2.2.2.2.2.2.2.2.2.2 then([],false)else ykK a s
def yS (a:dA) (b:Int):Int×Int:=bif yb4 a b !=0 then(0,yb4 a b)else bif(ym a (yp a.2.1 b)).2 then(nth (ym a (yp a.2.1 b)).1 (yC a.2.1 b) 0,0)else(0,5)
theorem yW1 {a:dA} {b:Int} (h:yb4 a b=0):yO a=true∧yax a.2.1 b=true∧a.2.2.2.2.2.2.2.2.2.2.1=false:=by
 unfold yb4 at h;cases ha:yO a
 ·rw[ha]at h; exact absurd (show(1:Int)=0 from h) (by decide)
 ·rw[ha]at h
  cases hd:a.2.2.2.2.2.2.2.2.2.2.1
  ·rw[hd]at h
   cases hb:yax a.2.1 b
   ·rw[hb]at h; exact absurd (show(2:Int)=0 from h) (by decide)
   ·exact⟨rfl,rfl,rfl⟩
  ·rw[hd]at h; exact absurd (show(6:Int)=0 from h) (by decide)
theorem y2s {a:dA} (h:yO a=true) {i:Nat} (hi:i<a.2.2.2.2.2.2.2.2.1.length):(0≤(nth a.2.2.2.2.2.2.2.2.1 i (0,[])).1∧(nth a.2.2.2.2.2.2.2.2.1 i (0,[])).1≤a.2.1.2-1)∧((nth a.2.2.2.2.2.2.2.2.1 i (0,[])).2.length:Int)=a.2.1.1-1∧(nth a.2.2.2.2.2.2.2.2.1 i (0,[])).2.all isW=true∧(0<i→(nth a.2.2.2.2.2.2.2.2.1 ((i-1:Nat):Int) (0,[])).1<(nth a.2.2.2.2.2.2.2.2.1 i (0,[])).1):=by
 have h1:yaq a.2.1 a.2.2.2.2.2.2.2.2.1=true:=by simp only[yO,Bool.and_eq_true]at h; exact h.2.2.2.1
 simp only[yaq,Bool.not_eq_true',List.any_eq_false,List.mem_range]at h1;have h2:=h1 i hi;simp only[yhr,Bool.not_eq_true,Bool.or_eq_false_iff,Bool.not_eq_false',bne_eq_false_iff_eq,Bool.and_eq_true,Bool.and_eq_false_iff,decide_eq_false_iff_not,zj7]at h2;refine⟨h2.1,h2.2.1,h2.2.2.1,fun h0=> ?_⟩;rcases h2.2.2.2 with h3 | h3
 ·exact absurd h0 h3
 ·have:=mt zk2 (by rw[h3]; simp: ¬leb (nth a.2.2.2.2.2.2.2.2.1 i (0,[])).1 (nth a.2.2.2.2.2.2.2.2.1 ((i-1:Nat):Int) (0,[])).1=true)
  omega
theorem yhw {a:dA} {s:Int} (h:yO a=true) (hs:yG a.2.1 s=true) (h2:(ym a s).2=true):((ym a s).1.length:Int)=a.2.1.1-1:=by
 have hg:=yj.1 (yb3 h);unfold ym at h2 ⊢;cases hk:leb 0 (yi a.2.2.2.2.2.2.2.2.1 s)
 ·rw[hk]at h2
  simp only[cond_false]at h2 ⊢;cases hb:a.2.2.2.2.2.2.2.2.2.2.2
  ·rw[hb]at h2
   simp only[cond_false]at h2 ⊢;unfold ykK at h2 ⊢;cases hw:(yR a s).2
   ·rw[hw]at h2; cases h2
   ·simp only[cond_true,List.length_map,List.length_range]; omega
  ·rw[hb]at h2; cases h2
 ·have h3:=zj6.1 (ygV (d:=((0,[]):dW)) hk).1
  have:=(y2s h (i:=(yi a.2.2.2.2.2.2.2.2.1 s).toNat) (by unfold yi; omega)).2.1;rw[show(((yi a.2.2.2.2.2.2.2.2.1 s).toNat:Nat):Int)=yi a.2.2.2.2.2.2.2.2.1 s by have:=zj7.1 hk; omega]at this;exact this
theorem yZF (g:dG) (b:Int):yb b 0 (i64.wrap (yd g-1))=yax g b:=by
 have:=yoP g;rw[wr (by omega) (by omega),yb6]; rfl
def ygU (a:dA):List Int:=bif(List.range (yd a.2.1).toNat).all (fun(b:Nat)=> !((yS a b).2 !=0))then(List.range (yd a.2.1).toNat).map (fun(b:Nat)=>(yS a b).1)else[]
theorem yjJ (a:Int×Int):yd5 a=yd a:=by kernel_rfl
def yQ0:Code:=(f132.body).getD .skip
def yRo:Env:=zkw TT [(51,ymQ),(81,yJ)] []
theorem yJE:FrOk prog ⟨yRo,10,fun _=>none⟩ yQ0:=zkA mixed yc ⟨ywy,yY,trivial⟩
abbrev ys7:List Par:= [.rd tG,.rd tI]
abbrev yts:List OT:= [⟨false,tB,.fz⟩]
def yAS (a0:dG) (a1:Int):Option (zaY yts×zak ys7) :=let r1:=yd5 a0;let r2:=yf a1 0 (i64.wrap (r1-1));some ((r2,()),())
theorem yMX:ConOk prog 132 ⟨ys7,yts,fun x=>yAS x.1 x.2.1⟩:=zkI (yJE) func132 ntmps132.symm fun x=>by kernel_rfl
def yca (a0:dG) (a1:Int):Bool :=let r1:=yd5 a0;let r2:=yf a1 0 (i64.wrap (r1-1));r2
def yje:Con:=⟨ys7,yts,fun x=>(fun n=>some ((n,()),())) (yca x.1 x.2.1)⟩
theorem yPL (a0:dG) (a1:Int):yAS a0 a1=(fun n=>some ((n,()),())) (yca a0 a1):=zkV (p:=fun(n:Bool)=>((n,()),())) rfl
theorem yro:ConOk prog 132 yje:=(yMX).mono (fun x r _ h=>(yPL x.1 x.2.1).trans h)
theorem yFO (g:dG) (b:Int):yca g b=yax g b:=by
 unfold yca;simp only[yjJ,yas,yZF]
def yQX:Code:=(f59.body).getD .skip
def yRl:Env:=zkw TT [(132,yje)] []
theorem yJz:FrOk prog ⟨yRl,14,fun _=>none⟩ yQX:=zkA mixed yc ⟨yro,trivial⟩
abbrev ymq:List Par:= [.rd tG,.rd tI]
abbrev yto:List OT:= [⟨false,tI,.fz⟩]
def ypD (a0:dG) (a1:Int):Option (zaY yto×zak ymq) :=let r1:=yca a0 a1;bif(!r1)then some (((-1),()),()) else bif((i64.wrap (a0.1-1)) !=0)then some (((i64.wrap (a1.tdiv (i64.wrap (a0.1-1)))),()),()) else none
theorem yMT:ConOk prog 59 ⟨ymq,yto,fun x=>ypD x.1 x.2.1⟩:=zkI (yJz) func59 ntmps59.symm fun x=>by kernel_rfl
def yb9 (a0:dG) (a1:Int):Int:=yp a0 a1
theorem yPH (a0:dG) (a1:Int) (hk:zjx ymq (a0,a1,())):ypD a0 a1=(fun n=>some ((n,()),())) (yb9 a0 a1):=by
 unfold ypD yb9 yp;rw[yFO];cases hb:yax a0 a1
 ·rfl
 ·obtain⟨h1,h2,h3⟩:=ye1 hb
  have h4:=yj.1 h1;rw[wq (a0.1-1) (by omega) (by omega),show(a0.1-1 !=0)=true from bne_iff_ne.2 (by omega),wr (by omega) (by omega)]; rfl
def ype:Con:=⟨ymq,yto,fun x=>(fun n=>some ((n,()),())) (yb9 x.1 x.2.1)⟩
theorem yDu:ConOk prog 59 ype:=(yMT).mono (fun x r hk h=>(yPH x.1 x.2.1 hk).trans h)
def yUw:Code:=(f60.body).getD .skip
def yUZ:Env:=zkw TT [(132,yje)] []
theorem yLK:FrOk prog ⟨yUZ,14,fun _=>none⟩ yUw:=zkA mixed yc ⟨yro,trivial⟩
abbrev yoj:List Par:= [.rd tG,.rd tI]
abbrev yv4:List OT:= [⟨false,tI,.fz⟩]
def yrt (a0:dG) (a1:Int):Option (zaY yv4×zak yoj) :=let r1:=yca a0 a1;bif(!r1)then some (((-1),()),()) else bif((i64.wrap (a0.1-1)) !=0)then some (((a1.tmod (i64.wrap (a0.1-1))),()),()) else none
theorem yPY:ConOk prog 60 ⟨yoj,yv4,fun x=>yrt x.1 x.2.1⟩:=zkI (yLK) func60 ntmps60.symm fun x=>by kernel_rfl
def yc2 (a0:dG) (a1:Int):Int:=yC a0 a1
theorem ySQ (a0:dG) (a1:Int) (hk:zjx yoj (a0,a1,())):yrt a0 a1=(fun n=>some ((n,()),())) (yc2 a0 a1):=by
 unfold yrt yc2 yC;rw[yFO];cases hb:yax a0 a1
 ·rfl
 ·obtain⟨h1,h2,h3⟩:=ye1 hb
  have h4:=yj.1 h1;rw[wq (a0.1-1) (by omega) (by omega),show(a0.1-1 !=0)=true from bne_iff_ne.2 (by omega)]; rfl
def yq2:Con:=⟨yoj,yv4,fun x=>(fun n=>some ((n,()),())) (yc2 x.1 x.2.1)⟩
theorem yE8:ConOk prog 60 yq2:=(yPY).mono (fun x r hk h=>(ySQ x.1 x.2.1 hk).trans h)
def yNH:Code:=(f134.body).getD .skip
def yNW:Env:=zkw TT [(55,ygh),(132,yje)] []
theorem yIj:FrOk prog ⟨yNW,18,fun _=>none⟩ yNH:=zkA mixed yc ⟨ylr,yro,trivial⟩
abbrev yqV:List Par:= [.rd tA,.rd tI]
abbrev yqY:List OT:= [⟨false,tI,.fz⟩]
def yyd (a0:dA) (a1:Int):Option (zaY yqY×zak yqV) :=let r1:=yat a0;bif(!r1)then some ((1,()),()) else bif a0.2.2.2.2.2.2.2.2.2.2.1 then some ((6,()),()) else let r2:=yca a0.2.1 a1;bif(!r2)then some ((2,()),()) else some ((0,()),())
theorem yKs:ConOk prog 134 ⟨yqV,yqY,fun x=>yyd x.1 x.2.1⟩:=zkI (yIj) func134 ntmps134.symm fun x=>by kernel_rfl
def yew (a0:dA) (a1:Int):Int :=let r1:=yat a0;bif(!r1)then 1 else bif a0.2.2.2.2.2.2.2.2.2.2.1 then 6 else let r2:=yca a0.2.1 a1;bif(!r2)then 2 else 0
def ynr:Con:=⟨yqV,yqY,fun x=>(fun n=>some ((n,()),())) (yew x.1 x.2.1)⟩
theorem yMH (a0:dA) (a1:Int):yyd a0 a1=(fun n=>some ((n,()),())) (yew a0 a1):=zkV (p:=fun(n:Int)=>((n,()),())) (zkG (p:=fun(n:Int)=>((n,()),())) rfl (zkG (p:=fun(n:Int)=>((n,()),())) rfl (zkG (p:=fun(n:Int)=>((n,()),())) rfl rfl)))
theorem yAQ:ConOk prog 134 ynr:=(yKs).mono (fun x r _ h=>(yMH x.1 x.2.1).trans h)
theorem yJY (a:dA) (b:Int):yew a b=yb4 a b:=by
 unfold yew yb4 yat;simp only[yFO];cases yO a<;>cases a.2.2.2.2.2.2.2.2.2.2.1<;>cases yax a.2.1 b<;>rfl
def yIU:Code:=(f191.body).getD .skip
def yI0:Env:=zkw TT [(81,yJ),(185,yoA)] []
theorem yGw:FrOk prog ⟨yI0,20,fun _=>none⟩ yIU:=zkA mixed yc ⟨yY,yzG,trivial⟩
abbrev yhC:List Par:= [.rd tL,.rd tI]
abbrev ynn:List OT:= [⟨false,tI,.fz⟩]
def ykV (a0:List Int) (a1:Int):Option (zaY ynn×zak yhC) :=let r1:=ycw a0;let r2:=yf a1 0 (i64.wrap ((a0.length:Int)-1));bif r2 then bif(inb a1 a0.length)then some (((i64.wrap ((BitVec.ofInt IntKind.i64.bits r1 ^^^ BitVec.ofInt IntKind.i64.bits (nth a0 a1 0)).toNat:Int)),()),()) else none else some ((r1,()),())
theorem yHG:ConOk prog 191 ⟨yhC,ynn,fun x=>ykV x.1 x.2.1⟩:=zkI (yGw) func191 ntmps191.symm fun x=>by kernel_rfl
def ye4 (a0:List Int) (a1:Int):Int:=ynw a0 a1
theorem yIA (a0:List Int) (a1:Int) (hk:zjx yhC (a0,a1,())):ykV a0 a1=(fun n=>some ((n,()),())) (ye4 a0 a1):=by
 have hb:a0.length*8≤2^47:=hk.1.1;unfold ykV ye4 ynw ycw;rw[yas,ynu (show a0.length≤1152921504606846976 by omega)];cases inb a1 a0.length<;>rfl
def ytR:Con:=⟨yhC,ynn,fun x=>(fun n=>some ((n,()),())) (ye4 x.1 x.2.1)⟩
theorem yIK:ConOk prog 191 ytR:=(yHG).mono (fun x r hk h=>(yIA x.1 x.2.1 hk).trans h)
def ysm:Code:=(f138.body).getD .skip
def yBz:Env:=zkw TT [(55,ygh),(109,ybv),(141,ytW),(191,ytR)] []
theorem yR5:FrOk prog ⟨yBz,62,fun _=>none⟩ ysm:=zkA mixed yc ⟨ylr,ydP,yGS,yIK,trivial⟩
def yF1:Nat→Option Seg:=fun _=>none
def ycE:Shape:=⟨[(1,false,[.int .i64]),(2,false,[.ptr 0 0]),(6,false,[.at 800000000]),(7,false,[.int .i64]),(28,false,[.int .i64]),(29,false,[.int .i64])],[(0,[.int .i64,.int .i64,.int .i64,.br tM,.int .i64,.int .i64,.int .i64,.int .i64,.int .i64,.br tW,.int .i64,.bool,.bool])],[(800000000,tI,.fz)]⟩
def ygF:Shape:=⟨[(1,false,[.int .i64]),(2,false,[.ptr 0 0]),(6,false,[.at 800000000]),(7,false,[.ci .i64 (-1)]),(28,false,[.int .i64]),(29,false,[.ci .i64 0])],[(0,[.int .i64,.int .i64,.int .i64,.br tM,.int .i64,.int .i64,.int .i64,.int .i64,.int .i64,.br tW,.int .i64,.bool,.bool])],[(800000000,tI,.fz)]⟩
def ygv:Shape:=⟨[(6,false,[.at 800000000]),(7,false,[.int .i64])],[],[(800000000,tI,.fz)]⟩
def ygP:Shape:=⟨[(4,false,[.nil]),(5,false,[.bool])],[],[]⟩
abbrev ypj (v0 v1 v2 v3:Int) (v4:dA) (v5:List Int):(ycE).X:=(((v0,()),((),()),((),()),(v1,()),(v2,()),(v3,()),()),((v4.1,v4.2.1.1,v4.2.1.2,v4.2.2.1,v4.2.2.2.1,v4.2.2.2.2.1,v4.2.2.2.2.2.1,v4.2.2.2.2.2.2.1,v4.2.2.2.2.2.2.2.1,v4.2.2.2.2.2.2.2.2.1,v4.2.2.2.2.2.2.2.2.2.1,v4.2.2.2.2.2.2.2.2.2.2.1,v4.2.2.2.2.2.2.2.2.2.2.2,()),()),(v5,()))
abbrev yMs (v0 v1:Int) (v2:dA) (v3:List Int):(ygF).X:=(((v0,()),((),()),((),()),((),()),(v1,()),((),()),()),((v2.1,v2.2.1.1,v2.2.1.2,v2.2.2.1,v2.2.2.2.1,v2.2.2.2.2.1,v2.2.2.2.2.2.1,v2.2.2.2.2.2.2.1,v2.2.2.2.2.2.2.2.1,v2.2.2.2.2.2.2.2.2.1,v2.2.2.2.2.2.2.2.2.2.1,v2.2.2.2.2.2.2.2.2.2.2.1,v2.2.2.2.2.2.2.2.2.2.2.2,()),()),(v3,()))
abbrev yMn (v0:Int) (v1:List Int):(ygv).X:=((((),()),(v0,()),()),(),(v1,()))
abbrev yMB (v0:Bool):(ygP).X:=((((),()),(v0,()),()),(),())
def ypQ (v0 v1 v2 v3 v4 v5 v6:Int) (v7:List dM) (v8 v9 v10 v11 v12:Int) (v13:List dW) (v14:Int) (v15 v16:Bool) (v17:List Int):Option ((ycE).X ⊕ ((ygv).X ⊕ (ygP).X)) :=bif(ltb v3 v2)then bnd (ylq (v4,(v5,v6),v7,v8,v9,v10,v11,v12,v13,v14,v15,v16) v3 v0) fun r4 =>bif(!r4.1.2.1)then bif(leb 0 v1)then some (.inr (.inr ((((),()),(false,()),()),(),()))) else bif(!r4.1.2.1)then bif(zkl v17.length ([r4.1.1]:List Int).length 8)then some (.inl (((v0,()),((),()),((),()),(v3,()),(v2,()),((i64.wrap (v3+1)),()),()),((v4,v5,v6,v7,v8,v9,v10,v11,v12,v13,v14,v15,v16,()),()),((v17++([r4.1.1]:List Int)),()))) else none else bif(zkl v17.length ([r4.1.1]:List Int).length 8)then some (.inl (((v0,()),((),()),((),()),(v1,()),(v2,()),((i64.wrap (v3+1)),()),()),((v4,v5,v6,v7,v8,v9,v10,v11,v12,v13,v14,v15,v16,()),()),((v17++([r4.1.1]:List Int)),()))) else none else bif(!r4.1.2.1)then bif(zkl v17.length ([r4.1.1]:List Int).length 8)then some (.inl (((v0,()),((),()),((),()),(v3,()),(v2,()),((i64.wrap (v3+1)),()),()),((v4,v5,v6,v7,v8,v9,v10,v11,v12,v13,v14,v15,v16,()),()),((v17++([r4.1.1]:List Int)),()))) else none else bif(zkl v17.length ([r4.1.1]:List Int).length 8)then some (.inl (((v0,()),((),()),((),()),(v1,()),(v2,()),((i64.wrap (v3+1)),()),()),((v4,v5,v6,v7,v8,v9,v10,v11,v12,v13,v14,v15,v16,()),()),((v17++([r4.1.1]:List Int)),()))) else none else some (.inr (.inl ((((),()),(v1,()),()),(),(v17,()))))
def yc6 (x:(ycE).X):=ypQ x.1.1.1 x.1.2.2.2.1.1 x.1.2.2.2.2.1.1 x.1.2.2.2.2.2.1.1 x.2.1.1.1 x.2.1.1.2.1 x.2.1.1.2.2.1 x.2.1.1.2.2.2.1 x.2.1.1.2.2.2.2.1 x.2.1.1.2.2.2.2.2.1 x.2.1.1.2.2.2.2.2.2.1 x.2.1.1.2.2.2.2.2.2.2.1 x.2.1.1.2.2.2.2.2.2.2.2.1 x.2.1.1.2.2.2.2.2.2.2.2.2.1 x.2.1.1.2.2.2.2.2.2.2.2.2.2.1 x.2.1.1.2.2.2.2.2.2.2.2.2.2.2.1 x.2.1.1.2.2.2.2.2.2.2.2.2.2.2.2.1 x.2.2.1
def yAr (x:(ygF).X):(ycE).X:=(((x.1.1.1,()),((),()),((),()),((-1),()),(x.1.2.2.2.2.1.1,()),(0,()),()),((x.2.1.1.1,x.2.1.1.2.1,x.2.1.1.2.2.1,x.2.1.1.2.2.2.1,x.2.1.1.2.2.2.2.1,x.2.1.1.2.2.2.2.2.1,x.2.1.1.2.2.2.2.2.2.1,x.2.1.1.2.2.2.2.2.2.2.1,x.2.1.1.2.2.2.2.2.2.2.2.1,x.2.1.1.2.2.2.2.2.2.2.2.2.1,x.2.1.1.2.2.2.2.2.2.2.2.2.2.1,x.2.1.1.2.2.2.2.2.2.2.2.2.2.2.1,x.2.1.1.2.2.2.2.2.2.2.2.2.2.2.2.1,()),()),(x.2.2.1,()))
def yCh:Code:=(zd7 ysm 64 500).getD .skip
theorem yNY:zd7 ysm 64 125=some (.block 0 (.loop yCh)):=by kernel_rfl
theorem yQH (x:(ycE).X):zhu ⟨yBz,62,yF1⟩ 0 yCh 500 ycE ygv ygP x=yc6 x:=by kernel_rfl
def yAB (x:(ygF).X):Nat:=18446744073709551616
def yqM (x:(ygF).X):Option ((ygv).X ⊕ (ygP).X):=zF yc6 (yAB x) (yAr x)
def yAV:Seg:=⟨ygF,ygv,ygP,yqM⟩
def yUP:Nat→Option Seg:=fun q=>bif Nat.beq q 125 then some yAV else yF1 q
theorem yR6:FrOk prog ⟨yBz,62,yUP⟩ ysm:=(yR5).loop (sg:=yAV) ycE yAr (by decide) yNY yc6 yAB (by decide) (fun _=>rfl) (fun x r _ h=>h) yQH
abbrev ys3:List Par:= [.rd tA,.rd tI]
abbrev yBX:List OT:= [⟨false,tL,(.ow .fz)⟩,⟨false,tB,.fz⟩]
def ywM (a0:dA) (a1:Int):Option (zaY yBX×zak ys3) :=let r1:=yat a0;bif(!(!r1))then bif(!a0.2.2.2.2.2.2.2.2.2.2.2)then let r2:=yaj a0.2.1 a1;bif(!r2)then some (([],false,()),()) else zkt (yqM (((a1,()),((),()),((),()),((),()),((a0.2.2.1.length:Int),()),((),()),()),((a0.1,a0.2.1.1,a0.2.1.2,a0.2.2.1,a0.2.2.2.1,a0.2.2.2.2.1,a0.2.2.2.2.2.1,a0.2.2.2.2.2.2.1,a0.2.2.2.2.2.2.2.1,a0.2.2.2.2.2.2.2.2.1,a0.2.2.2.2.2.2.2.2.2.1,a0.2.2.2.2.2.2.2.2.2.2.1,a0.2.2.2.2.2.2.2.2.2.2.2,()),()),(([]:List Int),()))) (fun y4 =>bif(leb 0 y4.1.2.1.1)then let r6:=ye4 y4.2.2.1 y4.1.2.1.1;bif(inb y4.1.2.1.1 y4.2.2.1.length)then some (((y4.2.2.1.set (y4.1.2.1.1).toNat r6),true,()),()) else none else some ((y4.2.2.1,true,()),())) (fun y4 =>some (([],y4.1.2.1.1,()),())) else some (([],false,()),()) else some (([],false,()),())
theorem yWc:ConOk prog 138 ⟨ys3,yBX,fun x=>ywM x.1 x.2.1⟩:=zkI (yR6) func138 ntmps138.symm fun x=>by kernel_rfl
def ynL (a0:dA) (a1:Int):List Int×Bool:=bif yO a0&&(!a0.2.2.2.2.2.2.2.2.2.2.2&&yG a0.2.1 a1)then yR a0 a1 else([],false)
theorem yYz (a0:dA) (a1:Int) (hk:zjx ys3 (a0,a1,())):ywM a0 a1=(fun n=>some ((n.1,n.2,()),())) (ynL a0 a1):=by
 unfold ywM ynL yat;rw[yp3];cases ha:yO a0
 ·rfl
 have hg:=yj.1 (yb3 ha);have hl:=yEj ha
 have h1:yqM (yMs a1 a0.2.2.1.length a0 [])=some (bif yeF (fun(i:Nat)=>yu a0 i a1) a0.2.1.1.toNat then .inr (yMB false)else .inl (yMn (yA (fun(i:Nat)=>yu a0 i a1) a0.2.1.1.toNat) (yV a0 a1 a0.2.1.1.toNat))) :=
  zji (step:=yc6) (fun i=>ypj a1 (yA (fun(i:Nat)=>yu a0 i a1) i) a0.2.2.1.length i a0 (yV a0 a1 i)) a0.2.1.1.toNat (fun i=> !yu a0 i a1&&leb 0 (yA (fun(i:Nat)=>yu a0 i a1) i)) _ _ (fun i hi=>by
   simp only[yc6,ypj,ypQ,zky (show(i:Int)<a0.2.2.1.length by omega),cond_true,wq ((i:Int)+1) (by omega) (by omega),Int.natCast_add,Int.natCast_one,Int.toNat_natCast,zkX,yGW a0 i a1 (zkR (show i<a0.2.2.1.length by omega)),yht,zkH,yA];rw[zkF.2 (show((yV a0 a1 i).length+ [yiW a0 i a1].length)*8≤140737488355328 by simp only[List.length_cons,List.length_nil,yfc]; omega),yH7]
   cases yu a0 i a1<;>cases leb 0 (yA (fun(i:Nat)=>yu a0 i a1) i)<;>rfl) (by simp only[yc6,ypj,ypQ,zk3 (show(a0.2.2.1.length:Int)≤(a0.2.1.1.toNat:Int)by omega),cond_false]) _ (by show _<18446744073709551616; omega)
 rw[h1];cases a0.2.2.2.2.2.2.2.2.2.2.2
 ·cases yG a0.2.1 a1
  ·rfl
  ·unfold yR
   cases yeF (fun(i:Nat)=>yu a0 i a1) a0.2.1.1.toNat
   ·simp only[cond_false,zkN,ye4]
    cases hm:leb 0 (yA (fun(i:Nat)=>yu a0 i a1) a0.2.1.1.toNat)
    ·rfl
    ·obtain⟨h2,h3⟩:=yXj a0 a1 a0.2.1.1.toNat hm
     rw[h2,h3]; rfl
   ·rfl
 ·rfl
def yGj:Con:=⟨ys3,yBX,fun x=>(fun n=>some ((n.1,n.2,()),())) (ynL x.1 x.2.1)⟩
theorem yYW:ConOk prog 138 yGj:=(yWc).mono (fun x r hk h=>(yYz x.1 x.2.1 hk).trans h)
def yQV:Code:=(f167.body).getD .skip
def yRj:Env:=zkw TT [(109,ybv)] []
theorem yJv:FrOk prog ⟨yRj,17,fun _=>none⟩ yQV:=zkA mixed yc ⟨ydP,trivial⟩
abbrev ymo:List Par:= [.rd tG,.rd tI]
abbrev ytl:List OT:= [⟨false,tI,.fz⟩]
def ypB (a0:dG) (a1:Int):Option (zaY ytl×zak ymo) :=let r1:=yaj a0 a1;bif(!r1)then some (((-1),()),()) else bif(a0.1 !=0)then some (((i64.wrap ((i64.wrap (a0.1-1))-(a1.tmod a0.1))),()),()) else none
theorem yMQ:ConOk prog 167 ⟨ymo,ytl,fun x=>ypB x.1 x.2.1⟩:=zkI (yJv) func167 ntmps167.symm fun x=>by kernel_rfl
def ydG (a0:dG) (a1:Int):Int:=yg a0 a1
theorem yPE (a0:dG) (a1:Int) (hk:zjx ymo (a0,a1,())):ypB a0 a1=(fun n=>some ((n,()),())) (ydG a0 a1):=by
 unfold ypB ydG;rw[yp3];cases hs:yG a0 a1
 ·unfold yg; rw[hs]; rfl
 ·have h1:=yM.1 hs
  have h2:=yj.1 h1.1;have h3:=yiG hs;have h4:yg a0 a1=a0.1-1-a1.tmod a0.1:=by unfold yg; rw[hs]; rfl
  rw[show(a0.1 !=0)=true from bne_iff_ne.2 (by omega),wq (a0.1-1) (by omega) (by omega),wq (a0.1-1-a1.tmod a0.1) (by omega) (by omega),h4]; rfl
def ypd:Con:=⟨ymo,ytl,fun x=>(fun n=>some ((n,()),())) (ydG x.1 x.2.1)⟩
theorem yDt:ConOk prog 167 ypd:=(yMQ).mono (fun x r hk h=>(yPE x.1 x.2.1 hk).trans h)
def yXw:Code:=(f142.body).getD .skip
def yX1:Env:=zkw TT [(81,yJ),(109,ybv),(167,ypd)] []
theorem yOf:FrOk prog ⟨yX1,28,fun _=>none⟩ yXw:=zkA mixed yc ⟨yY,ydP,yDt,trivial⟩
abbrev yqj:List Par:= [.rd tG,.rd tI,.rd tI]
abbrev yy2:List OT:= [⟨false,tI,.fz⟩]
def yuv (a0:dG) (a1 a2:Int):Option (zaY yy2×zak yqj) :=let r1:=yaj a0 a1;bif(!(!r1))then let r2:=yf a2 0 (i64.wrap (a0.1-2));bif(!r2)then some (((-1),()),()) else let r3:=ydG a0 a1;bif(a0.1 !=0)then some ((((i64.wrap ((i64.wrap (r3+1))+a2)).tmod a0.1),()),()) else none else some (((-1),()),())
theorem yTh:ConOk prog 142 ⟨yqj,yy2,fun x=>yuv x.1 x.2.1 x.2.2.1⟩:=zkI (yOf) func142 ntmps142.symm fun x=>by kernel_rfl
def yfs (a0:dG) (a1 a2:Int):Int:=yaI a0 a1 a2
theorem yVB (a0:dG) (a1 a2:Int) (hk:zjx yqj (a0,a1,a2,())):yuv a0 a1 a2=(fun n=>some ((n,()),())) (yfs a0 a1 a2):=by
 unfold yuv yfs yaI ydG;rw[yp3];cases hs:yG a0 a1
 ·rfl
 ·have h1:=yM.1 hs
  have h2:=yj.1 h1.1;have h3:=yiG hs;rw[yas,yb6,wq (a0.1-2) (by omega) (by omega)];cases hi:(leb 0 a2&&leb a2 (a0.1-2))
  ·rfl
  ·rw[Bool.and_eq_true,zj7,zj7]at hi
   rw[show(a0.1 !=0)=true from bne_iff_ne.2 (by omega)];show some (((i64.wrap (i64.wrap (yg a0 a1+1)+a2)).tmod a0.1,()),())=some (((yg a0 a1+1+a2).tmod a0.1,()),());rw[wq (yg a0 a1+1) (by omega) (by omega),wq (yg a0 a1+1+a2) (by omega) (by omega)]
def ytO:Con:=⟨yqj,yy2,fun x=>(fun n=>some ((n,()),())) (yfs x.1 x.2.1 x.2.2.1)⟩
theorem yGN:ConOk prog 142 ytO:=(yTh).mono (fun x r hk h=>(yVB x.1 x.2.1 x.2.2.1 hk).trans h)
def yqa:Code:=(f68.body).getD .skip
def yyv:Env:=zkw TT [(138,yGj),(142,ytO)] []
theorem yOd:FrOk prog ⟨yyv,39,fun _=>none⟩ yqa:=zkA mixed yc ⟨yYW,yGN,trivial⟩
def yD9:Nat→Option Seg:=fun _=>none
def ybQ:Shape:=⟨[(1,false,[.int .i64]),(2,false,[.ptr 0 0]),(6,false,[.at 800000000]),(8,false,[.at 800000001]),(22,false,[.int .i64]),(23,false,[.int .i64])],[(0,[.int .i64,.int .i64,.int .i64,.br tM,.int .i64,.int .i64,.int .i64,.int .i64,.int .i64,.br tW,.int .i64,.bool,.bool])],[(800000000,tI,.fz),(800000001,tI,.fz)]⟩
def yfL:Shape:=⟨[(1,false,[.int .i64]),(2,false,[.ptr 0 0]),(6,false,[.at 800000000]),(8,false,[.at 800000001]),(22,false,[.int .i64]),(23,false,[.ci .i64 0])],[(0,[.int .i64,.int .i64,.int .i64,.br tM,.int .i64,.int .i64,.int .i64,.int .i64,.int .i64,.br tW,.int .i64,.bool,.bool])],[(800000000,tI,.fz),(800000001,tI,.fz)]⟩
def yfz:Shape:=⟨[(8,false,[.at 800000000])],[],[(800000000,tI,.fz)]⟩
def yi3:Shape:=⟨[],[],[]⟩
abbrev ynx (v0 v1 v2:Int) (v3:dA) (v4 v5:List Int):(ybQ).X:=(((v0,()),((),()),((),()),((),()),(v1,()),(v2,()),()),((v3.1,v3.2.1.1,v3.2.1.2,v3.2.2.1,v3.2.2.2.1,v3.2.2.2.2.1,v3.2.2.2.2.2.1,v3.2.2.2.2.2.2.1,v3.2.2.2.2.2.2.2.1,v3.2.2.2.2.2.2.2.2.1,v3.2.2.2.2.2.2.2.2.2.1,v3.2.2.2.2.2.2.2.2.2.2.1,v3.2.2.2.2.2.2.2.2.2.2.2,()),()),(v4,v5,()))
abbrev yJ4 (v0 v1:Int) (v2:dA) (v3 v4:List Int):(yfL).X:=(((v0,()),((),()),((),()),((),()),(v1,()),((),()),()),((v2.1,v2.2.1.1,v2.2.1.2,v2.2.2.1,v2.2.2.2.1,v2.2.2.2.2.1,v2.2.2.2.2.2.1,v2.2.2.2.2.2.2.1,v2.2.2.2.2.2.2.2.1,v2.2.2.2.2.2.2.2.2.1,v2.2.2.2.2.2.2.2.2.2.1,v2.2.2.2.2.2.2.2.2.2.2.1,v2.2.2.2.2.2.2.2.2.2.2.2,()),()),(v3,v4,()))
abbrev yx2 (v0:List Int):(yfz).X:=((((),()),()),(),(v0,()))
def ynU (v0 v1 v2 v3 v4 v5:Int) (v6:List dM) (v7 v8 v9 v10 v11:Int) (v12:List dW) (v13:Int) (v14 v15:Bool) (v16 v17:List Int):Option ((ybQ).X ⊕ ((yfz).X ⊕ (yi3).X)) :=bif(ltb v2 v1)then let r3:=yfs (v4,v5) v0 v2;bif(inb r3 v16.length)then bif(zkl v17.length ([(nth v16 r3 0)]:List Int).length 8)then some (.inl (((v0,()),((),()),((),()),((),()),(v1,()),((i64.wrap (v2+1)),()),()),((v3,v4,v5,v6,v7,v8,v9,v10,v11,v12,v13,v14,v15,()),()),(v16,(v17++([(nth v16 r3 0)]:List Int)),()))) else none else none else some (.inr (.inl ((((),()),()),(),(v17,()))))
def ycd (x:(ybQ).X):=ynU x.1.1.1 x.1.2.2.2.2.1.1 x.1.2.2.2.2.2.1.1 x.2.1.1.1 x.2.1.1.2.1 x.2.1.1.2.2.1 x.2.1.1.2.2.2.1 x.2.1.1.2.2.2.2.1 x.2.1.1.2.2.2.2.2.1 x.2.1.1.2.2.2.2.2.2.1 x.2.1.1.2.2.2.2.2.2.2.1 x.2.1.1.2.2.2.2.2.2.2.2.1 x.2.1.1.2.2.2.2.2.2.2.2.2.1 x.2.1.1.2.2.2.2.2.2.2.2.2.2.1 x.2.1.1.2.2.2.2.2.2.2.2.2.2.2.1 x.2.1.1.2.2.2.2.2.2.2.2.2.2.2.2.1 x.2.2.1 x.2.2.2.1
def yxv (x:(yfL).X):(ybQ).X:=(((x.1.1.1,()),((),()),((),()),((),()),(x.1.2.2.2.2.1.1,()),(0,()),()),((x.2.1.1.1,x.2.1.1.2.1,x.2.1.1.2.2.1,x.2.1.1.2.2.2.1,x.2.1.1.2.2.2.2.1,x.2.1.1.2.2.2.2.2.1,x.2.1.1.2.2.2.2.2.2.1,x.2.1.1.2.2.2.2.2.2.2.1,x.2.1.1.2.2.2.2.2.2.2.2.1,x.2.1.1.2.2.2.2.2.2.2.2.2.1,x.2.1.1.2.2.2.2.2.2.2.2.2.2.1,x.2.1.1.2.2.2.2.2.2.2.2.2.2.2.1,x.2.1.1.2.2.2.2.2.2.2.2.2.2.2.2.1,()),()),(x.2.2.1,x.2.2.2.1,()))
def yzZ:Code:=(zd7 yqa 64 500).getD .skip
theorem yLt:zd7 yqa 64 125=some (.block 0 (.loop yzZ)):=by kernel_rfl
theorem yNg (x:(ybQ).X):zhu ⟨yyv,39,yD9⟩ 0 yzZ 500 ybQ yfz yi3 x=ycd x:=by kernel_rfl
def yxM (x:(yfL).X):Nat:=18446744073709551616
def yoS (x:(yfL).X):Option ((yfz).X ⊕ (yi3).X):=zF ycd (yxM x) (yxv x)
def yyf:Seg:=⟨yfL,yfz,yi3,yoS⟩
def yQ8:Nat→Option Seg:=fun q=>bif Nat.beq q 125 then some yyf else yD9 q
theorem yOe:FrOk prog ⟨yyv,39,yQ8⟩ yqa:=(yOd).loop (sg:=yyf) ybQ yxv (by decide) yLt ycd yxM (by decide) (fun _=>rfl) (fun x r _ h=>h) yNg
abbrev yqi:List Par:= [.rd tA,.rd tI]
abbrev yy1:List OT:= [⟨false,tL,(.ow .fz)⟩,⟨false,tB,.fz⟩]
def yuu (a0:dA) (a1:Int):Option (zaY yy1×zak yqi) :=let r1:=ynL a0 a1;bif(!r1.2)then some (([],false,()),()) else zkt (yoS (((a1,()),((),()),((),()),((),()),((i64.wrap (a0.2.1.1-1)),()),((),()),()),((a0.1,a0.2.1.1,a0.2.1.2,a0.2.2.1,a0.2.2.2.1,a0.2.2.2.2.1,a0.2.2.2.2.2.1,a0.2.2.2.2.2.2.1,a0.2.2.2.2.2.2.2.1,a0.2.2.2.2.2.2.2.2.1,a0.2.2.2.2.2.2.2.2.2.1,a0.2.2.2.2.2.2.2.2.2.2.1,a0.2.2.2.2.2.2.2.2.2.2.2,()),()),(r1.1,([]:List Int),()))) (fun y3 =>some ((y3.2.2.1,true,()),())) (fun y3 =>none)
theorem yTg:ConOk prog 68 ⟨yqi,yy1,fun x=>yuu x.1 x.2.1⟩:=zkI (yOe) func68 ntmps68.symm fun x=>by kernel_rfl
def yfr (a0:dA) (a1:Int):List Int×Bool:=ybO a0 a1
theorem yVA (a0:dA) (a1:Int) (hk:zjx yqi (a0,a1,())):yuu a0 a1=(fun n=>some ((n.1,n.2,()),())) (yfr a0 a1):=by
 unfold yuu yfr ybO ynL;cases hc:(yO a0&&(!a0.2.2.2.2.2.2.2.2.2.2.2&&yG a0.2.1 a1))
 ·rfl
 simp only[Bool.and_eq_true]at hc;have hg:=yj.1 (yb3 hc.1);have hs:=hc.2.2;unfold ykK;simp only[cond_true];cases hw:(yR a0 a1).2
 ·rfl
 ·have hL:=yKT hw
  have h1:yoS (yJ4 a1 (a0.2.1.1-1) a0 (yR a0 a1).1 [])=some (.inl (yx2 ((List.range (a0.2.1.1-1).toNat).foldl (fun l (i:Nat)=>l++ [nth (yR a0 a1).1 (yaI a0.2.1 a1 i) 0]) []))) :=
   zkD (step:=ycd) (a0.2.1.1-1).toNat (fun i s=>ynx a1 (a0.2.1.1-1) i a0 (yR a0 a1).1 s) (fun l (i:Nat)=>l++ [nth (yR a0 a1).1 (yaI a0.2.1 a1 i) 0]) (fun i s=>s.length=i) (fun s=> .inl (yx2 s)) (fun i s hi hs2=>⟨by
    have hd:=yK0 hs (show(0:Int)≤i by omega) (show(i:Int)≤a0.2.1.1-2 by omega);simp only[ycd,ynx,ynU,zky (show(i:Int)<a0.2.1.1-1 by omega),cond_true,wq ((i:Int)+1) (by omega) (by omega),Int.natCast_add,Int.natCast_one,Int.toNat_natCast,zkX,yfs,zj6.2 (show 0≤yaI a0.2.1 a1 i∧yaI a0.2.1 a1 i<(yR a0 a1).1.length by omega)]
    rw[zkF.2 (show(s.length+ [nth (yR a0 a1).1 (yaI a0.2.1 a1 i) 0].length)*8≤140737488355328 by simp only[List.length_cons,List.length_nil]; omega)]; rfl,by simp[hs2]⟩) (fun s hs2=>by simp only[ycd,ynx,ynU,zk3 (show a0.2.1.1-1≤((a0.2.1.1-1).toNat:Int)by omega),cond_false]) [] rfl _ (by show _<18446744073709551616; omega)
  simp only[wq (a0.2.1.1-1) (by omega) (by omega)];rw[h1,yoD]; rfl
def ytN:Con:=⟨yqi,yy1,fun x=>(fun n=>some ((n.1,n.2,()),())) (yfr x.1 x.2.1)⟩
theorem yGM:ConOk prog 68 ytN:=(yTg).mono (fun x r hk h=>(yVA x.1 x.2.1 hk).trans h)
def yUz:Code:=(f220.body).getD .skip
def yU2:Env:=zkw TT [] []
theorem yLW:FrOk prog ⟨yU2,8,fun _=>none⟩ yUz:=zkA mixed yc trivial
abbrev yvT:List Par:= [.rd tW,.rp tI]
abbrev ywa:List OT:= [⟨false,tB,.fz⟩]
def yDE (a0:dW) (a1:Int):Option (zaY ywa×zak yvT) :=some (((a0.1==a1),()),())
theorem yP5:ConOk prog 220 ⟨yvT,ywa,fun x=>yDE x.1 x.2.1⟩:=zkI (yLW) func220 ntmps220.symm fun x=>by kernel_rfl
def yoE (a0:dW) (a1:Int):Bool :=(a0.1==a1)
def yCv:Con:=⟨yvT,ywa,fun x=>(fun n=>some ((n,()),())) (yoE x.1 x.2.1)⟩
theorem ySX (a0:dW) (a1:Int):yDE a0 a1=(fun n=>some ((n,()),())) (yoE a0 a1):=zkV (p:=fun(n:Bool)=>((n,()),())) rfl
theorem yTU:ConOk prog 220 yCv:=(yP5).mono (fun x r _ h=>(ySX x.1 x.2.1).trans h)
def yeB:Code:=(f219.body).getD .skip
def yiL:Env:=zkw TT [(220,yCv)] []
theorem yA9:FrOk prog ⟨yiL,19,fun _=>none⟩ yeB:=zkA mixed yc ⟨yTU,trivial⟩
def ym5:Nat→Option Seg:=fun _=>none
def yab:Shape:=⟨[(0,false,[.br tW]),(1,false,[.fx 220 tI]),(7,false,[.int .i64]),(8,false,[.int .i64])],[],[]⟩
def ya8:Shape:=⟨[(0,false,[.br tW]),(1,false,[.fx 220 tI]),(7,false,[.int .i64]),(8,false,[.ci .i64 0])],[],[]⟩
def ya6:Shape:=⟨[],[],[]⟩
def yba:Shape:=⟨[(4,false,[.int .i64])],[],[]⟩
abbrev yfp (v0:List dW) (v1 v2 v3:Int):(yab).X:=(((v0,()),(v1,()),(v2,()),(v3,()),()),(),())
abbrev yzE (v0:List dW) (v1 v2:Int):(ya8).X:=(((v0,()),(v1,()),(v2,()),((),()),()),(),())
abbrev yzC  :(ya6).X:=((),(),())
abbrev ylh (v0:Int):(yba).X:=(((v0,()),()),(),())
def yfw (v0:List dW) (v1 v2 v3:Int):Option ((yab).X ⊕ ((ya6).X ⊕ (yba).X)) :=bif(ltb v3 v2)then bif(inb v3 v0.length)then let r2:=yoE (nth v0 v3 (0,[])) v1;bif r2 then some (.inr (.inr (((v3,()),()),(),()))) else some (.inl (((v0,()),(v1,()),(v2,()),((i64.wrap (v3+1)),()),()),(),())) else none else some (.inr (.inl ((),(),())))
def yal (x:(yab).X):=yfw x.1.1.1 x.1.2.1.1 x.1.2.2.1.1 x.1.2.2.2.1.1
def ylc (x:(ya8).X):(yab).X:=(((x.1.1.1,()),(x.1.2.1.1,()),(x.1.2.2.1.1,()),(0,()),()),(),())
def ymO:Code:=(zd7 yeB 64 52).getD .skip
theorem yA6:zd7 yeB 64 13=some (.block 0 (.loop ymO)):=by kernel_rfl
theorem yBg (x:(yab).X):zhu ⟨yiL,19,ym5⟩ 0 ymO 52 yab ya6 yba x=yal x:=by kernel_rfl
def yle (x:(ya8).X):Nat:=18446744073709551616
def yga (x:(ya8).X):Option ((ya6).X ⊕ (yba).X):=zF yal (yle x) (ylc x)
def ylz:Seg:=⟨ya8,ya6,yba,yga⟩
def yBs:Nat→Option Seg:=fun q=>bif Nat.beq q 13 then some ylz else ym5 q
theorem yBa:FrOk prog ⟨yiL,19,yBs⟩ yeB:=(yA9).loop (sg:=ylz) yab ylc (by decide) yA6 yal yle (by decide) (fun _=>rfl) (fun x r _ h=>h) yBg
abbrev yeD:List Par:= [.rd tWs,.fn 220 tI]
abbrev yiO:List OT:= [⟨false,tI,.fz⟩]
def yg7 (a0:List dW) (a1:Int):Option (zaY yiO×zak yeD) :=zkt (yga (((a0,()),(a1,()),((a0.length:Int),()),((),()),()),(),())) (fun y2 =>some (((-1),()),())) (fun y2 =>some ((y2.1.1.1,()),()))
theorem yDq:ConOk prog 219 ⟨yeD,yiO,fun x=>yg7 x.1 x.2.1⟩:=zkI (yBa) func219 ntmps219.symm fun x=>by kernel_rfl
def yeG (a0:List dW) (a1:Int):Int:=yi a0 a1
theorem yD4 (a0:List dW) (a1:Int) (hk:zjx yeD (a0,a1,())):yg7 a0 a1=(fun n=>some ((n,()),())) (yeG a0 a1):=by
 have hb:a0.length*32≤2^47:=hk.1.1
 have h1:yga (yzE a0 a1 a0.length)=some (bif leb 0 (yi a0 a1)then .inr (ylh (yi a0 a1))else .inl yzC) :=
  yE6 (step:=yal) a0 (0,[]) (fun i=>yfp a0 a1 a0.length i) (fun e:dW=>e.1==a1) (fun i=> .inr (ylh i)) _ (fun i hi=>by
   simp only[yal,yfp,yfw,zky (show(i:Int)<a0.length by omega),cond_true,wq ((i:Int)+1) (by omega) (by omega),Int.natCast_add,Int.natCast_one,Int.toNat_natCast,zkR hi,zkS,yoE]
   cases((a0.getD i (0,[])).1==a1)<;>rfl) (by simp only[yal,yfp,yfw,zk3 (Int.le_refl _),cond_false]) _ (by show _<18446744073709551616; omega)
 unfold yg7 yeG;rw[h1];cases h:leb 0 (yi a0 a1)
 ·rw[show yi a0 a1= -1 from yK3 h]; rfl
 ·rfl
def yns:Con:=⟨yeD,yiO,fun x=>(fun n=>some ((n,()),())) (yeG x.1 x.2.1)⟩
theorem yD7:ConOk prog 219 yns:=(yDq).mono (fun x r hk h=>(yD4 x.1 x.2.1 hk).trans h)
def yZj:Code:=(f188.body).getD .skip
def yZw:Env:=zkw TT [(219,yns)] []
theorem ySb:FrOk prog ⟨yZw,9,fun _=>none⟩ yZj:=zkA mixed yc ⟨yD7,trivial⟩
abbrev ys6:List Par:= [.rd tA,.rd tI]
abbrev yB0:List OT:= [⟨false,tI,.fz⟩]
def yG3 (a0:dA) (a1:Int):Option (zaY yB0×zak ys6) :=let r1:=yeG a0.2.2.2.2.2.2.2.2.1 a1;some ((r1,()),())
theorem yWf:ConOk prog 188 ⟨ys6,yB0,fun x=>yG3 x.1 x.2.1⟩:=zkI (ySb) func188 ntmps188.symm fun x=>by kernel_rfl
def yjX (a0:dA) (a1:Int):Int:=yi a0.2.2.2.2.2.2.2.2.1 a1
theorem yYC (a0:dA) (a1:Int) (hk:zjx ys6 (a0,a1,())):yG3 a0 a1=(fun n=>some ((n,()),())) (yjX a0 a1):=rfl
def ywq:Con:=⟨ys6,yB0,fun x=>(fun n=>some ((n,()),())) (yjX x.1 x.2.1)⟩
theorem yH1:ConOk prog 188 ywq:=(yWf).mono (fun x r hk h=>(yYC x.1 x.2.1 hk).trans h)
def yUy:Code:=(f136.body).getD .skip
def yU1:Env:=zkw TT [(68,ytN),(158,yaY),(188,ywq)] []
theorem yLT:FrOk prog ⟨yU1,24,fun _=>none⟩ yUy:=zkA mixed yc ⟨yGM,ycQ,yH1,trivial⟩
abbrev yon:List Par:= [.rd tA,.rd tI]
abbrev yv9:List OT:= [⟨false,tL,(.ow .fz)⟩,⟨false,tB,.fz⟩]
def yrx (a0:dA) (a1:Int):Option (zaY yv9×zak yon) :=let r1:=yjX a0 a1;bif(leb 0 r1)then bif(inb r1 a0.2.2.2.2.2.2.2.2.1.length)then let r2:=yr ((nth a0.2.2.2.2.2.2.2.2.1 r1 (0,[])).2);some ((r2,true,()),()) else none else let r3:=yfr a0 a1;some ((r3.1,r3.2,()),())
theorem yP3:ConOk prog 136 ⟨yon,yv9,fun x=>yrx x.1 x.2.1⟩:=zkI (yLT) func136 ntmps136.symm fun x=>by kernel_rfl
def yc3 (a0:dA) (a1:Int):List Int×Bool:=bif leb 0 (yi a0.2.2.2.2.2.2.2.2.1 a1)then((nth a0.2.2.2.2.2.2.2.2.1 (yi a0.2.2.2.2.2.2.2.2.1 a1) (0,[])).2,true)else ybO a0 a1
theorem ySV (a0:dA) (a1:Int) (hk:zjx yon (a0,a1,())):yrx a0 a1=(fun n=>some ((n.1,n.2,()),())) (yc3 a0 a1):=by
 unfold yrx yc3 yjX yfr yr;simp only[];cases h:leb 0 (yi a0.2.2.2.2.2.2.2.2.1 a1)
 ·rfl
 ·rw[show inb (yi a0.2.2.2.2.2.2.2.2.1 a1) a0.2.2.2.2.2.2.2.2.1.length=true from(ygV (d:=((0,[]):dW)) h).1]; rfl
theorem yRP {a:dA} {s:Int} (h:yO a=true) (hs:yG a.2.1 s=true):yc3 a s=ym a s:=by
 unfold yc3 ym ybO;rw[h,hs];cases a.2.2.2.2.2.2.2.2.2.2.2<;>rfl
def yq3:Con:=⟨yon,yv9,fun x=>(fun n=>some ((n.1,n.2,()),())) (yc3 x.1 x.2.1)⟩
theorem yE9:ConOk prog 136 yq3:=(yP3).mono (fun x r hk h=>(ySV x.1 x.2.1 hk).trans h)
def yQU:Code:=(f65.body).getD .skip
def yRi:Env:=zkw TT [(59,ype),(60,yq2),(134,ynr),(136,yq3)] []
theorem yJu:FrOk prog ⟨yRi,33,fun _=>none⟩ yQU:=zkA mixed yc ⟨yDu,yE8,yAQ,yE9,trivial⟩
abbrev ymn:List Par:= [.rd tA,.rd tI]
abbrev ytk:List OT:= [⟨false,tI,.fz⟩,⟨false,tI,.fz⟩]
def ypA (a0:dA) (a1:Int):Option (zaY ytk×zak ymn) :=let r1:=yew a0 a1;bif(r1 !=0)then some ((0,r1,()),()) else let r2:=yb9 a0.2.1 a1;let r3:=yc3 a0 r2;bif(!r3.2)then some ((0,5,()),()) else let r4:=yc2 a0.2.1 a1;bif(inb r4 r3.1.length)then some (((nth r3.1 r4 0),0,()),()) else none
theorem yMP:ConOk prog 65 ⟨ymn,ytk,fun x=>ypA x.1 x.2.1⟩:=zkI (yJu) func65 ntmps65.symm fun x=>by kernel_rfl
def yaG (a0:dA) (a1:Int):Int×Int:=yS a0 a1
theorem yPD (a0:dA) (a1:Int) (hk:zjx ymn (a0,a1,())):ypA a0 a1=(fun n=>some ((n.1,n.2,()),())) (yaG a0 a1):=by
 unfold ypA yaG yS yb9 yc2;simp only[yJY];cases hc:(yb4 a0 a1 !=0)
 ·obtain⟨h1,h2,_⟩:=yW1 (bne_eq_false_iff_eq.1 hc)
  have hs:=ygg h2;rw[yRP h1 hs];simp only[cond_false];cases hn:(ym a0 (yp a0.2.1 a1)).2
  ·rfl
  ·have hl:=yhw h1 hs hn
   obtain⟨_,_,h5⟩:=ye1 h2;have h6:yC a0.2.1 a1=a1.tmod (a0.2.1.1-1):=by unfold yC; rw[h2]; rfl
   rw[zj6.2 (show 0≤yC a0.2.1 a1∧yC a0.2.1 a1<(ym a0 (yp a0.2.1 a1)).1.length by omega)]; rfl
 ·rfl
def ypc:Con:=⟨ymn,ytk,fun x=>(fun n=>some ((n.1,n.2,()),())) (yaG x.1 x.2.1)⟩
theorem yDs:ConOk prog 65 ypc:=(yMP).mono (fun x r hk h=>(yPD x.1 x.2.1 hk).trans h)
def yl9:Code:=(f50.body).getD .skip
def ysB:Env:=zkw TT [(51,ymQ),(65,ypc)] []
theorem yJo:FrOk prog ⟨ysB,28,fun _=>none⟩ yl9:=zkA mixed yc ⟨ywy,yDs,trivial⟩
def yzP:Nat→Option Seg:=fun _=>none
def ybo:Shape:=⟨[(1,false,[.ptr 0 0]),(3,false,[.at 800000000]),(10,false,[.int .i64]),(11,false,[.int .i64])],[(0,[.int .i64,.int .i64,.int .i64,.br tM,.int .i64,.int .i64,.int .i64,.int .i64,.int .i64,.br tW,.int .i64,.bool,.bool])],[(800000000,tI,.fz)]⟩
def yeS:Shape:=⟨[(1,false,[.ptr 0 0]),(3,false,[.at 800000000]),(10,false,[.int .i64]),(11,false,[.ci .i64 0])],[(0,[.int .i64,.int .i64,.int .i64,.br tM,.int .i64,.int .i64,.int .i64,.int .i64,.int .i64,.br tW,.int .i64,.bool,.bool])],[(800000000,tI,.fz)]⟩
def yeK:Shape:=⟨[(3,false,[.at 800000000])],[],[(800000000,tI,.fz)]⟩
def ye0:Shape:=⟨[(2,false,[.nil])],[],[]⟩
abbrev ylM (v0 v1:Int) (v2:dA) (v3:List Int):(ybo).X:=((((),()),((),()),(v0,()),(v1,()),()),((v2.1,v2.2.1.1,v2.2.1.2,v2.2.2.1,v2.2.2.2.1,v2.2.2.2.2.1,v2.2.2.2.2.2.1,v2.2.2.2.2.2.2.1,v2.2.2.2.2.2.2.2.1,v2.2.2.2.2.2.2.2.2.1,v2.2.2.2.2.2.2.2.2.2.1,v2.2.2.2.2.2.2.2.2.2.2.1,v2.2.2.2.2.2.2.2.2.2.2.2,()),()),(v3,()))
abbrev yIs (v0:Int) (v1:dA) (v2:List Int):(yeS).X:=((((),()),((),()),(v0,()),((),()),()),((v1.1,v1.2.1.1,v1.2.1.2,v1.2.2.1,v1.2.2.2.1,v1.2.2.2.2.1,v1.2.2.2.2.2.1,v1.2.2.2.2.2.2.1,v1.2.2.2.2.2.2.2.1,v1.2.2.2.2.2.2.2.2.1,v1.2.2.2.2.2.2.2.2.2.1,v1.2.2.2.2.2.2.2.2.2.2.1,v1.2.2.2.2.2.2.2.2.2.2.2,()),()),(v2,()))
abbrev yvl (v0:List Int):(yeK).X:=((((),()),()),(),(v0,()))
abbrev yIy  :(ye0).X:=((((),()),()),(),())
def yl0 (v0 v1 v2 v3 v4:Int) (v5:List dM) (v6 v7 v8 v9 v10:Int) (v11:List dW) (v12:Int) (v13 v14:Bool) (v15:List Int):Option ((ybo).X ⊕ ((yeK).X ⊕ (ye0).X)) :=bif(ltb v1 v0)then let r3:=yaG (v2,(v3,v4),v5,v6,v7,v8,v9,v10,v11,v12,v13,v14) v1;bif(r3.2 !=0)then some (.inr (.inr ((((),()),()),(),()))) else bif(zkl v15.length ([r3.1]:List Int).length 8)then some (.inl ((((),()),((),()),(v0,()),((i64.wrap (v1+1)),()),()),((v2,v3,v4,v5,v6,v7,v8,v9,v10,v11,v12,v13,v14,()),()),((v15++([r3.1]:List Int)),()))) else none else some (.inr (.inl ((((),()),()),(),(v15,()))))
def ybH (x:(ybo).X):=yl0 x.1.2.2.1.1 x.1.2.2.2.1.1 x.2.1.1.1 x.2.1.1.2.1 x.2.1.1.2.2.1 x.2.1.1.2.2.2.1 x.2.1.1.2.2.2.2.1 x.2.1.1.2.2.2.2.2.1 x.2.1.1.2.2.2.2.2.2.1 x.2.1.1.2.2.2.2.2.2.2.1 x.2.1.1.2.2.2.2.2.2.2.2.1 x.2.1.1.2.2.2.2.2.2.2.2.2.1 x.2.1.1.2.2.2.2.2.2.2.2.2.2.1 x.2.1.1.2.2.2.2.2.2.2.2.2.2.2.1 x.2.1.1.2.2.2.2.2.2.2.2.2.2.2.2.1 x.2.2.1
def yu5 (x:(yeS).X):(ybo).X:=((((),()),((),()),(x.1.2.2.1.1,()),(0,()),()),((x.2.1.1.1,x.2.1.1.2.1,x.2.1.1.2.2.1,x.2.1.1.2.2.2.1,x.2.1.1.2.2.2.2.1,x.2.1.1.2.2.2.2.2.1,x.2.1.1.2.2.2.2.2.2.1,x.2.1.1.2.2.2.2.2.2.2.1,x.2.1.1.2.2.2.2.2.2.2.2.1,x.2.1.1.2.2.2.2.2.2.2.2.2.1,x.2.1.1.2.2.2.2.2.2.2.2.2.2.1,x.2.1.1.2.2.2.2.2.2.2.2.2.2.2.1,x.2.1.1.2.2.2.2.2.2.2.2.2.2.2.2.1,()),()),(x.2.2.1,()))
def yxh:Code:=(zd7 yl9 64 116).getD .skip
theorem yI6:zd7 yl9 64 29=some (.block 0 (.loop yxh)):=by kernel_rfl
theorem yKG (x:(ybo).X):zhu ⟨ysB,28,yzP⟩ 0 yxh 116 ybo yeK ye0 x=ybH x:=by kernel_rfl
def yve (x:(yeS).X):Nat:=18446744073709551616
def ynb (x:(yeS).X):Option ((yeK).X ⊕ (ye0).X):=zF ybH (yve x) (yu5 x)
def yvv:Seg:=⟨yeS,yeK,ye0,ynb⟩
def yLf:Nat→Option Seg:=fun q=>bif Nat.beq q 29 then some yvv else yzP q
theorem yJp:FrOk prog ⟨ysB,28,yLf⟩ yl9:=(yJo).loop (sg:=yvv) ybo yu5 (by decide) yI6 ybH yve (by decide) (fun _=>rfl) (fun x r _ h=>h) yKG
abbrev ymk:List Par:= [.rd tA]
abbrev yth:List OT:= [⟨false,tL,(.ow .fz)⟩]
def ypx (a0:dA):Option (zaY yth×zak ymk) :=let r1:=yd5 a0.2.1;zkt (ynb ((((),()),((),()),(r1,()),((),()),()),((a0.1,a0.2.1.1,a0.2.1.2,a0.2.2.1,a0.2.2.2.1,a0.2.2.2.2.1,a0.2.2.2.2.2.1,a0.2.2.2.2.2.2.1,a0.2.2.2.2.2.2.2.1,a0.2.2.2.2.2.2.2.2.1,a0.2.2.2.2.2.2.2.2.2.1,a0.2.2.2.2.2.2.2.2.2.2.1,a0.2.2.2.2.2.2.2.2.2.2.2,()),()),(([]:List Int),()))) (fun y3 =>some ((y3.2.2.1,()),())) (fun y3 =>some (([],()),()))
theorem yMM:ConOk prog 50 ⟨ymk,yth,fun x=>ypx x.1⟩:=zkI (yJp) func50 ntmps50.symm fun x=>by kernel_rfl
def yb8 (a0:dA):List Int:=ygU a0
theorem yPA (a0:dA) (hk:zjx ymk (a0,())):ypx a0=(fun n=>some ((n,()),())) (yb8 a0):=by
 have hB:=yoP a0.2.1
 have h1:ynb (yIs (yd a0.2.1) a0 [])=some (bif(List.range (yd a0.2.1).toNat).all (fun(b:Nat)=> !((yS a0 b).2 !=0))then .inl (yvl ((List.range (yd a0.2.1).toNat).foldl (fun l (b:Nat)=>l++ [(yS a0 b).1]) []))else .inr yIy) :=
  zhU (step:=ybH) (yd a0.2.1).toNat (fun i s=>ylM (yd a0.2.1) i a0 s) (fun(b:Nat)=> !((yS a0 b).2 !=0)) (fun l (b:Nat)=>l++ [(yS a0 b).1]) (fun i s=>s.length=i) (fun s=> .inl (yvl s)) _ (fun i s hi hs=>by
   refine⟨?_,fun _=>by simp[hs]⟩;simp only[ybH,ylM,yl0,zky (show(i:Int)<yd a0.2.1 by omega),cond_true,wq ((i:Int)+1) (by omega) (by omega),Int.natCast_add,Int.natCast_one,Int.toNat_natCast,zkX,yaG,zkF.2 (show(s.length+ [(yS a0 i).1].length)*8≤140737488355328 by simp only[List.length_cons,List.length_nil]; omega)]
   cases((yS a0 i).2 !=0)<;>rfl) (fun s hs=>by simp only[ybH,ylM,yl0,zk3 (show yd a0.2.1≤((yd a0.2.1).toNat:Int)by omega),cond_false]) [] rfl _ (by show _<18446744073709551616; omega)
 unfold ypx yb8 ygU;simp only[yjJ];rw[h1,yoD];cases(List.range (yd a0.2.1).toNat).all (fun(b:Nat)=> !((yS a0 b).2 !=0))<;>rfl
def yAe:Con:=⟨ymk,yth,fun x=>(fun n=>some ((n,()),())) (yb8 x.1)⟩
theorem yQq:ConOk prog 50 yAe:=(yMM).mono (fun x r hk h=>(yPA x.1 hk).trans h)
def ysq:Code:=(f69.body).getD .skip
def yBD:Env:=zkw TT [] []
theorem ySn:FrOk prog ⟨yBD,32,fun _=>none⟩ ysq:=zkA mixed yc trivial
def yF6:Nat→Option Seg:=fun _=>none
def yff:Shape:=⟨[(0,false,[.fz tY]),(3,false,[.int .i64]),(4,false,[.int .i64])],[],[]⟩
def ymC:Shape:=⟨[(0,false,[.fz tY]),(3,false,[.int .i64]),(4,false,[.ci .i64 0])],[],[]⟩
def ymB:Shape:=⟨[(0,false,[.fz tY]),(3,false,[.int .i64])],[],[]⟩
def ymJ:Shape:=⟨[],[],[]⟩
def yDZ (v0:List Int) (v1 v2:Int):Option ((yff).X ⊕ ((ymB).X ⊕ (ymJ).X)) :=bif(ltb v2 (v0.length:Int))then bif(ltb v2 4000)then bif(inb v2 v0.length)then some (.inl (((v0,()),((i64.wrap ((BitVec.ofInt IntKind.i64.bits (i64.wrap ((i64.wrap ((i64.wrap (v1*137))+(i64.wrap (nth v0 v2 0))))+11)) &&& BitVec.ofInt IntKind.i64.bits 1073741823).toNat:Int)),()),((i64.wrap (v2+1)),()),()),(),())) else none else some (.inr (.inl (((v0,()),(v1,()),()),(),()))) else some (.inr (.inl (((v0,()),(v1,()),()),(),())))
def yf7 (x:(yff).X):=yDZ x.1.1.1 x.1.2.1.1 x.1.2.2.1.1
def yCT (x:(ymC).X):(yff).X:=(((x.1.1.1,()),(x.1.2.1.1,()),(0,()),()),(),())
def yEu:Code:=(zd7 ysq 64 116).getD .skip
theorem yRF:zd7 ysq 64 29=some (.block 0 (.loop yEu)):=by kernel_rfl
theorem yUm (x:(yff).X):zhu ⟨yBD,32,yF6⟩ 0 yEu 116 yff ymB ymJ x=yf7 x:=by kernel_rfl
def yC9 (x:(ymC).X):Nat:=18446744073709551616
def ysU (x:(ymC).X):Option ((ymB).X ⊕ (ymJ).X):=zF yf7 (yC9 x) (yCT x)
def yDT:Seg:=⟨ymC,ymB,ymJ,ysU⟩
def yUU:Nat→Option Seg:=fun q=>bif Nat.beq q 29 then some yDT else yF6 q
theorem ySo:FrOk prog ⟨yBD,32,yUU⟩ ysq:=(ySn).loop (sg:=yDT) yff yCT (by decide) yRF yf7 yC9 (by decide) (fun _=>rfl) (fun x r _ h=>h) yUm
abbrev ytd:List Par:= [.kp tYs .fz]
abbrev yB8:List OT:= [⟨true,tU,.fz⟩]
def yke (a0:List Int):Option (zaY yB8×zak ytd) :=zkt (ysU (((a0,()),((i64.wrap (770770+(a0.length:Int))),()),((),()),()),(),())) (fun y0 =>some (((y0.1.1.1,0,y0.1.2.1.1),()),())) (fun y0 =>none)
theorem yWn:ConOk prog 69 ⟨ytd,yB8,fun x=>yke x.1⟩:=zkI (ySo) func69 ntmps69.symm fun x=>by kernel_rfl
def yj1 (a0:List Int):List Int×Int×Int:=(((yke a0).getD (((([]:List Int),(0:Int),(0:Int)),()),())).1).1
def yeH (u:List Int×Int×Int):Prop:=0≤u.2.1∧(u.1.length:Int)≤140737488355328
theorem yZX (a0:List Int) (hb:a0.length≤140737488355328): ∃s:Int,yke a0=some (((a0,0,s),()),()):=by
 have hl: ∃b,ysU (((a0,()),((i64.wrap (770770+(a0.length:Int))),()),((),()),()),(),())=some b∧(∃s:Int,b= .inl (((a0,()),(s,()),()),(),())):=by
  refine zjj (step:=yf7) (fun x=>(a0.length-(x.1.2.2.1.1:Int).toNat)) (fun x=>(x.1.1.1:List Int)=a0∧(0:Int)≤(x.1.2.2.1.1:Int)) _ ?_ _ _ ⟨rfl,Int.le_refl _⟩ (by show a0.length-_<18446744073709551616; omega)
  rintro⟨⟨⟨(l:List Int),_⟩,⟨(s:Int),_⟩,⟨(i:Int),_⟩,_⟩,_,_⟩ ⟨h0,hi⟩
  simp only at h0 hi;subst h0;simp only[yf7,yDZ];by_cases h1:i<(l.length:Int)
  ·rw[zky h1]
   by_cases h2:i<4000
   ·rw[zky h2,zj6.2 ⟨hi,h1⟩]
    refine .inl ⟨_,rfl,⟨rfl,?_⟩,?_⟩
    ·show 0≤i64.wrap (i+1); rw[wr (by omega) (by omega)]; omega
    ·show l.length-(i64.wrap (i+1)).toNat<l.length-i.toNat; rw[wr (by omega) (by omega)]; omega
   ·rw[zk3 (Int.not_lt.1 h2)]
    exact .inr ⟨_,rfl,_,rfl⟩
  ·rw[zk3 (Int.not_lt.1 h1)]
   exact .inr ⟨_,rfl,_,rfl⟩
 obtain⟨b,e,s,rfl⟩:=hl;refine⟨s,?_⟩;unfold yke;rw[e]; rfl
theorem yYJ (a0:List Int) (hk:zjx ytd (a0,())):yke a0=(fun n=>some ((n,()),())) (yj1 a0):=by
 obtain⟨s,e⟩:=yZX a0 (by have:a0.length*1≤2^47:=hk.1.1; omega);unfold yj1;rw[e]; rfl
theorem y3D (a0:List Int) (hb:a0.length≤140737488355328):yeH (yj1 a0):=by
 obtain⟨s,e⟩:=yZX a0 hb;unfold yj1;rw[e];exact⟨Int.le_refl _,by show(a0.length:Int)≤_; omega⟩
def yGp:Con:=⟨ytd,yB8,fun x=>(fun n=>some ((n,()),())) (yj1 x.1)⟩
theorem yY2:ConOk prog 69 yGp:=(yWn).mono (fun x r hk h=>(yYJ x.1 hk).trans h)
def yXQ:Code:=(f71.body).getD .skip
def yYl:Env:=zkw TT [] []
theorem yOE:FrOk prog ⟨yYl,15,fun _=>none⟩ yXQ:=zkA mixed yc trivial
abbrev yyT:List Par:= [.rd tYs,.rd tI]
abbrev yzn:List OT:= [⟨false,tI,.fz⟩]
def yFt (a0:List Int) (a1:Int):Option (zaY yzn×zak yyT) :=bif(ltb a1 (i64.wrap (3+(i64.wrap ((a0.length:Int).tdiv 12)))))then some ((a1,()),()) else some (((i64.wrap (3+(i64.wrap ((a0.length:Int).tdiv 12)))),()),())
theorem yTD:ConOk prog 71 ⟨yyT,yzn,fun x=>yFt x.1 x.2.1⟩:=zkI (yOE) func71 ntmps71.symm fun x=>by kernel_rfl
def yd9 (a0:List Int) (a1:Int):Int :=bif(ltb a1 (i64.wrap (3+(i64.wrap ((a0.length:Int).tdiv 12)))))then a1 else (i64.wrap (3+(i64.wrap ((a0.length:Int).tdiv 12))))
def yEK:Con:=⟨yyT,yzn,fun x=>(fun n=>some ((n,()),())) (yd9 x.1 x.2.1)⟩
theorem yVU (a0:List Int) (a1:Int):yFt a0 a1=(fun n=>some ((n,()),())) (yd9 a0 a1):=zkV (p:=fun(n:Int)=>((n,()),())) (zkG (p:=fun(n:Int)=>((n,()),())) rfl rfl)
theorem yWF:ConOk prog 71 yEK:=(yTD).mono (fun x r _ h=>(yVU x.1 x.2.1).trans h)
theorem y27 (l:List Int) (n:Int) (hn:0≤n) (hl:l.length≤140737488355328):0≤yd9 l n∧yd9 l n≤n:=by
 unfold yd9;have h1:0≤(l.length:Int).tdiv 12:=Int.tdiv_nonneg (by omega) (by omega)
 have h2:(l.length:Int).tdiv 12≤(l.length:Int):=by
  rw[Int.tdiv_eq_ediv_of_nonneg (by omega)];exact Int.ediv_le_self _ (by omega)
 rw[wq ((l.length:Int).tdiv 12) (by omega) (by omega),wq (3+(l.length:Int).tdiv 12) (by omega) (by omega)];by_cases h:n<3+(l.length:Int).tdiv 12
 ·rw[zky h]; exact⟨hn,Int.le_refl _⟩
 ·rw[zk3 (by omega),cond_false]; omega
def yXR:Code:=(f226.body).getD .skip
def yYm:Env:=zkw TT [(82,yF)] []
theorem yOF:FrOk prog ⟨yYm,5,fun _=>none⟩ yXR:=zkA mixed yc ⟨yK,trivial⟩
abbrev yyU:List Par:= [.rd tI]
abbrev yzo:List OT:= [⟨false,tB,.fz⟩]
def yFu (a0:Int):Option (zaY yzo×zak yyU) :=let r1:=yb a0 0 65535;some ((r1,()),())
theorem yTE:ConOk prog 226 ⟨yyU,yzo,fun x=>yFu x.1⟩:=zkI (yOF) func226 ntmps226.symm fun x=>by kernel_rfl
def y9 (a0:Int):Bool :=let r1:=yb a0 0 65535;r1
def yEL:Con:=⟨yyU,yzo,fun x=>(fun n=>some ((n,()),())) (y9 x.1)⟩
theorem yVV (a0:Int):yFu a0=(fun n=>some ((n,()),())) (y9 a0):=zkV (p:=fun(n:Bool)=>((n,()),())) rfl
theorem yWG:ConOk prog 226 yEL:=(yTE).mono (fun x r _ h=>(yVV x.1).trans h)
end
end Go.Tf
