/- Functions of the program, and what they come to. -/
import Derived.Test.YtgmadfpnljibhaaGreatExactSetBlockF2
namespace Go.Tf
noncomputable section
open Go.Proofs
set_option synthInstance.maxHeartbeats 400000
set_option synthInstance.maxSize 10000
set_option linter.unusedVariables false
set_option linter.unusedSimpArgs false
set_option maxRecDepth 100000
section
def yhG:Code:=(Tryz.f132.body).getD .skip
def ymD:Env:=zki TT [(116,ycZ),(144,yy8)] []
theorem yFb:FrOk Tryz.prog ⟨ymD,44,fun _=>none⟩ yhG:=zkp yb yc ⟨yhn,yO2,trivial⟩
def yv5:Nat→Option Seg:=fun _=>none
def yaG:Shape:=⟨[(1,false,[.ptr 0 0]),(6,false,[.br tW]),(7,false,[.int .i64]),(8,false,[.int .i64])],[(0,[.int .i64,.int .i64,.int .i64,.br tM,.int .i64,.int .i64,.int .i64,.int .i64,.int .i64,.br tW,.int .i64,.bool,.bool])],[]⟩
def ydU:Shape:=⟨[(1,false,[.ptr 0 0]),(6,false,[.br tW]),(7,false,[.int .i64]),(8,false,[.ci .i64 0])],[(0,[.int .i64,.int .i64,.int .i64,.br tM,.int .i64,.int .i64,.int .i64,.int .i64,.int .i64,.br tW,.int .i64,.bool,.bool])],[]⟩
def ydK:Shape:=⟨[],[],[]⟩
def ydZ:Shape:=⟨[(2,false,[.bool])],[],[]⟩
abbrev yl4 (v0:List dW) (v1 v2:Int) (v3:dA):(yaG).X:=((((),()),(v0,()),(v1,()),(v2,()),()),((v3.1,v3.2.1.1,v3.2.1.2,v3.2.2.1,v3.2.2.2.1,v3.2.2.2.2.1,v3.2.2.2.2.2.1,v3.2.2.2.2.2.2.1,v3.2.2.2.2.2.2.2.1,v3.2.2.2.2.2.2.2.2.1,v3.2.2.2.2.2.2.2.2.2.1,v3.2.2.2.2.2.2.2.2.2.2.1,v3.2.2.2.2.2.2.2.2.2.2.2,()),()),())
abbrev yD8 (v0:List dW) (v1:Int) (v2:dA):(ydU).X:=((((),()),(v0,()),(v1,()),((),()),()),((v2.1,v2.2.1.1,v2.2.1.2,v2.2.2.1,v2.2.2.2.1,v2.2.2.2.2.1,v2.2.2.2.2.2.1,v2.2.2.2.2.2.2.1,v2.2.2.2.2.2.2.2.1,v2.2.2.2.2.2.2.2.2.1,v2.2.2.2.2.2.2.2.2.2.1,v2.2.2.2.2.2.2.2.2.2.2.1,v2.2.2.2.2.2.2.2.2.2.2.2,()),()),())
abbrev yDZ  :(ydK).X:=((),(),())
abbrev yEd (v0:Bool):(ydZ).X:=(((v0,()),()),(),())
def ymo (v0:List dW) (v1 v2 v3 v4 v5:Int) (v6:List dM) (v7 v8 v9 v10 v11:Int) (v12:List dW) (v13:Int) (v14 v15:Bool):Option ((yaG).X ⊕ ((ydK).X ⊕ (ydZ).X)) :=
 bif (ltb v2 v1) then
 bif (inb v2 v0.length) then
 let r4:=yX (v4,v5) ((nth v0 v2 (0,[])).1)
 bif (!(!r4)) then
 bif (ltb 0 v2) then
 bif (inb (IntKind.i64.wrap (v2 - 1)) v12.length) then
 bif (!(leb ((nth v0 v2 (0,[])).1) ((nth v12 (IntKind.i64.wrap (v2 - 1)) (0,[])).1))) then
 let r5:=yj2 (v4,v5) ((nth v0 v2 (0,[])).2)
 bif (!r5) then
 some (.inr (.inr (((false,()),()),(),())))
 else
 some (.inl ((((),()),(v0,()),(v1,()),((IntKind.i64.wrap (v2+1)),()),()),((v3,v4,v5,v6,v7,v8,v9,v10,v11,v12,v13,v14,v15,()),()),()))
 else
 some (.inr (.inr (((false,()),()),(),())))
 else none
 else
 let r6:=yj2 (v4,v5) ((nth v0 v2 (0,[])).2)
 bif (!r6) then
 some (.inr (.inr (((false,()),()),(),())))
 else
 some (.inl ((((),()),(v0,()),(v1,()),((IntKind.i64.wrap (v2+1)),()),()),((v3,v4,v5,v6,v7,v8,v9,v10,v11,v12,v13,v14,v15,()),()),()))
 else
 some (.inr (.inr (((false,()),()),(),())))
 else none
 else
 some (.inr (.inl ((),(),())))
def yaW (x:(yaG).X):=ymo x.1.2.1.1 x.1.2.2.1.1 x.1.2.2.2.1.1 x.2.1.1.1 x.2.1.1.2.1 x.2.1.1.2.2.1 x.2.1.1.2.2.2.1 x.2.1.1.2.2.2.2.1 x.2.1.1.2.2.2.2.2.1 x.2.1.1.2.2.2.2.2.2.1 x.2.1.1.2.2.2.2.2.2.2.1 x.2.1.1.2.2.2.2.2.2.2.2.1 x.2.1.1.2.2.2.2.2.2.2.2.2.1 x.2.1.1.2.2.2.2.2.2.2.2.2.2.1 x.2.1.1.2.2.2.2.2.2.2.2.2.2.2.1 x.2.1.1.2.2.2.2.2.2.2.2.2.2.2.2.1
def ytb (x:(ydU).X):(yaG).X:=((((),()),(x.1.2.1.1,()),(x.1.2.2.1.1,()),(0,()),()),((x.2.1.1.1,x.2.1.1.2.1,x.2.1.1.2.2.1,x.2.1.1.2.2.2.1,x.2.1.1.2.2.2.2.1,x.2.1.1.2.2.2.2.2.1,x.2.1.1.2.2.2.2.2.2.1,x.2.1.1.2.2.2.2.2.2.2.1,x.2.1.1.2.2.2.2.2.2.2.2.1,x.2.1.1.2.2.2.2.2.2.2.2.2.1,x.2.1.1.2.2.2.2.2.2.2.2.2.2.1,x.2.1.1.2.2.2.2.2.2.2.2.2.2.2.1,x.2.1.1.2.2.2.2.2.2.2.2.2.2.2.2.1,()),()),())
def yuB:Code:=(zdI yhG 64 52).getD .skip
theorem yEP:zdI yhG 64 13=some (.block 0 (.loop yuB)):=by kernel_rfl
theorem yGk (x:(yaG).X):zg7 ⟨ymD,44,yv5⟩ 0 yuB 52 yaG ydK ydZ x=yaW x:=by kernel_rfl
def ytt (x:(ydU).X):Nat:=18446744073709551616
def ynA (x:(ydU).X):Option ((ydK).X ⊕ (ydZ).X):=zr yaW (ytt x) (ytb x)
def ytR:Seg:=⟨ydU,ydK,ydZ,ynA⟩
def yv6:Nat→Option Seg:=fun q=>bif Nat.beq q 13 then some ytR else yv5 q
theorem yFc:FrOk Tryz.prog ⟨ymD,44,yv6⟩ yhG:=(yFb).loop (sg:=ytR) yaG ytb (by decide) yEP yaW ytt (by decide) (fun _=>rfl) (fun x r _ h=>h) yGk
abbrev ycv:List Par:= [.rd tA]
abbrev yib:List OT:= [⟨false,tB,.fz⟩]
def yjd (a0:dA):Option (ResD yib×MutD ycv) :=
 zjw (ynA ((((),()),(a0.2.2.2.2.2.2.2.2.1,()),((a0.2.2.2.2.2.2.2.2.1.length:Int),()),((),()),()),((a0.1,a0.2.1.1,a0.2.1.2,a0.2.2.1,a0.2.2.2.1,a0.2.2.2.2.1,a0.2.2.2.2.2.1,a0.2.2.2.2.2.2.1,a0.2.2.2.2.2.2.2.1,a0.2.2.2.2.2.2.2.2.1,a0.2.2.2.2.2.2.2.2.2.1,a0.2.2.2.2.2.2.2.2.2.2.1,a0.2.2.2.2.2.2.2.2.2.2.2,()),()),())) (fun y6 =>
 some ((true,()),())) (fun y6 =>
 some ((y6.1.1.1,()),()))
theorem yNr (x:InD ycv):zjH ⟨ymD,44,yv6⟩ Tryz.f132.results.toList yhG ycv yib x=yjd x.1:=by kernel_rfl
theorem yIP:ConOk Tryz.prog 132 ⟨ycv,yib,fun x=>yjd x.1⟩:=zkh (yFc) Tryz.func132 (by kernel_rfl) (by kernel_rfl) Tryz.ntmps132.symm (by decide) (fun x r h=>(yNr x).trans h)
def yin (a0:dA):Bool:=yar a0.2.1 a0.2.2.2.2.2.2.2.2.1
def ysj (a0:dA):Bool:=yd a0.2.1
theorem yLj (l:List Int):yD l=l.all isW:=by
 unfold yD
 rw [show yr=isW from funext fun x=>by unfold yr; rw [yaf,ydr]; rfl]
theorem yLu (a0:dA) (hk:zi9 ycv (a0,())) (hq:ysj a0=true):yjd a0=(fun n=>some ((n,()),())) (yin a0):=by
 have hb:a0.2.2.2.2.2.2.2.2.1.length * 32≤2 ^ 47:=hk.1.2.2.2.2.2.2.2.2.1.1
 have hg:=yo.1 hq
 have hq':yd a0.2.1=true:=hq
 have h1:ynA (yD8 a0.2.2.2.2.2.2.2.2.1 a0.2.2.2.2.2.2.2.2.1.length a0)=some (bif (List.range a0.2.2.2.2.2.2.2.2.1.length).any (yfu a0.2.1 a0.2.2.2.2.2.2.2.2.1) then .inr (yEd false) else .inl yDZ) :=
  zf4 (step:=yaW) (fun i=>yl4 a0.2.2.2.2.2.2.2.2.1 a0.2.2.2.2.2.2.2.2.1.length i a0) a0.2.2.2.2.2.2.2.2.1.length (yfu a0.2.1 a0.2.2.2.2.2.2.2.2.1) _ _ (fun i hi=>by
   simp only [yaW,yl4,ymo,zjI (show (i:Int) < a0.2.2.2.2.2.2.2.2.1.length by omega),cond_true,wr (show -9223372036854775808≤(i:Int)+1 by omega) (by omega),Int.natCast_add,Int.natCast_one,Int.toNat_natCast,zkO hi,zkV,yX,yj2,yRM,hq',yaf,ydr,yLj,wr (show -9223372036854775808≤a0.2.1.2 - 1 by omega) (by omega),wr (show -9223372036854775808≤a0.2.1.1 - 1 by omega) (by omega),yfu,bne]
   rcases Nat.eq_zero_or_pos i with rfl | h0
   ·cases (leb 0 (nth a0.2.2.2.2.2.2.2.2.1 ((0:Nat):Int) (0,[])).1&&leb (nth a0.2.2.2.2.2.2.2.2.1 ((0:Nat):Int) (0,[])).1 (a0.2.1.2 - 1))<;>cases (((nth a0.2.2.2.2.2.2.2.2.1 ((0:Nat):Int) (0,[])).2.length:Int)==a0.2.1.1 - 1)<;>cases ((nth a0.2.2.2.2.2.2.2.2.1 ((0:Nat):Int) (0,[])).2.all isW)<;>rfl
   ·rw [show IntKind.i64.wrap ((i:Int) - 1)=((i - 1:Nat):Int) by rw [wr (by omega) (by omega)]; omega,zkO (show i - 1 < a0.2.2.2.2.2.2.2.2.1.length by omega),zjI (show (0:Int) < i by omega),decide_eq_true h0]
    cases (leb 0 (nth a0.2.2.2.2.2.2.2.2.1 (i:Int) (0,[])).1&&leb (nth a0.2.2.2.2.2.2.2.2.1 (i:Int) (0,[])).1 (a0.2.1.2 - 1))<;>cases (((nth a0.2.2.2.2.2.2.2.2.1 (i:Int) (0,[])).2.length:Int)==a0.2.1.1 - 1)<;>cases ((nth a0.2.2.2.2.2.2.2.2.1 (i:Int) (0,[])).2.all isW)<;>cases leb (nth a0.2.2.2.2.2.2.2.2.1 (i:Int) (0,[])).1 (nth a0.2.2.2.2.2.2.2.2.1 ((i - 1:Nat):Int) (0,[])).1<;>rfl) (by simp only [yaW,yl4,ymo,zkm (Int.le_refl _),cond_false]) _ (by show _ < 18446744073709551616; omega)
 unfold yjd yin yar
 rw [h1]
 cases (List.range a0.2.2.2.2.2.2.2.2.1.length).any (yfu a0.2.1 a0.2.2.2.2.2.2.2.2.1)<;>rfl
def ync (a0:dA):Option (ResD yib×MutD ycv):=bif ysj a0 then (fun n=>some ((n,()),())) (yin a0) else none
theorem yME (a0:dA) (h:ysj a0=true):ync a0=(fun n=>some ((n,()),())) (yin a0):=by unfold ync; rw [h]; rfl
def ywQ:Con:=⟨ycv,yib,fun x=>ync x.1⟩
theorem yMp:ConOk Tryz.prog 132 ywQ:=(yIP).mono (fun x r hk h=>zkW h (fun hq=>yLu x.1 hk hq))
end
section
def yBx:Code:=(Tryz.f220.body).getD .skip
def yBU:Env:=zki TT [(126,yp)] []
theorem yHl:FrOk Tryz.prog ⟨yBU,11,fun _=>none⟩ yBx:=zkp yb yc ⟨yF,trivial⟩
def yJH:Nat→Option Seg:=fun _=>none
abbrev yjF:List Par:= [.rd tM,.rd tI]
abbrev yoK:List OT:= [⟨false,tB,.fz⟩]
def yrv (a0:dM) (a1:Int):Option (ResD yoK×MutD yjF) :=
 let r1:=ye a1 0 (IntKind.i64.wrap ((a0.1.length:Int) - 1))
 some ((r1,()),())
theorem yPQ (x:InD yjF):zjH ⟨yBU,11,yJH⟩ Tryz.f220.results.toList yBx yjF yoK x=yrv x.1 x.2.1:=by kernel_rfl
theorem yLR:ConOk Tryz.prog 220 ⟨yjF,yoK,fun x=>yrv x.1 x.2.1⟩:=zkh (yHl) Tryz.func220 (by kernel_rfl) (by kernel_rfl) Tryz.ntmps220.symm (by decide) (fun x r h=>(yPQ x).trans h)
def ycs (a0:dM) (a1:Int):Bool :=
 let r1:=ye a1 0 (IntKind.i64.wrap ((a0.1.length:Int) - 1))
 r1
def yq8:Con:=⟨yjF,yoK,fun x=>(fun n=>some ((n,()),())) (ycs x.1 x.2.1)⟩
theorem yN1 (a0:dM) (a1:Int):yrv a0 a1=(fun n=>some ((n,()),())) (ycs a0 a1):=zkS (p:=fun (n:Bool)=>((n,()),())) rfl
theorem yA4:ConOk Tryz.prog 220 yq8:=(yLR).mono (fun x r _ h=>(yN1 x.1 x.2.1).trans h)
end
section
def yCD:Code:=(Tryz.f221.body).getD .skip
def yCY:Env:=zki TT [(228,ypy)] []
theorem yKI:FrOk Tryz.prog ⟨yCY,10,fun _=>none⟩ yCD:=zkp yb yc ⟨yzy,trivial⟩
def yM0:Nat→Option Seg:=fun _=>none
abbrev ylF:List Par:= [.rd tL]
abbrev yqH:List OT:= [⟨false,tB,.fz⟩]
def ysn (a0:List Int):Option (ResD yqH×MutD ylF) :=
 bif (leb (a0.length:Int) 12) then
 let r1:=yD a0
 some ((r1,()),())
 else
 some ((false,()),())
theorem yRm (x:InD ylF):zjH ⟨yCY,10,yM0⟩ Tryz.f221.results.toList yCD ylF yqH x=ysn x.1:=by kernel_rfl
theorem yOx:ConOk Tryz.prog 221 ⟨ylF,yqH,fun x=>ysn x.1⟩:=zkh (yKI) Tryz.func221 (by kernel_rfl) (by kernel_rfl) Tryz.ntmps221.symm (by decide) (fun x r h=>(yRm x).trans h)
def yik (a0:List Int):Bool :=
 bif (leb (a0.length:Int) 12) then
 let r1:=yD a0
 r1
 else
 false
def yAs:Con:=⟨ylF,yqH,fun x=>(fun n=>some ((n,()),())) (yik x.1)⟩
theorem yQo (a0:List Int):ysn a0=(fun n=>some ((n,()),())) (yik a0):=zkS (p:=fun (n:Bool)=>((n,()),())) (zkx (p:=fun (n:Bool)=>((n,()),())) rfl rfl)
theorem yQT:ConOk Tryz.prog 221 yAs:=(yOx).mono (fun x r _ h=>(yQo x.1).trans h)
theorem yGG:yik=ybO:=funext fun s=>by
 unfold yik ybO yD
 rw [show yr=isW from funext fun x=>by unfold yr; rw [yaf,ydr]; rfl]
 cases leb (s.length:Int) 12<;>rfl
end
section
def yak:Code:=(Tryz.f133.body).getD .skip
def ycU:Env:=zki TT [(126,yp),(220,yq8),(221,yAs)] []
theorem yKE:FrOk Tryz.prog ⟨ycU,76,fun _=>none⟩ yak:=zkp yb yc ⟨yF,yA4,yQT,trivial⟩
def yzZ:Nat→Option Seg:=fun _=>none
def ybR:Shape:=⟨[(1,false,[.ptr 0 0]),(10,false,[.br tL]),(11,false,[.int .i64]),(12,false,[.int .i64])],[(0,[.br tL,.br tW,.bool,.br tI])],[]⟩
def yf1:Shape:=⟨[(1,false,[.ptr 0 0]),(10,false,[.br tL]),(11,false,[.int .i64]),(12,false,[.ci .i64 0])],[(0,[.br tL,.br tW,.bool,.br tI])],[]⟩
def yfM:Shape:=⟨[(1,false,[.ptr 0 0])],[(0,[.br tL,.br tW,.bool,.br tI])],[]⟩
def ygk:Shape:=⟨[(2,false,[.bool])],[],[]⟩
abbrev ypC (v0:List (List Int)) (v1 v2:Int) (v3:dM):(ybR).X:=((((),()),(v0,()),(v1,()),(v2,()),()),((v3.1,v3.2.1,v3.2.2.1,v3.2.2.2,()),()),())
abbrev yId (v0:List (List Int)) (v1:Int) (v2:dM):(yf1).X:=((((),()),(v0,()),(v1,()),((),()),()),((v2.1,v2.2.1,v2.2.2.1,v2.2.2.2,()),()),())
abbrev yH5 (v0:dM):(yfM).X:=((((),()),()),((v0.1,v0.2.1,v0.2.2.1,v0.2.2.2,()),()),())
abbrev yIm (v0:Bool):(ygk).X:=(((v0,()),()),(),())
def ypR (v0:List (List Int)) (v1 v2:Int) (v3:List (List Int)) (v4:List dW) (v5:Bool) (v6:List Int):Option ((ybR).X ⊕ ((yfM).X ⊕ (ygk).X)) :=
 bif (ltb v2 v1) then
 bif (inb v2 v0.length) then
 let r2:=yik (nth v0 v2 [])
 bif (!r2) then
 some (.inr (.inr (((false,()),()),(),())))
 else
 some (.inl ((((),()),(v0,()),(v1,()),((IntKind.i64.wrap (v2+1)),()),()),((v3,v4,v5,v6,()),()),()))
 else none
 else
 some (.inr (.inl ((((),()),()),((v3,v4,v5,v6,()),()),())))
def ycf (x:(ybR).X):=ypR x.1.2.1.1 x.1.2.2.1.1 x.1.2.2.2.1.1 x.2.1.1.1 x.2.1.1.2.1 x.2.1.1.2.2.1 x.2.1.1.2.2.2.1
def yw8 (x:(yf1).X):(ybR).X:=((((),()),(x.1.2.1.1,()),(x.1.2.2.1.1,()),(0,()),()),((x.2.1.1.1,x.2.1.1.2.1,x.2.1.1.2.2.1,x.2.1.1.2.2.2.1,()),()),())
def yyR:Code:=(zdI yak 64 52).getD .skip
theorem yJY:zdI yak 64 13=some (.block 0 (.loop yyR)):=by kernel_rfl
theorem yMI (x:(ybR).X):zg7 ⟨ycU,76,yzZ⟩ 0 yyR 52 ybR yfM ygk x=ycf x:=by kernel_rfl
def yxm (x:(yf1).X):Nat:=18446744073709551616
def yqt (x:(yf1).X):Option ((yfM).X ⊕ (ygk).X):=zr ycf (yxm x) (yw8 x)
def yxK:Seg:=⟨yf1,yfM,ygk,yqt⟩
def yr7:Nat→Option Seg:=fun q=>bif Nat.beq q 13 then some yxK else yzZ q
theorem yKF:FrOk Tryz.prog ⟨ycU,76,yr7⟩ yak:=(yKE).loop (sg:=yxK) ybR yw8 (by decide) yJY ycf yxm (by decide) (fun _=>rfl) (fun x r _ h=>h) yMI
def ybS:Shape:=⟨[(1,false,[.ptr 0 0]),(21,false,[.br tW]),(22,false,[.int .i64]),(23,false,[.int .i64])],[(0,[.br tL,.br tW,.bool,.br tI])],[]⟩
def yf2:Shape:=⟨[(1,false,[.ptr 0 0]),(21,false,[.br tW]),(22,false,[.int .i64]),(23,false,[.ci .i64 0])],[(0,[.br tL,.br tW,.bool,.br tI])],[]⟩
def yfN:Shape:=⟨[(1,false,[.ptr 0 0])],[(0,[.br tL,.br tW,.bool,.br tI])],[]⟩
def ygl:Shape:=⟨[(2,false,[.bool])],[],[]⟩
abbrev ypD (v0:List dW) (v1 v2:Int) (v3:dM):(ybS).X:=((((),()),(v0,()),(v1,()),(v2,()),()),((v3.1,v3.2.1,v3.2.2.1,v3.2.2.2,()),()),())
abbrev yIe (v0:List dW) (v1:Int) (v2:dM):(yf2).X:=((((),()),(v0,()),(v1,()),((),()),()),((v2.1,v2.2.1,v2.2.2.1,v2.2.2.2,()),()),())
abbrev yH6 (v0:dM):(yfN).X:=((((),()),()),((v0.1,v0.2.1,v0.2.2.1,v0.2.2.2,()),()),())
abbrev yIn (v0:Bool):(ygl).X:=(((v0,()),()),(),())
def ypS (v0:List dW) (v1 v2:Int) (v3:List (List Int)) (v4:List dW) (v5:Bool) (v6:List Int):Option ((ybS).X ⊕ ((yfN).X ⊕ (ygl).X)) :=
 bif (ltb v2 v1) then
 bif (inb v2 v0.length) then
 let r6:=ycs (v3,v4,v5,v6) ((nth v0 v2 (0,[])).1)
 bif (!(!r6)) then
 let r7:=yik ((nth v0 v2 (0,[])).2)
 bif (!r7) then
 some (.inr (.inr (((false,()),()),(),())))
 else
 some (.inl ((((),()),(v0,()),(v1,()),((IntKind.i64.wrap (v2+1)),()),()),((v3,v4,v5,v6,()),()),()))
 else
 some (.inr (.inr (((false,()),()),(),())))
 else none
 else
 some (.inr (.inl ((((),()),()),((v3,v4,v5,v6,()),()),())))
def ycg (x:(ybS).X):=ypS x.1.2.1.1 x.1.2.2.1.1 x.1.2.2.2.1.1 x.2.1.1.1 x.2.1.1.2.1 x.2.1.1.2.2.1 x.2.1.1.2.2.2.1
def yw9 (x:(yf2).X):(ybS).X:=((((),()),(x.1.2.1.1,()),(x.1.2.2.1.1,()),(0,()),()),((x.2.1.1.1,x.2.1.1.2.1,x.2.1.1.2.2.1,x.2.1.1.2.2.2.1,()),()),())
def yyS:Code:=(zdI yak 64 116).getD .skip
theorem yJZ:zdI yak 64 29=some (.block 2 (.loop yyS)):=by kernel_rfl
theorem yMJ (x:(ybS).X):zg7 ⟨ycU,76,yr7⟩ 2 yyS 116 ybS yfN ygl x=ycg x:=by kernel_rfl
def yxn (x:(yf2).X):Nat:=18446744073709551616
def yqu (x:(yf2).X):Option ((yfN).X ⊕ (ygl).X):=zr ycg (yxn x) (yw9 x)
def yxL:Seg:=⟨yf2,yfN,ygl,yqu⟩
def yr8:Nat→Option Seg:=fun q=>bif Nat.beq q 29 then some yxL else yr7 q
theorem yKG:FrOk Tryz.prog ⟨ycU,76,yr8⟩ yak:=(yKF).loop (sg:=yxL) ybS yw9 (by decide) yJZ ycg yxn (by decide) (fun _=>rfl) (fun x r _ h=>h) yMJ
def ybT:Shape:=⟨[(1,false,[.ptr 0 0]),(40,false,[.br tI]),(41,false,[.int .i64]),(42,false,[.int .i64])],[(0,[.br tL,.br tW,.bool,.br tI])],[]⟩
def yf3:Shape:=⟨[(1,false,[.ptr 0 0]),(40,false,[.br tI]),(41,false,[.int .i64]),(42,false,[.ci .i64 0])],[(0,[.br tL,.br tW,.bool,.br tI])],[]⟩
def yfO:Shape:=⟨[(1,false,[.ptr 0 0])],[(0,[.br tL,.br tW,.bool,.br tI])],[]⟩
def ygm:Shape:=⟨[(2,false,[.bool])],[],[]⟩
abbrev ypE (v0:List Int) (v1 v2:Int) (v3:dM):(ybT).X:=((((),()),(v0,()),(v1,()),(v2,()),()),((v3.1,v3.2.1,v3.2.2.1,v3.2.2.2,()),()),())
abbrev yIf (v0:List Int) (v1:Int) (v2:dM):(yf3).X:=((((),()),(v0,()),(v1,()),((),()),()),((v2.1,v2.2.1,v2.2.2.1,v2.2.2.2,()),()),())
abbrev yH7 (v0:dM):(yfO).X:=((((),()),()),((v0.1,v0.2.1,v0.2.2.1,v0.2.2.2,()),()),())
abbrev yIo (v0:Bool):(ygm).X:=(((v0,()),()),(),())
def ypT (v0:List Int) (v1 v2:Int) (v3:List (List Int)) (v4:List dW) (v5:Bool) (v6:List Int):Option ((ybT).X ⊕ ((yfO).X ⊕ (ygm).X)) :=
 bif (ltb v2 v1) then
 bif (inb v2 v0.length) then
 let r10:=ycs (v3,v4,v5,v6) (nth v0 v2 0)
 bif (!(!r10)) then
 bif (ltb 0 v2) then
 bif (inb (IntKind.i64.wrap (v2 - 1)) v6.length) then
 bif (leb (nth v0 v2 0) (nth v6 (IntKind.i64.wrap (v2 - 1)) 0)) then
 some (.inr (.inr (((false,()),()),(),())))
 else
 some (.inl ((((),()),(v0,()),(v1,()),((IntKind.i64.wrap (v2+1)),()),()),((v3,v4,v5,v6,()),()),()))
 else none
 else
 some (.inl ((((),()),(v0,()),(v1,()),((IntKind.i64.wrap (v2+1)),()),()),((v3,v4,v5,v6,()),()),()))
 else
 some (.inr (.inr (((false,()),()),(),())))
 else none
 else
 some (.inr (.inl ((((),()),()),((v3,v4,v5,v6,()),()),())))
def ych (x:(ybT).X):=ypT x.1.2.1.1 x.1.2.2.1.1 x.1.2.2.2.1.1 x.2.1.1.1 x.2.1.1.2.1 x.2.1.1.2.2.1 x.2.1.1.2.2.2.1
def yxa (x:(yf3).X):(ybT).X:=((((),()),(x.1.2.1.1,()),(x.1.2.2.1.1,()),(0,()),()),((x.2.1.1.1,x.2.1.1.2.1,x.2.1.1.2.2.1,x.2.1.1.2.2.2.1,()),()),())
def yyT:Code:=(zdI yak 64 244).getD .skip
theorem yJ0:zdI yak 64 61=some (.block 4 (.loop yyT)):=by kernel_rfl
theorem yMK (x:(ybT).X):zg7 ⟨ycU,76,yr8⟩ 4 yyT 244 ybT yfO ygm x=ych x:=by kernel_rfl
def yxo (x:(yf3).X):Nat:=18446744073709551616
def yqv (x:(yf3).X):Option ((yfO).X ⊕ (ygm).X):=zr ych (yxo x) (yxa x)
def yxM:Seg:=⟨yf3,yfO,ygm,yqv⟩
def yz0:Nat→Option Seg:=fun q=>bif Nat.beq q 61 then some yxM else yr8 q
theorem yKH:FrOk Tryz.prog ⟨ycU,76,yz0⟩ yak:=(yKG).loop (sg:=yxM) ybT yxa (by decide) yJ0 ych yxo (by decide) (fun _=>rfl) (fun x r _ h=>h) yMK
abbrev yhU:List Par:= [.rd tM]
abbrev yqG:List OT:= [⟨false,tB,.fz⟩]
def ynj (a0:dM):Option (ResD yqG×MutD yhU) :=
 zjw (yqt ((((),()),(a0.1,()),((a0.1.length:Int),()),((),()),()),((a0.1,a0.2.1,a0.2.2.1,a0.2.2.2,()),()),())) (fun y2 =>
 zjw (yqu ((((),()),(y2.2.1.1.2.1,()),((y2.2.1.1.2.1.length:Int),()),((),()),()),((y2.2.1.1.1,y2.2.1.1.2.1,y2.2.1.1.2.2.1,y2.2.1.1.2.2.2.1,()),()),())) (fun y7 =>
 zjw (yqv ((((),()),(y7.2.1.1.2.2.2.1,()),((y7.2.1.1.2.2.2.1.length:Int),()),((),()),()),((y7.2.1.1.1,y7.2.1.1.2.1,y7.2.1.1.2.2.1,y7.2.1.1.2.2.2.1,()),()),())) (fun y10 =>
 let r12:=ye (y10.2.1.1.1.length:Int) 1 20
 bif r12 then
 some (((leb (y10.2.1.1.2.1.length:Int) 60),()),())
 else
 some ((false,()),())) (fun y10 =>
 some ((y10.1.1.1,()),()))) (fun y7 =>
 some ((y7.1.1.1,()),()))) (fun y2 =>
 some ((y2.1.1.1,()),()))
theorem yRl (x:InD yhU):zjH ⟨ycU,76,yz0⟩ Tryz.f133.results.toList yak yhU yqG x=ynj x.1:=by kernel_rfl
theorem yOw:ConOk Tryz.prog 133 ⟨yhU,yqG,fun x=>ynj x.1⟩:=zkh (yKH) Tryz.func133 (by kernel_rfl) (by kernel_rfl) Tryz.ntmps133.symm (by decide) (fun x r h=>(yRl x).trans h)
def yeW (a0:dM):Bool:=yK a0
theorem yQn (a0:dM) (hk:zi9 yhU (a0,())):ynj a0=(fun n=>some ((n,()),())) (yeW a0):=by
 have hb1:a0.1.length * 24≤2 ^ 47:=hk.1.1.1
 have hb2:a0.2.1.length * 32≤2 ^ 47:=hk.1.2.1.1
 have hb3:a0.2.2.2.length * 8≤2 ^ 47:=hk.1.2.2.2.1
 have h1:yqt (yId a0.1 a0.1.length a0)=some (bif a0.1.all ybO then .inl (yH5 a0) else .inr (yIm false)) :=
  zjS (step:=ycf) a0.1 [] (fun i=>ypC a0.1 a0.1.length i a0) ybO _ _ (fun i hi=>by
   simp only [ycf,ypC,ypR,zjI (show (i:Int) < a0.1.length by omega),cond_true,wr (show -9223372036854775808≤(i:Int)+1 by omega) (by omega),Int.natCast_add,Int.natCast_one,Int.toNat_natCast,zkO hi,zjW,yGG]
   cases ybO (a0.1.getD i [])<;>rfl) (by simp only [ycf,ypC,ypR,zkm (Int.le_refl _),cond_false]) _ (by show _ < 18446744073709551616; omega)
 have h2:yqu (yIe a0.2.1 a0.2.1.length a0)=some (bif a0.2.1.all (ysE a0.1.length) then .inl (yH6 a0) else .inr (yIn false)) :=
  zjS (step:=ycg) a0.2.1 (0,[]) (fun i=>ypD a0.2.1 a0.2.1.length i a0) (ysE a0.1.length) _ _ (fun i hi=>by
   simp only [ycg,ypD,ypS,zjI (show (i:Int) < a0.2.1.length by omega),cond_true,wr (show -9223372036854775808≤(i:Int)+1 by omega) (by omega),Int.natCast_add,Int.natCast_one,Int.toNat_natCast,zkO hi,zjW,yGG,ycs,yaf,yrh (show a0.1.length≤1152921504606846976 by omega),ysE]
   cases inb (a0.2.1.getD i (0,[])).1 a0.1.length<;>cases ybO (a0.2.1.getD i (0,[])).2<;>rfl) (by simp only [ycg,ypD,ypS,zkm (Int.le_refl _),cond_false]) _ (by show _ < 18446744073709551616; omega)
 have h3:yqv (yIf a0.2.2.2 a0.2.2.2.length a0)=some (bif (List.range a0.2.2.2.length).any (yyP a0.1.length a0.2.2.2) then .inr (yIo false) else .inl (yH7 a0)) :=
  zf4 (step:=ych) (fun i=>ypE a0.2.2.2 a0.2.2.2.length i a0) a0.2.2.2.length (yyP a0.1.length a0.2.2.2) _ _ (fun i hi=>by
   simp only [ych,ypE,ypT,zjI (show (i:Int) < a0.2.2.2.length by omega),cond_true,wr (show -9223372036854775808≤(i:Int)+1 by omega) (by omega),Int.natCast_add,Int.natCast_one,Int.toNat_natCast,zkO hi,zjW,ycs,yaf,yrh (show a0.1.length≤1152921504606846976 by omega),yyP]
   rcases Nat.eq_zero_or_pos i with rfl | h0
   ·cases inb (a0.2.2.2.getD 0 0) a0.1.length<;>rfl
   ·rw [show IntKind.i64.wrap ((i:Int) - 1)=((i - 1:Nat):Int) by rw [wr (by omega) (by omega)]; omega,zkO (show i - 1 < a0.2.2.2.length by omega),zjW,zjI (show (0:Int) < i by omega),decide_eq_true h0]
    cases inb (a0.2.2.2.getD i 0) a0.1.length<;>cases leb (a0.2.2.2.getD i 0) (a0.2.2.2.getD (i - 1) 0)<;>rfl) (by simp only [ych,ypE,ypT,zkm (Int.le_refl _),cond_false]) _ (by show _ < 18446744073709551616; omega)
 unfold ynj yeW yK
 rw [h1]
 cases a0.1.all ybO
 ·rfl
 simp only [cond_true,zkJ,h2]
 cases a0.2.1.all (ysE a0.1.length)
 ·rfl
 simp only [cond_true,zkJ,h3,yPv,yaf,ydr]
 cases yq5 a0.1.length a0.2.2.2
 ·rfl
 simp only [Bool.not_true,cond_false,zkJ]
 cases leb 1 (a0.1.length:Int)<;>cases leb (a0.1.length:Int) 20<;>rfl
def ysd:Con:=⟨yhU,yqG,fun x=>(fun n=>some ((n,()),())) (yeW x.1)⟩
theorem yCg:ConOk Tryz.prog 133 ysd:=(yOw).mono (fun x r hk h=>(yQn x.1 hk).trans h)
end
section
def yln:Code:=(Tryz.f45.body).getD .skip
def yqk:Env:=zki TT [(100,ywS),(122,ym7),(126,yp),(131,yy9),(132,ywQ),(133,ysd)] []
theorem yKB:FrOk Tryz.prog ⟨yqk,103,fun _=>none⟩ yln:=zkp yb yc ⟨yMr,yt6,yF,yO3,yMp,yCg,trivial⟩
def yzX:Nat→Option Seg:=fun _=>none
def ybQ:Shape:=⟨[(1,false,[.ptr 0 0]),(41,false,[.br tM]),(42,false,[.int .i64]),(43,false,[.int .i64])],[(0,[.int .i64,.int .i64,.int .i64,.br tM,.int .i64,.int .i64,.int .i64,.int .i64,.int .i64,.br tW,.int .i64,.bool,.bool])],[]⟩
def yf0:Shape:=⟨[(1,false,[.ptr 0 0]),(41,false,[.br tM]),(42,false,[.int .i64]),(43,false,[.ci .i64 0])],[(0,[.int .i64,.int .i64,.int .i64,.br tM,.int .i64,.int .i64,.int .i64,.int .i64,.int .i64,.br tW,.int .i64,.bool,.bool])],[]⟩
def yfL:Shape:=⟨[(1,false,[.ptr 0 0])],[(0,[.int .i64,.int .i64,.int .i64,.br tM,.int .i64,.int .i64,.int .i64,.int .i64,.int .i64,.br tW,.int .i64,.bool,.bool])],[]⟩
def ygj:Shape:=⟨[(2,false,[.bool])],[],[]⟩
abbrev ypB (v0:List dM) (v1 v2:Int) (v3:dA):(ybQ).X:=((((),()),(v0,()),(v1,()),(v2,()),()),((v3.1,v3.2.1.1,v3.2.1.2,v3.2.2.1,v3.2.2.2.1,v3.2.2.2.2.1,v3.2.2.2.2.2.1,v3.2.2.2.2.2.2.1,v3.2.2.2.2.2.2.2.1,v3.2.2.2.2.2.2.2.2.1,v3.2.2.2.2.2.2.2.2.2.1,v3.2.2.2.2.2.2.2.2.2.2.1,v3.2.2.2.2.2.2.2.2.2.2.2,()),()),())
abbrev yIc (v0:List dM) (v1:Int) (v2:dA):(yf0).X:=((((),()),(v0,()),(v1,()),((),()),()),((v2.1,v2.2.1.1,v2.2.1.2,v2.2.2.1,v2.2.2.2.1,v2.2.2.2.2.1,v2.2.2.2.2.2.1,v2.2.2.2.2.2.2.1,v2.2.2.2.2.2.2.2.1,v2.2.2.2.2.2.2.2.2.1,v2.2.2.2.2.2.2.2.2.2.1,v2.2.2.2.2.2.2.2.2.2.2.1,v2.2.2.2.2.2.2.2.2.2.2.2,()),()),())
abbrev yH4 (v0:dA):(yfL).X:=((((),()),()),((v0.1,v0.2.1.1,v0.2.1.2,v0.2.2.1,v0.2.2.2.1,v0.2.2.2.2.1,v0.2.2.2.2.2.1,v0.2.2.2.2.2.2.1,v0.2.2.2.2.2.2.2.1,v0.2.2.2.2.2.2.2.2.1,v0.2.2.2.2.2.2.2.2.2.1,v0.2.2.2.2.2.2.2.2.2.2.1,v0.2.2.2.2.2.2.2.2.2.2.2,()),()),())
abbrev yIl (v0:Bool):(ygj).X:=(((v0,()),()),(),())
def ypQ (v0:List dM) (v1 v2 v3 v4 v5:Int) (v6:List dM) (v7 v8 v9 v10 v11:Int) (v12:List dW) (v13:Int) (v14 v15:Bool):Option ((ybQ).X ⊕ ((yfL).X ⊕ (ygj).X)) :=
 bif (ltb v2 v1) then
 bif (inb v2 v0.length) then
 let r7:=yeW ((nth v0 v2 ([],[],false,[])).1,((nth v0 v2 ([],[],false,[])).2).1,(((nth v0 v2 ([],[],false,[])).2).2))
 bif (!(!r7)) then
 let r8:=yna (v4,v5)
 bif (!((((nth v0 v2 ([],[],false,[])).1).length:Int) !=r8)) then
 bif (((nth v0 v2 ([],[],false,[])).2).2).1 then
 bif (v7 !=v2) then
 bif (!v15) then
 some (.inr (.inr (((false,()),()),(),())))
 else
 some (.inl ((((),()),(v0,()),(v1,()),((IntKind.i64.wrap (v2+1)),()),()),((v3,v4,v5,v6,v7,v8,v9,v10,v11,v12,v13,v14,v15,()),()),()))
 else
 some (.inl ((((),()),(v0,()),(v1,()),((IntKind.i64.wrap (v2+1)),()),()),((v3,v4,v5,v6,v7,v8,v9,v10,v11,v12,v13,v14,v15,()),()),()))
 else
 some (.inl ((((),()),(v0,()),(v1,()),((IntKind.i64.wrap (v2+1)),()),()),((v3,v4,v5,v6,v7,v8,v9,v10,v11,v12,v13,v14,v15,()),()),()))
 else
 some (.inr (.inr (((false,()),()),(),())))
 else
 some (.inr (.inr (((false,()),()),(),())))
 else none
 else
 some (.inr (.inl ((((),()),()),((v3,v4,v5,v6,v7,v8,v9,v10,v11,v12,v13,v14,v15,()),()),())))
def yce (x:(ybQ).X):=ypQ x.1.2.1.1 x.1.2.2.1.1 x.1.2.2.2.1.1 x.2.1.1.1 x.2.1.1.2.1 x.2.1.1.2.2.1 x.2.1.1.2.2.2.1 x.2.1.1.2.2.2.2.1 x.2.1.1.2.2.2.2.2.1 x.2.1.1.2.2.2.2.2.2.1 x.2.1.1.2.2.2.2.2.2.2.1 x.2.1.1.2.2.2.2.2.2.2.2.1 x.2.1.1.2.2.2.2.2.2.2.2.2.1 x.2.1.1.2.2.2.2.2.2.2.2.2.2.1 x.2.1.1.2.2.2.2.2.2.2.2.2.2.2.1 x.2.1.1.2.2.2.2.2.2.2.2.2.2.2.2.1
def yw7 (x:(yf0).X):(ybQ).X:=((((),()),(x.1.2.1.1,()),(x.1.2.2.1.1,()),(0,()),()),((x.2.1.1.1,x.2.1.1.2.1,x.2.1.1.2.2.1,x.2.1.1.2.2.2.1,x.2.1.1.2.2.2.2.1,x.2.1.1.2.2.2.2.2.1,x.2.1.1.2.2.2.2.2.2.1,x.2.1.1.2.2.2.2.2.2.2.1,x.2.1.1.2.2.2.2.2.2.2.2.1,x.2.1.1.2.2.2.2.2.2.2.2.2.1,x.2.1.1.2.2.2.2.2.2.2.2.2.2.1,x.2.1.1.2.2.2.2.2.2.2.2.2.2.2.1,x.2.1.1.2.2.2.2.2.2.2.2.2.2.2.2.1,()),()),())
def yyQ:Code:=(zdI yln 64 116).getD .skip
theorem yJX:zdI yln 64 29=some (.block 0 (.loop yyQ)):=by kernel_rfl
theorem yMH (x:(ybQ).X):zg7 ⟨yqk,103,yzX⟩ 0 yyQ 116 ybQ yfL ygj x=yce x:=by kernel_rfl
def yxl (x:(yf0).X):Nat:=18446744073709551616
def yqs (x:(yf0).X):Option ((yfL).X ⊕ (ygj).X):=zr yce (yxl x) (yw7 x)
def yxJ:Seg:=⟨yf0,yfL,ygj,yqs⟩
def yzY:Nat→Option Seg:=fun q=>bif Nat.beq q 29 then some yxJ else yzX q
theorem yKC:FrOk Tryz.prog ⟨yqk,103,yzY⟩ yln:=(yKB).loop (sg:=yxJ) ybQ yw7 (by decide) yJX yce yxl (by decide) (fun _=>rfl) (fun x r _ h=>h) yMH
abbrev yhT:List Par:= [.rd tA]
abbrev yqE:List OT:= [⟨false,tB,.fz⟩]
def yni (a0:dA):Option (ResD yqE×MutD yhT) :=
 let r1:=yc1 a0.2.1
 bif (!(!r1)) then
 bif (!((a0.2.2.1.length:Int) !=a0.2.1.1)) then
 let r2:=ye a0.1 1 60000
 bif (!(!r2)) then
 let r3:=ypa a0.2.1 a0.2.2.2.1 a0.2.2.2.2.1
 bif (!(!r3)) then
 bnd (ync a0) fun r4 =>
 bif (!r4.1.1) then
 some ((false,()),())
 else
 zjw (yqs ((((),()),(a0.2.2.1,()),((a0.2.2.1.length:Int),()),((),()),()),((a0.1,a0.2.1.1,a0.2.1.2,a0.2.2.1,a0.2.2.2.1,a0.2.2.2.2.1,a0.2.2.2.2.2.1,a0.2.2.2.2.2.2.1,a0.2.2.2.2.2.2.2.1,a0.2.2.2.2.2.2.2.2.1,a0.2.2.2.2.2.2.2.2.2.1,a0.2.2.2.2.2.2.2.2.2.2.1,a0.2.2.2.2.2.2.2.2.2.2.2,()),()),())) (fun y8 =>
 let r10:=ye y8.2.1.1.2.2.2.2.2.2.1 0 60000
 bif r10 then
 let r11:=ye y8.2.1.1.2.2.2.2.2.2.2.1 0 60000
 bif r11 then
 let r12:=ye y8.2.1.1.2.2.2.2.2.2.2.2.1 0 60000
 bif r12 then
 let r13:=ye (IntKind.i64.wrap (y8.2.1.1.2.2.2.2.2.2.1 - y8.2.1.1.2.2.2.2.2.2.2.1)) 0 4
 bif r13 then
 let r14:=ye y8.2.1.1.2.2.2.2.2.2.2.2.2.2.1 (-1) 1000
 some ((r14,()),())
 else
 some ((false,()),())
 else
 some ((false,()),())
 else
 some ((false,()),())
 else
 some ((false,()),())) (fun y8 =>
 some ((y8.1.1.1,()),()))
 else
 some ((false,()),())
 else
 some ((false,()),())
 else
 some ((false,()),())
 else
 some ((false,()),())
theorem yRj (x:InD yhT):zjH ⟨yqk,103,yzY⟩ Tryz.f45.results.toList yln yhT yqE x=yni x.1:=by kernel_rfl
theorem yOu:ConOk Tryz.prog 45 ⟨yhT,yqE,fun x=>yni x.1⟩:=zkh (yKC) Tryz.func45 (by kernel_rfl) (by kernel_rfl) Tryz.ntmps45.symm (by decide) (fun x r h=>(yRj x).trans h)
theorem yTA {S T G F z TS le:Bool} (h1:T=true→TS=true→S=true) (h2:S=true→T=true→z=(TS&&le)) :
  (bif S then bif T then bif G then bif z then some ((F,()),()) else some ((false,()),()) else some ((false,()),()) else some ((false,()),()) else some ((false,()),()))=some (((T&&(TS&&(le&&(G&&F)))),()),()):=by
 cases S
 ·cases T
  ·rfl
  ·cases TS
   ·rfl
   ·exact absurd (h1 rfl rfl) Bool.false_ne_true
 ·cases T
  ·cases G<;>rfl
  ·rw [h2 rfl rfl]
   cases TS<;>cases le<;>cases G<;>rfl
def yc0 (a0:dA):Bool:=yI a0
theorem yQl (a0:dA) (hk:zi9 yhT (a0,())):yni a0=(fun n=>some ((n,()),())) (yc0 a0):=by
 have hb:a0.2.2.1.length * 80≤2 ^ 47:=hk.1.2.2.1.1
 unfold yni yc0 yI
 simp only [yRM,yaf,ydr]
 cases hg:yd a0.2.1
 ·rfl
 have hg2:=yo.1 hg
 have h1:yqs (yIc a0.2.2.1 a0.2.2.1.length a0)=some (bif (List.range a0.2.2.1.length).any (ygC a0) then .inr (yIl false) else .inl (yH4 a0)) :=
  zf4 (step:=yce) (fun i=>ypB a0.2.2.1 a0.2.2.1.length i a0) a0.2.2.1.length (ygC a0) _ _ (fun i hi=>by
   simp only [yce,ypB,ypQ,zjI (show (i:Int) < a0.2.2.1.length by omega),cond_true,wr (show -9223372036854775808≤(i:Int)+1 by omega) (by omega),Int.natCast_add,Int.natCast_one,Int.toNat_natCast,zkO hi,zkV,yeW,ygC,yna,wr (show -9223372036854775808≤6+a0.2.1.2 by omega) (by omega),yf]
   rw [show (a0.2.2.2.1 !=(i:Int))=((i:Int) !=a0.2.2.2.1) from bne_comm]
   cases yK (nth a0.2.2.1 i ([],[],false,[]))<;>cases (((nth a0.2.2.1 i ([],[],false,[])).1.length:Int) !=6+a0.2.1.2)<;>cases (nth a0.2.2.1 i ([],[],false,[])).2.2.1<;>cases ((i:Int) !=a0.2.2.2.1)<;>cases a0.2.2.2.2.2.2.2.2.2.2.2<;>rfl) (by simp only [yce,ypB,ypQ,zkm (Int.le_refl _),cond_false]) _ (by show _ < 18446744073709551616; omega)
 rw [yME a0 hg,h1]
 simp only [zky,yin,ypa,yaf,ydr,wr (show -9223372036854775808≤a0.2.1.1 - 1 by omega) (by omega),yri]
 have hw:(leb 0 a0.2.2.2.2.2.1&&leb a0.2.2.2.2.2.1 60000)=true→(leb 0 a0.2.2.2.2.2.2.1&&leb a0.2.2.2.2.2.2.1 60000)=true→IntKind.i64.wrap (a0.2.2.2.2.2.1 - a0.2.2.2.2.2.2.1)=a0.2.2.2.2.2.1 - a0.2.2.2.2.2.2.1:=fun h h'=>by
  rw [Bool.and_eq_true,zjQ,zjQ]at h h'
  exact wr (by omega) (by omega)
 simp only [bne,Bool.not_not,cond_true,Bool.true_and]
 have h2:(leb 0 a0.2.2.2.2.2.1&&leb a0.2.2.2.2.2.1 60000)=true→(leb 0 a0.2.2.2.2.2.2.1&&leb a0.2.2.2.2.2.2.1 60000)=true→(leb 0 (IntKind.i64.wrap (a0.2.2.2.2.2.1 - a0.2.2.2.2.2.2.1))&&leb (IntKind.i64.wrap (a0.2.2.2.2.2.1 - a0.2.2.2.2.2.2.1)) 4)=((leb a0.2.2.2.2.2.2.1 a0.2.2.2.2.2.1&&leb a0.2.2.2.2.2.1 60000)&&leb a0.2.2.2.2.2.1 (a0.2.2.2.2.2.2.1+4)):=fun h h'=>by
  rw [hw h h',Bool.eq_iff_iff]
  simp only [Bool.and_eq_true,zjQ]at h h' ⊢
  omega
 have h3:(leb 0 a0.2.2.2.2.2.2.1&&leb a0.2.2.2.2.2.2.1 60000)=true→(leb a0.2.2.2.2.2.2.1 a0.2.2.2.2.2.1&&leb a0.2.2.2.2.2.1 60000)=true→(leb 0 a0.2.2.2.2.2.1&&leb a0.2.2.2.2.2.1 60000)=true:=fun h h'=>by
  simp only [Bool.and_eq_true,zjQ]at h h' ⊢
  omega
 cases ((a0.2.2.1.length:Int)==a0.2.1.1)
 ·cases (leb 1 a0.1&&leb a0.1 60000)<;>cases (List.range a0.2.2.1.length).any (ygC a0)<;>rfl
 cases (leb 1 a0.1&&leb a0.1 60000)
 ·rfl
 cases (leb (-1) a0.2.2.2.1&&leb a0.2.2.2.1 (a0.2.1.1 - 1))
 ·cases (List.range a0.2.2.1.length).any (ygC a0)<;>cases yar a0.2.1 a0.2.2.2.2.2.2.2.2.1<;>rfl
 cases (leb 0 a0.2.2.2.2.1&&leb a0.2.2.2.2.1 a0.2.1.2)
 ·cases (List.range a0.2.2.1.length).any (ygC a0)<;>cases yar a0.2.1 a0.2.2.2.2.2.2.2.2.1<;>rfl
 cases yar a0.2.1 a0.2.2.2.2.2.2.2.2.1
 ·cases (List.range a0.2.2.1.length).any (ygC a0)<;>cases (a0.2.2.2.1== -1)<;>cases (a0.2.2.2.2.1==0)<;>rfl
 cases (List.range a0.2.2.1.length).any (ygC a0)
 ·cases (a0.2.2.2.1== -1)<;>cases (a0.2.2.2.2.1==0)
  case true.false=>rfl
  all_goals exact yTA h3 h2
 ·cases (a0.2.2.2.1== -1)<;>cases (a0.2.2.2.2.1==0)<;>rfl
def ysc:Con:=⟨yhT,yqE,fun x=>(fun n=>some ((n,()),())) (yc0 x.1)⟩
theorem yCf:ConOk Tryz.prog 45 ysc:=(yOu).mono (fun x r hk h=>(yQl x.1 hk).trans h)
end
section
def yx6:Code:=(Tryz.f200.body).getD .skip
def yyG:Env:=zki TT [] []
theorem yDz:FrOk Tryz.prog ⟨yyG,6,fun _=>none⟩ yx6:=zkp yb yc trivial
def yEC:Nat→Option Seg:=fun _=>none
abbrev ydb:List Par:= [.rd tL]
abbrev ykF:List OT:= [⟨false,tL,(.ow .fz)⟩]
def yhr (a0:List Int):Option (ResD ykF×MutD ydb) :=
 bif (zj4 ([]:List Int).length a0.length 8) then
 some (((([]:List Int)++a0),()),())
 else none
theorem yKk (x:InD ydb):zjH ⟨yyG,6,yEC⟩ Tryz.f200.results.toList yx6 ydb ykF x=yhr x.1:=by kernel_rfl
theorem yFX:ConOk Tryz.prog 200 ⟨ydb,ykF,fun x=>yhr x.1⟩:=zkh (yDz) Tryz.func200 (by kernel_rfl) (by kernel_rfl) Tryz.ntmps200.symm (by decide) (fun x r h=>(yKk x).trans h)
def yk (a0:List Int):List Int:=a0
theorem yIv (a0:List Int) (hk:zi9 ydb (a0,())):yhr a0=(fun n=>some ((n,()),())) (yk a0):=by
 have hb:a0.length * 8≤2 ^ 47:=hk.1.1
 unfold yhr yk
 rw [show zj4 ([]:List Int).length a0.length 8=true by rw [zkw,List.length_nil]; omega]
 rfl
def yd2:Con:=⟨ydb,ykF,fun x=>(fun n=>some ((n,()),())) (yk x.1)⟩
theorem yi5:ConOk Tryz.prog 200 yd2:=(yFX).mono (fun x r hk h=>(yIv x.1 hk).trans h)
end
end
end Go.Tf
