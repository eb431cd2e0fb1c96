/- Functions of the program, and what they come to. -/
import Derived.Test.YtgmadfpnljibhaaGreatExactFlushStripeF11
namespace Go.Tf
noncomputable section
open Go.Proofs
set_option synthInstance.maxHeartbeats 400000
set_option synthInstance.maxSize 10000
set_option linter.unusedVariables false
set_option linter.unusedSimpArgs false
set_option maxRecDepth 100000
section
def ykk:Code:=(Tryz.f159.body).getD .skip
def yqq:Env:=zki TT [(135,yl),(224,ykT),(238,yGT)] []
theorem yM0:FrOk Tryz.prog ⟨yqq,60,fun _=>none⟩ ykk:=zkp yb yc ⟨yp,yta,yZ9,trivial⟩
def yB2:Nat→Option Seg:=fun _=>none
def ybi:Shape:=⟨[(1,false,[.int .i64]),(2,false,[.ptr 0 0]),(6,false,[.br tI]),(7,false,[.int .i64])],[(0,[.br tL,.br tW,.bool,.br tI])],[]⟩
def yfC:Shape:=⟨[(1,false,[.int .i64]),(2,false,[.ptr 0 0]),(6,false,[.br tI]),(7,false,[.ci .i64 0])],[(0,[.br tL,.br tW,.bool,.br tI])],[]⟩
def yfu:Shape:=⟨[(6,false,[.br tI])],[],[]⟩
def yjM:Shape:=⟨[],[],[]⟩
abbrev ypT (v0:Int) (v1:List Int) (v2:Int) (v3:dM):(ybi).X:=(((v0,()),((),()),(v1,()),(v2,()),()),((v3.1,v3.2.1,v3.2.2.1,v3.2.2.2,()),()),())
abbrev yLl (v0:Int) (v1:List Int) (v2:dM):(yfC).X:=(((v0,()),((),()),(v1,()),((),()),()),((v2.1,v2.2.1,v2.2.2.1,v2.2.2.2,()),()),())
abbrev yy1 (v0:List Int):(yfu).X:=(((v0,()),()),(),())
def yqd (v0:Int) (v1:List Int) (v2:Int) (v3:List (List Int)) (v4:List dW) (v5:Bool) (v6:List Int):Option ((ybi).X ⊕ ((yfu).X ⊕ (yjM).X)) :=
 bif (ltb v2 (v4.length:Int)) then
 bif (inb v2 v4.length) then
 bif ((nth v4 v2 (0,[])).1==v0) then
 bif (inb v2 v4.length) then
 some (.inl (((v0,()),((),()),((nth v4 v2 (0,[])).2,()),((IntKind.i64.wrap (v2+1)),()),()),((v3,v4,v5,v6,()),()),()))
 else none
 else
 some (.inl (((v0,()),((),()),(v1,()),((IntKind.i64.wrap (v2+1)),()),()),((v3,v4,v5,v6,()),()),()))
 else none
 else
 some (.inr (.inl (((v1,()),()),(),())))
def ybD (x:(ybi).X):=yqd x.1.1.1 x.1.2.2.1.1 x.1.2.2.2.1.1 x.2.1.1.1 x.2.1.1.2.1 x.2.1.1.2.2.1 x.2.1.1.2.2.2.1
def yyC (x:(yfC).X):(ybi).X:=(((x.1.1.1,()),((),()),(x.1.2.2.1.1,()),(0,()),()),((x.2.1.1.1,x.2.1.1.2.1,x.2.1.1.2.2.1,x.2.1.1.2.2.2.1,()),()),())
def yAm:Code:=(zdI ykk 64 244).getD .skip
theorem yMq:zdI ykk 64 61=some (.block 0 (.loop yAm)):=by kernel_rfl
theorem yN6 (x:(ybi).X):zg7 ⟨yqq,60,yB2⟩ 0 yAm 244 ybi yfu yjM x=ybD x:=by kernel_rfl
def yyS (x:(yfC).X):Nat:=18446744073709551616
def yrr (x:(yfC).X):Option ((yfu).X ⊕ (yjM).X):=zr ybD (yyS x) (yyC x)
def yzh:Seg:=⟨yfC,yfu,yjM,yrr⟩
def yB3:Nat→Option Seg:=fun q=>bif Nat.beq q 61 then some yzh else yB2 q
theorem yM1:FrOk Tryz.prog ⟨yqq,60,yB3⟩ ykk:=(yM0).loop (sg:=yzh) ybi yyC (by decide) yMq ybD yyS (by decide) (fun _=>rfl) (fun x r _ h=>h) yN6
abbrev ygf:List Par:= [.rd tM,.rd tI]
abbrev yqJ:List OT:= [⟨false,tL,(.ow .fz)⟩,⟨false,tB,.fz⟩]
def ymf (a0:dM) (a1:Int):Option (ResD yqJ×MutD ygf) :=
 let r1:=yaT a0
 bif (!(!r1)) then
 bif (!a0.2.2.1) then
 let r2:=ya a1 0 (IntKind.i64.wrap ((a0.1.length:Int) - 1))
 bif (!(!r2)) then
 let r3:=ypZ a0.2.2.2 a1
 bif r3 then
 some ((([]:List Int),false,()),())
 else
 bif (inb a1 a0.1.length) then
 zjw (yrr (((a1,()),((),()),((nth a0.1 a1 []),()),((),()),()),((a0.1,a0.2.1,a0.2.2.1,a0.2.2.2,()),()),())) (fun y3 =>
 bif (zj4 ([]:List Int).length y3.1.1.1.length 8) then
 some (((([]:List Int)++y3.1.1.1),true,()),())
 else none) (fun y3 =>
 none)
 else none
 else
 some ((([]:List Int),false,()),())
 else
 some ((([]:List Int),false,()),())
 else
 some ((([]:List Int),false,()),())
theorem yV7 (x:InD ygf):zjH ⟨yqq,60,yB3⟩ Tryz.f159.results.toList ykk ygf yqJ x=ymf x.1 x.2.1:=by kernel_rfl
theorem yQY:ConOk Tryz.prog 159 ⟨ygf,yqJ,fun x=>ymf x.1 x.2.1⟩:=zkh (yM1) Tryz.func159 (by kernel_rfl) (by kernel_rfl) Tryz.ntmps159.symm (by decide) (fun x r h=>(yV7 x).trans h)
def yk4 (a0:dM) (a1:Int):List Int×Bool:=ynh a0 a1
theorem yTV (a0:dM) (a1:Int) (hk:zi9 ygf (a0,a1,())):ymf a0 a1=(fun n=>some ((n.1,n.2,()),())) (yk4 a0 a1):=by
 have hb1:a0.1.length * 24≤2 ^ 47:=hk.1.1.1
 have hb2:a0.2.1.length * 32≤2 ^ 47:=hk.1.2.1.1
 have h1: ∀ s,yrr (yLl a1 s a0)=some (.inl (yy1 (yLt a1 a0.2.1 s))):=fun s =>
  zkk (step:=ybD) a0.2.1 (0,[]) (fun i s=>ypT a1 s i a0) (fun s w=>bif w.1==a1 then w.2 else s) (fun _ _=>True) (fun s=> .inl (yy1 s)) (fun i s hi _=>⟨by
   simp only [ybD,ypT,yqd,zjI (show (i:Int) < a0.2.1.length by omega),cond_true,wr (show -9223372036854775808≤(i:Int)+1 by omega) (by omega),Int.natCast_add,Int.natCast_one,Int.toNat_natCast,zkO hi,zjW]
   cases ((a0.2.1.getD i (0,[])).1==a1)<;>rfl,trivial⟩) (fun s _=>by simp only [ybD,ypT,yqd,zkm (Int.le_refl _),cond_false]) s trivial _ (by show _ < 18446744073709551616; omega)
 unfold ymf yk4 ynh yVO
 rw [yvF (show a0.1.length≤1152921504606846976 by omega)]
 unfold yaT ypZ
 simp only [h1,zkJ,List.nil_append]
 cases yr a0
 ·rfl
 cases a0.2.2.1
 ·cases hi:inb a1 a0.1.length
  ·rfl
  ·cases a0.2.2.2.any (· ==a1)
   ·have hs:(yLt a1 a0.2.1 (nth a0.1 a1 [])).length * 8≤2 ^ 47 :=
     yTE (P:=fun s=>s.length * 8≤2 ^ 47) (yW4 (P:=fun s:List Int=>s.length * 8≤2 ^ 47) hi fun x hx=>(hk.1.1.2 x hx).1) fun w hw=>(hk.1.2.1.2 w hw).2.1
    simp only [Bool.not_true,Bool.not_false,cond_true,cond_false,Bool.true_and,show zj4 ([]:List Int).length (yLt a1 a0.2.1 (nth a0.1 a1 [])).length 8=true from zkw.2 (by rw [List.length_nil]; omega)]
   ·rfl
 ·rfl
def yCH:Con:=⟨ygf,yqJ,fun x=>(fun n=>some ((n.1,n.2,()),())) (yk4 x.1 x.2.1)⟩
theorem yUT:ConOk Tryz.prog 159 yCH:=(yQY).mono (fun x r hk h=>(yTV x.1 x.2.1 hk).trans h)
end
section
def yId:Code:=(Tryz.f215.body).getD .skip
def yIC:Env:=zki TT [(48,yvt),(141,yvr),(159,yCH)] []
theorem yPL:FrOk Tryz.prog ⟨yIC,36,fun _=>none⟩ yId:=zkp yb yc ⟨yHh,yHg,yUT,trivial⟩
def yR2:Nat→Option Seg:=fun _=>none
abbrev yhz:List Par:= [.rd tA,.rd tI,.rd tI]
abbrev ysW:List OT:= [⟨false,tI,.fz⟩,⟨false,tB,.fz⟩]
def yoY (a0:dA) (a1 a2:Int):Option (ResD ysW×MutD yhz) :=
 let r1:=ydB a0 a1 a2
 bif (!r1) then
 some ((0,false,()),())
 else
 bif (inb a1 a0.2.2.1.length) then
 let r2:=yfi a2
 let r3:=yk4 ((nth a0.2.2.1 a1 ([],[],false,[])).1,((nth a0.2.2.1 a1 ([],[],false,[])).2).1,(((nth a0.2.2.1 a1 ([],[],false,[])).2).2)) r2
 bif (!(!r3.2)) then
 bif ((r3.1.length:Int) !=1) then
 some ((0,false,()),())
 else
 bif (inb 0 r3.1.length) then
 some (((nth r3.1 0 0),true,()),())
 else none
 else
 some ((0,false,()),())
 else none
theorem yY4 (x:InD yhz):zjH ⟨yIC,36,yR2⟩ Tryz.f215.results.toList yId yhz ysW x=yoY x.1 x.2.1 x.2.2.1:=by kernel_rfl
theorem yUA:ConOk Tryz.prog 215 ⟨yhz,ysW,fun x=>yoY x.1 x.2.1 x.2.2.1⟩:=zkh (yPL) Tryz.func215 (by kernel_rfl) (by kernel_rfl) Tryz.ntmps215.symm (by decide) (fun x r h=>(yY4 x).trans h)
def yna (a0:dA) (a1 a2:Int):Int×Bool:=(yL1 a0 a1 a2,yD a0 a1 a2)
theorem yWY (a0:dA) (a1 a2:Int) (hk:zi9 yhz (a0,a1,a2,())):yoY a0 a1 a2=(fun n=>some ((n.1,n.2,()),())) (yna a0 a1 a2):=by
 unfold yoY yna yL1 ydB
 simp only [zkV,yxE,yk4]
 rw [show yD a0 a1 a2=(yfN a0 a1 a2&&((yrg a0 a1 a2).2&&((yrg a0 a1 a2).1.length:Int)==1)) from rfl]
 rw [show ynh (nth a0.2.2.1 a1 ([],[],false,[])) (yr6 a2)=yrg a0 a1 a2 from rfl]
 cases hl:yfN a0 a1 a2
 ·rfl
 ·rw [show inb a1 a0.2.2.1.length=true by unfold yfN at hl; exact (Bool.and_eq_true_iff.1 hl).1]
  cases (yrg a0 a1 a2).2
  ·rfl
  ·rw [bne]
   cases h1:(((yrg a0 a1 a2).1.length:Int)==1)
   ·rfl
   ·rw [show inb 0 (yrg a0 a1 a2).1.length=true from zjP.2 (by have:=beq_iff_eq.1 h1; omega)]; rfl
def yFt:Con:=⟨yhz,ysW,fun x=>(fun n=>some ((n.1,n.2,()),())) (yna x.1 x.2.1 x.2.2.1)⟩
theorem yXX:ConOk Tryz.prog 215 yFt:=(yUA).mono (fun x r hk h=>(yWY x.1 x.2.1 x.2.2.1 hk).trans h)
end
section
def yeh:Code:=(Tryz.f262.body).getD .skip
def yhT:Env:=zki TT [] []
theorem yG5:FrOk Tryz.prog ⟨yhT,23,fun _=>none⟩ yeh:=zkp yb yc trivial
def yuk:Nat→Option Seg:=fun _=>none
def yX:Shape:=⟨[(0,false,[.br tI]),(1,false,[.int .i64]),(5,false,[.int .i64]),(6,false,[.int .i64])],[],[]⟩
def ych:Shape:=⟨[(0,false,[.br tI]),(1,false,[.int .i64]),(5,false,[.ci .i64 0]),(6,false,[.ci .i64 0])],[],[]⟩
def ycg:Shape:=⟨[(5,false,[.int .i64])],[],[]⟩
def ye0:Shape:=⟨[],[],[]⟩
abbrev yji (v0:List Int) (v1 v2 v3:Int):(yX).X:=(((v0,()),(v1,()),(v2,()),(v3,()),()),(),())
abbrev yFN (v0:List Int) (v1:Int):(ych).X:=(((v0,()),(v1,()),((),()),((),()),()),(),())
abbrev yFM (v0:Int):(ycg).X:=(((v0,()),()),(),())
def yjk (v0:List Int) (v1 v2 v3:Int):Option ((yX).X ⊕ ((ycg).X ⊕ (ye0).X)) :=
 bif (ltb v3 (v0.length:Int)) then
 bif (v3 !=v1) then
 bif (inb v3 v0.length) then
 some (.inl (((v0,()),(v1,()),((IntKind.i64.wrap ((BitVec.ofInt IntKind.i64.bits v2 ^^^ BitVec.ofInt IntKind.i64.bits (nth v0 v3 0)).toNat:Int)),()),((IntKind.i64.wrap (v3+1)),()),()),(),()))
 else none
 else
 some (.inl (((v0,()),(v1,()),(v2,()),((IntKind.i64.wrap (v3+1)),()),()),(),()))
 else
 some (.inr (.inl (((v2,()),()),(),())))
def yad (x:(yX).X):=yjk x.1.1.1 x.1.2.1.1 x.1.2.2.1.1 x.1.2.2.2.1.1
def yr7 (x:(ych).X):(yX).X:=(((x.1.1.1,()),(x.1.2.1.1,()),(0,()),(0,()),()),(),())
def yt9:Code:=(zdI yeh 64 116).getD .skip
theorem yGx:zdI yeh 64 29=some (.block 0 (.loop yt9)):=by kernel_rfl
theorem yHk (x:(yX).X):zg7 ⟨yhT,23,yuk⟩ 0 yt9 116 yX ycg ye0 x=yad x:=by kernel_rfl
def yr8 (x:(ych).X):Nat:=18446744073709551616
def yko (x:(ych).X):Option ((ycg).X ⊕ (ye0).X):=zr yad (yr8 x) (yr7 x)
def ysc:Seg:=⟨ych,ycg,ye0,yko⟩
def yul:Nat→Option Seg:=fun q=>bif Nat.beq q 29 then some ysc else yuk q
theorem yG6:FrOk Tryz.prog ⟨yhT,23,yul⟩ yeh:=(yG5).loop (sg:=ysc) yX yr7 (by decide) yGx yad yr8 (by decide) (fun _=>rfl) (fun x r _ h=>h) yHk
abbrev yb9:List Par:= [.rd tL,.rd tI]
abbrev yiE:List OT:= [⟨false,tI,.fz⟩]
def yf2 (a0:List Int) (a1:Int):Option (ResD yiE×MutD yb9) :=
 zjw (yko (((a0,()),(a1,()),((),()),((),()),()),(),())) (fun y0 =>
 some ((y0.1.1.1,()),())) (fun y0 =>
 none)
theorem yKx (x:InD yb9):zjH ⟨yhT,23,yul⟩ Tryz.f262.results.toList yeh yb9 yiE x=yf2 x.1 x.2.1:=by kernel_rfl
theorem yHK:ConOk Tryz.prog 262 ⟨yb9,yiE,fun x=>yf2 x.1 x.2.1⟩:=zkh (yG6) Tryz.func262 (by kernel_rfl) (by kernel_rfl) Tryz.ntmps262.symm (by decide) (fun x r h=>(yKx x).trans h)
def yeE (a0:List Int) (a1:Int):Int:=yxd a0 a1
theorem yJf (a0:List Int) (a1:Int) (hk:zi9 yb9 (a0,a1,())):yf2 a0 a1=(fun n=>some ((n,()),())) (yeE a0 a1):=by
 have hb:a0.length * 8≤2 ^ 47:=hk.1.1
 have h1:=zks (step:=yad) a0.length (fun i s=>yji a0 a1 s i) (fun n (i:Nat)=>bif (i:Int) !=a1 then xw n (nth a0 i 0) else n) (fun _ _=>True) (fun s=> .inl (yFM s)) (fun i s hi _=>⟨by
  simp only [yad,yji,yjk,zjI (show (i:Int) < a0.length by omega),cond_true,wr (show -9223372036854775808≤(i:Int)+1 by omega) (by omega),Int.natCast_add,Int.natCast_one,Int.toNat_natCast,zkO hi]
  cases ((i:Int) !=a1)<;>rfl,trivial⟩) (fun s _=>by simp only [yad,yji,yjk,zkm (Int.le_refl _),cond_false]) 0 trivial 18446744073709551616 (by omega)
 rw [y2l]at h1
 unfold yf2 yeE
 rw [show yko (yFN a0 a1)=_ from h1]; rfl
def yvu:Con:=⟨yb9,yiE,fun x=>(fun n=>some ((n,()),())) (yeE x.1 x.2.1)⟩
theorem yJo:ConOk Tryz.prog 262 yvu:=(yHK).mono (fun x r hk h=>(yJf x.1 x.2.1 hk).trans h)
end
section
def ykn:Code:=(Tryz.f206.body).getD .skip
def yqt:Env:=zki TT [(215,yFt),(262,yvu)] []
theorem yM7:FrOk Tryz.prog ⟨yqt,45,fun _=>none⟩ ykn:=zkp yb yc ⟨yXX,yJo,trivial⟩
def yB8:Nat→Option Seg:=fun _=>none
def ybl:Shape:=⟨[(1,false,[.int .i64]),(2,false,[.ptr 0 0]),(6,false,[.at 800000000]),(7,false,[.int .i64]),(8,false,[.int .i64])],[(0,[.int .i64,.int .i64,.int .i64,.br tM,.int .i64,.int .i64,.int .i64,.int .i64,.int .i64,.br tW,.int .i64,.bool,.bool])],[(800000000,tI,.fz)]⟩
def yfF:Shape:=⟨[(1,false,[.int .i64]),(2,false,[.ptr 0 0]),(6,false,[.at 800000000]),(7,false,[.ci .i64 (-1)]),(8,false,[.ci .i64 0])],[(0,[.int .i64,.int .i64,.int .i64,.br tM,.int .i64,.int .i64,.int .i64,.int .i64,.int .i64,.br tW,.int .i64,.bool,.bool])],[(800000000,tI,.fz)]⟩
def yfx:Shape:=⟨[(6,false,[.at 800000000]),(7,false,[.int .i64])],[],[(800000000,tI,.fz)]⟩
def yfJ:Shape:=⟨[(4,false,[.at 800000000]),(5,false,[.bool])],[],[(800000000,tI,.fz)]⟩
abbrev ypW (v0 v1 v2:Int) (v3:dA) (v4:List Int):(ybl).X:=(((v0,()),((),()),((),()),(v1,()),(v2,()),()),((v3.1,v3.2.1.1,v3.2.1.2,v3.2.2.1,v3.2.2.2.1,v3.2.2.2.2.1,v3.2.2.2.2.2.1,v3.2.2.2.2.2.2.1,v3.2.2.2.2.2.2.2.1,v3.2.2.2.2.2.2.2.2.1,v3.2.2.2.2.2.2.2.2.2.1,v3.2.2.2.2.2.2.2.2.2.2.1,v3.2.2.2.2.2.2.2.2.2.2.2,()),()),(v4,()))
abbrev yLo (v0:Int) (v1:dA) (v2:List Int):(yfF).X:=(((v0,()),((),()),((),()),((),()),((),()),()),((v1.1,v1.2.1.1,v1.2.1.2,v1.2.2.1,v1.2.2.2.1,v1.2.2.2.2.1,v1.2.2.2.2.2.1,v1.2.2.2.2.2.2.1,v1.2.2.2.2.2.2.2.1,v1.2.2.2.2.2.2.2.2.1,v1.2.2.2.2.2.2.2.2.2.1,v1.2.2.2.2.2.2.2.2.2.2.1,v1.2.2.2.2.2.2.2.2.2.2.2,()),()),(v2,()))
abbrev yLg (v0:Int) (v1:List Int):(yfx).X:=((((),()),(v0,()),()),(),(v1,()))
abbrev yLr (v0:Bool) (v1:List Int):(yfJ).X:=((((),()),(v0,()),()),(),(v1,()))
def yqh (v0 v1 v2 v3 v4 v5:Int) (v6:List dM) (v7 v8 v9 v10 v11:Int) (v12:List dW) (v13:Int) (v14 v15:Bool) (v16:List Int):Option ((ybl).X ⊕ ((yfx).X ⊕ (yfJ).X)) :=
 bif (ltb v2 v4) then
 let r2:=yna (v3,(v4,v5),v6,v7,v8,v9,v10,v11,v12,v13,v14,v15) v2 v0
 bif (!r2.2) then
 bif (leb 0 v1) then
 some (.inr (.inr ((((),()),(false,()),()),(),(([]:List Int),()))))
 else
 bif (zj4 v16.length ([r2.1]:List Int).length 8) then
 some (.inl (((v0,()),((),()),((),()),(v2,()),((IntKind.i64.wrap (v2+1)),()),()),((v3,v4,v5,v6,v7,v8,v9,v10,v11,v12,v13,v14,v15,()),()),((v16++([r2.1]:List Int)),())))
 else none
 else
 bif (zj4 v16.length ([r2.1]:List Int).length 8) then
 some (.inl (((v0,()),((),()),((),()),(v1,()),((IntKind.i64.wrap (v2+1)),()),()),((v3,v4,v5,v6,v7,v8,v9,v10,v11,v12,v13,v14,v15,()),()),((v16++([r2.1]:List Int)),())))
 else none
 else
 some (.inr (.inl ((((),()),(v1,()),()),(),(v16,()))))
def ybH (x:(ybl).X):=yqh x.1.1.1 x.1.2.2.2.1.1 x.1.2.2.2.2.1.1 x.2.1.1.1 x.2.1.1.2.1 x.2.1.1.2.2.1 x.2.1.1.2.2.2.1 x.2.1.1.2.2.2.2.1 x.2.1.1.2.2.2.2.2.1 x.2.1.1.2.2.2.2.2.2.1 x.2.1.1.2.2.2.2.2.2.2.1 x.2.1.1.2.2.2.2.2.2.2.2.1 x.2.1.1.2.2.2.2.2.2.2.2.2.1 x.2.1.1.2.2.2.2.2.2.2.2.2.2.1 x.2.1.1.2.2.2.2.2.2.2.2.2.2.2.1 x.2.1.1.2.2.2.2.2.2.2.2.2.2.2.2.1 x.2.2.1
def yyG (x:(yfF).X):(ybl).X:=(((x.1.1.1,()),((),()),((),()),((-1),()),(0,()),()),((x.2.1.1.1,x.2.1.1.2.1,x.2.1.1.2.2.1,x.2.1.1.2.2.2.1,x.2.1.1.2.2.2.2.1,x.2.1.1.2.2.2.2.2.1,x.2.1.1.2.2.2.2.2.2.1,x.2.1.1.2.2.2.2.2.2.2.1,x.2.1.1.2.2.2.2.2.2.2.2.1,x.2.1.1.2.2.2.2.2.2.2.2.2.1,x.2.1.1.2.2.2.2.2.2.2.2.2.2.1,x.2.1.1.2.2.2.2.2.2.2.2.2.2.2.1,x.2.1.1.2.2.2.2.2.2.2.2.2.2.2.2.1,()),()),(x.2.2.1,()))
def yAq:Code:=(zdI ykn 64 244).getD .skip
theorem yMu:zdI ykn 64 61=some (.block 0 (.loop yAq)):=by kernel_rfl
theorem yOa (x:(ybl).X):zg7 ⟨yqt,45,yB8⟩ 0 yAq 244 ybl yfx yfJ x=ybH x:=by kernel_rfl
def yyW (x:(yfF).X):Nat:=18446744073709551616
def yrv (x:(yfF).X):Option ((yfx).X ⊕ (yfJ).X):=zr ybH (yyW x) (yyG x)
def yzl:Seg:=⟨yfF,yfx,yfJ,yrv⟩
def yB9:Nat→Option Seg:=fun q=>bif Nat.beq q 61 then some yzl else yB8 q
theorem yM8:FrOk Tryz.prog ⟨yqt,45,yB9⟩ ykn:=(yM7).loop (sg:=yzl) ybl yyG (by decide) yMu ybH yyW (by decide) (fun _=>rfl) (fun x r _ h=>h) yOa
abbrev ydU:List Par:= [.rd tA,.rd tI]
abbrev ykO:List OT:= [⟨false,tL,(.ow .fz)⟩,⟨false,tB,.fz⟩]
def ymi (a0:dA) (a1:Int):Option (ResD ykO×MutD ydU) :=
 zjw (yrv (((a1,()),((),()),((),()),((),()),((),()),()),((a0.1,a0.2.1.1,a0.2.1.2,a0.2.2.1,a0.2.2.2.1,a0.2.2.2.2.1,a0.2.2.2.2.2.1,a0.2.2.2.2.2.2.1,a0.2.2.2.2.2.2.2.1,a0.2.2.2.2.2.2.2.2.1,a0.2.2.2.2.2.2.2.2.2.1,a0.2.2.2.2.2.2.2.2.2.2.1,a0.2.2.2.2.2.2.2.2.2.2.2,()),()),(([]:List Int),()))) (fun y2 =>
 bif (leb 0 y2.1.2.1.1) then
 let r4:=yeE y2.2.2.1 y2.1.2.1.1
 bif (inb y2.1.2.1.1 y2.2.2.1.length) then
 some (((y2.2.2.1.set (y2.1.2.1.1).toNat r4),true,()),())
 else none
 else
 some ((y2.2.2.1,true,()),())) (fun y2 =>
 some ((y2.2.2.1,y2.1.2.1.1,()),()))
theorem yWb (x:InD ydU):zjH ⟨yqt,45,yB9⟩ Tryz.f206.results.toList ykn ydU ykO x=ymi x.1 x.2.1:=by kernel_rfl
theorem yQ2:ConOk Tryz.prog 206 ⟨ydU,ykO,fun x=>ymi x.1 x.2.1⟩:=zkh (yM8) Tryz.func206 (by kernel_rfl) (by kernel_rfl) Tryz.ntmps206.symm (by decide) (fun x r h=>(yWb x).trans h)
def yk7 (a0:dA) (a1:Int):List Int×Bool:=yhg a0 a1
def yxj (a0:dA) (a1:Int):Bool:=yf a0.2.1
theorem yTZ (a0:dA) (a1:Int) (hk:zi9 ydU (a0,a1,())) (hq:yxj a0 a1=true):ymi a0 a1=(fun n=>some ((n.1,n.2,()),())) (yk7 a0 a1):=by
 have hg:=ym.1 hq
 have h1:yrv (yLo a1 a0 [])=some (bif y0j (fun (i:Nat)=>yD a0 i a1) a0.2.1.1.toNat then .inr (yLr false []) else .inl (yLg (yU (fun (i:Nat)=>yD a0 i a1) a0.2.1.1.toNat) (yaV a0 a1 a0.2.1.1.toNat))) :=
  zf4 (step:=ybH) (fun i=>ypW a1 (yU (fun (i:Nat)=>yD a0 i a1) i) i a0 (yaV a0 a1 i)) a0.2.1.1.toNat (fun i=> !yD a0 i a1&&leb 0 (yU (fun (i:Nat)=>yD a0 i a1) i)) _ _ (fun i hi=>by
   simp only [ybH,ypW,yqh,zjI (show (i:Int) < a0.2.1.1 by omega),cond_true,wr (show -9223372036854775808≤(i:Int)+1 by omega) (by omega),Int.natCast_add,Int.natCast_one,Int.toNat_natCast,zkV,yna,yU]
   rw [zkw.2 (show ((yaV a0 a1 i).length+ [yL1 a0 i a1].length) * 8≤140737488355328 by simp only [List.length_cons,List.length_nil,ywf]; omega),y0h]
   cases yD a0 i a1<;>cases leb 0 (yU (fun (i:Nat)=>yD a0 i a1) i)<;>rfl) (by simp only [ybH,ypW,yqh,zkm (show a0.2.1.1≤(a0.2.1.1.toNat:Int) by omega),cond_false]) _ (by show _ < 18446744073709551616; omega)
 unfold ymi yk7 yhg
 rw [h1]
 cases y0j (fun (i:Nat)=>yD a0 i a1) a0.2.1.1.toNat
 ·simp only [cond_false,zkJ,yeE]
  cases hm:leb 0 (yU (fun (i:Nat)=>yD a0 i a1) a0.2.1.1.toNat)
  ·rfl
  ·obtain ⟨h2,h3⟩:=y2m a0 a1 a0.2.1.1.toNat hm
   rw [h2,h3]; rfl
 ·rfl
def yqX (a0:dA) (a1:Int):Option (ResD ykO×MutD ydU):=bif yxj a0 a1 then (fun n=>some ((n.1,n.2,()),())) (yk7 a0 a1) else none
theorem yU2 (a0:dA) (a1:Int) (h:yxj a0 a1=true):yqX a0 a1=(fun n=>some ((n.1,n.2,()),())) (yk7 a0 a1):=by unfold yqX; rw [h]; rfl
def yCK:Con:=⟨ydU,ykO,fun x=>yqX x.1 x.2.1⟩
theorem yUW:ConOk Tryz.prog 206 yCK:=(yQ2).mono (fun x r hk h=>zkW h (fun hq=>yTZ x.1 x.2.1 hk hq))
end
section
def yEa:Code:=(Tryz.f288.body).getD .skip
def yEO:Env:=zki TT [(134,ykS),(135,yl)] []
theorem yK5:FrOk Tryz.prog ⟨yEO,14,fun _=>none⟩ yEa:=zkp yb yc ⟨ys9,yp,trivial⟩
def yMe:Nat→Option Seg:=fun _=>none
abbrev yhW:List Par:= [.rd tG,.rd tI]
abbrev yom:List OT:= [⟨false,tB,.fz⟩]
def yrL (a0:dG) (a1:Int):Option (ResD yom×MutD yhW) :=
 let r1:=yf a0
 bif r1 then
 let r2:=ya a1 0 (IntKind.i64.wrap (a0.2 - 1))
 some ((r2,()),())
 else
 some ((false,()),())
theorem ySI (x:InD yhW):zjH ⟨yEO,14,yMe⟩ Tryz.f288.results.toList yEa yhW yom x=yrL x.1 x.2.1:=by kernel_rfl
theorem yNN:ConOk Tryz.prog 288 ⟨yhW,yom,fun x=>yrL x.1 x.2.1⟩:=zkh (yK5) Tryz.func288 (by kernel_rfl) (by kernel_rfl) Tryz.ntmps288.symm (by decide) (fun x r h=>(ySI x).trans h)
def ye4 (a0:dG) (a1:Int):Bool :=
 let r1:=yf a0
 bif r1 then
 let r2:=ya a1 0 (IntKind.i64.wrap (a0.2 - 1))
 r2
 else
 false
def yry:Con:=⟨yhW,yom,fun x=>(fun n=>some ((n,()),())) (ye4 x.1 x.2.1)⟩
theorem yQG (a0:dG) (a1:Int):yrL a0 a1=(fun n=>some ((n,()),())) (ye4 a0 a1):=zkS (p:=fun (n:Bool)=>((n,()),())) (zkx (p:=fun (n:Bool)=>((n,()),())) rfl rfl)
theorem yDC:ConOk Tryz.prog 288 yry:=(yNN).mono (fun x r _ h=>(yQG x.1 x.2.1).trans h)
theorem yOp (g:dG) (s:Int):ye4 g s=yL g s:=by
 unfold ye4 yL
 cases hg:yf g
 ·rfl
 have:=ym.1 hg
 rw [ye1,wr (by omega) (by omega)]; rfl
end
section
def yD6:Code:=(Tryz.f272.body).getD .skip
def yEK:Env:=zki TT [(288,yry)] []
theorem yK1:FrOk Tryz.prog ⟨yEK,17,fun _=>none⟩ yD6:=zkp yb yc ⟨yDC,trivial⟩
def yMa:Nat→Option Seg:=fun _=>none
abbrev yeU:List Par:= [.rd tG,.rd tI]
abbrev yoi:List OT:= [⟨false,tI,.fz⟩]
def yj7 (a0:dG) (a1:Int):Option (ResD yoi×MutD yeU) :=
 let r1:=ye4 a0 a1
 bif (!r1) then
 some (((-1),()),())
 else
 bif (a0.1 !=0) then
 some (((IntKind.i64.wrap ((IntKind.i64.wrap (a0.1 - 1)) - (a1.tmod a0.1))),()),())
 else none
theorem ySE (x:InD yeU):zjH ⟨yEK,17,yMa⟩ Tryz.f272.results.toList yD6 yeU yoi x=yj7 x.1 x.2.1:=by kernel_rfl
theorem yNJ:ConOk Tryz.prog 272 ⟨yeU,yoi,fun x=>yj7 x.1 x.2.1⟩:=zkh (yK1) Tryz.func272 (by kernel_rfl) (by kernel_rfl) Tryz.ntmps272.symm (by decide) (fun x r h=>(ySE x).trans h)
def yc3 (a0:dG) (a1:Int):Int:=yg a0 a1
theorem yQC (a0:dG) (a1:Int) (hk:zi9 yeU (a0,a1,())):yj7 a0 a1=(fun n=>some ((n,()),())) (yc3 a0 a1):=by
 unfold yj7 yc3
 rw [yOp]
 cases hs:yL a0 a1
 ·unfold yg; rw [hs]; rfl
 ·have h1:=ydE.1 hs
  have h2:=ym.1 h1.1
  have h3:=yp1 hs
  have h4:yg a0 a1=a0.1 - 1 - a1.tmod a0.1:=by unfold yg; rw [hs]; rfl
  rw [show (a0.1 !=0)=true from bne_iff_ne.2 (by omega),wr (show -9223372036854775808≤a0.1 - 1 by omega) (by omega),wr (show -9223372036854775808≤a0.1 - 1 - a1.tmod a0.1 by omega) (by omega),h4]; rfl
def yrx:Con:=⟨yeU,yoi,fun x=>(fun n=>some ((n,()),())) (yc3 x.1 x.2.1)⟩
theorem yDB:ConOk Tryz.prog 272 yrx:=(yNJ).mono (fun x r hk h=>(yQC x.1 x.2.1 hk).trans h)
end
end
end Go.Tf
