/- Functions of the program, and what they come to. -/
import Derived.Test.YtgmadfpnljibhaaGreatExactFlushStripeF2
namespace Go.Tf
noncomputable section
open Go.Proofs
set_option synthInstance.maxHeartbeats 400000
set_option synthInstance.maxSize 10000
set_option linter.unusedVariables false
set_option linter.unusedSimpArgs false
set_option maxRecDepth 100000
section
def ykd:Code:=(Tryz.f132.body).getD .skip
def yqj:Env:=zki TT [(116,yci),(144,yvn)] []
theorem yMG:FrOk Tryz.prog ⟨yqj,44,fun _=>none⟩ ykd:=zkp yb yc ⟨yfR,yHc,trivial⟩
def yBO:Nat→Option Seg:=fun _=>none
def ybh:Shape:=⟨[(1,false,[.ptr 0 0]),(6,false,[.br tW]),(7,false,[.int .i64]),(8,false,[.int .i64])],[(0,[.int .i64,.int .i64,.int .i64,.br tM,.int .i64,.int .i64,.int .i64,.int .i64,.int .i64,.br tW,.int .i64,.bool,.bool])],[]⟩
def yfB:Shape:=⟨[(1,false,[.ptr 0 0]),(6,false,[.br tW]),(7,false,[.int .i64]),(8,false,[.ci .i64 0])],[(0,[.int .i64,.int .i64,.int .i64,.br tM,.int .i64,.int .i64,.int .i64,.int .i64,.int .i64,.br tW,.int .i64,.bool,.bool])],[]⟩
def yft:Shape:=⟨[],[],[]⟩
def yfH:Shape:=⟨[(2,false,[.bool])],[],[]⟩
abbrev ypS (v0:List dW) (v1 v2:Int) (v3:dA):(ybh).X:=((((),()),(v0,()),(v1,()),(v2,()),()),((v3.1,v3.2.1.1,v3.2.1.2,v3.2.2.1,v3.2.2.2.1,v3.2.2.2.2.1,v3.2.2.2.2.2.1,v3.2.2.2.2.2.2.1,v3.2.2.2.2.2.2.2.1,v3.2.2.2.2.2.2.2.2.1,v3.2.2.2.2.2.2.2.2.2.1,v3.2.2.2.2.2.2.2.2.2.2.1,v3.2.2.2.2.2.2.2.2.2.2.2,()),()),())
abbrev yLk (v0:List dW) (v1:Int) (v2:dA):(yfB).X:=((((),()),(v0,()),(v1,()),((),()),()),((v2.1,v2.2.1.1,v2.2.1.2,v2.2.2.1,v2.2.2.2.1,v2.2.2.2.2.1,v2.2.2.2.2.2.1,v2.2.2.2.2.2.2.1,v2.2.2.2.2.2.2.2.1,v2.2.2.2.2.2.2.2.2.1,v2.2.2.2.2.2.2.2.2.2.1,v2.2.2.2.2.2.2.2.2.2.2.1,v2.2.2.2.2.2.2.2.2.2.2.2,()),()),())
abbrev yLd  :(yft).X:=((),(),())
abbrev yLp (v0:Bool):(yfH).X:=(((v0,()),()),(),())
def yp6 (v0:List dW) (v1 v2 v3 v4 v5:Int) (v6:List dM) (v7 v8 v9 v10 v11:Int) (v12:List dW) (v13:Int) (v14 v15:Bool):Option ((ybh).X ⊕ ((yft).X ⊕ (yfH).X)) :=
 bif (ltb v2 v1) then
 bif (inb v2 v0.length) then
 let r4:=yR (v4,v5) ((nth v0 v2 (0,[])).1)
 bif (!(!r4)) then
 bif (ltb 0 v2) then
 bif (inb (IntKind.i64.wrap (v2 - 1)) v12.length) then
 bif (!(leb ((nth v0 v2 (0,[])).1) ((nth v12 (IntKind.i64.wrap (v2 - 1)) (0,[])).1))) then
 let r5:=ydz (v4,v5) ((nth v0 v2 (0,[])).2)
 bif (!r5) then
 some (.inr (.inr (((false,()),()),(),())))
 else
 some (.inl ((((),()),(v0,()),(v1,()),((IntKind.i64.wrap (v2+1)),()),()),((v3,v4,v5,v6,v7,v8,v9,v10,v11,v12,v13,v14,v15,()),()),()))
 else
 some (.inr (.inr (((false,()),()),(),())))
 else none
 else
 let r6:=ydz (v4,v5) ((nth v0 v2 (0,[])).2)
 bif (!r6) then
 some (.inr (.inr (((false,()),()),(),())))
 else
 some (.inl ((((),()),(v0,()),(v1,()),((IntKind.i64.wrap (v2+1)),()),()),((v3,v4,v5,v6,v7,v8,v9,v10,v11,v12,v13,v14,v15,()),()),()))
 else
 some (.inr (.inr (((false,()),()),(),())))
 else none
 else
 some (.inr (.inl ((),(),())))
def ybw (x:(ybh).X):=yp6 x.1.2.1.1 x.1.2.2.1.1 x.1.2.2.2.1.1 x.2.1.1.1 x.2.1.1.2.1 x.2.1.1.2.2.1 x.2.1.1.2.2.2.1 x.2.1.1.2.2.2.2.1 x.2.1.1.2.2.2.2.2.1 x.2.1.1.2.2.2.2.2.2.1 x.2.1.1.2.2.2.2.2.2.2.1 x.2.1.1.2.2.2.2.2.2.2.2.1 x.2.1.1.2.2.2.2.2.2.2.2.2.1 x.2.1.1.2.2.2.2.2.2.2.2.2.2.1 x.2.1.1.2.2.2.2.2.2.2.2.2.2.2.1 x.2.1.1.2.2.2.2.2.2.2.2.2.2.2.2.1
def yyv (x:(yfB).X):(ybh).X:=((((),()),(x.1.2.1.1,()),(x.1.2.2.1.1,()),(0,()),()),((x.2.1.1.1,x.2.1.1.2.1,x.2.1.1.2.2.1,x.2.1.1.2.2.2.1,x.2.1.1.2.2.2.2.1,x.2.1.1.2.2.2.2.2.1,x.2.1.1.2.2.2.2.2.2.1,x.2.1.1.2.2.2.2.2.2.2.1,x.2.1.1.2.2.2.2.2.2.2.2.1,x.2.1.1.2.2.2.2.2.2.2.2.2.1,x.2.1.1.2.2.2.2.2.2.2.2.2.2.1,x.2.1.1.2.2.2.2.2.2.2.2.2.2.2.1,x.2.1.1.2.2.2.2.2.2.2.2.2.2.2.2.1,()),()),())
def yAf:Code:=(zdI ykd 64 52).getD .skip
theorem yMj:zdI ykd 64 13=some (.block 0 (.loop yAf)):=by kernel_rfl
theorem yNZ (x:(ybh).X):zg7 ⟨yqj,44,yBO⟩ 0 yAf 52 ybh yft yfH x=ybw x:=by kernel_rfl
def yyL (x:(yfB).X):Nat:=18446744073709551616
def yrk (x:(yfB).X):Option ((yft).X ⊕ (yfH).X):=zr ybw (yyL x) (yyv x)
def yza:Seg:=⟨yfB,yft,yfH,yrk⟩
def yBP:Nat→Option Seg:=fun q=>bif Nat.beq q 13 then some yza else yBO q
theorem yMH:FrOk Tryz.prog ⟨yqj,44,yBP⟩ ykd:=(yMG).loop (sg:=yza) ybh yyv (by decide) yMj ybw yyL (by decide) (fun _=>rfl) (fun x r _ h=>h) yNZ
abbrev ydP:List Par:= [.rd tA]
abbrev ykM:List OT:= [⟨false,tB,.fz⟩]
def yl7 (a0:dA):Option (ResD ykM×MutD ydP) :=
 zjw (yrk ((((),()),(a0.2.2.2.2.2.2.2.2.1,()),((a0.2.2.2.2.2.2.2.2.1.length:Int),()),((),()),()),((a0.1,a0.2.1.1,a0.2.1.2,a0.2.2.1,a0.2.2.2.1,a0.2.2.2.2.1,a0.2.2.2.2.2.1,a0.2.2.2.2.2.2.1,a0.2.2.2.2.2.2.2.1,a0.2.2.2.2.2.2.2.2.1,a0.2.2.2.2.2.2.2.2.2.1,a0.2.2.2.2.2.2.2.2.2.2.1,a0.2.2.2.2.2.2.2.2.2.2.2,()),()),())) (fun y6 =>
 some ((true,()),())) (fun y6 =>
 some ((y6.1.1.1,()),()))
theorem yVU (x:InD ydP):zjH ⟨yqj,44,yBP⟩ Tryz.f132.results.toList ykd ydP ykM x=yl7 x.1:=by kernel_rfl
theorem yQL:ConOk Tryz.prog 132 ⟨ydP,ykM,fun x=>yl7 x.1⟩:=zkh (yMH) Tryz.func132 (by kernel_rfl) (by kernel_rfl) Tryz.ntmps132.symm (by decide) (fun x r h=>(yVU x).trans h)
def yk1 (a0:dA):Bool:=yaE a0.2.1 a0.2.2.2.2.2.2.2.2.1
def yxh (a0:dA):Bool:=yf a0.2.1
theorem yvE (l:List Int):yM l=l.all isW:=by
 unfold yM
 rw [show yV=isW from funext fun x=>by unfold yV; rw [yaB,ye1]; rfl]
theorem yTI (a0:dA) (hk:zi9 ydP (a0,())) (hq:yxh a0=true):yl7 a0=(fun n=>some ((n,()),())) (yk1 a0):=by
 have hb:a0.2.2.2.2.2.2.2.2.1.length * 32≤2 ^ 47:=hk.1.2.2.2.2.2.2.2.2.1.1
 have hg:=ym.1 hq
 have hq':yf a0.2.1=true:=hq
 have h1:yrk (yLk a0.2.2.2.2.2.2.2.2.1 a0.2.2.2.2.2.2.2.2.1.length a0)=some (bif (List.range a0.2.2.2.2.2.2.2.2.1.length).any (yhC a0.2.1 a0.2.2.2.2.2.2.2.2.1) then .inr (yLp false) else .inl yLd) :=
  zf4 (step:=ybw) (fun i=>ypS a0.2.2.2.2.2.2.2.2.1 a0.2.2.2.2.2.2.2.2.1.length i a0) a0.2.2.2.2.2.2.2.2.1.length (yhC a0.2.1 a0.2.2.2.2.2.2.2.2.1) _ _ (fun i hi=>by
   simp only [ybw,ypS,yp6,zjI (show (i:Int) < a0.2.2.2.2.2.2.2.2.1.length by omega),cond_true,wr (show -9223372036854775808≤(i:Int)+1 by omega) (by omega),Int.natCast_add,Int.natCast_one,Int.toNat_natCast,zkO hi,zkV,yR,ydz,yTx,hq',yaB,ye1,yvE,wr (show -9223372036854775808≤a0.2.1.2 - 1 by omega) (by omega),wr (show -9223372036854775808≤a0.2.1.1 - 1 by omega) (by omega),yhC,bne]
   rcases Nat.eq_zero_or_pos i with rfl | h0
   ·cases (leb 0 (nth a0.2.2.2.2.2.2.2.2.1 ((0:Nat):Int) (0,[])).1&&leb (nth a0.2.2.2.2.2.2.2.2.1 ((0:Nat):Int) (0,[])).1 (a0.2.1.2 - 1))<;>cases (((nth a0.2.2.2.2.2.2.2.2.1 ((0:Nat):Int) (0,[])).2.length:Int)==a0.2.1.1 - 1)<;>cases ((nth a0.2.2.2.2.2.2.2.2.1 ((0:Nat):Int) (0,[])).2.all isW)<;>rfl
   ·rw [show IntKind.i64.wrap ((i:Int) - 1)=((i - 1:Nat):Int) by rw [wr (by omega) (by omega)]; omega,zkO (show i - 1 < a0.2.2.2.2.2.2.2.2.1.length by omega),zjI (show (0:Int) < i by omega),decide_eq_true h0]
    cases (leb 0 (nth a0.2.2.2.2.2.2.2.2.1 (i:Int) (0,[])).1&&leb (nth a0.2.2.2.2.2.2.2.2.1 (i:Int) (0,[])).1 (a0.2.1.2 - 1))<;>cases (((nth a0.2.2.2.2.2.2.2.2.1 (i:Int) (0,[])).2.length:Int)==a0.2.1.1 - 1)<;>cases ((nth a0.2.2.2.2.2.2.2.2.1 (i:Int) (0,[])).2.all isW)<;>cases leb (nth a0.2.2.2.2.2.2.2.2.1 (i:Int) (0,[])).1 (nth a0.2.2.2.2.2.2.2.2.1 ((i - 1:Nat):Int) (0,[])).1<;>rfl) (by simp only [ybw,ypS,yp6,zkm (Int.le_refl _),cond_false]) _ (by show _ < 18446744073709551616; omega)
 unfold yl7 yk1 yaE
 rw [h1]
 cases (List.range a0.2.2.2.2.2.2.2.2.1.length).any (yhC a0.2.1 a0.2.2.2.2.2.2.2.2.1)<;>rfl
def yqV (a0:dA):Option (ResD ykM×MutD ydP):=bif yxh a0 then (fun n=>some ((n,()),())) (yk1 a0) else none
theorem yU0 (a0:dA) (h:yxh a0=true):yqV a0=(fun n=>some ((n,()),())) (yk1 a0):=by unfold yqV; rw [h]; rfl
def yCv:Con:=⟨ydP,ykM,fun x=>yqV x.1⟩
theorem yUH:ConOk Tryz.prog 132 yCv:=(yQL).mono (fun x r hk h=>zkW h (fun hq=>yTI x.1 hk hq))
end
section
def yH0:Code:=(Tryz.f220.body).getD .skip
def yIp:Env:=zki TT [(126,yv)] []
theorem yO8:FrOk Tryz.prog ⟨yIp,11,fun _=>none⟩ yH0:=zkp yb yc ⟨yP,trivial⟩
def yRP:Nat→Option Seg:=fun _=>none
abbrev ymH:List Par:= [.rd tM,.rd tI]
abbrev ysz:List OT:= [⟨false,tB,.fz⟩]
def yvZ (a0:dM) (a1:Int):Option (ResD ysz×MutD ymH) :=
 let r1:=ye a1 0 (IntKind.i64.wrap ((a0.1.length:Int) - 1))
 some ((r1,()),())
theorem yYF (x:InD ymH):zjH ⟨yIp,11,yRP⟩ Tryz.f220.results.toList yH0 ymH ysz x=yvZ x.1 x.2.1:=by kernel_rfl
theorem yUb:ConOk Tryz.prog 220 ⟨ymH,ysz,fun x=>yvZ x.1 x.2.1⟩:=zkh (yO8) Tryz.func220 (by kernel_rfl) (by kernel_rfl) Tryz.ntmps220.symm (by decide) (fun x r h=>(yYF x).trans h)
def ydA (a0:dM) (a1:Int):Bool :=
 let r1:=ye a1 0 (IntKind.i64.wrap ((a0.1.length:Int) - 1))
 r1
def yvo:Con:=⟨ymH,ysz,fun x=>(fun n=>some ((n,()),())) (ydA x.1 x.2.1)⟩
theorem yWz (a0:dM) (a1:Int):yvZ a0 a1=(fun n=>some ((n,()),())) (ydA a0 a1):=zkS (p:=fun (n:Bool)=>((n,()),())) rfl
theorem yHd:ConOk Tryz.prog 220 yvo:=(yUb).mono (fun x r _ h=>(yWz x.1 x.2.1).trans h)
end
section
def yJv:Code:=(Tryz.f221.body).getD .skip
def yJU:Env:=zki TT [(228,ylW)] []
theorem yST:FrOk Tryz.prog ⟨yJU,10,fun _=>none⟩ yJv:=zkp yb yc ⟨yvQ,trivial⟩
def yVs:Nat→Option Seg:=fun _=>none
abbrev ypt:List Par:= [.rd tL]
abbrev yuR:List OT:= [⟨false,tB,.fz⟩]
def yxn (a0:List Int):Option (ResD yuR×MutD ypt) :=
 bif (leb (a0.length:Int) 12) then
 let r1:=yM a0
 some ((r1,()),())
 else
 some ((false,()),())
theorem y0t (x:InD ypt):zjH ⟨yJU,10,yVs⟩ Tryz.f221.results.toList yJv ypt yuR x=yxn x.1:=by kernel_rfl
theorem yW9:ConOk Tryz.prog 221 ⟨ypt,yuR,fun x=>yxn x.1⟩:=zkh (yST) Tryz.func221 (by kernel_rfl) (by kernel_rfl) Tryz.ntmps221.symm (by decide) (fun x r h=>(y0t x).trans h)
def ygN (a0:List Int):Bool :=
 bif (leb (a0.length:Int) 12) then
 let r1:=yM a0
 r1
 else
 false
def yw6:Con:=⟨ypt,yuR,fun x=>(fun n=>some ((n,()),())) (ygN x.1)⟩
theorem yZh (a0:List Int):yxn a0=(fun n=>some ((n,()),())) (ygN a0):=zkS (p:=fun (n:Bool)=>((n,()),())) (zkx (p:=fun (n:Bool)=>((n,()),())) rfl rfl)
theorem yIJ:ConOk Tryz.prog 221 yw6:=(yW9).mono (fun x r _ h=>(yZh x.1).trans h)
theorem yFL:ygN=ybp:=funext fun s=>by
 unfold ygN ybp yM
 rw [show yV=isW from funext fun x=>by unfold yV; rw [yaB,ye1]; rfl]
 cases leb (s.length:Int) 12<;>rfl
end
section
def yaL:Code:=(Tryz.f133.body).getD .skip
def yei:Env:=zki TT [(126,yv),(220,yvo),(221,yw6)] []
theorem ySO:FrOk Tryz.prog ⟨yei,76,fun _=>none⟩ yaL:=zkp yb yc ⟨yP,yHd,yIJ,trivial⟩
def yF2:Nat→Option Seg:=fun _=>none
def ycH:Shape:=⟨[(1,false,[.ptr 0 0]),(10,false,[.br tL]),(11,false,[.int .i64]),(12,false,[.int .i64])],[(0,[.br tL,.br tW,.bool,.br tI])],[]⟩
def yih:Shape:=⟨[(1,false,[.ptr 0 0]),(10,false,[.br tL]),(11,false,[.int .i64]),(12,false,[.ci .i64 0])],[(0,[.br tL,.br tW,.bool,.br tI])],[]⟩
def yhY:Shape:=⟨[(1,false,[.ptr 0 0])],[(0,[.br tL,.br tW,.bool,.br tI])],[]⟩
def yiI:Shape:=⟨[(2,false,[.bool])],[],[]⟩
abbrev ytw (v0:List (List Int)) (v1 v2:Int) (v3:dM):(ycH).X:=((((),()),(v0,()),(v1,()),(v2,()),()),((v3.1,v3.2.1,v3.2.2.1,v3.2.2.2,()),()),())
abbrev yP4 (v0:List (List Int)) (v1:Int) (v2:dM):(yih).X:=((((),()),(v0,()),(v1,()),((),()),()),((v2.1,v2.2.1,v2.2.2.1,v2.2.2.2,()),()),())
abbrev yPW (v0:dM):(yhY).X:=((((),()),()),((v0.1,v0.2.1,v0.2.2.1,v0.2.2.2,()),()),())
abbrev yQh (v0:Bool):(yiI).X:=(((v0,()),()),(),())
def ytT (v0:List (List Int)) (v1 v2:Int) (v3:List (List Int)) (v4:List dW) (v5:Bool) (v6:List Int):Option ((ycH).X ⊕ ((yhY).X ⊕ (yiI).X)) :=
 bif (ltb v2 v1) then
 bif (inb v2 v0.length) then
 let r2:=ygN (nth v0 v2 [])
 bif (!r2) then
 some (.inr (.inr (((false,()),()),(),())))
 else
 some (.inl ((((),()),(v0,()),(v1,()),((IntKind.i64.wrap (v2+1)),()),()),((v3,v4,v5,v6,()),()),()))
 else none
 else
 some (.inr (.inl ((((),()),()),((v3,v4,v5,v6,()),()),())))
def ydi (x:(ycH).X):=ytT x.1.2.1.1 x.1.2.2.1.1 x.1.2.2.2.1.1 x.2.1.1.1 x.2.1.1.2.1 x.2.1.1.2.2.1 x.2.1.1.2.2.2.1
def yCP (x:(yih).X):(ycH).X:=((((),()),(x.1.2.1.1,()),(x.1.2.2.1.1,()),(0,()),()),((x.2.1.1.1,x.2.1.1.2.1,x.2.1.1.2.2.1,x.2.1.1.2.2.2.1,()),()),())
def yET:Code:=(zdI yaL 64 52).getD .skip
theorem yR5:zdI yaL 64 13=some (.block 0 (.loop yET)):=by kernel_rfl
theorem yU6 (x:(ycH).X):zg7 ⟨yei,76,yF2⟩ 0 yET 52 ycH yhY yiI x=ydi x:=by kernel_rfl
def yC7 (x:(yih).X):Nat:=18446744073709551616
def yuy (x:(yih).X):Option ((yhY).X ⊕ (yiI).X):=zr ydi (yC7 x) (yCP x)
def yDG:Seg:=⟨yih,yhY,yiI,yuy⟩
def ywZ:Nat→Option Seg:=fun q=>bif Nat.beq q 13 then some yDG else yF2 q
theorem ySP:FrOk Tryz.prog ⟨yei,76,ywZ⟩ yaL:=(ySO).loop (sg:=yDG) ycH yCP (by decide) yR5 ydi yC7 (by decide) (fun _=>rfl) (fun x r _ h=>h) yU6
def ycI:Shape:=⟨[(1,false,[.ptr 0 0]),(21,false,[.br tW]),(22,false,[.int .i64]),(23,false,[.int .i64])],[(0,[.br tL,.br tW,.bool,.br tI])],[]⟩
def yii:Shape:=⟨[(1,false,[.ptr 0 0]),(21,false,[.br tW]),(22,false,[.int .i64]),(23,false,[.ci .i64 0])],[(0,[.br tL,.br tW,.bool,.br tI])],[]⟩
def yhZ:Shape:=⟨[(1,false,[.ptr 0 0])],[(0,[.br tL,.br tW,.bool,.br tI])],[]⟩
def yiJ:Shape:=⟨[(2,false,[.bool])],[],[]⟩
abbrev ytx (v0:List dW) (v1 v2:Int) (v3:dM):(ycI).X:=((((),()),(v0,()),(v1,()),(v2,()),()),((v3.1,v3.2.1,v3.2.2.1,v3.2.2.2,()),()),())
abbrev yP5 (v0:List dW) (v1:Int) (v2:dM):(yii).X:=((((),()),(v0,()),(v1,()),((),()),()),((v2.1,v2.2.1,v2.2.2.1,v2.2.2.2,()),()),())
abbrev yPX (v0:dM):(yhZ).X:=((((),()),()),((v0.1,v0.2.1,v0.2.2.1,v0.2.2.2,()),()),())
abbrev yQi (v0:Bool):(yiJ).X:=(((v0,()),()),(),())
def ytU (v0:List dW) (v1 v2:Int) (v3:List (List Int)) (v4:List dW) (v5:Bool) (v6:List Int):Option ((ycI).X ⊕ ((yhZ).X ⊕ (yiJ).X)) :=
 bif (ltb v2 v1) then
 bif (inb v2 v0.length) then
 let r6:=ydA (v3,v4,v5,v6) ((nth v0 v2 (0,[])).1)
 bif (!(!r6)) then
 let r7:=ygN ((nth v0 v2 (0,[])).2)
 bif (!r7) then
 some (.inr (.inr (((false,()),()),(),())))
 else
 some (.inl ((((),()),(v0,()),(v1,()),((IntKind.i64.wrap (v2+1)),()),()),((v3,v4,v5,v6,()),()),()))
 else
 some (.inr (.inr (((false,()),()),(),())))
 else none
 else
 some (.inr (.inl ((((),()),()),((v3,v4,v5,v6,()),()),())))
def ydj (x:(ycI).X):=ytU x.1.2.1.1 x.1.2.2.1.1 x.1.2.2.2.1.1 x.2.1.1.1 x.2.1.1.2.1 x.2.1.1.2.2.1 x.2.1.1.2.2.2.1
def yCQ (x:(yii).X):(ycI).X:=((((),()),(x.1.2.1.1,()),(x.1.2.2.1.1,()),(0,()),()),((x.2.1.1.1,x.2.1.1.2.1,x.2.1.1.2.2.1,x.2.1.1.2.2.2.1,()),()),())
def yEU:Code:=(zdI yaL 64 116).getD .skip
theorem yR6:zdI yaL 64 29=some (.block 2 (.loop yEU)):=by kernel_rfl
theorem yU7 (x:(ycI).X):zg7 ⟨yei,76,ywZ⟩ 2 yEU 116 ycI yhZ yiJ x=ydj x:=by kernel_rfl
def yC8 (x:(yii).X):Nat:=18446744073709551616
def yuz (x:(yii).X):Option ((yhZ).X ⊕ (yiJ).X):=zr ydj (yC8 x) (yCQ x)
def yDH:Seg:=⟨yii,yhZ,yiJ,yuz⟩
def yw0:Nat→Option Seg:=fun q=>bif Nat.beq q 29 then some yDH else ywZ q
theorem ySQ:FrOk Tryz.prog ⟨yei,76,yw0⟩ yaL:=(ySP).loop (sg:=yDH) ycI yCQ (by decide) yR6 ydj yC8 (by decide) (fun _=>rfl) (fun x r _ h=>h) yU7
def ycJ:Shape:=⟨[(1,false,[.ptr 0 0]),(40,false,[.br tI]),(41,false,[.int .i64]),(42,false,[.int .i64])],[(0,[.br tL,.br tW,.bool,.br tI])],[]⟩
def yij:Shape:=⟨[(1,false,[.ptr 0 0]),(40,false,[.br tI]),(41,false,[.int .i64]),(42,false,[.ci .i64 0])],[(0,[.br tL,.br tW,.bool,.br tI])],[]⟩
def yh0:Shape:=⟨[(1,false,[.ptr 0 0])],[(0,[.br tL,.br tW,.bool,.br tI])],[]⟩
def yiK:Shape:=⟨[(2,false,[.bool])],[],[]⟩
abbrev yty (v0:List Int) (v1 v2:Int) (v3:dM):(ycJ).X:=((((),()),(v0,()),(v1,()),(v2,()),()),((v3.1,v3.2.1,v3.2.2.1,v3.2.2.2,()),()),())
abbrev yP6 (v0:List Int) (v1:Int) (v2:dM):(yij).X:=((((),()),(v0,()),(v1,()),((),()),()),((v2.1,v2.2.1,v2.2.2.1,v2.2.2.2,()),()),())
abbrev yPY (v0:dM):(yh0).X:=((((),()),()),((v0.1,v0.2.1,v0.2.2.1,v0.2.2.2,()),()),())
abbrev yQj (v0:Bool):(yiK).X:=(((v0,()),()),(),())
def ytV (v0:List Int) (v1 v2:Int) (v3:List (List Int)) (v4:List dW) (v5:Bool) (v6:List Int):Option ((ycJ).X ⊕ ((yh0).X ⊕ (yiK).X)) :=
 bif (ltb v2 v1) then
 bif (inb v2 v0.length) then
 let r10:=ydA (v3,v4,v5,v6) (nth v0 v2 0)
 bif (!(!r10)) then
 bif (ltb 0 v2) then
 bif (inb (IntKind.i64.wrap (v2 - 1)) v6.length) then
 bif (leb (nth v0 v2 0) (nth v6 (IntKind.i64.wrap (v2 - 1)) 0)) then
 some (.inr (.inr (((false,()),()),(),())))
 else
 some (.inl ((((),()),(v0,()),(v1,()),((IntKind.i64.wrap (v2+1)),()),()),((v3,v4,v5,v6,()),()),()))
 else none
 else
 some (.inl ((((),()),(v0,()),(v1,()),((IntKind.i64.wrap (v2+1)),()),()),((v3,v4,v5,v6,()),()),()))
 else
 some (.inr (.inr (((false,()),()),(),())))
 else none
 else
 some (.inr (.inl ((((),()),()),((v3,v4,v5,v6,()),()),())))
def ydk (x:(ycJ).X):=ytV x.1.2.1.1 x.1.2.2.1.1 x.1.2.2.2.1.1 x.2.1.1.1 x.2.1.1.2.1 x.2.1.1.2.2.1 x.2.1.1.2.2.2.1
def yCR (x:(yij).X):(ycJ).X:=((((),()),(x.1.2.1.1,()),(x.1.2.2.1.1,()),(0,()),()),((x.2.1.1.1,x.2.1.1.2.1,x.2.1.1.2.2.1,x.2.1.1.2.2.2.1,()),()),())
def yEV:Code:=(zdI yaL 64 244).getD .skip
theorem yR7:zdI yaL 64 61=some (.block 4 (.loop yEV)):=by kernel_rfl
theorem yU8 (x:(ycJ).X):zg7 ⟨yei,76,yw0⟩ 4 yEV 244 ycJ yh0 yiK x=ydk x:=by kernel_rfl
def yC9 (x:(yij).X):Nat:=18446744073709551616
def yuA (x:(yij).X):Option ((yh0).X ⊕ (yiK).X):=zr ydk (yC9 x) (yCR x)
def yDI:Seg:=⟨yij,yh0,yiK,yuA⟩
def yF3:Nat→Option Seg:=fun q=>bif Nat.beq q 61 then some yDI else yw0 q
theorem ySR:FrOk Tryz.prog ⟨yei,76,yF3⟩ yaL:=(ySQ).loop (sg:=yDI) ycJ yCR (by decide) yR7 ydk yC9 (by decide) (fun _=>rfl) (fun x r _ h=>h) yU8
abbrev ykq:List Par:= [.rd tM]
abbrev yuP:List OT:= [⟨false,tB,.fz⟩]
def yq3 (a0:dM):Option (ResD yuP×MutD ykq) :=
 zjw (yuy ((((),()),(a0.1,()),((a0.1.length:Int),()),((),()),()),((a0.1,a0.2.1,a0.2.2.1,a0.2.2.2,()),()),())) (fun y2 =>
 zjw (yuz ((((),()),(y2.2.1.1.2.1,()),((y2.2.1.1.2.1.length:Int),()),((),()),()),((y2.2.1.1.1,y2.2.1.1.2.1,y2.2.1.1.2.2.1,y2.2.1.1.2.2.2.1,()),()),())) (fun y7 =>
 zjw (yuA ((((),()),(y7.2.1.1.2.2.2.1,()),((y7.2.1.1.2.2.2.1.length:Int),()),((),()),()),((y7.2.1.1.1,y7.2.1.1.2.1,y7.2.1.1.2.2.1,y7.2.1.1.2.2.2.1,()),()),())) (fun y10 =>
 let r12:=ye (y10.2.1.1.1.length:Int) 1 20
 bif r12 then
 some (((leb (y10.2.1.1.2.1.length:Int) 60),()),())
 else
 some ((false,()),())) (fun y10 =>
 some ((y10.1.1.1,()),()))) (fun y7 =>
 some ((y7.1.1.1,()),()))) (fun y2 =>
 some ((y2.1.1.1,()),()))
theorem y0r (x:InD ykq):zjH ⟨yei,76,yF3⟩ Tryz.f133.results.toList yaL ykq yuP x=yq3 x.1:=by kernel_rfl
theorem yW7:ConOk Tryz.prog 133 ⟨ykq,yuP,fun x=>yq3 x.1⟩:=zkh (ySR) Tryz.func133 (by kernel_rfl) (by kernel_rfl) Tryz.ntmps133.symm (by decide) (fun x r h=>(y0r x).trans h)
def ycZ (a0:dM):Bool:=yr a0
theorem yZf (a0:dM) (hk:zi9 ykq (a0,())):yq3 a0=(fun n=>some ((n,()),())) (ycZ a0):=by
 have hb1:a0.1.length * 24≤2 ^ 47:=hk.1.1.1
 have hb2:a0.2.1.length * 32≤2 ^ 47:=hk.1.2.1.1
 have hb3:a0.2.2.2.length * 8≤2 ^ 47:=hk.1.2.2.2.1
 have h1:yuy (yP4 a0.1 a0.1.length a0)=some (bif a0.1.all ybp then .inl (yPW a0) else .inr (yQh false)) :=
  zjS (step:=ydi) a0.1 [] (fun i=>ytw a0.1 a0.1.length i a0) ybp _ _ (fun i hi=>by
   simp only [ydi,ytw,ytT,zjI (show (i:Int) < a0.1.length by omega),cond_true,wr (show -9223372036854775808≤(i:Int)+1 by omega) (by omega),Int.natCast_add,Int.natCast_one,Int.toNat_natCast,zkO hi,zjW,yFL]
   cases ybp (a0.1.getD i [])<;>rfl) (by simp only [ydi,ytw,ytT,zkm (Int.le_refl _),cond_false]) _ (by show _ < 18446744073709551616; omega)
 have h2:yuz (yP5 a0.2.1 a0.2.1.length a0)=some (bif a0.2.1.all (yxF a0.1.length) then .inl (yPX a0) else .inr (yQi false)) :=
  zjS (step:=ydj) a0.2.1 (0,[]) (fun i=>ytx a0.2.1 a0.2.1.length i a0) (yxF a0.1.length) _ _ (fun i hi=>by
   simp only [ydj,ytx,ytU,zjI (show (i:Int) < a0.2.1.length by omega),cond_true,wr (show -9223372036854775808≤(i:Int)+1 by omega) (by omega),Int.natCast_add,Int.natCast_one,Int.toNat_natCast,zkO hi,zjW,yFL,ydA,yaB,yvF (show a0.1.length≤1152921504606846976 by omega),yxF]
   cases inb (a0.2.1.getD i (0,[])).1 a0.1.length<;>cases ybp (a0.2.1.getD i (0,[])).2<;>rfl) (by simp only [ydj,ytx,ytU,zkm (Int.le_refl _),cond_false]) _ (by show _ < 18446744073709551616; omega)
 have h3:yuA (yP6 a0.2.2.2 a0.2.2.2.length a0)=some (bif (List.range a0.2.2.2.length).any (yEQ a0.1.length a0.2.2.2) then .inr (yQj false) else .inl (yPY a0)) :=
  zf4 (step:=ydk) (fun i=>yty a0.2.2.2 a0.2.2.2.length i a0) a0.2.2.2.length (yEQ a0.1.length a0.2.2.2) _ _ (fun i hi=>by
   simp only [ydk,yty,ytV,zjI (show (i:Int) < a0.2.2.2.length by omega),cond_true,wr (show -9223372036854775808≤(i:Int)+1 by omega) (by omega),Int.natCast_add,Int.natCast_one,Int.toNat_natCast,zkO hi,zjW,ydA,yaB,yvF (show a0.1.length≤1152921504606846976 by omega),yEQ]
   rcases Nat.eq_zero_or_pos i with rfl | h0
   ·cases inb (a0.2.2.2.getD 0 0) a0.1.length<;>rfl
   ·rw [show IntKind.i64.wrap ((i:Int) - 1)=((i - 1:Nat):Int) by rw [wr (by omega) (by omega)]; omega,zkO (show i - 1 < a0.2.2.2.length by omega),zjW,zjI (show (0:Int) < i by omega),decide_eq_true h0]
    cases inb (a0.2.2.2.getD i 0) a0.1.length<;>cases leb (a0.2.2.2.getD i 0) (a0.2.2.2.getD (i - 1) 0)<;>rfl) (by simp only [ydk,yty,ytV,zkm (Int.le_refl _),cond_false]) _ (by show _ < 18446744073709551616; omega)
 unfold yq3 ycZ yr
 rw [h1]
 cases a0.1.all ybp
 ·rfl
 simp only [cond_true,zkJ,h2]
 cases a0.2.1.all (yxF a0.1.length)
 ·rfl
 simp only [cond_true,zkJ,h3,yYb,yaB,ye1]
 cases yvh a0.1.length a0.2.2.2
 ·rfl
 simp only [Bool.not_true,cond_false,zkJ]
 cases leb 1 (a0.1.length:Int)<;>cases leb (a0.1.length:Int) 20<;>rfl
def yqO:Con:=⟨ykq,yuP,fun x=>(fun n=>some ((n,()),())) (ycZ x.1)⟩
theorem yzx:ConOk Tryz.prog 133 yqO:=(yW7).mono (fun x r hk h=>(yZf x.1 hk).trans h)
end
section
def yo2:Code:=(Tryz.f45.body).getD .skip
def yuo:Env:=zki TT [(100,yCx),(122,yqN),(126,yv),(131,yvp),(132,yCv),(133,yqO)] []
theorem ySL:FrOk Tryz.prog ⟨yuo,103,fun _=>none⟩ yo2:=zkp yb yc ⟨yUJ,yzw,yP,yHe,yUH,yzx,trivial⟩
def yF0:Nat→Option Seg:=fun _=>none
def ycG:Shape:=⟨[(1,false,[.ptr 0 0]),(41,false,[.br tM]),(42,false,[.int .i64]),(43,false,[.int .i64])],[(0,[.int .i64,.int .i64,.int .i64,.br tM,.int .i64,.int .i64,.int .i64,.int .i64,.int .i64,.br tW,.int .i64,.bool,.bool])],[]⟩
def yig:Shape:=⟨[(1,false,[.ptr 0 0]),(41,false,[.br tM]),(42,false,[.int .i64]),(43,false,[.ci .i64 0])],[(0,[.int .i64,.int .i64,.int .i64,.br tM,.int .i64,.int .i64,.int .i64,.int .i64,.int .i64,.br tW,.int .i64,.bool,.bool])],[]⟩
def yhX:Shape:=⟨[(1,false,[.ptr 0 0])],[(0,[.int .i64,.int .i64,.int .i64,.br tM,.int .i64,.int .i64,.int .i64,.int .i64,.int .i64,.br tW,.int .i64,.bool,.bool])],[]⟩
def yiG:Shape:=⟨[(2,false,[.bool])],[],[]⟩
abbrev ytv (v0:List dM) (v1 v2:Int) (v3:dA):(ycG).X:=((((),()),(v0,()),(v1,()),(v2,()),()),((v3.1,v3.2.1.1,v3.2.1.2,v3.2.2.1,v3.2.2.2.1,v3.2.2.2.2.1,v3.2.2.2.2.2.1,v3.2.2.2.2.2.2.1,v3.2.2.2.2.2.2.2.1,v3.2.2.2.2.2.2.2.2.1,v3.2.2.2.2.2.2.2.2.2.1,v3.2.2.2.2.2.2.2.2.2.2.1,v3.2.2.2.2.2.2.2.2.2.2.2,()),()),())
abbrev yP3 (v0:List dM) (v1:Int) (v2:dA):(yig).X:=((((),()),(v0,()),(v1,()),((),()),()),((v2.1,v2.2.1.1,v2.2.1.2,v2.2.2.1,v2.2.2.2.1,v2.2.2.2.2.1,v2.2.2.2.2.2.1,v2.2.2.2.2.2.2.1,v2.2.2.2.2.2.2.2.1,v2.2.2.2.2.2.2.2.2.1,v2.2.2.2.2.2.2.2.2.2.1,v2.2.2.2.2.2.2.2.2.2.2.1,v2.2.2.2.2.2.2.2.2.2.2.2,()),()),())
abbrev yPV (v0:dA):(yhX).X:=((((),()),()),((v0.1,v0.2.1.1,v0.2.1.2,v0.2.2.1,v0.2.2.2.1,v0.2.2.2.2.1,v0.2.2.2.2.2.1,v0.2.2.2.2.2.2.1,v0.2.2.2.2.2.2.2.1,v0.2.2.2.2.2.2.2.2.1,v0.2.2.2.2.2.2.2.2.2.1,v0.2.2.2.2.2.2.2.2.2.2.1,v0.2.2.2.2.2.2.2.2.2.2.2,()),()),())
abbrev yQg (v0:Bool):(yiG).X:=(((v0,()),()),(),())
def ytS (v0:List dM) (v1 v2 v3 v4 v5:Int) (v6:List dM) (v7 v8 v9 v10 v11:Int) (v12:List dW) (v13:Int) (v14 v15:Bool):Option ((ycG).X ⊕ ((yhX).X ⊕ (yiG).X)) :=
 bif (ltb v2 v1) then
 bif (inb v2 v0.length) then
 let r7:=ycZ ((nth v0 v2 ([],[],false,[])).1,((nth v0 v2 ([],[],false,[])).2).1,(((nth v0 v2 ([],[],false,[])).2).2))
 bif (!(!r7)) then
 let r8:=yqS (v4,v5)
 bif (!((((nth v0 v2 ([],[],false,[])).1).length:Int) !=r8)) then
 bif (((nth v0 v2 ([],[],false,[])).2).2).1 then
 bif (v7 !=v2) then
 bif (!v15) then
 some (.inr (.inr (((false,()),()),(),())))
 else
 some (.inl ((((),()),(v0,()),(v1,()),((IntKind.i64.wrap (v2+1)),()),()),((v3,v4,v5,v6,v7,v8,v9,v10,v11,v12,v13,v14,v15,()),()),()))
 else
 some (.inl ((((),()),(v0,()),(v1,()),((IntKind.i64.wrap (v2+1)),()),()),((v3,v4,v5,v6,v7,v8,v9,v10,v11,v12,v13,v14,v15,()),()),()))
 else
 some (.inl ((((),()),(v0,()),(v1,()),((IntKind.i64.wrap (v2+1)),()),()),((v3,v4,v5,v6,v7,v8,v9,v10,v11,v12,v13,v14,v15,()),()),()))
 else
 some (.inr (.inr (((false,()),()),(),())))
 else
 some (.inr (.inr (((false,()),()),(),())))
 else none
 else
 some (.inr (.inl ((((),()),()),((v3,v4,v5,v6,v7,v8,v9,v10,v11,v12,v13,v14,v15,()),()),())))
def ydh (x:(ycG).X):=ytS x.1.2.1.1 x.1.2.2.1.1 x.1.2.2.2.1.1 x.2.1.1.1 x.2.1.1.2.1 x.2.1.1.2.2.1 x.2.1.1.2.2.2.1 x.2.1.1.2.2.2.2.1 x.2.1.1.2.2.2.2.2.1 x.2.1.1.2.2.2.2.2.2.1 x.2.1.1.2.2.2.2.2.2.2.1 x.2.1.1.2.2.2.2.2.2.2.2.1 x.2.1.1.2.2.2.2.2.2.2.2.2.1 x.2.1.1.2.2.2.2.2.2.2.2.2.2.1 x.2.1.1.2.2.2.2.2.2.2.2.2.2.2.1 x.2.1.1.2.2.2.2.2.2.2.2.2.2.2.2.1
def yCO (x:(yig).X):(ycG).X:=((((),()),(x.1.2.1.1,()),(x.1.2.2.1.1,()),(0,()),()),((x.2.1.1.1,x.2.1.1.2.1,x.2.1.1.2.2.1,x.2.1.1.2.2.2.1,x.2.1.1.2.2.2.2.1,x.2.1.1.2.2.2.2.2.1,x.2.1.1.2.2.2.2.2.2.1,x.2.1.1.2.2.2.2.2.2.2.1,x.2.1.1.2.2.2.2.2.2.2.2.1,x.2.1.1.2.2.2.2.2.2.2.2.2.1,x.2.1.1.2.2.2.2.2.2.2.2.2.2.1,x.2.1.1.2.2.2.2.2.2.2.2.2.2.2.1,x.2.1.1.2.2.2.2.2.2.2.2.2.2.2.2.1,()),()),())
def yES:Code:=(zdI yo2 64 116).getD .skip
theorem yR4:zdI yo2 64 29=some (.block 0 (.loop yES)):=by kernel_rfl
theorem yU5 (x:(ycG).X):zg7 ⟨yuo,103,yF0⟩ 0 yES 116 ycG yhX yiG x=ydh x:=by kernel_rfl
def yC6 (x:(yig).X):Nat:=18446744073709551616
def yux (x:(yig).X):Option ((yhX).X ⊕ (yiG).X):=zr ydh (yC6 x) (yCO x)
def yDF:Seg:=⟨yig,yhX,yiG,yux⟩
def yF1:Nat→Option Seg:=fun q=>bif Nat.beq q 29 then some yDF else yF0 q
theorem ySM:FrOk Tryz.prog ⟨yuo,103,yF1⟩ yo2:=(ySL).loop (sg:=yDF) ycG yCO (by decide) yR4 ydh yC6 (by decide) (fun _=>rfl) (fun x r _ h=>h) yU5
abbrev ykp:List Par:= [.rd tA]
abbrev yuN:List OT:= [⟨false,tB,.fz⟩]
def yq2 (a0:dA):Option (ResD yuN×MutD ykp) :=
 let r1:=yey a0.2.1
 bif (!(!r1)) then
 bif (!((a0.2.2.1.length:Int) !=a0.2.1.1)) then
 let r2:=ye a0.1 1 60000
 bif (!(!r2)) then
 let r3:=yff a0.2.1 a0.2.2.2.1 a0.2.2.2.2.1
 bif (!(!r3)) then
 bnd (yqV a0) fun r4 =>
 bif (!r4.1.1) then
 some ((false,()),())
 else
 zjw (yux ((((),()),(a0.2.2.1,()),((a0.2.2.1.length:Int),()),((),()),()),((a0.1,a0.2.1.1,a0.2.1.2,a0.2.2.1,a0.2.2.2.1,a0.2.2.2.2.1,a0.2.2.2.2.2.1,a0.2.2.2.2.2.2.1,a0.2.2.2.2.2.2.2.1,a0.2.2.2.2.2.2.2.2.1,a0.2.2.2.2.2.2.2.2.2.1,a0.2.2.2.2.2.2.2.2.2.2.1,a0.2.2.2.2.2.2.2.2.2.2.2,()),()),())) (fun y8 =>
 let r10:=ye y8.2.1.1.2.2.2.2.2.2.1 0 60000
 bif r10 then
 let r11:=ye y8.2.1.1.2.2.2.2.2.2.2.1 0 60000
 bif r11 then
 let r12:=ye y8.2.1.1.2.2.2.2.2.2.2.2.1 0 60000
 bif r12 then
 let r13:=ye (IntKind.i64.wrap (y8.2.1.1.2.2.2.2.2.2.1 - y8.2.1.1.2.2.2.2.2.2.2.1)) 0 4
 bif r13 then
 let r14:=ye y8.2.1.1.2.2.2.2.2.2.2.2.2.2.1 (-1) 1000
 some ((r14,()),())
 else
 some ((false,()),())
 else
 some ((false,()),())
 else
 some ((false,()),())
 else
 some ((false,()),())) (fun y8 =>
 some ((y8.1.1.1,()),()))
 else
 some ((false,()),())
 else
 some ((false,()),())
 else
 some ((false,()),())
 else
 some ((false,()),())
theorem y0p (x:InD ykp):zjH ⟨yuo,103,yF1⟩ Tryz.f45.results.toList yo2 ykp yuN x=yq2 x.1:=by kernel_rfl
theorem yW5:ConOk Tryz.prog 45 ⟨ykp,yuN,fun x=>yq2 x.1⟩:=zkh (ySM) Tryz.func45 (by kernel_rfl) (by kernel_rfl) Tryz.ntmps45.symm (by decide) (fun x r h=>(y0p x).trans h)
theorem y3h {S T G F z TS le:Bool} (h1:T=true→TS=true→S=true) (h2:S=true→T=true→z=(TS&&le)) :
  (bif S then bif T then bif G then bif z then some ((F,()),()) else some ((false,()),()) else some ((false,()),()) else some ((false,()),()) else some ((false,()),()))=some (((T&&(TS&&(le&&(G&&F)))),()),()):=by
 cases S
 ·cases T
  ·rfl
  ·cases TS
   ·rfl
   ·exact absurd (h1 rfl rfl) Bool.false_ne_true
 ·cases T
  ·cases G<;>rfl
  ·rw [h2 rfl rfl]
   cases TS<;>cases le<;>cases G<;>rfl
def ygL (a0:dA):Bool:=yB a0
theorem yZd (a0:dA) (hk:zi9 ykp (a0,())):yq2 a0=(fun n=>some ((n,()),())) (ygL a0):=by
 have hb:a0.2.2.1.length * 80≤2 ^ 47:=hk.1.2.2.1.1
 unfold yq2 ygL yB
 simp only [yTx,yaB,ye1]
 cases hg:yf a0.2.1
 ·rfl
 have hg2:=ym.1 hg
 have h1:yux (yP3 a0.2.2.1 a0.2.2.1.length a0)=some (bif (List.range a0.2.2.1.length).any (ygK a0) then .inr (yQg false) else .inl (yPV a0)) :=
  zf4 (step:=ydh) (fun i=>ytv a0.2.2.1 a0.2.2.1.length i a0) a0.2.2.1.length (ygK a0) _ _ (fun i hi=>by
   simp only [ydh,ytv,ytS,zjI (show (i:Int) < a0.2.2.1.length by omega),cond_true,wr (show -9223372036854775808≤(i:Int)+1 by omega) (by omega),Int.natCast_add,Int.natCast_one,Int.toNat_natCast,zkO hi,zkV,ycZ,ygK,yqS,wr (show -9223372036854775808≤6+a0.2.1.2 by omega) (by omega),yh]
   rw [show (a0.2.2.2.1 !=(i:Int))=((i:Int) !=a0.2.2.2.1) from bne_comm]
   cases yr (nth a0.2.2.1 i ([],[],false,[]))<;>cases (((nth a0.2.2.1 i ([],[],false,[])).1.length:Int) !=6+a0.2.1.2)<;>cases (nth a0.2.2.1 i ([],[],false,[])).2.2.1<;>cases ((i:Int) !=a0.2.2.2.1)<;>cases a0.2.2.2.2.2.2.2.2.2.2.2<;>rfl) (by simp only [ydh,ytv,ytS,zkm (Int.le_refl _),cond_false]) _ (by show _ < 18446744073709551616; omega)
 rw [yU0 a0 hg,h1]
 simp only [zky,yk1,yff,yaB,ye1,wr (show -9223372036854775808≤a0.2.1.1 - 1 by omega) (by omega),ym0]
 have hw:(leb 0 a0.2.2.2.2.2.1&&leb a0.2.2.2.2.2.1 60000)=true→(leb 0 a0.2.2.2.2.2.2.1&&leb a0.2.2.2.2.2.2.1 60000)=true→IntKind.i64.wrap (a0.2.2.2.2.2.1 - a0.2.2.2.2.2.2.1)=a0.2.2.2.2.2.1 - a0.2.2.2.2.2.2.1:=fun h h'=>by
  rw [Bool.and_eq_true,zjQ,zjQ]at h h'
  exact wr (by omega) (by omega)
 simp only [bne,Bool.not_not,cond_true,Bool.true_and]
 have h2:(leb 0 a0.2.2.2.2.2.1&&leb a0.2.2.2.2.2.1 60000)=true→(leb 0 a0.2.2.2.2.2.2.1&&leb a0.2.2.2.2.2.2.1 60000)=true→(leb 0 (IntKind.i64.wrap (a0.2.2.2.2.2.1 - a0.2.2.2.2.2.2.1))&&leb (IntKind.i64.wrap (a0.2.2.2.2.2.1 - a0.2.2.2.2.2.2.1)) 4)=((leb a0.2.2.2.2.2.2.1 a0.2.2.2.2.2.1&&leb a0.2.2.2.2.2.1 60000)&&leb a0.2.2.2.2.2.1 (a0.2.2.2.2.2.2.1+4)):=fun h h'=>by
  rw [hw h h',Bool.eq_iff_iff]
  simp only [Bool.and_eq_true,zjQ]at h h' ⊢
  omega
 have h3:(leb 0 a0.2.2.2.2.2.2.1&&leb a0.2.2.2.2.2.2.1 60000)=true→(leb a0.2.2.2.2.2.2.1 a0.2.2.2.2.2.1&&leb a0.2.2.2.2.2.1 60000)=true→(leb 0 a0.2.2.2.2.2.1&&leb a0.2.2.2.2.2.1 60000)=true:=fun h h'=>by
  simp only [Bool.and_eq_true,zjQ]at h h' ⊢
  omega
 cases ((a0.2.2.1.length:Int)==a0.2.1.1)
 ·cases (leb 1 a0.1&&leb a0.1 60000)<;>cases (List.range a0.2.2.1.length).any (ygK a0)<;>rfl
 cases (leb 1 a0.1&&leb a0.1 60000)
 ·rfl
 cases (leb (-1) a0.2.2.2.1&&leb a0.2.2.2.1 (a0.2.1.1 - 1))
 ·cases (List.range a0.2.2.1.length).any (ygK a0)<;>cases yaE a0.2.1 a0.2.2.2.2.2.2.2.2.1<;>rfl
 cases (leb 0 a0.2.2.2.2.1&&leb a0.2.2.2.2.1 a0.2.1.2)
 ·cases (List.range a0.2.2.1.length).any (ygK a0)<;>cases yaE a0.2.1 a0.2.2.2.2.2.2.2.2.1<;>rfl
 cases yaE a0.2.1 a0.2.2.2.2.2.2.2.2.1
 ·cases (List.range a0.2.2.1.length).any (ygK a0)<;>cases (a0.2.2.2.1== -1)<;>cases (a0.2.2.2.2.1==0)<;>rfl
 cases (List.range a0.2.2.1.length).any (ygK a0)
 ·cases (a0.2.2.2.1== -1)<;>cases (a0.2.2.2.2.1==0)
  case true.false=>rfl
  all_goals exact y3h h3 h2
 ·cases (a0.2.2.2.1== -1)<;>cases (a0.2.2.2.2.1==0)<;>rfl
def yw5:Con:=⟨ykp,yuN,fun x=>(fun n=>some ((n,()),())) (ygL x.1)⟩
theorem yII:ConOk Tryz.prog 45 yw5:=(yW5).mono (fun x r hk h=>(yZd x.1 hk).trans h)
end
section
def yD5:Code:=(Tryz.f200.body).getD .skip
def yEJ:Env:=zki TT [] []
theorem yKK:FrOk Tryz.prog ⟨yEJ,6,fun _=>none⟩ yD5:=zkp yb yc trivial
def yL9:Nat→Option Seg:=fun _=>none
abbrev yeL:List Par:= [.rd tL]
abbrev yn9:List OT:= [⟨false,tL,(.ow .fz)⟩]
def yjY (a0:List Int):Option (ResD yn9×MutD yeL) :=
 bif (zj4 ([]:List Int).length a0.length 8) then
 some (((([]:List Int)++a0),()),())
 else none
theorem ySv (x:InD yeL):zjH ⟨yEJ,6,yL9⟩ Tryz.f200.results.toList yD5 yeL yn9 x=yjY x.1:=by kernel_rfl
theorem yNA:ConOk Tryz.prog 200 ⟨yeL,yn9,fun x=>yjY x.1⟩:=zkh (yKK) Tryz.func200 (by kernel_rfl) (by kernel_rfl) Tryz.ntmps200.symm (by decide) (fun x r h=>(ySv x).trans h)
def yi (a0:List Int):List Int:=a0
theorem yQt (a0:List Int) (hk:zi9 yeL (a0,())):yjY a0=(fun n=>some ((n,()),())) (yi a0):=by
 have hb:a0.length * 8≤2 ^ 47:=hk.1.1
 unfold yjY yi
 rw [show zj4 ([]:List Int).length a0.length 8=true by rw [zkw,List.length_nil]; omega]
 rfl
def yde:Con:=⟨yeL,yn9,fun x=>(fun n=>some ((n,()),())) (yi x.1)⟩
theorem ygU:ConOk Tryz.prog 200 yde:=(yNA).mono (fun x r hk h=>(yQt x.1 hk).trans h)
end
end
end Go.Tf
