/- Functions of the program, and what they come to. -/
import Derived.Test.YtgmadfpnljibhaaGreatBlocksBentF2
namespace Go.Tf
noncomputable section
open Go.Proofs
set_option synthInstance.maxHeartbeats 400000
set_option synthInstance.maxSize 10000
set_option linter.unusedVariables false
set_option linter.unusedSimpArgs false
set_option maxRecDepth 100000
section
def ylF:Code:=(Tryz.f132.body).getD .skip
def yr5:Env:=zj3 TT [(116,ybt),(144,yxu)] []
theorem yQz:FrOk Tryz.prog ⟨yr5,44,fun _=>none⟩ ylF:=zj7 yb yc ⟨yd9,yJT,trivial⟩
def yDP:Nat→Option Seg:=fun _=>none
def ybZ:Shape:=⟨[(1,false,[.ptr 0 0]),(6,false,[.br tW]),(7,false,[.int .i64]),(8,false,[.int .i64])],[(0,[.int .i64,.int .i64,.int .i64,.br tM,.int .i64,.int .i64,.int .i64,.int .i64,.int .i64,.br tW,.int .i64,.bool,.bool])],[]⟩
def ygR:Shape:=⟨[(1,false,[.ptr 0 0]),(6,false,[.br tW]),(7,false,[.int .i64]),(8,false,[.ci .i64 0])],[(0,[.int .i64,.int .i64,.int .i64,.br tM,.int .i64,.int .i64,.int .i64,.int .i64,.int .i64,.br tW,.int .i64,.bool,.bool])],[]⟩
def ygF:Shape:=⟨[],[],[]⟩
def ygZ:Shape:=⟨[(2,false,[.bool])],[],[]⟩
abbrev yrB (v0:List dW) (v1 v2:Int) (v3:dA):(ybZ).X:=((((),()),(v0,()),(v1,()),(v2,()),()),((v3.1,v3.2.1.1,v3.2.1.2,v3.2.2.1,v3.2.2.2.1,v3.2.2.2.2.1,v3.2.2.2.2.2.1,v3.2.2.2.2.2.2.1,v3.2.2.2.2.2.2.2.1,v3.2.2.2.2.2.2.2.2.1,v3.2.2.2.2.2.2.2.2.2.1,v3.2.2.2.2.2.2.2.2.2.2.1,v3.2.2.2.2.2.2.2.2.2.2.2,()),()),())
abbrev yOY (v0:List dW) (v1:Int) (v2:dA):(ygR).X:=((((),()),(v0,()),(v1,()),((),()),()),((v2.1,v2.2.1.1,v2.2.1.2,v2.2.2.1,v2.2.2.2.1,v2.2.2.2.2.1,v2.2.2.2.2.2.1,v2.2.2.2.2.2.2.1,v2.2.2.2.2.2.2.2.1,v2.2.2.2.2.2.2.2.2.1,v2.2.2.2.2.2.2.2.2.2.1,v2.2.2.2.2.2.2.2.2.2.2.1,v2.2.2.2.2.2.2.2.2.2.2.2,()),()),())
abbrev yOP  :(ygF).X:=((),(),())
abbrev yO5 (v0:Bool):(ygZ).X:=(((v0,()),()),(),())
def yrT (v0:List dW) (v1 v2 v3 v4 v5:Int) (v6:List dM) (v7 v8 v9 v10 v11:Int) (v12:List dW) (v13:Int) (v14 v15:Bool):Option ((ybZ).X ⊕ ((ygF).X ⊕ (ygZ).X)) :=
 bif (ltb v2 v1) then
 bif (inb v2 v0.length) then
 let r4:=yY (v4,v5) ((nth v0 v2 (0,[])).1)
 bif (!(!r4)) then
 bif (ltb 0 v2) then
 bif (inb (IntKind.i64.wrap (v2 - 1)) v12.length) then
 bif (!(leb ((nth v0 v2 (0,[])).1) ((nth v12 (IntKind.i64.wrap (v2 - 1)) (0,[])).1))) then
 let r5:=yeu (v4,v5) ((nth v0 v2 (0,[])).2)
 bif (!r5) then
 some (.inr (.inr (((false,()),()),(),())))
 else
 some (.inl ((((),()),(v0,()),(v1,()),((IntKind.i64.wrap (v2+1)),()),()),((v3,v4,v5,v6,v7,v8,v9,v10,v11,v12,v13,v14,v15,()),()),()))
 else
 some (.inr (.inr (((false,()),()),(),())))
 else none
 else
 let r6:=yeu (v4,v5) ((nth v0 v2 (0,[])).2)
 bif (!r6) then
 some (.inr (.inr (((false,()),()),(),())))
 else
 some (.inl ((((),()),(v0,()),(v1,()),((IntKind.i64.wrap (v2+1)),()),()),((v3,v4,v5,v6,v7,v8,v9,v10,v11,v12,v13,v14,v15,()),()),()))
 else
 some (.inr (.inr (((false,()),()),(),())))
 else none
 else
 some (.inr (.inl ((),(),())))
def ych (x:(ybZ).X):=yrT x.1.2.1.1 x.1.2.2.1.1 x.1.2.2.2.1.1 x.2.1.1.1 x.2.1.1.2.1 x.2.1.1.2.2.1 x.2.1.1.2.2.2.1 x.2.1.1.2.2.2.2.1 x.2.1.1.2.2.2.2.2.1 x.2.1.1.2.2.2.2.2.2.1 x.2.1.1.2.2.2.2.2.2.2.1 x.2.1.1.2.2.2.2.2.2.2.2.1 x.2.1.1.2.2.2.2.2.2.2.2.2.1 x.2.1.1.2.2.2.2.2.2.2.2.2.2.1 x.2.1.1.2.2.2.2.2.2.2.2.2.2.2.1 x.2.1.1.2.2.2.2.2.2.2.2.2.2.2.2.1
def yAH (x:(ygR).X):(ybZ).X:=((((),()),(x.1.2.1.1,()),(x.1.2.2.1.1,()),(0,()),()),((x.2.1.1.1,x.2.1.1.2.1,x.2.1.1.2.2.1,x.2.1.1.2.2.2.1,x.2.1.1.2.2.2.2.1,x.2.1.1.2.2.2.2.2.1,x.2.1.1.2.2.2.2.2.2.1,x.2.1.1.2.2.2.2.2.2.2.1,x.2.1.1.2.2.2.2.2.2.2.2.1,x.2.1.1.2.2.2.2.2.2.2.2.2.1,x.2.1.1.2.2.2.2.2.2.2.2.2.2.1,x.2.1.1.2.2.2.2.2.2.2.2.2.2.2.1,x.2.1.1.2.2.2.2.2.2.2.2.2.2.2.2.1,()),()),())
def yCk:Code:=(zdD ylF 64 52).getD .skip
theorem yQb:zdD ylF 64 13=some (.block 0 (.loop yCk)):=by kernel_rfl
theorem yR6 (x:(ybZ).X):zg0 ⟨yr5,44,yDP⟩ 0 yCk 52 ybZ ygF ygZ x=ych x:=by kernel_rfl
def yAW (x:(ygR).X):Nat:=18446744073709551616
def ys2 (x:(ygR).X):Option ((ygF).X ⊕ (ygZ).X):=zz ych (yAW x) (yAH x)
def yBm:Seg:=⟨ygR,ygF,ygZ,ys2⟩
def yDQ:Nat→Option Seg:=fun q=>bif Nat.beq q 13 then some yBm else yDP q
theorem yQA:FrOk Tryz.prog ⟨yr5,44,yDQ⟩ ylF:=(yQz).loop (sg:=yBm) ybZ yAH (by decide) yQb ych yAW (by decide) (fun _=>rfl) (fun x r _ h=>h) yR6
abbrev yeU:List Par:= [.rd tA]
abbrev yme:List OT:= [⟨false,tB,.fz⟩]
def ynC (a0:dA):Option (ResD yme×MutD yeU) :=
 zjZ (ys2 ((((),()),(a0.2.2.2.2.2.2.2.2.1,()),((a0.2.2.2.2.2.2.2.2.1.length:Int),()),((),()),()),((a0.1,a0.2.1.1,a0.2.1.2,a0.2.2.1,a0.2.2.2.1,a0.2.2.2.2.1,a0.2.2.2.2.2.1,a0.2.2.2.2.2.2.1,a0.2.2.2.2.2.2.2.1,a0.2.2.2.2.2.2.2.2.1,a0.2.2.2.2.2.2.2.2.2.1,a0.2.2.2.2.2.2.2.2.2.2.1,a0.2.2.2.2.2.2.2.2.2.2.2,()),()),())) (fun y6 =>
 some ((true,()),())) (fun y6 =>
 some ((y6.1.1.1,()),()))
theorem y0o (x:InD yeU):zjx ⟨yr5,44,yDQ⟩ Tryz.f132.results.toList ylF yeU yme x=ynC x.1:=by kernel_rfl
theorem yUY:ConOk Tryz.prog 132 ⟨yeU,yme,fun x=>ynC x.1⟩:=zj2 (yQA) Tryz.func132 (by kernel_rfl) (by kernel_rfl) Tryz.ntmps132.symm (by decide) (fun x r h=>(y0o x).trans h)
def ymC (a0:dA):Bool:=yaK a0.2.1 a0.2.2.2.2.2.2.2.2.1
def yzN (a0:dA):Bool:=yg a0.2.1
theorem yxR (l:List Int):yaf l=l.all isW:=by
 unfold yaf
 rw [show yW=isW from funext fun x=>by unfold yW; rw [yag,ybE]; rfl]
theorem yYl (a0:dA) (hk:zi2 yeU (a0,())) (hq:yzN a0=true):ynC a0=(fun n=>some ((n,()),())) (ymC a0):=by
 have hb:a0.2.2.2.2.2.2.2.2.1.length * 32≤2 ^ 47:=hk.1.2.2.2.2.2.2.2.2.1.1
 have hg:=yk.1 hq
 have hq':yg a0.2.1=true:=hq
 have h1:ys2 (yOY a0.2.2.2.2.2.2.2.2.1 a0.2.2.2.2.2.2.2.2.1.length a0)=some (bif (List.range a0.2.2.2.2.2.2.2.2.1.length).any (yi7 a0.2.1 a0.2.2.2.2.2.2.2.2.1) then .inr (yO5 false) else .inl yOP) :=
  ziO (step:=ych) (fun i=>yrB a0.2.2.2.2.2.2.2.2.1 a0.2.2.2.2.2.2.2.2.1.length i a0) a0.2.2.2.2.2.2.2.2.1.length (yi7 a0.2.1 a0.2.2.2.2.2.2.2.2.1) _ _ (fun i hi=>by
   simp only [ych,yrB,yrT,zj5 (show (i:Int) < a0.2.2.2.2.2.2.2.2.1.length by omega),cond_true,wr (show -9223372036854775808≤(i:Int)+1 by omega) (by omega),Int.natCast_add,Int.natCast_one,Int.toNat_natCast,zkm hi,zks,yY,yeu,yX7,hq',yag,ybE,yxR,wr (show -9223372036854775808≤a0.2.1.2 - 1 by omega) (by omega),wr (show -9223372036854775808≤a0.2.1.1 - 1 by omega) (by omega),yi7,bne]
   rcases Nat.eq_zero_or_pos i with rfl | h0
   ·cases (leb 0 (nth a0.2.2.2.2.2.2.2.2.1 ((0:Nat):Int) (0,[])).1&&leb (nth a0.2.2.2.2.2.2.2.2.1 ((0:Nat):Int) (0,[])).1 (a0.2.1.2 - 1))<;>cases (((nth a0.2.2.2.2.2.2.2.2.1 ((0:Nat):Int) (0,[])).2.length:Int)==a0.2.1.1 - 1)<;>cases ((nth a0.2.2.2.2.2.2.2.2.1 ((0:Nat):Int) (0,[])).2.all isW)<;>rfl
   ·rw [show IntKind.i64.wrap ((i:Int) - 1)=((i - 1:Nat):Int) by rw [wr (by omega) (by omega)]; omega,zkm (show i - 1 < a0.2.2.2.2.2.2.2.2.1.length by omega),zj5 (show (0:Int) < i by omega),decide_eq_true h0]
    cases (leb 0 (nth a0.2.2.2.2.2.2.2.2.1 (i:Int) (0,[])).1&&leb (nth a0.2.2.2.2.2.2.2.2.1 (i:Int) (0,[])).1 (a0.2.1.2 - 1))<;>cases (((nth a0.2.2.2.2.2.2.2.2.1 (i:Int) (0,[])).2.length:Int)==a0.2.1.1 - 1)<;>cases ((nth a0.2.2.2.2.2.2.2.2.1 (i:Int) (0,[])).2.all isW)<;>cases leb (nth a0.2.2.2.2.2.2.2.2.1 (i:Int) (0,[])).1 (nth a0.2.2.2.2.2.2.2.2.1 ((i - 1:Nat):Int) (0,[])).1<;>rfl) (by simp only [ych,yrB,yrT,zky (Int.le_refl _),cond_false]) _ (by show _ < 18446744073709551616; omega)
 unfold ynC ymC yaK
 rw [h1]
 cases (List.range a0.2.2.2.2.2.2.2.2.1.length).any (yi7 a0.2.1 a0.2.2.2.2.2.2.2.2.1)<;>rfl
def ysD (a0:dA):Option (ResD yme×MutD yeU):=bif yzN a0 then (fun n=>some ((n,()),())) (ymC a0) else none
theorem yZy (a0:dA) (h:yzN a0=true):ysD a0=(fun n=>some ((n,()),())) (ymC a0):=by unfold ysD; rw [h]; rfl
def yEp:Con:=⟨yeU,yme,fun x=>ysD x.1⟩
theorem yZm:ConOk Tryz.prog 132 yEp:=(yUY).mono (fun x r hk h=>zkt h (fun hq=>yYl x.1 hk hq))
end
section
def yK5:Code:=(Tryz.f220.body).getD .skip
def yLC:Env:=zj3 TT [(126,yy)] []
theorem yTd:FrOk Tryz.prog ⟨yLC,11,fun _=>none⟩ yK5:=zj7 yb yc ⟨yN,trivial⟩
def yV1:Nat→Option Seg:=fun _=>none
abbrev yn7:List Par:= [.rd tM,.rd tI]
abbrev yun:List OT:= [⟨false,tB,.fz⟩]
def yyf (a0:dM) (a1:Int):Option (ResD yun×MutD yn7) :=
 let r1:=yf a1 0 (IntKind.i64.wrap ((a0.1.length:Int) - 1))
 some ((r1,()),())
theorem y26 (x:InD yn7):zjx ⟨yLC,11,yV1⟩ Tryz.f220.results.toList yK5 yn7 yun x=yyf x.1 x.2.1:=by kernel_rfl
theorem yYM:ConOk Tryz.prog 220 ⟨yn7,yun,fun x=>yyf x.1 x.2.1⟩:=zj2 (yTd) Tryz.func220 (by kernel_rfl) (by kernel_rfl) Tryz.ntmps220.symm (by decide) (fun x r h=>(y26 x).trans h)
def ybz (a0:dM) (a1:Int):Bool :=
 let r1:=yf a1 0 (IntKind.i64.wrap ((a0.1.length:Int) - 1))
 r1
def yqb:Con:=⟨yn7,yun,fun x=>(fun n=>some ((n,()),())) (ybz x.1 x.2.1)⟩
theorem y00 (a0:dM) (a1:Int):yyf a0 a1=(fun n=>some ((n,()),())) (ybz a0 a1):=zkq (p:=fun (n:Bool)=>((n,()),())) rfl
theorem yzH:ConOk Tryz.prog 220 yqb:=(yYM).mono (fun x r _ h=>(y00 x.1 x.2.1).trans h)
end
section
def yM7:Code:=(Tryz.f221.body).getD .skip
def yNt:Env:=zj3 TT [(228,ynk)] []
theorem yXu:FrOk Tryz.prog ⟨yNt,10,fun _=>none⟩ yM7:=zj7 yb yc ⟨yx5,trivial⟩
def yZX:Nat→Option Seg:=fun _=>none
abbrev yq7:List Par:= [.rd tL]
abbrev ywZ:List OT:= [⟨false,tB,.fz⟩]
def yzV (a0:List Int):Option (ResD ywZ×MutD yq7) :=
 bif (leb (a0.length:Int) 12) then
 let r1:=yaf a0
 some ((r1,()),())
 else
 some ((false,()),())
theorem y4v (x:InD yq7):zjx ⟨yNt,10,yZX⟩ Tryz.f221.results.toList yM7 yq7 ywZ x=yzV x.1:=by kernel_rfl
theorem y1v:ConOk Tryz.prog 221 ⟨yq7,ywZ,fun x=>yzV x.1⟩:=zj2 (yXu) Tryz.func221 (by kernel_rfl) (by kernel_rfl) Tryz.ntmps221.symm (by decide) (fun x r h=>(y4v x).trans h)
def yip (a0:List Int):Bool :=
 bif (leb (a0.length:Int) 12) then
 let r1:=yaf a0
 r1
 else
 false
def yzv:Con:=⟨yq7,ywZ,fun x=>(fun n=>some ((n,()),())) (yip x.1)⟩
theorem y3K (a0:List Int):yzV a0=(fun n=>some ((n,()),())) (yip a0):=zkq (p:=fun (n:Bool)=>((n,()),())) (zkc (p:=fun (n:Bool)=>((n,()),())) rfl rfl)
theorem yLY:ConOk Tryz.prog 221 yzv:=(y1v).mono (fun x r _ h=>(y3K x.1).trans h)
theorem yH2:yip=yaj:=funext fun s=>by
 unfold yip yaj yaf
 rw [show yW=isW from funext fun x=>by unfold yW; rw [yag,ybE]; rfl]
 cases leb (s.length:Int) 12<;>rfl
end
section
def ybj:Code:=(Tryz.f133.body).getD .skip
def yfm:Env:=zj3 TT [(126,yy),(220,yqb),(221,yzv)] []
theorem yXp:FrOk Tryz.prog ⟨yfm,76,fun _=>none⟩ ybj:=zj7 yb yc ⟨yN,yzH,yLY,trivial⟩
def yIu:Nat→Option Seg:=fun _=>none
def ydy:Shape:=⟨[(1,false,[.ptr 0 0]),(10,false,[.br tL]),(11,false,[.int .i64]),(12,false,[.int .i64])],[(0,[.br tL,.br tW,.bool,.br tI])],[]⟩
def yjL:Shape:=⟨[(1,false,[.ptr 0 0]),(10,false,[.br tL]),(11,false,[.int .i64]),(12,false,[.ci .i64 0])],[(0,[.br tL,.br tW,.bool,.br tI])],[]⟩
def yjw:Shape:=⟨[(1,false,[.ptr 0 0])],[(0,[.br tL,.br tW,.bool,.br tI])],[]⟩
def ykc:Shape:=⟨[(2,false,[.bool])],[],[]⟩
abbrev yvq (v0:List (List Int)) (v1 v2:Int) (v3:dM):(ydy).X:=((((),()),(v0,()),(v1,()),(v2,()),()),((v3.1,v3.2.1,v3.2.2.1,v3.2.2.2,()),()),())
abbrev yT8 (v0:List (List Int)) (v1:Int) (v2:dM):(yjL).X:=((((),()),(v0,()),(v1,()),((),()),()),((v2.1,v2.2.1,v2.2.2.1,v2.2.2.2,()),()),())
abbrev yTZ (v0:dM):(yjw).X:=((((),()),()),((v0.1,v0.2.1,v0.2.2.1,v0.2.2.2,()),()),())
abbrev yUm (v0:Bool):(ykc).X:=(((v0,()),()),(),())
def yvP (v0:List (List Int)) (v1 v2:Int) (v3:List (List Int)) (v4:List dW) (v5:Bool) (v6:List Int):Option ((ydy).X ⊕ ((yjw).X ⊕ (ykc).X)) :=
 bif (ltb v2 v1) then
 bif (inb v2 v0.length) then
 let r2:=yip (nth v0 v2 [])
 bif (!r2) then
 some (.inr (.inr (((false,()),()),(),())))
 else
 some (.inl ((((),()),(v0,()),(v1,()),((IntKind.i64.wrap (v2+1)),()),()),((v3,v4,v5,v6,()),()),()))
 else none
 else
 some (.inr (.inl ((((),()),()),((v3,v4,v5,v6,()),()),())))
def yec (x:(ydy).X):=yvP x.1.2.1.1 x.1.2.2.1.1 x.1.2.2.2.1.1 x.2.1.1.1 x.2.1.1.2.1 x.2.1.1.2.2.1 x.2.1.1.2.2.2.1
def yEC (x:(yjL).X):(ydy).X:=((((),()),(x.1.2.1.1,()),(x.1.2.2.1.1,()),(0,()),()),((x.2.1.1.1,x.2.1.1.2.1,x.2.1.1.2.2.1,x.2.1.1.2.2.2.1,()),()),())
def yG3:Code:=(zdD ybj 64 52).getD .skip
theorem yWp:zdD ybj 64 13=some (.block 0 (.loop yG3)):=by kernel_rfl
theorem yZE (x:(ydy).X):zg0 ⟨yfm,76,yIu⟩ 0 yG3 52 ydy yjw ykc x=yec x:=by kernel_rfl
def yES (x:(yjL).X):Nat:=18446744073709551616
def ywF (x:(yjL).X):Option ((yjw).X ⊕ (ykc).X):=zz yec (yES x) (yEC x)
def yFD:Seg:=⟨yjL,yjw,ykc,ywF⟩
def yzo:Nat→Option Seg:=fun q=>bif Nat.beq q 13 then some yFD else yIu q
theorem yXq:FrOk Tryz.prog ⟨yfm,76,yzo⟩ ybj:=(yXp).loop (sg:=yFD) ydy yEC (by decide) yWp yec yES (by decide) (fun _=>rfl) (fun x r _ h=>h) yZE
def ydz:Shape:=⟨[(1,false,[.ptr 0 0]),(21,false,[.br tW]),(22,false,[.int .i64]),(23,false,[.int .i64])],[(0,[.br tL,.br tW,.bool,.br tI])],[]⟩
def yjM:Shape:=⟨[(1,false,[.ptr 0 0]),(21,false,[.br tW]),(22,false,[.int .i64]),(23,false,[.ci .i64 0])],[(0,[.br tL,.br tW,.bool,.br tI])],[]⟩
def yjx:Shape:=⟨[(1,false,[.ptr 0 0])],[(0,[.br tL,.br tW,.bool,.br tI])],[]⟩
def ykd:Shape:=⟨[(2,false,[.bool])],[],[]⟩
abbrev yvr (v0:List dW) (v1 v2:Int) (v3:dM):(ydz).X:=((((),()),(v0,()),(v1,()),(v2,()),()),((v3.1,v3.2.1,v3.2.2.1,v3.2.2.2,()),()),())
abbrev yT9 (v0:List dW) (v1:Int) (v2:dM):(yjM).X:=((((),()),(v0,()),(v1,()),((),()),()),((v2.1,v2.2.1,v2.2.2.1,v2.2.2.2,()),()),())
abbrev yT0 (v0:dM):(yjx).X:=((((),()),()),((v0.1,v0.2.1,v0.2.2.1,v0.2.2.2,()),()),())
abbrev yUn (v0:Bool):(ykd).X:=(((v0,()),()),(),())
def yvQ (v0:List dW) (v1 v2:Int) (v3:List (List Int)) (v4:List dW) (v5:Bool) (v6:List Int):Option ((ydz).X ⊕ ((yjx).X ⊕ (ykd).X)) :=
 bif (ltb v2 v1) then
 bif (inb v2 v0.length) then
 let r6:=ybz (v3,v4,v5,v6) ((nth v0 v2 (0,[])).1)
 bif (!(!r6)) then
 let r7:=yip ((nth v0 v2 (0,[])).2)
 bif (!r7) then
 some (.inr (.inr (((false,()),()),(),())))
 else
 some (.inl ((((),()),(v0,()),(v1,()),((IntKind.i64.wrap (v2+1)),()),()),((v3,v4,v5,v6,()),()),()))
 else
 some (.inr (.inr (((false,()),()),(),())))
 else none
 else
 some (.inr (.inl ((((),()),()),((v3,v4,v5,v6,()),()),())))
def yed (x:(ydz).X):=yvQ x.1.2.1.1 x.1.2.2.1.1 x.1.2.2.2.1.1 x.2.1.1.1 x.2.1.1.2.1 x.2.1.1.2.2.1 x.2.1.1.2.2.2.1
def yED (x:(yjM).X):(ydz).X:=((((),()),(x.1.2.1.1,()),(x.1.2.2.1.1,()),(0,()),()),((x.2.1.1.1,x.2.1.1.2.1,x.2.1.1.2.2.1,x.2.1.1.2.2.2.1,()),()),())
def yG4:Code:=(zdD ybj 64 116).getD .skip
theorem yWq:zdD ybj 64 29=some (.block 2 (.loop yG4)):=by kernel_rfl
theorem yZF (x:(ydz).X):zg0 ⟨yfm,76,yzo⟩ 2 yG4 116 ydz yjx ykd x=yed x:=by kernel_rfl
def yET (x:(yjM).X):Nat:=18446744073709551616
def ywG (x:(yjM).X):Option ((yjx).X ⊕ (ykd).X):=zz yed (yET x) (yED x)
def yFE:Seg:=⟨yjM,yjx,ykd,ywG⟩
def yzp:Nat→Option Seg:=fun q=>bif Nat.beq q 29 then some yFE else yzo q
theorem yXr:FrOk Tryz.prog ⟨yfm,76,yzp⟩ ybj:=(yXq).loop (sg:=yFE) ydz yED (by decide) yWq yed yET (by decide) (fun _=>rfl) (fun x r _ h=>h) yZF
def ydA:Shape:=⟨[(1,false,[.ptr 0 0]),(40,false,[.br tI]),(41,false,[.int .i64]),(42,false,[.int .i64])],[(0,[.br tL,.br tW,.bool,.br tI])],[]⟩
def yjN:Shape:=⟨[(1,false,[.ptr 0 0]),(40,false,[.br tI]),(41,false,[.int .i64]),(42,false,[.ci .i64 0])],[(0,[.br tL,.br tW,.bool,.br tI])],[]⟩
def yjy:Shape:=⟨[(1,false,[.ptr 0 0])],[(0,[.br tL,.br tW,.bool,.br tI])],[]⟩
def yke:Shape:=⟨[(2,false,[.bool])],[],[]⟩
abbrev yvs (v0:List Int) (v1 v2:Int) (v3:dM):(ydA).X:=((((),()),(v0,()),(v1,()),(v2,()),()),((v3.1,v3.2.1,v3.2.2.1,v3.2.2.2,()),()),())
abbrev yUa (v0:List Int) (v1:Int) (v2:dM):(yjN).X:=((((),()),(v0,()),(v1,()),((),()),()),((v2.1,v2.2.1,v2.2.2.1,v2.2.2.2,()),()),())
abbrev yT1 (v0:dM):(yjy).X:=((((),()),()),((v0.1,v0.2.1,v0.2.2.1,v0.2.2.2,()),()),())
abbrev yUo (v0:Bool):(yke).X:=(((v0,()),()),(),())
def yvR (v0:List Int) (v1 v2:Int) (v3:List (List Int)) (v4:List dW) (v5:Bool) (v6:List Int):Option ((ydA).X ⊕ ((yjy).X ⊕ (yke).X)) :=
 bif (ltb v2 v1) then
 bif (inb v2 v0.length) then
 let r10:=ybz (v3,v4,v5,v6) (nth v0 v2 0)
 bif (!(!r10)) then
 bif (ltb 0 v2) then
 bif (inb (IntKind.i64.wrap (v2 - 1)) v6.length) then
 bif (leb (nth v0 v2 0) (nth v6 (IntKind.i64.wrap (v2 - 1)) 0)) then
 some (.inr (.inr (((false,()),()),(),())))
 else
 some (.inl ((((),()),(v0,()),(v1,()),((IntKind.i64.wrap (v2+1)),()),()),((v3,v4,v5,v6,()),()),()))
 else none
 else
 some (.inl ((((),()),(v0,()),(v1,()),((IntKind.i64.wrap (v2+1)),()),()),((v3,v4,v5,v6,()),()),()))
 else
 some (.inr (.inr (((false,()),()),(),())))
 else none
 else
 some (.inr (.inl ((((),()),()),((v3,v4,v5,v6,()),()),())))
def yee (x:(ydA).X):=yvR x.1.2.1.1 x.1.2.2.1.1 x.1.2.2.2.1.1 x.2.1.1.1 x.2.1.1.2.1 x.2.1.1.2.2.1 x.2.1.1.2.2.2.1
def yEE (x:(yjN).X):(ydA).X:=((((),()),(x.1.2.1.1,()),(x.1.2.2.1.1,()),(0,()),()),((x.2.1.1.1,x.2.1.1.2.1,x.2.1.1.2.2.1,x.2.1.1.2.2.2.1,()),()),())
def yG5:Code:=(zdD ybj 64 244).getD .skip
theorem yWr:zdD ybj 64 61=some (.block 4 (.loop yG5)):=by kernel_rfl
theorem yZG (x:(ydA).X):zg0 ⟨yfm,76,yzp⟩ 4 yG5 244 ydA yjy yke x=yee x:=by kernel_rfl
def yEU (x:(yjN).X):Nat:=18446744073709551616
def ywH (x:(yjN).X):Option ((yjy).X ⊕ (yke).X):=zz yee (yEU x) (yEE x)
def yFF:Seg:=⟨yjN,yjy,yke,ywH⟩
def yIv:Nat→Option Seg:=fun q=>bif Nat.beq q 61 then some yFF else yzp q
theorem yXs:FrOk Tryz.prog ⟨yfm,76,yIv⟩ ybj:=(yXr).loop (sg:=yFF) ydA yEE (by decide) yWr yee yEU (by decide) (fun _=>rfl) (fun x r _ h=>h) yZG
abbrev ylO:List Par:= [.rd tM]
abbrev ywX:List OT:= [⟨false,tB,.fz⟩]
def ysJ (a0:dM):Option (ResD ywX×MutD ylO) :=
 zjZ (ywF ((((),()),(a0.1,()),((a0.1.length:Int),()),((),()),()),((a0.1,a0.2.1,a0.2.2.1,a0.2.2.2,()),()),())) (fun y2 =>
 zjZ (ywG ((((),()),(y2.2.1.1.2.1,()),((y2.2.1.1.2.1.length:Int),()),((),()),()),((y2.2.1.1.1,y2.2.1.1.2.1,y2.2.1.1.2.2.1,y2.2.1.1.2.2.2.1,()),()),())) (fun y7 =>
 zjZ (ywH ((((),()),(y7.2.1.1.2.2.2.1,()),((y7.2.1.1.2.2.2.1.length:Int),()),((),()),()),((y7.2.1.1.1,y7.2.1.1.2.1,y7.2.1.1.2.2.1,y7.2.1.1.2.2.2.1,()),()),())) (fun y10 =>
 let r12:=yf (y10.2.1.1.1.length:Int) 1 20
 bif r12 then
 some (((leb (y10.2.1.1.2.1.length:Int) 60),()),())
 else
 some ((false,()),())) (fun y10 =>
 some ((y10.1.1.1,()),()))) (fun y7 =>
 some ((y7.1.1.1,()),()))) (fun y2 =>
 some ((y2.1.1.1,()),()))
theorem y4t (x:InD ylO):zjx ⟨yfm,76,yIv⟩ Tryz.f133.results.toList ybj ylO ywX x=ysJ x.1:=by kernel_rfl
theorem y1t:ConOk Tryz.prog 133 ⟨ylO,ywX,fun x=>ysJ x.1⟩:=zj2 (yXs) Tryz.func133 (by kernel_rfl) (by kernel_rfl) Tryz.ntmps133.symm (by decide) (fun x r h=>(y4t x).trans h)
def ybv (a0:dM):Bool:=yw a0
theorem y3I (a0:dM) (hk:zi2 ylO (a0,())):ysJ a0=(fun n=>some ((n,()),())) (ybv a0):=by
 have hb1:a0.1.length * 24≤2 ^ 47:=hk.1.1.1
 have hb2:a0.2.1.length * 32≤2 ^ 47:=hk.1.2.1.1
 have hb3:a0.2.2.2.length * 8≤2 ^ 47:=hk.1.2.2.2.1
 have h1:ywF (yT8 a0.1 a0.1.length a0)=some (bif a0.1.all yaj then .inl (yTZ a0) else .inr (yUm false)) :=
  zjG (step:=yec) a0.1 [] (fun i=>yvq a0.1 a0.1.length i a0) yaj _ _ (fun i hi=>by
   simp only [yec,yvq,yvP,zj5 (show (i:Int) < a0.1.length by omega),cond_true,wr (show -9223372036854775808≤(i:Int)+1 by omega) (by omega),Int.natCast_add,Int.natCast_one,Int.toNat_natCast,zkm hi,zkn,yH2]
   cases yaj (a0.1.getD i [])<;>rfl) (by simp only [yec,yvq,yvP,zky (Int.le_refl _),cond_false]) _ (by show _ < 18446744073709551616; omega)
 have h2:ywG (yT9 a0.2.1 a0.2.1.length a0)=some (bif a0.2.1.all (yyy a0.1.length) then .inl (yT0 a0) else .inr (yUn false)) :=
  zjG (step:=yed) a0.2.1 (0,[]) (fun i=>yvr a0.2.1 a0.2.1.length i a0) (yyy a0.1.length) _ _ (fun i hi=>by
   simp only [yed,yvr,yvQ,zj5 (show (i:Int) < a0.2.1.length by omega),cond_true,wr (show -9223372036854775808≤(i:Int)+1 by omega) (by omega),Int.natCast_add,Int.natCast_one,Int.toNat_natCast,zkm hi,zkn,yH2,ybz,yag,yru (show a0.1.length≤1152921504606846976 by omega),yyy]
   cases inb (a0.2.1.getD i (0,[])).1 a0.1.length<;>cases yaj (a0.2.1.getD i (0,[])).2<;>rfl) (by simp only [yed,yvr,yvQ,zky (Int.le_refl _),cond_false]) _ (by show _ < 18446744073709551616; omega)
 have h3:ywH (yUa a0.2.2.2 a0.2.2.2.length a0)=some (bif (List.range a0.2.2.2.length).any (yG1 a0.1.length a0.2.2.2) then .inr (yUo false) else .inl (yT1 a0)) :=
  ziO (step:=yee) (fun i=>yvs a0.2.2.2 a0.2.2.2.length i a0) a0.2.2.2.length (yG1 a0.1.length a0.2.2.2) _ _ (fun i hi=>by
   simp only [yee,yvs,yvR,zj5 (show (i:Int) < a0.2.2.2.length by omega),cond_true,wr (show -9223372036854775808≤(i:Int)+1 by omega) (by omega),Int.natCast_add,Int.natCast_one,Int.toNat_natCast,zkm hi,zkn,ybz,yag,yru (show a0.1.length≤1152921504606846976 by omega),yG1]
   rcases Nat.eq_zero_or_pos i with rfl | h0
   ·cases inb (a0.2.2.2.getD 0 0) a0.1.length<;>rfl
   ·rw [show IntKind.i64.wrap ((i:Int) - 1)=((i - 1:Nat):Int) by rw [wr (by omega) (by omega)]; omega,zkm (show i - 1 < a0.2.2.2.length by omega),zkn,zj5 (show (0:Int) < i by omega),decide_eq_true h0]
    cases inb (a0.2.2.2.getD i 0) a0.1.length<;>cases leb (a0.2.2.2.getD i 0) (a0.2.2.2.getD (i - 1) 0)<;>rfl) (by simp only [yee,yvs,yvR,zky (Int.le_refl _),cond_false]) _ (by show _ < 18446744073709551616; omega)
 unfold ysJ ybv yw
 rw [h1]
 cases a0.1.all yaj
 ·rfl
 simp only [cond_true,zki,h2]
 cases a0.2.1.all (yyy a0.1.length)
 ·rfl
 simp only [cond_true,zki,h3,y2v,yag,ybE]
 cases ysv a0.1.length a0.2.2.2
 ·rfl
 simp only [Bool.not_true,cond_false,zki]
 cases leb 1 (a0.1.length:Int)<;>cases leb (a0.1.length:Int) 20<;>rfl
def ymo:Con:=⟨ylO,ywX,fun x=>(fun n=>some ((n,()),())) (ybv x.1)⟩
theorem yuX:ConOk Tryz.prog 133 ymo:=(y1t).mono (fun x r hk h=>(y3I x.1 hk).trans h)
end
section
def yqF:Code:=(Tryz.f45.body).getD .skip
def ywt:Env:=zj3 TT [(100,yEr),(122,ymn),(126,yy),(131,yxw),(132,yEp),(133,ymo)] []
theorem yXl:FrOk Tryz.prog ⟨ywt,103,fun _=>none⟩ yqF:=zj7 yb yc ⟨yZo,yuW,yN,yJV,yZm,yuX,trivial⟩
def yIs:Nat→Option Seg:=fun _=>none
def ydx:Shape:=⟨[(1,false,[.ptr 0 0]),(41,false,[.br tM]),(42,false,[.int .i64]),(43,false,[.int .i64])],[(0,[.int .i64,.int .i64,.int .i64,.br tM,.int .i64,.int .i64,.int .i64,.int .i64,.int .i64,.br tW,.int .i64,.bool,.bool])],[]⟩
def yjK:Shape:=⟨[(1,false,[.ptr 0 0]),(41,false,[.br tM]),(42,false,[.int .i64]),(43,false,[.ci .i64 0])],[(0,[.int .i64,.int .i64,.int .i64,.br tM,.int .i64,.int .i64,.int .i64,.int .i64,.int .i64,.br tW,.int .i64,.bool,.bool])],[]⟩
def yjv:Shape:=⟨[(1,false,[.ptr 0 0])],[(0,[.int .i64,.int .i64,.int .i64,.br tM,.int .i64,.int .i64,.int .i64,.int .i64,.int .i64,.br tW,.int .i64,.bool,.bool])],[]⟩
def yj9:Shape:=⟨[(2,false,[.bool])],[],[]⟩
abbrev yvp (v0:List dM) (v1 v2:Int) (v3:dA):(ydx).X:=((((),()),(v0,()),(v1,()),(v2,()),()),((v3.1,v3.2.1.1,v3.2.1.2,v3.2.2.1,v3.2.2.2.1,v3.2.2.2.2.1,v3.2.2.2.2.2.1,v3.2.2.2.2.2.2.1,v3.2.2.2.2.2.2.2.1,v3.2.2.2.2.2.2.2.2.1,v3.2.2.2.2.2.2.2.2.2.1,v3.2.2.2.2.2.2.2.2.2.2.1,v3.2.2.2.2.2.2.2.2.2.2.2,()),()),())
abbrev yT7 (v0:List dM) (v1:Int) (v2:dA):(yjK).X:=((((),()),(v0,()),(v1,()),((),()),()),((v2.1,v2.2.1.1,v2.2.1.2,v2.2.2.1,v2.2.2.2.1,v2.2.2.2.2.1,v2.2.2.2.2.2.1,v2.2.2.2.2.2.2.1,v2.2.2.2.2.2.2.2.1,v2.2.2.2.2.2.2.2.2.1,v2.2.2.2.2.2.2.2.2.2.1,v2.2.2.2.2.2.2.2.2.2.2.1,v2.2.2.2.2.2.2.2.2.2.2.2,()),()),())
abbrev yTY (v0:dA):(yjv).X:=((((),()),()),((v0.1,v0.2.1.1,v0.2.1.2,v0.2.2.1,v0.2.2.2.1,v0.2.2.2.2.1,v0.2.2.2.2.2.1,v0.2.2.2.2.2.2.1,v0.2.2.2.2.2.2.2.1,v0.2.2.2.2.2.2.2.2.1,v0.2.2.2.2.2.2.2.2.2.1,v0.2.2.2.2.2.2.2.2.2.2.1,v0.2.2.2.2.2.2.2.2.2.2.2,()),()),())
abbrev yUl (v0:Bool):(yj9).X:=(((v0,()),()),(),())
def yvO (v0:List dM) (v1 v2 v3 v4 v5:Int) (v6:List dM) (v7 v8 v9 v10 v11:Int) (v12:List dW) (v13:Int) (v14 v15:Bool):Option ((ydx).X ⊕ ((yjv).X ⊕ (yj9).X)) :=
 bif (ltb v2 v1) then
 bif (inb v2 v0.length) then
 let r7:=ybv ((nth v0 v2 ([],[],false,[])).1,((nth v0 v2 ([],[],false,[])).2).1,(((nth v0 v2 ([],[],false,[])).2).2))
 bif (!(!r7)) then
 let r8:=ysz (v4,v5)
 bif (!((((nth v0 v2 ([],[],false,[])).1).length:Int) !=r8)) then
 bif (((nth v0 v2 ([],[],false,[])).2).2).1 then
 bif (v7 !=v2) then
 bif (!v15) then
 some (.inr (.inr (((false,()),()),(),())))
 else
 some (.inl ((((),()),(v0,()),(v1,()),((IntKind.i64.wrap (v2+1)),()),()),((v3,v4,v5,v6,v7,v8,v9,v10,v11,v12,v13,v14,v15,()),()),()))
 else
 some (.inl ((((),()),(v0,()),(v1,()),((IntKind.i64.wrap (v2+1)),()),()),((v3,v4,v5,v6,v7,v8,v9,v10,v11,v12,v13,v14,v15,()),()),()))
 else
 some (.inl ((((),()),(v0,()),(v1,()),((IntKind.i64.wrap (v2+1)),()),()),((v3,v4,v5,v6,v7,v8,v9,v10,v11,v12,v13,v14,v15,()),()),()))
 else
 some (.inr (.inr (((false,()),()),(),())))
 else
 some (.inr (.inr (((false,()),()),(),())))
 else none
 else
 some (.inr (.inl ((((),()),()),((v3,v4,v5,v6,v7,v8,v9,v10,v11,v12,v13,v14,v15,()),()),())))
def yeb (x:(ydx).X):=yvO x.1.2.1.1 x.1.2.2.1.1 x.1.2.2.2.1.1 x.2.1.1.1 x.2.1.1.2.1 x.2.1.1.2.2.1 x.2.1.1.2.2.2.1 x.2.1.1.2.2.2.2.1 x.2.1.1.2.2.2.2.2.1 x.2.1.1.2.2.2.2.2.2.1 x.2.1.1.2.2.2.2.2.2.2.1 x.2.1.1.2.2.2.2.2.2.2.2.1 x.2.1.1.2.2.2.2.2.2.2.2.2.1 x.2.1.1.2.2.2.2.2.2.2.2.2.2.1 x.2.1.1.2.2.2.2.2.2.2.2.2.2.2.1 x.2.1.1.2.2.2.2.2.2.2.2.2.2.2.2.1
def yEB (x:(yjK).X):(ydx).X:=((((),()),(x.1.2.1.1,()),(x.1.2.2.1.1,()),(0,()),()),((x.2.1.1.1,x.2.1.1.2.1,x.2.1.1.2.2.1,x.2.1.1.2.2.2.1,x.2.1.1.2.2.2.2.1,x.2.1.1.2.2.2.2.2.1,x.2.1.1.2.2.2.2.2.2.1,x.2.1.1.2.2.2.2.2.2.2.1,x.2.1.1.2.2.2.2.2.2.2.2.1,x.2.1.1.2.2.2.2.2.2.2.2.2.1,x.2.1.1.2.2.2.2.2.2.2.2.2.2.1,x.2.1.1.2.2.2.2.2.2.2.2.2.2.2.1,x.2.1.1.2.2.2.2.2.2.2.2.2.2.2.2.1,()),()),())
def yG2:Code:=(zdD yqF 64 116).getD .skip
theorem yWo:zdD yqF 64 29=some (.block 0 (.loop yG2)):=by kernel_rfl
theorem yZD (x:(ydx).X):zg0 ⟨ywt,103,yIs⟩ 0 yG2 116 ydx yjv yj9 x=yeb x:=by kernel_rfl
def yER (x:(yjK).X):Nat:=18446744073709551616
def ywE (x:(yjK).X):Option ((yjv).X ⊕ (yj9).X):=zz yeb (yER x) (yEB x)
def yFC:Seg:=⟨yjK,yjv,yj9,ywE⟩
def yIt:Nat→Option Seg:=fun q=>bif Nat.beq q 29 then some yFC else yIs q
theorem yXm:FrOk Tryz.prog ⟨ywt,103,yIt⟩ yqF:=(yXl).loop (sg:=yFC) ydx yEB (by decide) yWo yeb yER (by decide) (fun _=>rfl) (fun x r _ h=>h) yZD
abbrev ylN:List Par:= [.rd tA]
abbrev ywU:List OT:= [⟨false,tB,.fz⟩]
def ysI (a0:dA):Option (ResD ywU×MutD ylN) :=
 let r1:=yct a0.2.1
 bif (!(!r1)) then
 bif (!((a0.2.2.1.length:Int) !=a0.2.1.1)) then
 let r2:=yf a0.1 1 60000
 bif (!(!r2)) then
 let r3:=ygs a0.2.1 a0.2.2.2.1 a0.2.2.2.2.1
 bif (!(!r3)) then
 bnd (ysD a0) fun r4 =>
 bif (!r4.1.1) then
 some ((false,()),())
 else
 zjZ (ywE ((((),()),(a0.2.2.1,()),((a0.2.2.1.length:Int),()),((),()),()),((a0.1,a0.2.1.1,a0.2.1.2,a0.2.2.1,a0.2.2.2.1,a0.2.2.2.2.1,a0.2.2.2.2.2.1,a0.2.2.2.2.2.2.1,a0.2.2.2.2.2.2.2.1,a0.2.2.2.2.2.2.2.2.1,a0.2.2.2.2.2.2.2.2.2.1,a0.2.2.2.2.2.2.2.2.2.2.1,a0.2.2.2.2.2.2.2.2.2.2.2,()),()),())) (fun y8 =>
 let r10:=yf y8.2.1.1.2.2.2.2.2.2.1 0 60000
 bif r10 then
 let r11:=yf y8.2.1.1.2.2.2.2.2.2.2.1 0 60000
 bif r11 then
 let r12:=yf y8.2.1.1.2.2.2.2.2.2.2.2.1 0 60000
 bif r12 then
 let r13:=yf (IntKind.i64.wrap (y8.2.1.1.2.2.2.2.2.2.1 - y8.2.1.1.2.2.2.2.2.2.2.1)) 0 4
 bif r13 then
 let r14:=yf y8.2.1.1.2.2.2.2.2.2.2.2.2.2.1 (-1) 1000
 some ((r14,()),())
 else
 some ((false,()),())
 else
 some ((false,()),())
 else
 some ((false,()),())
 else
 some ((false,()),())) (fun y8 =>
 some ((y8.1.1.1,()),()))
 else
 some ((false,()),())
 else
 some ((false,()),())
 else
 some ((false,()),())
 else
 some ((false,()),())
theorem y4q (x:InD ylN):zjx ⟨ywt,103,yIt⟩ Tryz.f45.results.toList yqF ylN ywU x=ysI x.1:=by kernel_rfl
theorem y1q:ConOk Tryz.prog 45 ⟨ylN,ywU,fun x=>ysI x.1⟩:=zj2 (yXm) Tryz.func45 (by kernel_rfl) (by kernel_rfl) Tryz.ntmps45.symm (by decide) (fun x r h=>(y4q x).trans h)
theorem y7m {S T G F z TS le:Bool} (h1:T=true→TS=true→S=true) (h2:S=true→T=true→z=(TS&&le)) :
  (bif S then bif T then bif G then bif z then some ((F,()),()) else some ((false,()),()) else some ((false,()),()) else some ((false,()),()) else some ((false,()),()))=some (((T&&(TS&&(le&&(G&&F)))),()),()):=by
 cases S
 ·cases T
  ·rfl
  ·cases TS
   ·rfl
   ·exact absurd (h1 rfl rfl) Bool.false_ne_true
 ·cases T
  ·cases G<;>rfl
  ·rw [h2 rfl rfl]
   cases TS<;>cases le<;>cases G<;>rfl
def yah (a0:dA):Bool:=yx a0
theorem y3F (a0:dA) (hk:zi2 ylN (a0,())):ysI a0=(fun n=>some ((n,()),())) (yah a0):=by
 have hb:a0.2.2.1.length * 80≤2 ^ 47:=hk.1.2.2.1.1
 unfold ysI yah yx
 simp only [yX7,yag,ybE]
 cases hg:yg a0.2.1
 ·rfl
 have hg2:=yk.1 hg
 have h1:ywE (yT7 a0.2.2.1 a0.2.2.1.length a0)=some (bif (List.range a0.2.2.1.length).any (yin a0) then .inr (yUl false) else .inl (yTY a0)) :=
  ziO (step:=yeb) (fun i=>yvp a0.2.2.1 a0.2.2.1.length i a0) a0.2.2.1.length (yin a0) _ _ (fun i hi=>by
   simp only [yeb,yvp,yvO,zj5 (show (i:Int) < a0.2.2.1.length by omega),cond_true,wr (show -9223372036854775808≤(i:Int)+1 by omega) (by omega),Int.natCast_add,Int.natCast_one,Int.toNat_natCast,zkm hi,zks,ybv,yin,ysz,wr (show -9223372036854775808≤6+a0.2.1.2 by omega) (by omega),noMem]
   rw [show (a0.2.2.2.1 !=(i:Int))=((i:Int) !=a0.2.2.2.1) from bne_comm]
   cases yw (nth a0.2.2.1 i ([],[],false,[]))<;>cases (((nth a0.2.2.1 i ([],[],false,[])).1.length:Int) !=6+a0.2.1.2)<;>cases (nth a0.2.2.1 i ([],[],false,[])).2.2.1<;>cases ((i:Int) !=a0.2.2.2.1)<;>cases a0.2.2.2.2.2.2.2.2.2.2.2<;>rfl) (by simp only [yeb,yvp,yvO,zky (Int.le_refl _),cond_false]) _ (by show _ < 18446744073709551616; omega)
 rw [yZy a0 hg,h1]
 simp only [zkd,ymC,ygs,yag,ybE,wr (show -9223372036854775808≤a0.2.1.1 - 1 by omega) (by omega),yoz]
 have hw:(leb 0 a0.2.2.2.2.2.1&&leb a0.2.2.2.2.2.1 60000)=true→(leb 0 a0.2.2.2.2.2.2.1&&leb a0.2.2.2.2.2.2.1 60000)=true→IntKind.i64.wrap (a0.2.2.2.2.2.1 - a0.2.2.2.2.2.2.1)=a0.2.2.2.2.2.1 - a0.2.2.2.2.2.2.1:=fun h h'=>by
  rw [Bool.and_eq_true,zjE,zjE]at h h'
  exact wr (by omega) (by omega)
 simp only [bne,Bool.not_not,cond_true,Bool.true_and]
 have h2:(leb 0 a0.2.2.2.2.2.1&&leb a0.2.2.2.2.2.1 60000)=true→(leb 0 a0.2.2.2.2.2.2.1&&leb a0.2.2.2.2.2.2.1 60000)=true→(leb 0 (IntKind.i64.wrap (a0.2.2.2.2.2.1 - a0.2.2.2.2.2.2.1))&&leb (IntKind.i64.wrap (a0.2.2.2.2.2.1 - a0.2.2.2.2.2.2.1)) 4)=((leb a0.2.2.2.2.2.2.1 a0.2.2.2.2.2.1&&leb a0.2.2.2.2.2.1 60000)&&leb a0.2.2.2.2.2.1 (a0.2.2.2.2.2.2.1+4)):=fun h h'=>by
  rw [hw h h',Bool.eq_iff_iff]
  simp only [Bool.and_eq_true,zjE]at h h' ⊢
  omega
 have h3:(leb 0 a0.2.2.2.2.2.2.1&&leb a0.2.2.2.2.2.2.1 60000)=true→(leb a0.2.2.2.2.2.2.1 a0.2.2.2.2.2.1&&leb a0.2.2.2.2.2.1 60000)=true→(leb 0 a0.2.2.2.2.2.1&&leb a0.2.2.2.2.2.1 60000)=true:=fun h h'=>by
  simp only [Bool.and_eq_true,zjE]at h h' ⊢
  omega
 cases ((a0.2.2.1.length:Int)==a0.2.1.1)
 ·cases (leb 1 a0.1&&leb a0.1 60000)<;>cases (List.range a0.2.2.1.length).any (yin a0)<;>rfl
 cases (leb 1 a0.1&&leb a0.1 60000)
 ·rfl
 cases (leb (-1) a0.2.2.2.1&&leb a0.2.2.2.1 (a0.2.1.1 - 1))
 ·cases (List.range a0.2.2.1.length).any (yin a0)<;>cases yaK a0.2.1 a0.2.2.2.2.2.2.2.2.1<;>rfl
 cases (leb 0 a0.2.2.2.2.1&&leb a0.2.2.2.2.1 a0.2.1.2)
 ·cases (List.range a0.2.2.1.length).any (yin a0)<;>cases yaK a0.2.1 a0.2.2.2.2.2.2.2.2.1<;>rfl
 cases yaK a0.2.1 a0.2.2.2.2.2.2.2.2.1
 ·cases (List.range a0.2.2.1.length).any (yin a0)<;>cases (a0.2.2.2.1== -1)<;>cases (a0.2.2.2.2.1==0)<;>rfl
 cases (List.range a0.2.2.1.length).any (yin a0)
 ·cases (a0.2.2.2.1== -1)<;>cases (a0.2.2.2.2.1==0)
  case true.false=>rfl
  all_goals exact y7m h3 h2
 ·cases (a0.2.2.2.1== -1)<;>cases (a0.2.2.2.2.1==0)<;>rfl
def yhw:Con:=⟨ylN,ywU,fun x=>(fun n=>some ((n,()),())) (yah x.1)⟩
theorem yoM:ConOk Tryz.prog 45 yhw:=(y1q).mono (fun x r hk h=>(y3F x.1 hk).trans h)
end
section
def yF7:Code:=(Tryz.f200.body).getD .skip
def yGN:Env:=zj3 TT [] []
theorem yOm:FrOk Tryz.prog ⟨yGN,6,fun _=>none⟩ yF7:=zj7 yb yc trivial
def yPT:Nat→Option Seg:=fun _=>none
abbrev yfV:List Par:= [.rd tL]
abbrev ypL:List OT:= [⟨false,tL,(.ow .fz)⟩]
def ylp (a0:List Int):Option (ResD ypL×MutD yfV) :=
 bif (zjR ([]:List Int).length a0.length 8) then
 some (((([]:List Int)++a0),()),())
 else none
theorem yWZ (x:InD yfV):zjx ⟨yGN,6,yPT⟩ Tryz.f200.results.toList yF7 yfV ypL x=ylp x.1:=by kernel_rfl
theorem yRD:ConOk Tryz.prog 200 ⟨yfV,ypL,fun x=>ylp x.1⟩:=zj2 (yOm) Tryz.func200 (by kernel_rfl) (by kernel_rfl) Tryz.ntmps200.symm (by decide) (fun x r h=>(yWZ x).trans h)
def yl (a0:List Int):List Int:=a0
theorem yUC (a0:List Int) (hk:zi2 yfV (a0,())):ylp a0=(fun n=>some ((n,()),())) (yl a0):=by
 have hb:a0.length * 8≤2 ^ 47:=hk.1.1
 unfold ylp yl
 rw [show zjR ([]:List Int).length a0.length 8=true by rw [zkb,List.length_nil]; omega]
 rfl
def yaS:Con:=⟨yfV,ypL,fun x=>(fun n=>some ((n,()),())) (yl x.1)⟩
theorem ycT:ConOk Tryz.prog 200 yaS:=(yRD).mono (fun x r hk h=>(yUC x.1 hk).trans h)
end
end
end Go.Tf
