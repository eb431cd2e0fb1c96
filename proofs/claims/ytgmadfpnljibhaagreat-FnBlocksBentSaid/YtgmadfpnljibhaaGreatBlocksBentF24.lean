/- Functions of the program, and what they come to. -/
import Derived.Test.YtgmadfpnljibhaaGreatBlocksBentF23
namespace Go.Tf
noncomputable section
open Go.Proofs
set_option synthInstance.maxHeartbeats 400000
set_option synthInstance.maxSize 10000
set_option linter.unusedVariables false
set_option linter.unusedSimpArgs false
set_option maxRecDepth 100000
section
def yVR:Code:=(Tryz.f12.body).getD .skip
def yWn:Env:=zj3 TT [] []
theorem y3D:FrOk Tryz.prog ⟨yWn,6,fun _=>none⟩ yVR:=zj7 yb yc trivial
def y4l:Nat→Option Seg:=fun _=>none
abbrev ywT:List Par:= [.rd tYs]
abbrev yDn:List OT:= [⟨false,tB,.fz⟩]
def yFA (a0:List Int):Option (ResD yDn×MutD ywT) :=
 some (((ltb 1048576 (a0.length:Int)),()),())
theorem y5Y (x:InD ywT):zjx ⟨yWn,6,y4l⟩ Tryz.f12.results.toList yVR ywT yDn x=yFA x.1:=by kernel_rfl
theorem y48:ConOk Tryz.prog 12 ⟨ywT,yDn,fun x=>yFA x.1⟩:=zj2 (y3D) Tryz.func12 (by kernel_rfl) (by kernel_rfl) Tryz.ntmps12.symm (by decide) (fun x r h=>(y5Y x).trans h)
def yDx (a0:List Int):Bool :=
 (ltb 1048576 (a0.length:Int))
def yNU:Con:=⟨ywT,yDn,fun x=>(fun n=>some ((n,()),())) (yDx x.1)⟩
theorem y5w (a0:List Int):yFA a0=(fun n=>some ((n,()),())) (yDx a0):=zkq (p:=fun (n:Bool)=>((n,()),())) rfl
theorem y5x:ConOk Tryz.prog 12 yNU:=(y48).mono (fun x r _ h=>(y5w x.1).trans h)
end
section
def yjj:Code:=(Tryz.f36.body).getD .skip
def ypx:Env:=zj3 TT [] []
theorem yOq:FrOk Tryz.prog ⟨ypx,26,fun _=>none⟩ yjj:=zj7 yb yc trivial
def yB3:Nat→Option Seg:=fun _=>none
def yc4:Shape:=⟨[(0,false,[.br tI]),(1,false,[.br tI]),(5,false,[.int .i64])],[],[]⟩
def yjP:Shape:=⟨[(0,false,[.br tI]),(1,false,[.br tI]),(5,false,[.ci .i64 0])],[],[]⟩
def yjA:Shape:=⟨[],[],[]⟩
def ykg:Shape:=⟨[(4,false,[.bool])],[],[]⟩
def ypm (v0 v1:List Int) (v2:Int):Option ((yc4).X ⊕ ((yjA).X ⊕ (ykg).X)) :=
 bif (ltb v2 (v0.length:Int)) then
 bif (inb v2 v0.length) then
 bif (inb v2 v1.length) then
 bif ((nth v0 v2 0) !=(nth v1 v2 0)) then
 some (.inr (.inr (((false,()),()),(),())))
 else
 some (.inl (((v0,()),(v1,()),((IntKind.i64.wrap (v2+1)),()),()),(),()))
 else none
 else none
 else
 some (.inr (.inl ((),(),())))
def ybN (x:(yc4).X):=ypm x.1.1.1 x.1.2.1.1 x.1.2.2.1.1
def yyX (x:(yjP).X):(yc4).X:=(((x.1.1.1,()),(x.1.2.1.1,()),(0,()),()),(),())
def yAs:Code:=(zdD yjj 64 116).getD .skip
theorem yNN:zdD yjj 64 29=some (.block 0 (.loop yAs)):=by kernel_rfl
theorem yPy (x:(yc4).X):zg0 ⟨ypx,26,yB3⟩ 0 yAs 116 yc4 yjA ykg x=ybN x:=by kernel_rfl
def yy6 (x:(yjP).X):Nat:=18446744073709551616
def yq0 (x:(yjP).X):Option ((yjA).X ⊕ (ykg).X):=zz ybN (yy6 x) (yyX x)
def yzk:Seg:=⟨yjP,yjA,ykg,yq0⟩
def yB4:Nat→Option Seg:=fun q=>bif Nat.beq q 29 then some yzk else yB3 q
theorem yOr:FrOk Tryz.prog ⟨ypx,26,yB4⟩ yjj:=(yOq).loop (sg:=yzk) yc4 yyX (by decide) yNN ybN yy6 (by decide) (fun _=>rfl) (fun x r _ h=>h) yPy
abbrev yfX:List Par:= [.rd tL,.rd tL]
abbrev ypO:List OT:= [⟨false,tB,.fz⟩]
def ylr (a0 a1:List Int):Option (ResD ypO×MutD yfX) :=
 bif ((a0.length:Int) !=(a1.length:Int)) then
 some ((false,()),())
 else
 zjZ (yq0 (((a0,()),(a1,()),((),()),()),(),())) (fun y0 =>
 some ((true,()),())) (fun y0 =>
 some ((y0.1.1.1,()),()))
theorem yW2 (x:InD yfX):zjx ⟨ypx,26,yB4⟩ Tryz.f36.results.toList yjj yfX ypO x=ylr x.1 x.2.1:=by kernel_rfl
theorem yRG:ConOk Tryz.prog 36 ⟨yfX,ypO,fun x=>ylr x.1 x.2.1⟩:=zj2 (yOr) Tryz.func36 (by kernel_rfl) (by kernel_rfl) Tryz.ntmps36.symm (by decide) (fun x r h=>(yW2 x).trans h)
def ya6 (a0 a1:List Int):Bool:=decide (a0=a1)
theorem yUF (a0 a1:List Int) (hk:zi2 yfX (a0,a1,())):ylr a0 a1=(fun n=>some ((n,()),())) (ya6 a0 a1):=by
 have hb:a0.length * 8≤2 ^ 47:=hk.1.1
 have hl:a0.length=a1.length→yq0 (((a0,()),(a1,()),((),()),()),(),())=some (bif (List.range a0.length).any (fun i=>a0.getD i 0 !=a1.getD i 0) then .inr (((false,()),()),(),()) else .inl ((),(),())):=fun hL =>
  ziO (step:=ybN) (fun i=>(((a0,()),(a1,()),((i:Int),()),()),(),())) a0.length (fun i=>a0.getD i 0 !=a1.getD i 0) _ _ (fun i hi=>by
   simp only [ybN,ypm,zkm hi,zkm (hL ▸ hi),zkn,zj5 (show (i:Int) < a0.length by omega),cond_true,wr (show -9223372036854775808≤(i:Int)+1 by omega) (by omega),Int.natCast_add,Int.natCast_one]
   cases (a0.getD i 0 !=a1.getD i 0)<;>rfl) (by simp only [ybN,ypm,zky (Int.le_refl _),cond_false]) _ (by show _ < 18446744073709551616; omega)
 unfold ylr ya6
 by_cases h:a0.length=a1.length
 ·rw [show ((a0.length:Int) !=(a1.length:Int))=false by simp [h],zku,hl h]
  by_cases e:a0=a1
  ·subst e
   have:(List.range a0.length).any (fun i=>a0.getD i 0 !=a0.getD i 0)=false:=by simp
   rw [this,decide_eq_true rfl]
   rfl
  ·have:(List.range a0.length).any (fun i=>a0.getD i 0 !=a1.getD i 0)=true:=by
    rcases Bool.eq_false_or_eq_true ((List.range a0.length).any (fun i=>a0.getD i 0 !=a1.getD i 0)) with h2 | h2
    ·exact h2
    ·refine absurd (List.ext_getElem h fun i h3 h4=> ?_) e
     rw [List.any_eq_false]at h2
     have:=h2 i (List.mem_range.2 h3)
     simpa [h3,h4] using this
   rw [this,decide_eq_false e]
   rfl
 ·rw [show ((a0.length:Int) !=(a1.length:Int))=true from bne_iff_ne.2 (by omega),zkv,decide_eq_false (fun e=>h (congrArg _ e))]
theorem yu2 (a:List Int):ya6 a a=true:=by unfold ya6; simp
def ytd:Con:=⟨yfX,ypO,fun x=>(fun n=>some ((n,()),())) (ya6 x.1 x.2.1)⟩
theorem yFk:ConOk Tryz.prog 36 ytd:=(yRG).mono (fun x r hk h=>(yUF x.1 x.2.1 hk).trans h)
end
section
def yhI:Code:=(Tryz.f56.body).getD .skip
def ym0:Env:=zj3 TT [(36,ytd)] []
theorem yMv:FrOk Tryz.prog ⟨ym0,42,fun _=>none⟩ yhI:=zj7 yb yc ⟨yFk,trivial⟩
def yAd:Nat→Option Seg:=fun _=>none
def yaU:Shape:=⟨[(0,false,[.br tW]),(1,false,[.br tW]),(5,false,[.int .i64])],[],[]⟩
def yeL:Shape:=⟨[(0,false,[.br tW]),(1,false,[.br tW]),(5,false,[.ci .i64 0])],[],[]⟩
def yeG:Shape:=⟨[],[],[]⟩
def yiF:Shape:=⟨[(4,false,[.bool])],[],[]⟩
abbrev ynq (v0 v1:List dW) (v2:Int):(yaU).X:=(((v0,()),(v1,()),(v2,()),()),(),())
abbrev yKw (v0 v1:List dW):(yeL).X:=(((v0,()),(v1,()),((),()),()),(),())
abbrev yxX  :(yeG).X:=((),(),())
def ynO (v0 v1:List dW) (v2:Int):Option ((yaU).X ⊕ ((yeG).X ⊕ (yiF).X)) :=
 bif (ltb v2 (v0.length:Int)) then
 bif (inb v2 v0.length) then
 bif (inb v2 v1.length) then
 bif (!((nth v0 v2 (0,[])).1 !=(nth v1 v2 (0,[])).1)) then
 bif (inb v2 v0.length) then
 bif (inb v2 v1.length) then
 let r2:=ya6 ((nth v0 v2 (0,[])).2) ((nth v1 v2 (0,[])).2)
 bif (!r2) then
 some (.inr (.inr (((false,()),()),(),())))
 else
 some (.inl (((v0,()),(v1,()),((IntKind.i64.wrap (v2+1)),()),()),(),()))
 else none
 else none
 else
 some (.inr (.inr (((false,()),()),(),())))
 else none
 else none
 else
 some (.inr (.inl ((),(),())))
def ybe (x:(yaU).X):=ynO x.1.1.1 x.1.2.1.1 x.1.2.2.1.1
def yxH (x:(yeL).X):(yaU).X:=(((x.1.1.1,()),(x.1.2.1.1,()),(0,()),()),(),())
def yyK:Code:=(zdD yhI 64 116).getD .skip
theorem yMg:zdD yhI 64 29=some (.block 0 (.loop yyK)):=by kernel_rfl
theorem yM0 (x:(yaU).X):zg0 ⟨ym0,42,yAd⟩ 0 yyK 116 yaU yeG yiF x=ybe x:=by kernel_rfl
def yxM (x:(yeL).X):Nat:=18446744073709551616
def yoY (x:(yeL).X):Option ((yeG).X ⊕ (yiF).X):=zz ybe (yxM x) (yxH x)
def yys:Seg:=⟨yeL,yeG,yiF,yoY⟩
def yAe:Nat→Option Seg:=fun q=>bif Nat.beq q 29 then some yys else yAd q
theorem yMw:FrOk Tryz.prog ⟨ym0,42,yAe⟩ yhI:=(yMv).loop (sg:=yys) yaU yxH (by decide) yMg ybe yxM (by decide) (fun _=>rfl) (fun x r _ h=>h) yM0
abbrev yhM:List Par:= [.rd tWs,.rd tWs]
abbrev ym7:List OT:= [⟨false,tB,.fz⟩]
def yde (a0 a1:List dW):Option (ResD ym7×MutD yhM) :=
 bif ((a0.length:Int) !=(a1.length:Int)) then
 some ((false,()),())
 else
 zjZ (yoY (((a0,()),(a1,()),((),()),()),(),())) (fun y2 =>
 some ((true,()),())) (fun y2 =>
 some ((y2.1.1.1,()),()))
theorem ySZ (x:InD yhM):zjx ⟨ym0,42,yAe⟩ Tryz.f56.results.toList yhI yhM ym7 x=yde x.1 x.2.1:=by kernel_rfl
theorem yPj:ConOk Tryz.prog 56 ⟨yhM,ym7,fun x=>yde x.1 x.2.1⟩:=zj2 (yMw) Tryz.func56 (by kernel_rfl) (by kernel_rfl) Tryz.ntmps56.symm (by decide) (fun x r h=>(ySZ x).trans h)
def yAz:Con:=⟨yhM,ym7,fun x=>yde x.1 x.2.1⟩
theorem yRX:ConOk Tryz.prog 56 yAz:=yPj
theorem y6c (l:List dW) (h:l.length≤1000000000):yde l l=some ((true,()),()):=by
 have l1:yoY (yKw l l)=some (.inl yxX) :=
  zj9 (step:=ybe) l.length (fun i (_:Unit)=>ynq l l i) (fun _ _=>()) (fun _ _=>True) (fun _=> .inl yxX) (fun i s hi _=>⟨by
   simp only [ybe,ynq,ynO,zj5 (show (i:Int) < l.length by omega),cond_true,wr (show -9223372036854775808≤(i:Int)+1 by omega) (by omega),Int.natCast_add,Int.natCast_one,Int.toNat_natCast,zkm hi,yu2,bne_self_eq_false,Bool.not_true,Bool.not_false,cond_true,cond_false],trivial⟩) (fun s _=>by simp only [ybe,ynq,ynO,zky (Int.le_refl _),cond_false]) () trivial 18446744073709551616 (by omega)
 unfold yde
 rw [bne_self_eq_false,cond_false]
 exact (congrArg (fun z=>zjZ z _ _) l1).trans rfl
end
section
def ycX:Code:=(Tryz.f167.body).getD .skip
def yhm:Env:=zj3 TT [(36,ytd)] []
theorem yQH:FrOk Tryz.prog ⟨yhm,93,fun _=>none⟩ ycX:=zj7 yb yc ⟨yFk,trivial⟩
def yDT:Nat→Option Seg:=fun _=>none
def yb0:Shape:=⟨[(2,false,[.ptr 0 0]),(3,false,[.ptr 64 0]),(5,false,[.int .i64])],[(0,[.br tL,.br tW,.bool,.br tI]),(64,[.br tL,.br tW,.bool,.br tI])],[]⟩
def ygS:Shape:=⟨[(2,false,[.ptr 0 0]),(3,false,[.ptr 64 0]),(5,false,[.ci .i64 0])],[(0,[.br tL,.br tW,.bool,.br tI]),(64,[.br tL,.br tW,.bool,.br tI])],[]⟩
def ygG:Shape:=⟨[(2,false,[.ptr 0 0]),(3,false,[.ptr 64 0])],[(0,[.br tL,.br tW,.bool,.br tI]),(64,[.br tL,.br tW,.bool,.br tI])],[]⟩
def yk5:Shape:=⟨[(4,false,[.bool])],[],[]⟩
abbrev yrC (v0:Int) (v1 v2:dM):(yb0).X:=((((),()),((),()),(v0,()),()),((v1.1,v1.2.1,v1.2.2.1,v1.2.2.2,()),(v2.1,v2.2.1,v2.2.2.1,v2.2.2.2,()),()),())
abbrev yOZ (v0 v1:dM):(ygS).X:=((((),()),((),()),((),()),()),((v0.1,v0.2.1,v0.2.2.1,v0.2.2.2,()),(v1.1,v1.2.1,v1.2.2.1,v1.2.2.2,()),()),())
abbrev yA9 (v0 v1:dM):(ygG).X:=((((),()),((),()),()),((v0.1,v0.2.1,v0.2.2.1,v0.2.2.2,()),(v1.1,v1.2.1,v1.2.2.1,v1.2.2.2,()),()),())
def yrV (v0:Int) (v1:List (List Int)) (v2:List dW) (v3:Bool) (v4:List Int) (v5:List (List Int)) (v6:List dW) (v7:Bool) (v8:List Int):Option ((yb0).X ⊕ ((ygG).X ⊕ (yk5).X)) :=
 bif (ltb v0 (v1.length:Int)) then
 bif (inb v0 v1.length) then
 bif (inb v0 v5.length) then
 let r3:=ya6 (nth v1 v0 []) (nth v5 v0 [])
 bif (!r3) then
 some (.inr (.inr (((false,()),()),(),())))
 else
 some (.inl ((((),()),((),()),((IntKind.i64.wrap (v0+1)),()),()),((v1,v2,v3,v4,()),(v5,v6,v7,v8,()),()),()))
 else none
 else none
 else
 some (.inr (.inl ((((),()),((),()),()),((v1,v2,v3,v4,()),(v5,v6,v7,v8,()),()),())))
def ycj (x:(yb0).X):=yrV x.1.2.2.1.1 x.2.1.1.1 x.2.1.1.2.1 x.2.1.1.2.2.1 x.2.1.1.2.2.2.1 x.2.1.2.1.1 x.2.1.2.1.2.1 x.2.1.2.1.2.2.1 x.2.1.2.1.2.2.2.1
def yAJ (x:(ygS).X):(yb0).X:=((((),()),((),()),(0,()),()),((x.2.1.1.1,x.2.1.1.2.1,x.2.1.1.2.2.1,x.2.1.1.2.2.2.1,()),(x.2.1.2.1.1,x.2.1.2.1.2.1,x.2.1.2.1.2.2.1,x.2.1.2.1.2.2.2.1,()),()),())
def yCm:Code:=(zdD ycX 64 116).getD .skip
theorem yQd:zdD ycX 64 29=some (.block 0 (.loop yCm)):=by kernel_rfl
theorem yR8 (x:(yb0).X):zg0 ⟨yhm,93,yDT⟩ 0 yCm 116 yb0 ygG yk5 x=ycj x:=by kernel_rfl
def yAY (x:(ygS).X):Nat:=18446744073709551616
def ys4 (x:(ygS).X):Option ((ygG).X ⊕ (yk5).X):=zz ycj (yAY x) (yAJ x)
def yBo:Seg:=⟨ygS,ygG,yk5,ys4⟩
def yu4:Nat→Option Seg:=fun q=>bif Nat.beq q 29 then some yBo else yDT q
theorem yQI:FrOk Tryz.prog ⟨yhm,93,yu4⟩ ycX:=(yQH).loop (sg:=yBo) yb0 yAJ (by decide) yQd ycj yAY (by decide) (fun _=>rfl) (fun x r _ h=>h) yR8
def yb1:Shape:=⟨[(2,false,[.ptr 0 0]),(3,false,[.ptr 64 0]),(6,false,[.int .i64])],[(0,[.br tL,.br tW,.bool,.br tI]),(64,[.br tL,.br tW,.bool,.br tI])],[]⟩
def ygT:Shape:=⟨[(2,false,[.ptr 0 0]),(3,false,[.ptr 64 0]),(6,false,[.ci .i64 0])],[(0,[.br tL,.br tW,.bool,.br tI]),(64,[.br tL,.br tW,.bool,.br tI])],[]⟩
def ygH:Shape:=⟨[],[],[]⟩
def yk6:Shape:=⟨[(4,false,[.bool])],[],[]⟩
abbrev yrD (v0:Int) (v1 v2:dM):(yb1).X:=((((),()),((),()),(v0,()),()),((v1.1,v1.2.1,v1.2.2.1,v1.2.2.2,()),(v2.1,v2.2.1,v2.2.2.1,v2.2.2.2,()),()),())
abbrev yO0 (v0 v1:dM):(ygT).X:=((((),()),((),()),((),()),()),((v0.1,v0.2.1,v0.2.2.1,v0.2.2.2,()),(v1.1,v1.2.1,v1.2.2.1,v1.2.2.2,()),()),())
abbrev yBa  :(ygH).X:=((),(),())
def yrW (v0:Int) (v1:List (List Int)) (v2:List dW) (v3:Bool) (v4:List Int) (v5:List (List Int)) (v6:List dW) (v7:Bool) (v8:List Int):Option ((yb1).X ⊕ ((ygH).X ⊕ (yk6).X)) :=
 bif (ltb v0 (v2.length:Int)) then
 bif (inb v0 v2.length) then
 bif (inb v0 v6.length) then
 bif (!((nth v2 v0 (0,[])).1 !=(nth v6 v0 (0,[])).1)) then
 bif (inb v0 v2.length) then
 bif (inb v0 v6.length) then
 let r6:=ya6 ((nth v2 v0 (0,[])).2) ((nth v6 v0 (0,[])).2)
 bif (!r6) then
 some (.inr (.inr (((false,()),()),(),())))
 else
 some (.inl ((((),()),((),()),((IntKind.i64.wrap (v0+1)),()),()),((v1,v2,v3,v4,()),(v5,v6,v7,v8,()),()),()))
 else none
 else none
 else
 some (.inr (.inr (((false,()),()),(),())))
 else none
 else none
 else
 some (.inr (.inl ((),(),())))
def yck (x:(yb1).X):=yrW x.1.2.2.1.1 x.2.1.1.1 x.2.1.1.2.1 x.2.1.1.2.2.1 x.2.1.1.2.2.2.1 x.2.1.2.1.1 x.2.1.2.1.2.1 x.2.1.2.1.2.2.1 x.2.1.2.1.2.2.2.1
def yAK (x:(ygT).X):(yb1).X:=((((),()),((),()),(0,()),()),((x.2.1.1.1,x.2.1.1.2.1,x.2.1.1.2.2.1,x.2.1.1.2.2.2.1,()),(x.2.1.2.1.1,x.2.1.2.1.2.1,x.2.1.2.1.2.2.1,x.2.1.2.1.2.2.2.1,()),()),())
def yCn:Code:=(zdD ycX 64 244).getD .skip
theorem yQe:zdD ycX 64 61=some (.block 2 (.loop yCn)):=by kernel_rfl
theorem yR9 (x:(yb1).X):zg0 ⟨yhm,93,yu4⟩ 2 yCn 244 yb1 ygH yk6 x=yck x:=by kernel_rfl
def yAZ (x:(ygT).X):Nat:=18446744073709551616
def ys5 (x:(ygT).X):Option ((ygH).X ⊕ (yk6).X):=zz yck (yAZ x) (yAK x)
def yBp:Seg:=⟨ygT,ygH,yk6,ys5⟩
def yDU:Nat→Option Seg:=fun q=>bif Nat.beq q 61 then some yBp else yu4 q
theorem yQJ:FrOk Tryz.prog ⟨yhm,93,yDU⟩ ycX:=(yQI).loop (sg:=yBp) yb1 yAK (by decide) yQe yck yAZ (by decide) (fun _=>rfl) (fun x r _ h=>h) yR9
abbrev ylX:List Par:= [.rd tM,.rd tM]
abbrev ysm:List OT:= [⟨false,tB,.fz⟩]
def ye8 (a0 a1:dM):Option (ResD ysm×MutD ylX) :=
 bif (!((a0.1.length:Int) !=(a1.1.length:Int))) then
 bif (!((a0.2.1.length:Int) !=(a1.2.1.length:Int))) then
 bif (!(!(a0.2.2.1==a1.2.2.1))) then
 let r1:=ya6 a0.2.2.2 a1.2.2.2
 bif (!r1) then
 some ((false,()),())
 else
 zjZ (ys4 ((((),()),((),()),((),()),()),((a0.1,a0.2.1,a0.2.2.1,a0.2.2.2,()),(a1.1,a1.2.1,a1.2.2.1,a1.2.2.2,()),()),())) (fun y3 =>
 zjZ (ys5 ((((),()),((),()),((),()),()),((y3.2.1.1.1,y3.2.1.1.2.1,y3.2.1.1.2.2.1,y3.2.1.1.2.2.2.1,()),(y3.2.1.2.1.1,y3.2.1.2.1.2.1,y3.2.1.2.1.2.2.1,y3.2.1.2.1.2.2.2.1,()),()),())) (fun y6 =>
 some ((true,()),())) (fun y6 =>
 some ((y6.1.1.1,()),()))) (fun y3 =>
 some ((y3.1.1.1,()),()))
 else
 some ((false,()),())
 else
 some ((false,()),())
 else
 some ((false,()),())
theorem y0u (x:InD ylX):zjx ⟨yhm,93,yDU⟩ Tryz.f167.results.toList ycX ylX ysm x=ye8 x.1 x.2.1:=by kernel_rfl
theorem yU4:ConOk Tryz.prog 167 ⟨ylX,ysm,fun x=>ye8 x.1 x.2.1⟩:=zj2 (yQJ) Tryz.func167 (by kernel_rfl) (by kernel_rfl) Tryz.ntmps167.symm (by decide) (fun x r h=>(y0u x).trans h)
def yEu:Con:=⟨ylX,ysm,fun x=>ye8 x.1 x.2.1⟩
theorem yZr:ConOk Tryz.prog 167 yEu:=yU4
theorem y66 (m:dM) (h1:m.1.length≤1000000000) (h2:m.2.1.length≤1000000000):ye8 m m=some ((true,()),()):=by
 have l1:ys4 (yOZ m m)=some (.inl (yA9 m m)) :=
  zj9 (step:=ycj) m.1.length (fun i (_:Unit)=>yrC i m m) (fun _ _=>()) (fun _ _=>True) (fun _=> .inl (yA9 m m)) (fun i s hi _=>⟨by
   simp only [ycj,yrC,yrV,zj5 (show (i:Int) < m.1.length by omega),cond_true,wr (show -9223372036854775808≤(i:Int)+1 by omega) (by omega),Int.natCast_add,Int.natCast_one,Int.toNat_natCast,zkm hi,yu2,Bool.not_true,cond_false],trivial⟩) (fun s _=>by simp only [ycj,yrC,yrV,zky (Int.le_refl _),cond_false]) () trivial 18446744073709551616 (by omega)
 have l2:ys5 (yO0 m m)=some (.inl yBa) :=
  zj9 (step:=yck) m.2.1.length (fun i (_:Unit)=>yrD i m m) (fun _ _=>()) (fun _ _=>True) (fun _=> .inl yBa) (fun i s hi _=>⟨by
   simp only [yck,yrD,yrW,zj5 (show (i:Int) < m.2.1.length by omega),cond_true,wr (show -9223372036854775808≤(i:Int)+1 by omega) (by omega),Int.natCast_add,Int.natCast_one,Int.toNat_natCast,zkm hi,yu2,bne_self_eq_false,Bool.not_true,Bool.not_false,cond_true,cond_false],trivial⟩) (fun s _=>by simp only [yck,yrD,yrW,zky (Int.le_refl _),cond_false]) () trivial 18446744073709551616 (by omega)
 unfold ye8
 simp only [bne_self_eq_false,beq_self_eq_true,yu2,Bool.not_true,Bool.not_false,cond_true,cond_false]
 refine (congrArg (fun z=>zjZ z _ _) l1).trans ?_
 rw [zki]
 exact (congrArg (fun z=>zjZ z _ _) l2).trans rfl
end
section
def yjk:Code:=(Tryz.f71.body).getD .skip
def ypy:Env:=zj3 TT [(167,yEu)] []
theorem yOs:FrOk Tryz.prog ⟨ypy,27,fun _=>none⟩ yjk:=zj7 yb yc ⟨yZr,trivial⟩
def yB5:Nat→Option Seg:=fun _=>none
def ybq:Shape:=⟨[(0,false,[.br tM]),(1,false,[.br tM]),(5,false,[.int .i64])],[],[]⟩
def yfB:Shape:=⟨[(0,false,[.br tM]),(1,false,[.br tM]),(5,false,[.ci .i64 0])],[],[]⟩
def yft:Shape:=⟨[],[],[]⟩
def ykh:Shape:=⟨[(4,false,[.bool])],[],[]⟩
abbrev yo7 (v0 v1:List dM) (v2:Int):(ybq).X:=(((v0,()),(v1,()),(v2,()),()),(),())
abbrev yMG (v0 v1:List dM):(yfB).X:=(((v0,()),(v1,()),((),()),()),(),())
abbrev yzc  :(yft).X:=((),(),())
def ypn (v0 v1:List dM) (v2:Int):Option ((ybq).X ⊕ ((yft).X ⊕ (ykh).X)) :=
 bif (ltb v2 (v0.length:Int)) then
 bif (inb v2 v0.length) then
 bif (inb v2 v1.length) then
 bnd (ye8 ((nth v0 v2 ([],[],false,[])).1,((nth v0 v2 ([],[],false,[])).2).1,(((nth v0 v2 ([],[],false,[])).2).2)) ((nth v1 v2 ([],[],false,[])).1,((nth v1 v2 ([],[],false,[])).2).1,(((nth v1 v2 ([],[],false,[])).2).2))) fun r2 =>
 bif (!r2.1.1) then
 some (.inr (.inr (((false,()),()),(),())))
 else
 some (.inl (((v0,()),(v1,()),((IntKind.i64.wrap (v2+1)),()),()),(),()))
 else none
 else none
 else
 some (.inr (.inl ((),(),())))
def ybO (x:(ybq).X):=ypn x.1.1.1 x.1.2.1.1 x.1.2.2.1.1
def yyY (x:(yfB).X):(ybq).X:=(((x.1.1.1,()),(x.1.2.1.1,()),(0,()),()),(),())
def yAt:Code:=(zdD yjk 64 116).getD .skip
theorem yNO:zdD yjk 64 29=some (.block 0 (.loop yAt)):=by kernel_rfl
theorem yPz (x:(ybq).X):zg0 ⟨ypy,27,yB5⟩ 0 yAt 116 ybq yft ykh x=ybO x:=by kernel_rfl
def yy7 (x:(yfB).X):Nat:=18446744073709551616
def yq1 (x:(yfB).X):Option ((yft).X ⊕ (ykh).X):=zz ybO (yy7 x) (yyY x)
def yzl:Seg:=⟨yfB,yft,ykh,yq1⟩
def yB6:Nat→Option Seg:=fun q=>bif Nat.beq q 29 then some yzl else yB5 q
theorem yOt:FrOk Tryz.prog ⟨ypy,27,yB6⟩ yjk:=(yOs).loop (sg:=yzl) ybq yyY (by decide) yNO ybO yy7 (by decide) (fun _=>rfl) (fun x r _ h=>h) yPz
abbrev yjr:List Par:= [.rd tMs,.rd tMs]
abbrev ypP:List OT:= [⟨false,tB,.fz⟩]
def yea (a0 a1:List dM):Option (ResD ypP×MutD yjr) :=
 bif ((a0.length:Int) !=(a1.length:Int)) then
 some ((false,()),())
 else
 zjZ (yq1 (((a0,()),(a1,()),((),()),()),(),())) (fun y2 =>
 some ((true,()),())) (fun y2 =>
 some ((y2.1.1.1,()),()))
theorem yW3 (x:InD yjr):zjx ⟨ypy,27,yB6⟩ Tryz.f71.results.toList yjk yjr ypP x=yea x.1 x.2.1:=by kernel_rfl
theorem yRH:ConOk Tryz.prog 71 ⟨yjr,ypP,fun x=>yea x.1 x.2.1⟩:=zj2 (yOt) Tryz.func71 (by kernel_rfl) (by kernel_rfl) Tryz.ntmps71.symm (by decide) (fun x r h=>(yW3 x).trans h)
def yCB:Con:=⟨yjr,ypP,fun x=>yea x.1 x.2.1⟩
theorem yVr:ConOk Tryz.prog 71 yCB:=yRH
theorem y6F (l:List dM) (h:l.length≤1000000000) (hm: ∀ m∈l,m.1.length≤1000000000∧m.2.1.length≤1000000000):yea l l=some ((true,()),()):=by
 have l1:yq1 (yMG l l)=some (.inl yzc) :=
  zj9 (step:=ybO) l.length (fun i (_:Unit)=>yo7 l l i) (fun _ _=>()) (fun _ _=>True) (fun _=> .inl yzc) (fun i s hi _=>⟨by
   have hn:=yzG (P:=fun m:dM=>m.1.length≤1000000000∧m.2.1.length≤1000000000) (d:=noMem) (zkm hi) hm
   simp only [ybO,yo7,ypn,zj5 (show (i:Int) < l.length by omega),cond_true,wr (show -9223372036854775808≤(i:Int)+1 by omega) (by omega),Int.natCast_add,Int.natCast_one,Int.toNat_natCast,zkm hi,zks]
   rw [y66 _ hn.1 hn.2]; rfl,trivial⟩) (fun s _=>by simp only [ybO,yo7,ypn,zky (Int.le_refl _),cond_false]) () trivial 18446744073709551616 (by omega)
 unfold yea
 rw [bne_self_eq_false,cond_false]
 exact (congrArg (fun z=>zjZ z _ _) l1).trans rfl
end
section
def yIh:Code:=(Tryz.f25.body).getD .skip
def yI2:Env:=zj3 TT [(56,yAz),(71,yCB)] []
theorem yQG:FrOk Tryz.prog ⟨yI2,87,fun _=>none⟩ yIh:=zj7 yb yc ⟨yRX,yVr,trivial⟩
def ySv:Nat→Option Seg:=fun _=>none
abbrev ylW:List Par:= [.rd tA,.rd tA]
abbrev ysl:List OT:= [⟨false,tB,.fz⟩]
def ybw (a0 a1:dA):Option (ResD ysl×MutD ylW) :=
 bif (a0.1==a1.1) then
 bif ((a0.2.1.1==a1.2.1.1)&&((a0.2.1.2==a1.2.1.2)&&true)) then
 bnd (yea a0.2.2.1 a1.2.2.1) fun r1 =>
 bif r1.1.1 then
 bif (a0.2.2.2.1==a1.2.2.2.1) then
 bif (a0.2.2.2.2.1==a1.2.2.2.2.1) then
 bif (a0.2.2.2.2.2.1==a1.2.2.2.2.2.1) then
 bif (a0.2.2.2.2.2.2.1==a1.2.2.2.2.2.2.1) then
 bif (a0.2.2.2.2.2.2.2.1==a1.2.2.2.2.2.2.2.1) then
 bnd (yde a0.2.2.2.2.2.2.2.2.1 a1.2.2.2.2.2.2.2.2.1) fun r2 =>
 bif r2.1.1 then
 bif (a0.2.2.2.2.2.2.2.2.2.1==a1.2.2.2.2.2.2.2.2.2.1) then
 bif (a0.2.2.2.2.2.2.2.2.2.2.1==a1.2.2.2.2.2.2.2.2.2.2.1) then
 some (((a0.2.2.2.2.2.2.2.2.2.2.2==a1.2.2.2.2.2.2.2.2.2.2.2),()),())
 else
 some ((false,()),())
 else
 some ((false,()),())
 else
 some ((false,()),())
 else
 some ((false,()),())
 else
 some ((false,()),())
 else
 some ((false,()),())
 else
 some ((false,()),())
 else
 some ((false,()),())
 else
 some ((false,()),())
 else
 some ((false,()),())
 else
 some ((false,()),())
theorem y0t (x:InD ylW):zjx ⟨yI2,87,ySv⟩ Tryz.f25.results.toList yIh ylW ysl x=ybw x.1 x.2.1:=by kernel_rfl
theorem yU3:ConOk Tryz.prog 25 ⟨ylW,ysl,fun x=>ybw x.1 x.2.1⟩:=zj2 (yQG) Tryz.func25 (by kernel_rfl) (by kernel_rfl) Tryz.ntmps25.symm (by decide) (fun x r h=>(y0t x).trans h)
def yEt:Con:=⟨ylW,ysl,fun x=>ybw x.1 x.2.1⟩
theorem yZq:ConOk Tryz.prog 25 yEt:=yU3
theorem yVM (a:dA) (h:yff a):ybw a a=some ((true,()),()):=by
 unfold ybw
 rw [y6F _ h.1 h.2.1,y6c _ h.2.2]
 simp only [beq_self_eq_true,Bool.and_self,zkd,cond_true]
end
end
end Go.Tf
