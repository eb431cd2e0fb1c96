/- Functions of the program, and what they come to. -/
import Derived.Test.YtgmadfpnljibhaaGreatFallsBentF1
namespace Go.Tf
noncomputable section
open Go.Proofs
set_option synthInstance.maxHeartbeats 400000
set_option synthInstance.maxSize 10000
set_option linter.unusedVariables false
set_option linter.unusedSimpArgs false
set_option maxRecDepth 100000
section
def ymU:Code:=(Tryz.f225.body).getD .skip
def ytY:Env:=zj2 TT [(181,yKE)] []
theorem yUI:FrOk Tryz.prog ⟨ytY,16,fun _=>none⟩ ymU:=zj6 yc yd ⟨y6R,trivial⟩
def yG0:Nat→Option Seg:=fun _=>none
def yeq:Shape:=⟨[(0,false,[.br tI]),(3,false,[.int .i64])],[],[]⟩
def ylZ:Shape:=⟨[(0,false,[.br tI]),(3,false,[.ci .i64 0])],[],[]⟩
def ylX:Shape:=⟨[],[],[]⟩
def ymc:Shape:=⟨[(2,false,[.bool])],[],[]⟩
def ytJ (v0:List Int) (v1:Int):Option ((yeq).X ⊕ ((ylX).X ⊕ (ymc).X)) :=
 bif (ltb v1 (v0.length:Int)) then
 bif (inb v1 v0.length) then
 let r2:=yar (nth v0 v1 0)
 bif (!r2) then
 some (.inr (.inr (((false,()),()),(),())))
 else
 some (.inl (((v0,()),((IntKind.i64.wrap (v1+1)),()),()),(),()))
 else none
 else
 some (.inr (.inl ((),(),())))
def ycH (x:(yeq).X):=ytJ x.1.1.1 x.1.2.1.1
def yDt (x:(ylZ).X):(yeq).X:=(((x.1.1.1,()),(0,()),()),(),())
def yFl:Code:=(zdD ymU 64 52).getD .skip
theorem yTW:zdD ymU 64 13=some (.block 0 (.loop yFl)):=by kernel_rfl
theorem yWb (x:(yeq).X):zg0 ⟨ytY,16,yG0⟩ 0 yFl 52 yeq ylX ymc x=ycH x:=by kernel_rfl
def yDL (x:(ylZ).X):Nat:=18446744073709551616
def yu5 (x:(ylZ).X):Option ((ylX).X ⊕ (ymc).X):=zz ycH (yDL x) (yDt x)
def yEe:Seg:=⟨ylZ,ylX,ymc,yu5⟩
def yG1:Nat→Option Seg:=fun q=>bif Nat.beq q 13 then some yEe else yG0 q
theorem yUJ:FrOk Tryz.prog ⟨ytY,16,yG1⟩ ymU:=(yUI).loop (sg:=yEe) yeq yDt (by decide) yTW ycH yDL (by decide) (fun _=>rfl) (fun x r _ h=>h) yWb
abbrev yij:List Par:= [.rd tL]
abbrev yul:List OT:= [⟨false,tB,.fz⟩]
def ypa (a0:List Int):Option (ResD yul×MutD yij) :=
 zjY (yu5 (((a0,()),((),()),()),(),())) (fun y2 =>
 some ((true,()),())) (fun y2 =>
 some ((y2.1.1.1,()),()))
theorem y5i (x:InD yij):zjw ⟨ytY,16,yG1⟩ Tryz.f225.results.toList ymU yij yul x=ypa x.1:=by kernel_rfl
theorem yZy:ConOk Tryz.prog 225 ⟨yij,yul,fun x=>ypa x.1⟩:=zj1 (yUJ) Tryz.func225 (by kernel_rfl) (by kernel_rfl) Tryz.ntmps225.symm (by decide) (fun x r h=>(y5i x).trans h)
def yX (a0:List Int):Bool:=a0.all yar
theorem y25 (a0:List Int) (hk:zi1 yij (a0,())):ypa a0=(fun n=>some ((n,()),())) (yX a0):=by
 have hb:a0.length * 8≤2 ^ 47:=hk.1.1
 have hl:yu5 (((a0,()),((),()),()),(),())=some (bif a0.all yar then .inl ((),(),()) else .inr (((false,()),()),(),())) :=
  zjF (step:=ycH) a0 0 (fun i=>(((a0,()),((i:Int),()),()),(),())) yar _ _ (fun i hi=>by
   simp only [ycH,ytJ,zkl hi,zkm,zj4 (show (i:Int) < a0.length by omega),cond_true,wr (show -9223372036854775808≤(i:Int)+1 by omega) (by omega),Int.natCast_add,Int.natCast_one]
   cases yar (a0.getD i 0)<;>rfl) (by simp only [ycH,ytJ,zkx (Int.le_refl _),cond_false]) _ (by show _ < 18446744073709551616; omega)
 unfold ypa yX
 rw [hl]
 cases a0.all yar<;>rfl
def yje:Con:=⟨yij,yul,fun x=>(fun n=>some ((n,()),())) (yX x.1)⟩
theorem yr4:ConOk Tryz.prog 225 yje:=(yZy).mono (fun x r hk h=>(y25 x.1 hk).trans h)
end
section
def yQG:Code:=(Tryz.f269.body).getD .skip
def yQY:Env:=zj2 TT [(225,yje)] []
theorem y13:FrOk Tryz.prog ⟨yQY,10,fun _=>none⟩ yQG:=zj6 yc yd ⟨yr4,trivial⟩
def y4D:Nat→Option Seg:=fun _=>none
abbrev ysS:List Par:= [.rd tL]
abbrev yy7:List OT:= [⟨false,tB,.fz⟩]
def yCs (a0:List Int):Option (ResD yy7×MutD ysS) :=
 bif (leb (a0.length:Int) 12) then
 let r1:=yX a0
 some ((r1,()),())
 else
 some ((false,()),())
theorem y9u (x:InD ysS):zjw ⟨yQY,10,y4D⟩ Tryz.f269.results.toList yQG ysS yy7 x=yCs x.1:=by kernel_rfl
theorem y6o:ConOk Tryz.prog 269 ⟨ysS,yy7,fun x=>yCs x.1⟩:=zj1 (y13) Tryz.func269 (by kernel_rfl) (by kernel_rfl) Tryz.ntmps269.symm (by decide) (fun x r h=>(y9u x).trans h)
def yjj (a0:List Int):Bool :=
 bif (leb (a0.length:Int) 12) then
 let r1:=yX a0
 r1
 else
 false
def yB0:Con:=⟨ysS,yy7,fun x=>(fun n=>some ((n,()),())) (yjj x.1)⟩
theorem y8H (a0:List Int):yCs a0=(fun n=>some ((n,()),())) (yjj a0):=zkp (p:=fun (n:Bool)=>((n,()),())) (zkb (p:=fun (n:Bool)=>((n,()),())) rfl rfl)
theorem yPr:ConOk Tryz.prog 269 yB0:=(y6o).mono (fun x r _ h=>(y8H x.1).trans h)
theorem yLB:yjj=yal:=funext fun s=>by
 unfold yjj yal yX
 rw [show yar=isW from funext fun x=>by unfold yar; rw [ybr]; rfl]
 cases leb (s.length:Int) 12<;>rfl
end
section
def ybu:Code:=(Tryz.f224.body).getD .skip
def yfY:Env:=zj2 TT [(135,yq),(269,yB0)] []
theorem y1W:FrOk Tryz.prog ⟨yfY,91,fun _=>none⟩ ybu:=zj6 yc yd ⟨yy,yPr,trivial⟩
def yL2:Nat→Option Seg:=fun _=>none
def ydX:Shape:=⟨[(1,false,[.ptr 0 0]),(3,false,[.int .i64]),(4,false,[.int .i64])],[(0,[.br tL,.br tW,.bool,.br tI])],[]⟩
def ykL:Shape:=⟨[(1,false,[.ptr 0 0]),(3,false,[.int .i64]),(4,false,[.ci .i64 0])],[(0,[.br tL,.br tW,.bool,.br tI])],[]⟩
def ykw:Shape:=⟨[(1,false,[.ptr 0 0]),(3,false,[.int .i64])],[(0,[.br tL,.br tW,.bool,.br tI])],[]⟩
def ylg:Shape:=⟨[(2,false,[.bool])],[],[]⟩
abbrev yxz (v0 v1:Int) (v2:dM):(ydX).X:=((((),()),(v0,()),(v1,()),()),((v2.1,v2.2.1,v2.2.2.1,v2.2.2.2,()),()),())
abbrev yYr (v0:Int) (v1:dM):(ykL).X:=((((),()),(v0,()),((),()),()),((v1.1,v1.2.1,v1.2.2.1,v1.2.2.2,()),()),())
abbrev yYh (v0:Int) (v1:dM):(ykw).X:=((((),()),(v0,()),()),((v1.1,v1.2.1,v1.2.2.1,v1.2.2.2,()),()),())
abbrev yYE (v0:Bool):(ylg).X:=(((v0,()),()),(),())
def yx1 (v0 v1:Int) (v2:List (List Int)) (v3:List dW) (v4:Bool) (v5:List Int):Option ((ydX).X ⊕ ((ykw).X ⊕ (ylg).X)) :=
 bif (ltb v1 v0) then
 bif (inb v1 v2.length) then
 let r2:=yjj (nth v2 v1 [])
 bif (!r2) then
 some (.inr (.inr (((false,()),()),(),())))
 else
 some (.inl ((((),()),(v0,()),((IntKind.i64.wrap (v1+1)),()),()),((v2,v3,v4,v5,()),()),()))
 else none
 else
 some (.inr (.inl ((((),()),(v0,()),()),((v2,v3,v4,v5,()),()),())))
def yez (x:(ydX).X):=yx1 x.1.2.1.1 x.1.2.2.1.1 x.2.1.1.1 x.2.1.1.2.1 x.2.1.1.2.2.1 x.2.1.1.2.2.2.1
def yHN (x:(ykL).X):(ydX).X:=((((),()),(x.1.2.1.1,()),(0,()),()),((x.2.1.1.1,x.2.1.1.2.1,x.2.1.1.2.2.1,x.2.1.1.2.2.2.1,()),()),())
def yKh:Code:=(zdD ybu 64 116).getD .skip
theorem y0U:zdD ybu 64 29=some (.block 0 (.loop yKh)):=by kernel_rfl
theorem y4k (x:(ydX).X):zg0 ⟨yfY,91,yL2⟩ 0 yKh 116 ydX ykw ylg x=yez x:=by kernel_rfl
def yH3 (x:(ykL).X):Nat:=18446744073709551616
def yyM (x:(ykL).X):Option ((ykw).X ⊕ (ylg).X):=zz yez (yH3 x) (yHN x)
def yIO:Seg:=⟨ykL,ykw,ylg,yyM⟩
def yBP:Nat→Option Seg:=fun q=>bif Nat.beq q 29 then some yIO else yL2 q
theorem y1X:FrOk Tryz.prog ⟨yfY,91,yBP⟩ ybu:=(y1W).loop (sg:=yIO) ydX yHN (by decide) y0U yez yH3 (by decide) (fun _=>rfl) (fun x r _ h=>h) y4k
def ydY:Shape:=⟨[(1,false,[.ptr 0 0]),(3,false,[.int .i64]),(5,false,[.int .i64])],[(0,[.br tL,.br tW,.bool,.br tI])],[]⟩
def ykM:Shape:=⟨[(1,false,[.ptr 0 0]),(3,false,[.int .i64]),(5,false,[.ci .i64 0])],[(0,[.br tL,.br tW,.bool,.br tI])],[]⟩
def ykx:Shape:=⟨[(1,false,[.ptr 0 0]),(3,false,[.int .i64])],[(0,[.br tL,.br tW,.bool,.br tI])],[]⟩
def ylh:Shape:=⟨[(2,false,[.bool])],[],[]⟩
abbrev yxA (v0 v1:Int) (v2:dM):(ydY).X:=((((),()),(v0,()),(v1,()),()),((v2.1,v2.2.1,v2.2.2.1,v2.2.2.2,()),()),())
abbrev yYs (v0:Int) (v1:dM):(ykM).X:=((((),()),(v0,()),((),()),()),((v1.1,v1.2.1,v1.2.2.1,v1.2.2.2,()),()),())
abbrev yYi (v0:Int) (v1:dM):(ykx).X:=((((),()),(v0,()),()),((v1.1,v1.2.1,v1.2.2.1,v1.2.2.2,()),()),())
abbrev yYF (v0:Bool):(ylh).X:=(((v0,()),()),(),())
def yx2 (v0 v1:Int) (v2:List (List Int)) (v3:List dW) (v4:Bool) (v5:List Int):Option ((ydY).X ⊕ ((ykx).X ⊕ (ylh).X)) :=
 bif (ltb v1 (v3.length:Int)) then
 bif (inb v1 v3.length) then
 let r6:=ya ((nth v3 v1 (0,[])).1) 0 (IntKind.i64.wrap (v0 - 1))
 bif (!(!r6)) then
 bif (inb v1 v3.length) then
 let r7:=yjj ((nth v3 v1 (0,[])).2)
 bif (!r7) then
 some (.inr (.inr (((false,()),()),(),())))
 else
 some (.inl ((((),()),(v0,()),((IntKind.i64.wrap (v1+1)),()),()),((v2,v3,v4,v5,()),()),()))
 else none
 else
 some (.inr (.inr (((false,()),()),(),())))
 else none
 else
 some (.inr (.inl ((((),()),(v0,()),()),((v2,v3,v4,v5,()),()),())))
def yeA (x:(ydY).X):=yx2 x.1.2.1.1 x.1.2.2.1.1 x.2.1.1.1 x.2.1.1.2.1 x.2.1.1.2.2.1 x.2.1.1.2.2.2.1
def yHO (x:(ykM).X):(ydY).X:=((((),()),(x.1.2.1.1,()),(0,()),()),((x.2.1.1.1,x.2.1.1.2.1,x.2.1.1.2.2.1,x.2.1.1.2.2.2.1,()),()),())
def yKi:Code:=(zdD ybu 64 244).getD .skip
theorem y0V:zdD ybu 64 61=some (.block 2 (.loop yKi)):=by kernel_rfl
theorem y4l (x:(ydY).X):zg0 ⟨yfY,91,yBP⟩ 2 yKi 244 ydY ykx ylh x=yeA x:=by kernel_rfl
def yH4 (x:(ykM).X):Nat:=18446744073709551616
def yyN (x:(ykM).X):Option ((ykx).X ⊕ (ylh).X):=zz yeA (yH4 x) (yHO x)
def yIP:Seg:=⟨ykM,ykx,ylh,yyN⟩
def yBQ:Nat→Option Seg:=fun q=>bif Nat.beq q 61 then some yIP else yBP q
theorem y1Y:FrOk Tryz.prog ⟨yfY,91,yBQ⟩ ybu:=(y1X).loop (sg:=yIP) ydY yHO (by decide) y0V yeA yH4 (by decide) (fun _=>rfl) (fun x r _ h=>h) y4l
def yc1:Shape:=⟨[(1,false,[.ptr 0 0]),(3,false,[.int .i64]),(6,false,[.int .i64])],[(0,[.br tL,.br tW,.bool,.br tI])],[]⟩
def yiW:Shape:=⟨[(1,false,[.ptr 0 0]),(3,false,[.int .i64]),(6,false,[.ci .i64 0])],[(0,[.br tL,.br tW,.bool,.br tI])],[]⟩
def yiJ:Shape:=⟨[(1,false,[.ptr 0 0]),(3,false,[.int .i64])],[(0,[.br tL,.br tW,.bool,.br tI])],[]⟩
def yja:Shape:=⟨[(2,false,[.bool])],[],[]⟩
abbrev yvn (v0 v1:Int) (v2:dM):(yc1).X:=((((),()),(v0,()),(v1,()),()),((v2.1,v2.2.1,v2.2.2.1,v2.2.2.2,()),()),())
abbrev yU5 (v0:Int) (v1:dM):(yiW).X:=((((),()),(v0,()),((),()),()),((v1.1,v1.2.1,v1.2.2.1,v1.2.2.2,()),()),())
abbrev yUW (v0:Int) (v1:dM):(yiJ).X:=((((),()),(v0,()),()),((v1.1,v1.2.1,v1.2.2.1,v1.2.2.2,()),()),())
abbrev yVe (v0:Bool):(yja).X:=(((v0,()),()),(),())
def yvH (v0 v1:Int) (v2:List (List Int)) (v3:List dW) (v4:Bool) (v5:List Int):Option ((yc1).X ⊕ ((yiJ).X ⊕ (yja).X)) :=
 bif (ltb v1 (v5.length:Int)) then
 bif (inb v1 v5.length) then
 let r10:=ya (nth v5 v1 0) 0 (IntKind.i64.wrap (v0 - 1))
 bif (!(!r10)) then
 bif (ltb 0 v1) then
 bif (inb (IntKind.i64.wrap (v1 - 1)) v5.length) then
 bif (inb v1 v5.length) then
 bif (leb (nth v5 v1 0) (nth v5 (IntKind.i64.wrap (v1 - 1)) 0)) then
 some (.inr (.inr (((false,()),()),(),())))
 else
 some (.inl ((((),()),(v0,()),((IntKind.i64.wrap (v1+1)),()),()),((v2,v3,v4,v5,()),()),()))
 else none
 else none
 else
 some (.inl ((((),()),(v0,()),((IntKind.i64.wrap (v1+1)),()),()),((v2,v3,v4,v5,()),()),()))
 else
 some (.inr (.inr (((false,()),()),(),())))
 else none
 else
 some (.inr (.inl ((((),()),(v0,()),()),((v2,v3,v4,v5,()),()),())))
def ydD (x:(yc1).X):=yvH x.1.2.1.1 x.1.2.2.1.1 x.2.1.1.1 x.2.1.1.2.1 x.2.1.1.2.2.1 x.2.1.1.2.2.2.1
def yFK (x:(yiW).X):(yc1).X:=((((),()),(x.1.2.1.1,()),(0,()),()),((x.2.1.1.1,x.2.1.1.2.1,x.2.1.1.2.2.1,x.2.1.1.2.2.2.1,()),()),())
def yHg:Code:=(zdD ybu 64 500).getD .skip
theorem yWR:zdD ybu 64 125=some (.block 4 (.loop yHg)):=by kernel_rfl
theorem yZ4 (x:(yc1).X):zg0 ⟨yfY,91,yBQ⟩ 4 yHg 500 yc1 yiJ yja x=ydD x:=by kernel_rfl
def yFX (x:(yiW).X):Nat:=18446744073709551616
def yxa (x:(yiW).X):Option ((yiJ).X ⊕ (yja).X):=zz ydD (yFX x) (yFK x)
def yGf:Seg:=⟨yiW,yiJ,yja,yxa⟩
def yL3:Nat→Option Seg:=fun q=>bif Nat.beq q 125 then some yGf else yBQ q
theorem y1Z:FrOk Tryz.prog ⟨yfY,91,yL3⟩ ybu:=(y1Y).loop (sg:=yGf) yc1 yFK (by decide) yWR ydD yFX (by decide) (fun _=>rfl) (fun x r _ h=>h) yZ4
abbrev ynb:List Par:= [.rd tM]
abbrev yy5:List OT:= [⟨false,tB,.fz⟩]
def yuI (a0:dM):Option (ResD yy5×MutD ynb) :=
 zjY (yyM ((((),()),((a0.1.length:Int),()),((),()),()),((a0.1,a0.2.1,a0.2.2.1,a0.2.2.2,()),()),())) (fun y2 =>
 zjY (yyN ((((),()),(y2.1.2.1.1,()),((),()),()),((y2.2.1.1.1,y2.2.1.1.2.1,y2.2.1.1.2.2.1,y2.2.1.1.2.2.2.1,()),()),())) (fun y7 =>
 zjY (yxa ((((),()),(y7.1.2.1.1,()),((),()),()),((y7.2.1.1.1,y7.2.1.1.2.1,y7.2.1.1.2.2.1,y7.2.1.1.2.2.2.1,()),()),())) (fun y10 =>
 let r12:=ya y10.1.2.1.1 1 20
 bif r12 then
 some (((leb (y10.2.1.1.2.1.length:Int) 60),()),())
 else
 some ((false,()),())) (fun y10 =>
 some ((y10.1.1.1,()),()))) (fun y7 =>
 some ((y7.1.1.1,()),()))) (fun y2 =>
 some ((y2.1.1.1,()),()))
theorem y9s (x:InD ynb):zjw ⟨yfY,91,yL3⟩ Tryz.f224.results.toList ybu ynb yy5 x=yuI x.1:=by kernel_rfl
theorem y6m:ConOk Tryz.prog 224 ⟨ynb,yy5,fun x=>yuI x.1⟩:=zj1 (y1Z) Tryz.func224 (by kernel_rfl) (by kernel_rfl) Tryz.ntmps224.symm (by decide) (fun x r h=>(y9s x).trans h)
def yab (a0:dM):Bool:=yu a0
theorem y8F (a0:dM) (hk:zi1 ynb (a0,())):yuI a0=(fun n=>some ((n,()),())) (yab a0):=by
 have hb1:a0.1.length * 24≤2 ^ 47:=hk.1.1.1
 have hb2:a0.2.1.length * 32≤2 ^ 47:=hk.1.2.1.1
 have hb3:a0.2.2.2.length * 8≤2 ^ 47:=hk.1.2.2.2.1
 have h1:yyM (yYr a0.1.length a0)=some (bif a0.1.all yal then .inl (yYh a0.1.length a0) else .inr (yYE false)) :=
  zjF (step:=yez) a0.1 [] (fun i=>yxz a0.1.length i a0) yal _ _ (fun i hi=>by
   simp only [yez,yxz,yx1,zj4 (show (i:Int) < a0.1.length by omega),cond_true,wr (show -9223372036854775808≤(i:Int)+1 by omega) (by omega),Int.natCast_add,Int.natCast_one,Int.toNat_natCast,zkl hi,zkm,yLB]
   cases yal (a0.1.getD i [])<;>rfl) (by simp only [yez,yxz,yx1,zkx (Int.le_refl _),cond_false]) _ (by show _ < 18446744073709551616; omega)
 have h2:yyN (yYs a0.1.length a0)=some (bif a0.2.1.all (yAN a0.1.length) then .inl (yYi a0.1.length a0) else .inr (yYF false)) :=
  zjF (step:=yeA) a0.2.1 (0,[]) (fun i=>yxA a0.1.length i a0) (yAN a0.1.length) _ _ (fun i hi=>by
   simp only [yeA,yxA,yx2,zj4 (show (i:Int) < a0.2.1.length by omega),cond_true,wr (show -9223372036854775808≤(i:Int)+1 by omega) (by omega),Int.natCast_add,Int.natCast_one,Int.toNat_natCast,zkl hi,zkm,yLB,yvZ (show a0.1.length≤1152921504606846976 by omega),yAN]
   cases inb (a0.2.1.getD i (0,[])).1 a0.1.length<;>cases yal (a0.2.1.getD i (0,[])).2<;>rfl) (by simp only [yeA,yxA,yx2,zkx (Int.le_refl _),cond_false]) _ (by show _ < 18446744073709551616; omega)
 have h3:yxa (yU5 a0.1.length a0)=some (bif (List.range a0.2.2.2.length).any (yKa a0.1.length a0.2.2.2) then .inr (yVe false) else .inl (yUW a0.1.length a0)) :=
  ziN (step:=ydD) (fun i=>yvn a0.1.length i a0) a0.2.2.2.length (yKa a0.1.length a0.2.2.2) _ _ (fun i hi=>by
   simp only [ydD,yvn,yvH,zj4 (show (i:Int) < a0.2.2.2.length by omega),cond_true,wr (show -9223372036854775808≤(i:Int)+1 by omega) (by omega),Int.natCast_add,Int.natCast_one,Int.toNat_natCast,zkl hi,zkm,yvZ (show a0.1.length≤1152921504606846976 by omega),yKa]
   rcases Nat.eq_zero_or_pos i with rfl | h0
   ·cases inb (a0.2.2.2.getD 0 0) a0.1.length<;>rfl
   ·rw [show IntKind.i64.wrap ((i:Int) - 1)=((i - 1:Nat):Int) by rw [wr (by omega) (by omega)]; omega,zkl (show i - 1 < a0.2.2.2.length by omega),zkm,zj4 (show (0:Int) < i by omega),decide_eq_true h0]
    cases inb (a0.2.2.2.getD i 0) a0.1.length<;>cases leb (a0.2.2.2.getD i 0) (a0.2.2.2.getD (i - 1) 0)<;>rfl) (by simp only [ydD,yvn,yvH,zkx (Int.le_refl _),cond_false]) _ (by show _ < 18446744073709551616; omega)
 unfold yuI yab yu
 rw [h1]
 cases a0.1.all yal
 ·rfl
 simp only [cond_true,zkh,h2]
 cases a0.2.1.all (yAN a0.1.length)
 ·rfl
 simp only [cond_true,zkh,h3,y7b,ybr]
 cases yuq a0.1.length a0.2.2.2
 ·rfl
 simp only [Bool.not_true,cond_false,zkh]
 cases leb 1 (a0.1.length:Int)<;>cases leb (a0.1.length:Int) 20<;>rfl
def yfB:Con:=⟨ynb,yy5,fun x=>(fun n=>some ((n,()),())) (yab x.1)⟩
theorem yj1:ConOk Tryz.prog 224 yfB:=(y6m).mono (fun x r hk h=>(y8F x.1 hk).trans h)
end
section
def ypu:Code:=(Tryz.f136.body).getD .skip
def yv9:Env:=zj2 TT [(139,yrV),(224,yfB)] []
theorem yXW:FrOk Tryz.prog ⟨yv9,51,fun _=>none⟩ ypu:=zj6 yc yd ⟨yCd,yj1,trivial⟩
def yJF:Nat→Option Seg:=fun _=>none
def yc8:Shape:=⟨[(1,false,[.ptr 0 0]),(3,false,[.int .i64])],[(0,[.int .i64,.int .i64,.int .i64,.br tM,.int .i64,.int .i64,.int .i64,.int .i64,.int .i64,.br tW,.int .i64,.bool,.bool])],[]⟩
def yi3:Shape:=⟨[(1,false,[.ptr 0 0]),(3,false,[.ci .i64 0])],[(0,[.int .i64,.int .i64,.int .i64,.br tM,.int .i64,.int .i64,.int .i64,.int .i64,.int .i64,.br tW,.int .i64,.bool,.bool])],[]⟩
def yiQ:Shape:=⟨[(1,false,[.ptr 0 0])],[(0,[.int .i64,.int .i64,.int .i64,.br tM,.int .i64,.int .i64,.int .i64,.int .i64,.int .i64,.br tW,.int .i64,.bool,.bool])],[]⟩
def yjb:Shape:=⟨[(2,false,[.bool])],[],[]⟩
abbrev yvs (v0:Int) (v1:dA):(yc8).X:=((((),()),(v0,()),()),((v1.1,v1.2.1.1,v1.2.1.2,v1.2.2.1,v1.2.2.2.1,v1.2.2.2.2.1,v1.2.2.2.2.2.1,v1.2.2.2.2.2.2.1,v1.2.2.2.2.2.2.2.1,v1.2.2.2.2.2.2.2.2.1,v1.2.2.2.2.2.2.2.2.2.1,v1.2.2.2.2.2.2.2.2.2.2.1,v1.2.2.2.2.2.2.2.2.2.2.2,()),()),())
abbrev yVb (v0:dA):(yi3).X:=((((),()),((),()),()),((v0.1,v0.2.1.1,v0.2.1.2,v0.2.2.1,v0.2.2.2.1,v0.2.2.2.2.1,v0.2.2.2.2.2.1,v0.2.2.2.2.2.2.1,v0.2.2.2.2.2.2.2.1,v0.2.2.2.2.2.2.2.2.1,v0.2.2.2.2.2.2.2.2.2.1,v0.2.2.2.2.2.2.2.2.2.2.1,v0.2.2.2.2.2.2.2.2.2.2.2,()),()),())
abbrev yU0 (v0:dA):(yiQ).X:=((((),()),()),((v0.1,v0.2.1.1,v0.2.1.2,v0.2.2.1,v0.2.2.2.1,v0.2.2.2.2.1,v0.2.2.2.2.2.1,v0.2.2.2.2.2.2.1,v0.2.2.2.2.2.2.2.1,v0.2.2.2.2.2.2.2.2.1,v0.2.2.2.2.2.2.2.2.2.1,v0.2.2.2.2.2.2.2.2.2.2.1,v0.2.2.2.2.2.2.2.2.2.2.2,()),()),())
abbrev yVf (v0:Bool):(yjb).X:=(((v0,()),()),(),())
def yvN (v0 v1 v2 v3:Int) (v4:List dM) (v5 v6 v7 v8 v9:Int) (v10:List dW) (v11:Int) (v12 v13:Bool):Option ((yc8).X ⊕ ((yiQ).X ⊕ (yjb).X)) :=
 bif (ltb v0 (v4.length:Int)) then
 bif (inb v0 v4.length) then
 let r3:=yab ((nth v4 v0 ([],[],false,[])).1,((nth v4 v0 ([],[],false,[])).2).1,(((nth v4 v0 ([],[],false,[])).2).2))
 bif (!(!r3)) then
 let r4:=ycT (v2,v3)
 bif (!((((nth v4 v0 ([],[],false,[])).1).length:Int) !=r4)) then
 bif (((nth v4 v0 ([],[],false,[])).2).2).1 then
 bif (v0 !=v5) then
 bif (!v13) then
 some (.inr (.inr (((false,()),()),(),())))
 else
 some (.inl ((((),()),((IntKind.i64.wrap (v0+1)),()),()),((v1,v2,v3,v4,v5,v6,v7,v8,v9,v10,v11,v12,v13,()),()),()))
 else
 some (.inl ((((),()),((IntKind.i64.wrap (v0+1)),()),()),((v1,v2,v3,v4,v5,v6,v7,v8,v9,v10,v11,v12,v13,()),()),()))
 else
 some (.inl ((((),()),((IntKind.i64.wrap (v0+1)),()),()),((v1,v2,v3,v4,v5,v6,v7,v8,v9,v10,v11,v12,v13,()),()),()))
 else
 some (.inr (.inr (((false,()),()),(),())))
 else
 some (.inr (.inr (((false,()),()),(),())))
 else none
 else
 some (.inr (.inl ((((),()),()),((v1,v2,v3,v4,v5,v6,v7,v8,v9,v10,v11,v12,v13,()),()),())))
def ydI (x:(yc8).X):=yvN x.1.2.1.1 x.2.1.1.1 x.2.1.1.2.1 x.2.1.1.2.2.1 x.2.1.1.2.2.2.1 x.2.1.1.2.2.2.2.1 x.2.1.1.2.2.2.2.2.1 x.2.1.1.2.2.2.2.2.2.1 x.2.1.1.2.2.2.2.2.2.2.1 x.2.1.1.2.2.2.2.2.2.2.2.1 x.2.1.1.2.2.2.2.2.2.2.2.2.1 x.2.1.1.2.2.2.2.2.2.2.2.2.2.1 x.2.1.1.2.2.2.2.2.2.2.2.2.2.2.1 x.2.1.1.2.2.2.2.2.2.2.2.2.2.2.2.1
def yFR (x:(yi3).X):(yc8).X:=((((),()),(0,()),()),((x.2.1.1.1,x.2.1.1.2.1,x.2.1.1.2.2.1,x.2.1.1.2.2.2.1,x.2.1.1.2.2.2.2.1,x.2.1.1.2.2.2.2.2.1,x.2.1.1.2.2.2.2.2.2.1,x.2.1.1.2.2.2.2.2.2.2.1,x.2.1.1.2.2.2.2.2.2.2.2.1,x.2.1.1.2.2.2.2.2.2.2.2.2.1,x.2.1.1.2.2.2.2.2.2.2.2.2.2.1,x.2.1.1.2.2.2.2.2.2.2.2.2.2.2.1,x.2.1.1.2.2.2.2.2.2.2.2.2.2.2.2.1,()),()),())
def yHn:Code:=(zdD ypu 64 52).getD .skip
theorem yWY:zdD ypu 64 13=some (.block 0 (.loop yHn)):=by kernel_rfl
theorem y0b (x:(yc8).X):zg0 ⟨yv9,51,yJF⟩ 0 yHn 52 yc8 yiQ yjb x=ydI x:=by kernel_rfl
def yF4 (x:(yi3).X):Nat:=18446744073709551616
def yxg (x:(yi3).X):Option ((yiQ).X ⊕ (yjb).X):=zz ydI (yF4 x) (yFR x)
def yGm:Seg:=⟨yi3,yiQ,yjb,yxg⟩
def yJG:Nat→Option Seg:=fun q=>bif Nat.beq q 13 then some yGm else yJF q
theorem yXX:FrOk Tryz.prog ⟨yv9,51,yJG⟩ ypu:=(yXW).loop (sg:=yGm) yc8 yFR (by decide) yWY ydI yF4 (by decide) (fun _=>rfl) (fun x r _ h=>h) y0b
abbrev yg6:List Par:= [.rd tA]
abbrev ypY:List OT:= [⟨false,tB,.fz⟩]
def ysk (a0:dA):Option (ResD ypY×MutD yg6) :=
 zjY (yxg ((((),()),((),()),()),((a0.1,a0.2.1.1,a0.2.1.2,a0.2.2.1,a0.2.2.2.1,a0.2.2.2.2.1,a0.2.2.2.2.2.1,a0.2.2.2.2.2.2.1,a0.2.2.2.2.2.2.2.1,a0.2.2.2.2.2.2.2.2.1,a0.2.2.2.2.2.2.2.2.2.1,a0.2.2.2.2.2.2.2.2.2.2.1,a0.2.2.2.2.2.2.2.2.2.2.2,()),()),())) (fun y4 =>
 some ((((y4.2.1.1.2.2.2.1.length:Int)==y4.2.1.1.2.1),()),())) (fun y4 =>
 some ((y4.1.1.1,()),()))
theorem y8j (x:InD yg6):zjw ⟨yv9,51,yJG⟩ Tryz.f136.results.toList ypu yg6 ypY x=ysk x.1:=by kernel_rfl
theorem y3K:ConOk Tryz.prog 136 ⟨yg6,ypY,fun x=>ysk x.1⟩:=zj1 (yXX) Tryz.func136 (by kernel_rfl) (by kernel_rfl) Tryz.ntmps136.symm (by decide) (fun x r h=>(y8j x).trans h)
def yqg (a0:dA):Bool:=yp4 a0
def yEy (a0:dA):Bool:=yf a0.2.1
theorem y56 (a0:dA) (hk:zi1 yg6 (a0,())) (hq:yEy a0=true):ysk a0=(fun n=>some ((n,()),())) (yqg a0):=by
 have hb:a0.2.2.1.length * 80≤2 ^ 47:=hk.1.2.2.1.1
 have hg:=yk.1 hq
 have h1:yxg (yVb a0)=some (bif (List.range a0.2.2.1.length).any (yjf a0) then .inr (yVf false) else .inl (yU0 a0)) :=
  ziN (step:=ydI) (fun i=>yvs i a0) a0.2.2.1.length (yjf a0) _ _ (fun i hi=>by
   simp only [ydI,yvs,yvN,zj4 (show (i:Int) < a0.2.2.1.length by omega),cond_true,wr (show -9223372036854775808≤(i:Int)+1 by omega) (by omega),Int.natCast_add,Int.natCast_one,Int.toNat_natCast,zkl hi,zkr,yab,yjf,ycT,wr (show -9223372036854775808≤6+a0.2.1.2 by omega) (by omega),noMem]
   cases yu (nth a0.2.2.1 i ([],[],false,[]))<;>cases (((nth a0.2.2.1 i ([],[],false,[])).1.length:Int) !=6+a0.2.1.2)<;>cases (nth a0.2.2.1 i ([],[],false,[])).2.2.1<;>cases ((i:Int) !=a0.2.2.2.1)<;>cases a0.2.2.2.2.2.2.2.2.2.2.2<;>rfl) (by simp only [ydI,yvs,yvN,zkx (Int.le_refl _),cond_false]) _ (by show _ < 18446744073709551616; omega)
 unfold ysk yqg yp4
 rw [h1]
 cases (List.range a0.2.2.1.length).any (yjf a0)<;>rfl
def ywY (a0:dA):Option (ResD ypY×MutD yg6):=bif yEy a0 then (fun n=>some ((n,()),())) (yqg a0) else none
theorem y61 (a0:dA) (h:yEy a0=true):ywY a0=(fun n=>some ((n,()),())) (yqg a0):=by unfold ywY; rw [h]; rfl
def yKI:Con:=⟨yg6,ypY,fun x=>ywY x.1⟩
theorem y6V:ConOk Tryz.prog 136 yKI:=(y3K).mono (fun x r hk h=>zks h (fun hq=>y56 x.1 hk hq))
end
section
def ymV:Code:=(Tryz.f137.body).getD .skip
def ytZ:Env:=zj2 TT [(135,yq),(225,yje)] []
theorem yUK:FrOk Tryz.prog ⟨ytZ,57,fun _=>none⟩ ymV:=zj6 yc yd ⟨yy,yr4,trivial⟩
def yG2:Nat→Option Seg:=fun _=>none
def yci:Shape:=⟨[(1,false,[.ptr 0 0]),(3,false,[.int .i64])],[(0,[.int .i64,.int .i64,.int .i64,.br tM,.int .i64,.int .i64,.int .i64,.int .i64,.int .i64,.br tW,.int .i64,.bool,.bool])],[]⟩
def yhJ:Shape:=⟨[(1,false,[.ptr 0 0]),(3,false,[.ci .i64 0])],[(0,[.int .i64,.int .i64,.int .i64,.br tM,.int .i64,.int .i64,.int .i64,.int .i64,.int .i64,.br tW,.int .i64,.bool,.bool])],[]⟩
def yhu:Shape:=⟨[],[],[]⟩
def yhR:Shape:=⟨[(2,false,[.bool])],[],[]⟩
abbrev ytm (v0:Int) (v1:dA):(yci).X:=((((),()),(v0,()),()),((v1.1,v1.2.1.1,v1.2.1.2,v1.2.2.1,v1.2.2.2.1,v1.2.2.2.2.1,v1.2.2.2.2.2.1,v1.2.2.2.2.2.2.1,v1.2.2.2.2.2.2.2.1,v1.2.2.2.2.2.2.2.2.1,v1.2.2.2.2.2.2.2.2.2.1,v1.2.2.2.2.2.2.2.2.2.2.1,v1.2.2.2.2.2.2.2.2.2.2.2,()),()),())
abbrev ySz (v0:dA):(yhJ).X:=((((),()),((),()),()),((v0.1,v0.2.1.1,v0.2.1.2,v0.2.2.1,v0.2.2.2.1,v0.2.2.2.2.1,v0.2.2.2.2.2.1,v0.2.2.2.2.2.2.1,v0.2.2.2.2.2.2.2.1,v0.2.2.2.2.2.2.2.2.1,v0.2.2.2.2.2.2.2.2.2.1,v0.2.2.2.2.2.2.2.2.2.2.1,v0.2.2.2.2.2.2.2.2.2.2.2,()),()),())
abbrev ySk  :(yhu).X:=((),(),())
abbrev ySG (v0:Bool):(yhR).X:=(((v0,()),()),(),())
def ytL (v0 v1 v2 v3:Int) (v4:List dM) (v5 v6 v7 v8 v9:Int) (v10:List dW) (v11:Int) (v12 v13:Bool):Option ((yci).X ⊕ ((yhu).X ⊕ (yhR).X)) :=
 bif (ltb v0 (v10.length:Int)) then
 bif (inb v0 v10.length) then
 let r3:=ya ((nth v10 v0 (0,[])).1) 0 (IntKind.i64.wrap (v3 - 1))
 bif (!(!r3)) then
 bif (!((((nth v10 v0 (0,[])).2).length:Int) !=(IntKind.i64.wrap (v2 - 1)))) then
 let r4:=yX ((nth v10 v0 (0,[])).2)
 bif (!(!r4)) then
 bif (ltb 0 v0) then
 bif (inb (IntKind.i64.wrap (v0 - 1)) v10.length) then
 bif (leb ((nth v10 v0 (0,[])).1) ((nth v10 (IntKind.i64.wrap (v0 - 1)) (0,[])).1)) then
 some (.inr (.inr (((false,()),()),(),())))
 else
 some (.inl ((((),()),((IntKind.i64.wrap (v0+1)),()),()),((v1,v2,v3,v4,v5,v6,v7,v8,v9,v10,v11,v12,v13,()),()),()))
 else none
 else
 some (.inl ((((),()),((IntKind.i64.wrap (v0+1)),()),()),((v1,v2,v3,v4,v5,v6,v7,v8,v9,v10,v11,v12,v13,()),()),()))
 else
 some (.inr (.inr (((false,()),()),(),())))
 else
 some (.inr (.inr (((false,()),()),(),())))
 else
 some (.inr (.inr (((false,()),()),(),())))
 else none
 else
 some (.inr (.inl ((),(),())))
def ycJ (x:(yci).X):=ytL x.1.2.1.1 x.2.1.1.1 x.2.1.1.2.1 x.2.1.1.2.2.1 x.2.1.1.2.2.2.1 x.2.1.1.2.2.2.2.1 x.2.1.1.2.2.2.2.2.1 x.2.1.1.2.2.2.2.2.2.1 x.2.1.1.2.2.2.2.2.2.2.1 x.2.1.1.2.2.2.2.2.2.2.2.1 x.2.1.1.2.2.2.2.2.2.2.2.2.1 x.2.1.1.2.2.2.2.2.2.2.2.2.2.1 x.2.1.1.2.2.2.2.2.2.2.2.2.2.2.1 x.2.1.1.2.2.2.2.2.2.2.2.2.2.2.2.1
def yDv (x:(yhJ).X):(yci).X:=((((),()),(0,()),()),((x.2.1.1.1,x.2.1.1.2.1,x.2.1.1.2.2.1,x.2.1.1.2.2.2.1,x.2.1.1.2.2.2.2.1,x.2.1.1.2.2.2.2.2.1,x.2.1.1.2.2.2.2.2.2.1,x.2.1.1.2.2.2.2.2.2.2.1,x.2.1.1.2.2.2.2.2.2.2.2.1,x.2.1.1.2.2.2.2.2.2.2.2.2.1,x.2.1.1.2.2.2.2.2.2.2.2.2.2.1,x.2.1.1.2.2.2.2.2.2.2.2.2.2.2.1,x.2.1.1.2.2.2.2.2.2.2.2.2.2.2.2.1,()),()),())
def yFn:Code:=(zdD ymV 64 52).getD .skip
theorem yTY:zdD ymV 64 13=some (.block 0 (.loop yFn)):=by kernel_rfl
theorem yWd (x:(yci).X):zg0 ⟨ytZ,57,yG2⟩ 0 yFn 52 yci yhu yhR x=ycJ x:=by kernel_rfl
def yDN (x:(yhJ).X):Nat:=18446744073709551616
def yu7 (x:(yhJ).X):Option ((yhu).X ⊕ (yhR).X):=zz ycJ (yDN x) (yDv x)
def yEg:Seg:=⟨yhJ,yhu,yhR,yu7⟩
def yG3:Nat→Option Seg:=fun q=>bif Nat.beq q 13 then some yEg else yG2 q
theorem yUL:FrOk Tryz.prog ⟨ytZ,57,yG3⟩ ymV:=(yUK).loop (sg:=yEg) yci yDv (by decide) yTY ycJ yDN (by decide) (fun _=>rfl) (fun x r _ h=>h) yWd
abbrev yfr:List Par:= [.rd tA]
abbrev ynx:List OT:= [⟨false,tB,.fz⟩]
def ypb (a0:dA):Option (ResD ynx×MutD yfr) :=
 zjY (yu7 ((((),()),((),()),()),((a0.1,a0.2.1.1,a0.2.1.2,a0.2.2.1,a0.2.2.2.1,a0.2.2.2.2.1,a0.2.2.2.2.2.1,a0.2.2.2.2.2.2.1,a0.2.2.2.2.2.2.2.1,a0.2.2.2.2.2.2.2.2.1,a0.2.2.2.2.2.2.2.2.2.1,a0.2.2.2.2.2.2.2.2.2.2.1,a0.2.2.2.2.2.2.2.2.2.2.2,()),()),())) (fun y4 =>
 some ((true,()),())) (fun y4 =>
 some ((y4.1.1.1,()),()))
theorem y5j (x:InD yfr):zjw ⟨ytZ,57,yG3⟩ Tryz.f137.results.toList ymV yfr ynx x=ypb x.1:=by kernel_rfl
theorem yZz:ConOk Tryz.prog 137 ⟨yfr,ynx,fun x=>ypb x.1⟩:=zj1 (yUL) Tryz.func137 (by kernel_rfl) (by kernel_rfl) Tryz.ntmps137.symm (by decide) (fun x r h=>(y5j x).trans h)
def ynV (a0:dA):Bool:=yaA a0.2.1 a0.2.2.2.2.2.2.2.2.1
def yCj (a0:dA):Bool:=yf a0.2.1
theorem yw4 (l:List Int):yX l=l.all isW:=by
 unfold yX
 rw [show yar=isW from funext fun x=>by unfold yar; rw [ybr]; rfl]
theorem y26 (a0:dA) (hk:zi1 yfr (a0,())) (hq:yCj a0=true):ypb a0=(fun n=>some ((n,()),())) (ynV a0):=by
 have hb:a0.2.2.2.2.2.2.2.2.1.length * 32≤2 ^ 47:=hk.1.2.2.2.2.2.2.2.2.1.1
 have hg:=yk.1 hq
 have h1:yu7 (ySz a0)=some (bif (List.range a0.2.2.2.2.2.2.2.2.1.length).any (yjY a0.2.1 a0.2.2.2.2.2.2.2.2.1) then .inr (ySG false) else .inl ySk) :=
  ziN (step:=ycJ) (fun i=>ytm i a0) a0.2.2.2.2.2.2.2.2.1.length (yjY a0.2.1 a0.2.2.2.2.2.2.2.2.1) _ _ (fun i hi=>by
   simp only [ycJ,ytm,ytL,zj4 (show (i:Int) < a0.2.2.2.2.2.2.2.2.1.length by omega),cond_true,wr (show -9223372036854775808≤(i:Int)+1 by omega) (by omega),Int.natCast_add,Int.natCast_one,Int.toNat_natCast,zkl hi,ybr,yw4,wr (show -9223372036854775808≤a0.2.1.2 - 1 by omega) (by omega),wr (show -9223372036854775808≤a0.2.1.1 - 1 by omega) (by omega),yjY]
   rcases Nat.eq_zero_or_pos i with rfl | h0
   ·cases (leb 0 (nth a0.2.2.2.2.2.2.2.2.1 ((0:Nat):Int) (0,[])).1&&leb (nth a0.2.2.2.2.2.2.2.2.1 ((0:Nat):Int) (0,[])).1 (a0.2.1.2 - 1))<;>cases (((nth a0.2.2.2.2.2.2.2.2.1 ((0:Nat):Int) (0,[])).2.length:Int) !=a0.2.1.1 - 1)<;>cases ((nth a0.2.2.2.2.2.2.2.2.1 ((0:Nat):Int) (0,[])).2.all isW)<;>rfl
   ·rw [show IntKind.i64.wrap ((i:Int) - 1)=((i - 1:Nat):Int) by rw [wr (by omega) (by omega)]; omega,zkl (show i - 1 < a0.2.2.2.2.2.2.2.2.1.length by omega),zj4 (show (0:Int) < i by omega),decide_eq_true h0]
    cases (leb 0 (nth a0.2.2.2.2.2.2.2.2.1 (i:Int) (0,[])).1&&leb (nth a0.2.2.2.2.2.2.2.2.1 (i:Int) (0,[])).1 (a0.2.1.2 - 1))<;>cases (((nth a0.2.2.2.2.2.2.2.2.1 (i:Int) (0,[])).2.length:Int) !=a0.2.1.1 - 1)<;>cases ((nth a0.2.2.2.2.2.2.2.2.1 (i:Int) (0,[])).2.all isW)<;>cases leb (nth a0.2.2.2.2.2.2.2.2.1 (i:Int) (0,[])).1 (nth a0.2.2.2.2.2.2.2.2.1 ((i - 1:Nat):Int) (0,[])).1<;>rfl) (by simp only [ycJ,ytm,ytL,zkx (Int.le_refl _),cond_false]) _ (by show _ < 18446744073709551616; omega)
 unfold ypb ynV yaA
 rw [h1]
 cases (List.range a0.2.2.2.2.2.2.2.2.1.length).any (yjY a0.2.1 a0.2.2.2.2.2.2.2.2.1)<;>rfl
def yuA (a0:dA):Option (ResD ynx×MutD yfr):=bif yCj a0 then (fun n=>some ((n,()),())) (ynV a0) else none
theorem y4d (a0:dA) (h:yCj a0=true):yuA a0=(fun n=>some ((n,()),())) (ynV a0):=by unfold yuA; rw [h]; rfl
def yHE:Con:=⟨yfr,ynx,fun x=>yuA x.1⟩
theorem y38:ConOk Tryz.prog 137 yHE:=(yZz).mono (fun x r hk h=>zks h (fun hq=>y26 x.1 hk hq))
end
section
def yQD:Code:=(Tryz.f46.body).getD .skip
def yQV:Env:=zj2 TT [(134,yik),(135,yq),(136,yKI),(137,yHE)] []
theorem y1U:FrOk Tryz.prog ⟨yQV,78,fun _=>none⟩ yQD:=zj6 yc yd ⟨yqj,yy,y6V,y38,trivial⟩
def y4A:Nat→Option Seg:=fun _=>none
abbrev ym9:List Par:= [.rd tA]
abbrev yy3:List OT:= [⟨false,tB,.fz⟩]
def yuH (a0:dA):Option (ResD yy3×MutD ym9) :=
 let r1:=yf a0.2.1
 bif (!(!r1)) then
 let r2:=ya a0.1 1 60000
 bif (!(!r2)) then
 bnd (ywY a0) fun r3 =>
 bif (!(!r3.1.1)) then
 bnd (yuA a0) fun r4 =>
 bif (!r4.1.1) then
 some ((false,()),())
 else
 let r5:=ya a0.2.2.2.1 (-1) (IntKind.i64.wrap (a0.2.1.1 - 1))
 bif (!(!r5)) then
 let r6:=ya a0.2.2.2.2.1 0 a0.2.1.2
 bif (!(!r6)) then
 bif (a0.2.2.2.1==(-1)) then
 bif (a0.2.2.2.2.1 !=0) then
 some ((false,()),())
 else
 let r7:=ya a0.2.2.2.2.2.2.1 0 60000
 bif r7 then
 let r8:=ya a0.2.2.2.2.2.1 a0.2.2.2.2.2.2.1 60000
 bif r8 then
 bif (leb a0.2.2.2.2.2.1 (IntKind.i64.wrap (a0.2.2.2.2.2.2.1+4))) then
 let r9:=ya a0.2.2.2.2.2.2.2.1 0 60000
 bif r9 then
 let r10:=ya a0.2.2.2.2.2.2.2.2.2.1 (-1) 1000
 some ((r10,()),())
 else
 some ((false,()),())
 else
 some ((false,()),())
 else
 some ((false,()),())
 else
 some ((false,()),())
 else
 let r11:=ya a0.2.2.2.2.2.2.1 0 60000
 bif r11 then
 let r12:=ya a0.2.2.2.2.2.1 a0.2.2.2.2.2.2.1 60000
 bif r12 then
 bif (leb a0.2.2.2.2.2.1 (IntKind.i64.wrap (a0.2.2.2.2.2.2.1+4))) then
 let r13:=ya a0.2.2.2.2.2.2.2.1 0 60000
 bif r13 then
 let r14:=ya a0.2.2.2.2.2.2.2.2.2.1 (-1) 1000
 some ((r14,()),())
 else
 some ((false,()),())
 else
 some ((false,()),())
 else
 some ((false,()),())
 else
 some ((false,()),())
 else
 some ((false,()),())
 else
 some ((false,()),())
 else
 some ((false,()),())
 else
 some ((false,()),())
 else
 some ((false,()),())
theorem y9q (x:InD ym9):zjw ⟨yQV,78,y4A⟩ Tryz.f46.results.toList yQD ym9 yy3 x=yuH x.1:=by kernel_rfl
theorem y6k:ConOk Tryz.prog 46 ⟨ym9,yy3,fun x=>yuH x.1⟩:=zj1 (y1U) Tryz.func46 (by kernel_rfl) (by kernel_rfl) Tryz.ntmps46.symm (by decide) (fun x r h=>(y9q x).trans h)
def yaM (a0:dA):Bool:=yE a0
theorem y8D (a0:dA) (hk:zi1 ym9 (a0,())):yuH a0=(fun n=>some ((n,()),())) (yaM a0):=by
 unfold yuH yaM yE
 simp only [ybr]
 cases hg:yf a0.2.1
 ·rfl
 have hg2:=yk.1 hg
 rw [y61 a0 hg,y4d a0 hg,wr (show -9223372036854775808≤a0.2.1.1 - 1 by omega) (by omega)]
 simp only [zkc,yqg,ynV,Bool.not_not,cond_true]
 cases (leb 1 a0.1&&leb a0.1 60000)
 ·rfl
 cases yp4 a0
 ·rfl
 cases yaA a0.2.1 a0.2.2.2.2.2.2.2.2.1
 ·rfl
 cases (leb (-1) a0.2.2.2.1&&leb a0.2.2.2.1 (a0.2.1.1 - 1))
 ·rfl
 cases (leb 0 a0.2.2.2.2.1&&leb a0.2.2.2.2.1 a0.2.1.2)
 ·rfl
 have ht:(leb 0 a0.2.2.2.2.2.2.1&&leb a0.2.2.2.2.2.2.1 60000)=true→IntKind.i64.wrap (a0.2.2.2.2.2.2.1+4)=a0.2.2.2.2.2.2.1+4:=fun h=>by
  rw [Bool.and_eq_true,zjD,zjD]at h
  exact wr (by omega) (by omega)
 cases hT:(leb 0 a0.2.2.2.2.2.2.1&&leb a0.2.2.2.2.2.2.1 60000)
 ·cases (a0.2.2.2.1== -1)<;>cases (a0.2.2.2.2.1 !=0)<;>rfl
 rw [ht hT]
 cases (leb a0.2.2.2.2.2.2.1 a0.2.2.2.2.2.1&&leb a0.2.2.2.2.2.1 60000)
 ·cases (a0.2.2.2.1== -1)<;>cases (a0.2.2.2.2.1 !=0)<;>rfl
 cases leb a0.2.2.2.2.2.1 (a0.2.2.2.2.2.2.1+4)
 ·cases (a0.2.2.2.1== -1)<;>cases (a0.2.2.2.2.1 !=0)<;>rfl
 cases (leb 0 a0.2.2.2.2.2.2.2.1&&leb a0.2.2.2.2.2.2.2.1 60000)<;>cases (a0.2.2.2.1== -1)<;>cases (a0.2.2.2.2.1 !=0)<;>rfl
def ynF:Con:=⟨ym9,yy3,fun x=>(fun n=>some ((n,()),())) (yaM x.1)⟩
theorem ywZ:ConOk Tryz.prog 46 ynF:=(y6k).mono (fun x r hk h=>(y8D x.1 hk).trans h)
end
section
def ypq:Code:=(Tryz.f138.body).getD .skip
def yv5:Env:=zj2 TT [(135,yq)] [(28864,.fz),(28928,.fz)]
theorem yXz:FrOk Tryz.prog ⟨yv5,22,fun _=>none⟩ ypq:=zj6 yc yd ⟨yy,trivial⟩
def yJt:Nat→Option Seg:=fun _=>none
def yc0:Shape:=⟨[(0,false,[.int .i64]),(2,false,[.ptr 0 0]),(3,false,[.ptr 12352 0]),(4,false,[.int .i64])],[(0,[.nil,.nil,.bool,.nil]),(12352,[.at 800000000,.nil,.bool,.nil])],[(800000000,tL,.fz)]⟩
def yiV:Shape:=⟨[(0,false,[.int .i64]),(2,false,[.ptr 0 0]),(3,false,[.ptr 12352 0]),(4,false,[.ci .i64 0])],[(0,[.nil,.nil,.bool,.nil]),(12352,[.at 800000000,.nil,.bool,.nil])],[(800000000,tL,.fz)]⟩
def yiI:Shape:=⟨[(2,false,[.ptr 0 0]),(3,false,[.ptr 12352 0])],[(0,[.nil,.nil,.bool,.nil]),(12352,[.at 800000000,.nil,.bool,.nil])],[(800000000,tL,.fz)]⟩
def yos:Shape:=⟨[],[],[]⟩
abbrev yvm (v0 v1:Int) (v2 v3:dM):(yc0).X:=(((v0,()),((),()),((),()),(v1,()),()),(((),(),v2.2.2.1,(),()),((),(),v3.2.2.1,(),()),()),(v3.1,()))
abbrev yU4 (v0:Int) (v1 v2:dM):(yiV).X:=(((v0,()),((),()),((),()),((),()),()),(((),(),v1.2.2.1,(),()),((),(),v2.2.2.1,(),()),()),(v2.1,()))
abbrev yUV (v0 v1:dM):(yiI).X:=((((),()),((),()),()),(((),(),v0.2.2.1,(),()),((),(),v1.2.2.1,(),()),()),(v1.1,()))
def yvG (v0 v1:Int) (v2 v3:Bool) (v4:List (List Int)):Option ((yc0).X ⊕ ((yiI).X ⊕ (yos).X)) :=
 bif (ltb v1 v0) then
 bif (zjQ v4.length ([([]:List Int)]:List (List Int)).length 24) then
 some (.inl (((v0,()),((),()),((),()),((IntKind.i64.wrap (v1+1)),()),()),(((),(),v2,(),()),((),(),v3,(),()),()),((v4++([([]:List Int)]:List (List Int))),())))
 else none
 else
 some (.inr (.inl ((((),()),((),()),()),(((),(),v2,(),()),((),(),v3,(),()),()),(v4,()))))
def ydC (x:(yc0).X):=yvG x.1.1.1 x.1.2.2.2.1.1 x.2.1.1.2.2.1 x.2.1.2.1.2.2.1 x.2.2.1
def yFJ (x:(yiV).X):(yc0).X:=(((x.1.1.1,()),((),()),((),()),(0,()),()),(((),(),x.2.1.1.2.2.1,(),()),((),(),x.2.1.2.1.2.2.1,(),()),()),(x.2.2.1,()))
def yHf:Code:=(zdD ypq 64 244).getD .skip
theorem yWQ:zdD ypq 64 61=some (.block 0 (.loop yHf)):=by kernel_rfl
theorem yZ3 (x:(yc0).X):zg0 ⟨yv5,22,yJt⟩ 0 yHf 244 yc0 yiI yos x=ydC x:=by kernel_rfl
def yFW (x:(yiV).X):Nat:=18446744073709551616
def yw9 (x:(yiV).X):Option ((yiI).X ⊕ (yos).X):=zz ydC (yFW x) (yFJ x)
def yGe:Seg:=⟨yiV,yiI,yos,yw9⟩
def yJu:Nat→Option Seg:=fun q=>bif Nat.beq q 61 then some yGe else yJt q
theorem yXA:FrOk Tryz.prog ⟨yv5,22,yJu⟩ ypq:=(yXz).loop (sg:=yGe) yc0 yFJ (by decide) yWQ ydC yFW (by decide) (fun _=>rfl) (fun x r _ h=>h) yZ3
abbrev yjP:List Par:= [.rd tI]
abbrev ywy:List OT:= [⟨false,tM,(.pr (.ow .fz) (.pr (.ow (.pr .fz .fz)) (.pr .fz (.ow .fz))))⟩]
def yse (a0:Int):Option (ResD ywy×MutD yjP) :=
 let r1:=ya a0 1 20
 bif (!r1) then
 some ((([],[],false,[]),()),())
 else
 zjY (yw9 (((a0,()),((),()),((),()),((),()),()),(((),(),false,(),()),((),(),false,(),()),()),([],()))) (fun y1 =>
 some (((y1.2.2.1,[],y1.2.1.2.1.2.2.1,[]),()),())) (fun y1 =>
 none)
theorem y74 (x:InD yjP):zjw ⟨yv5,22,yJu⟩ Tryz.f138.results.toList ypq yjP ywy x=yse x.1:=by kernel_rfl
theorem y3v:ConOk Tryz.prog 138 ⟨yjP,ywy,fun x=>yse x.1⟩:=zj1 (yXA) Tryz.func138 (by kernel_rfl) (by kernel_rfl) Tryz.ntmps138.symm (by decide) (fun x r h=>(y74 x).trans h)
def ybN (a0:Int):dM:=ycO a0
theorem y5X (a0:Int) (hk:zi1 yjP (a0,())):yse a0=(fun n=>some ((n,()),())) (ybN a0):=by
 unfold yse ybN ycO
 simp only [ybr]
 cases hc:(leb 1 a0&&leb a0 20)
 ·rfl
 ·rw [Bool.and_eq_true,zjD,zjD]at hc
  have h1:yw9 (yU4 a0 noMem noMem)=some (.inl (yUV noMem (List.replicate a0.toNat [],[],false,[]))) :=
   zkf (step:=ydC) (fun i=>yvm a0 i noMem (List.replicate i [],[],false,[])) a0.toNat _ (fun i hi=>by
    simp only [ydC,yvm,yvG,zj4 (show (i:Int) < a0 by omega),cond_true,wr (show -9223372036854775808≤(i:Int)+1 by omega) (by omega),Int.natCast_add,Int.natCast_one,Int.toNat_natCast]
    rw [zka.2 (show ((List.replicate i ([]:List Int)).length+([[]]:List (List Int)).length) * 24≤140737488355328 by simp only [List.length_cons,List.length_nil,List.length_replicate]; omega),← List.replicate_succ']; rfl) (by simp only [ydC,yvm,yvG,zkx (show a0≤(a0.toNat:Int) by omega),cond_false]) _ (by show _ < 18446744073709551616; omega)
  rw [h1]; rfl
def yrU:Con:=⟨yjP,ywy,fun x=>(fun n=>some ((n,()),())) (ybN x.1)⟩
theorem yCc:ConOk Tryz.prog 138 yrU:=(y3v).mono (fun x r hk h=>(y5X x.1 hk).trans h)
end
section
def yOt:Code:=(Tryz.f141.body).getD .skip
def yO4:Env:=zj2 TT [(135,yq)] []
theorem yXv:FrOk Tryz.prog ⟨yO4,9,fun _=>none⟩ yOt:=zj6 yc yd ⟨yy,trivial⟩
def y0w:Nat→Option Seg:=fun _=>none
abbrev ypJ:List Par:= [.rd tI]
abbrev ywu:List OT:= [⟨false,tI,.fz⟩]
def yAs (a0:Int):Option (ResD ywu×MutD ypJ) :=
 let r1:=ya a0 0 1099511627776
 bif (!r1) then
 some (((-1),()),())
 else
 some (((IntKind.i64.wrap ((IntKind.i64.wrap (a0+2))+4)),()),())
theorem y70 (x:InD ypJ):zjw ⟨yO4,9,y0w⟩ Tryz.f141.results.toList yOt ypJ ywu x=yAs x.1:=by kernel_rfl
theorem y3r:ConOk Tryz.prog 141 ⟨ypJ,ywu,fun x=>yAs x.1⟩:=zj1 (yXv) Tryz.func141 (by kernel_rfl) (by kernel_rfl) Tryz.ntmps141.symm (by decide) (fun x r h=>(y70 x).trans h)
def yaN (a0:Int):Int :=
 let r1:=ya a0 0 1099511627776
 bif (!r1) then
 (-1)
 else
 (IntKind.i64.wrap ((IntKind.i64.wrap (a0+2))+4))
def yed:Con:=⟨ypJ,ywu,fun x=>(fun n=>some ((n,()),())) (yaN x.1)⟩
theorem y5T (a0:Int):yAs a0=(fun n=>some ((n,()),())) (yaN a0):=zkp (p:=fun (n:Int)=>((n,()),())) (zkb (p:=fun (n:Int)=>((n,()),())) rfl rfl)
theorem yis:ConOk Tryz.prog 141 yed:=(y3r).mono (fun x r _ h=>(y5T x.1).trans h)
theorem yfO (s:Int):yaN s=dataAt s:=by
 unfold yaN dataAt
 rw [ybr]
 by_cases h:0≤s∧s≤1099511627776
 ·rw [zkw h.1,zkw h.2,wr (show -9223372036854775808≤s+2 by omega) (by omega),wr (by omega) (by omega)]
  show s+2+4=s+6
  omega
 ·cases h1:(leb 0 s&&leb s 1099511627776)
  ·rfl
  ·rw [Bool.and_eq_true,zjD,zjD]at h1; exact absurd h1 h
end
section
def yeJ:Code:=(Tryz.f49.body).getD .skip
def yjD:Env:=zj2 TT [(134,yik),(135,yq),(138,yrU),(139,yrV),(140,ymi),(141,yed)] [(53440,(.pr (.ow .fz) (.pr (.ow (.pr .fz .fz)) (.pr .fz (.ow .fz))))),(53504,(.pr (.ow .fz) (.pr (.ow (.pr .fz .fz)) (.pr .fz (.ow .fz)))))]
theorem yXr:FrOk Tryz.prog ⟨yjD,60,fun _=>none⟩ yeJ:=zj6 yc yd ⟨yqj,yy,yCc,yCd,yxL,yis,trivial⟩
def yJr:Nat→Option Seg:=fun _=>none
def ya3:Shape:=⟨[(0,false,[.int .i64]),(3,false,[.ptr 0 0]),(4,false,[.ptr 64 0]),(5,false,[.ptr 12480 0]),(6,false,[.int .i64]),(7,false,[.ptr 28864 0]),(8,false,[.int .i64])],[(0,[.int .i64,.int .i64]),(64,[.int .i64,.int .i64,.int .i64,.nil,.int .i64,.int .i64,.int .i64,.int .i64,.int .i64,.nil,.int .i64,.bool,.bool]),(12480,[.int .i64,.int .i64,.int .i64,.at 800000000,.int .i64,.int .i64,.int .i64,.int .i64,.int .i64,.nil,.int .i64,.bool,.bool]),(28864,[.at 800000001,.at 800000002,.bool,.at 800000003])],[(800000000,tM,(.pr (.ow .fz) (.pr (.ow (.pr .fz .fz)) (.pr .fz (.ow .fz))))),(800000001,tL,.fz),(800000002,tW,(.pr .fz .fz)),(800000003,tI,.fz)]⟩
def ye9:Shape:=⟨[(0,false,[.int .i64]),(3,false,[.ptr 0 0]),(4,false,[.ptr 64 0]),(5,false,[.ptr 12480 0]),(6,false,[.int .i64]),(7,false,[.ptr 28864 0]),(8,false,[.ci .i64 0])],[(0,[.int .i64,.int .i64]),(64,[.int .i64,.int .i64,.int .i64,.nil,.int .i64,.int .i64,.int .i64,.int .i64,.int .i64,.nil,.int .i64,.bool,.bool]),(12480,[.int .i64,.int .i64,.int .i64,.at 800000000,.int .i64,.int .i64,.int .i64,.int .i64,.int .i64,.nil,.int .i64,.bool,.bool]),(28864,[.at 800000001,.at 800000002,.bool,.at 800000003])],[(800000000,tM,(.pr (.ow .fz) (.pr (.ow (.pr .fz .fz)) (.pr .fz (.ow .fz))))),(800000001,tL,.fz),(800000002,tW,(.pr .fz .fz)),(800000003,tI,.fz)]⟩
def ye0:Shape:=⟨[(0,false,[.int .i64]),(3,false,[.ptr 0 0]),(4,false,[.ptr 64 0]),(5,false,[.ptr 12480 0]),(6,false,[.int .i64]),(7,false,[.ptr 28864 0])],[(0,[.int .i64,.int .i64]),(64,[.int .i64,.int .i64,.int .i64,.nil,.int .i64,.int .i64,.int .i64,.int .i64,.int .i64,.nil,.int .i64,.bool,.bool]),(12480,[.int .i64,.int .i64,.int .i64,.at 800000000,.int .i64,.int .i64,.int .i64,.int .i64,.int .i64,.nil,.int .i64,.bool,.bool]),(28864,[.at 800000001,.at 800000002,.bool,.at 800000003])],[(800000000,tM,(.pr (.ow .fz) (.pr (.ow (.pr .fz .fz)) (.pr .fz (.ow .fz))))),(800000001,tL,.fz),(800000002,tW,(.pr .fz .fz)),(800000003,tI,.fz)]⟩
def yju:Shape:=⟨[],[],[]⟩
abbrev yoL (v0 v1 v2:Int) (v3:dG) (v4 v5:dA) (v6:dM):(ya3).X:=(((v0,()),((),()),((),()),((),()),(v1,()),((),()),(v2,()),()),((v3.1,v3.2,()),(v4.1,v4.2.1.1,v4.2.1.2,(),v4.2.2.2.1,v4.2.2.2.2.1,v4.2.2.2.2.2.1,v4.2.2.2.2.2.2.1,v4.2.2.2.2.2.2.2.1,(),v4.2.2.2.2.2.2.2.2.2.1,v4.2.2.2.2.2.2.2.2.2.2.1,v4.2.2.2.2.2.2.2.2.2.2.2,()),(v5.1,v5.2.1.1,v5.2.1.2,(),v5.2.2.2.1,v5.2.2.2.2.1,v5.2.2.2.2.2.1,v5.2.2.2.2.2.2.1,v5.2.2.2.2.2.2.2.1,(),v5.2.2.2.2.2.2.2.2.2.1,v5.2.2.2.2.2.2.2.2.2.2.1,v5.2.2.2.2.2.2.2.2.2.2.2,()),((),(),v6.2.2.1,(),()),()),(v5.2.2.1,v6.1,v6.2.1,v6.2.2.2,()))
abbrev yNS (v0 v1:Int) (v2:dG) (v3 v4:dA) (v5:dM):(ye9).X:=(((v0,()),((),()),((),()),((),()),(v1,()),((),()),((),()),()),((v2.1,v2.2,()),(v3.1,v3.2.1.1,v3.2.1.2,(),v3.2.2.2.1,v3.2.2.2.2.1,v3.2.2.2.2.2.1,v3.2.2.2.2.2.2.1,v3.2.2.2.2.2.2.2.1,(),v3.2.2.2.2.2.2.2.2.2.1,v3.2.2.2.2.2.2.2.2.2.2.1,v3.2.2.2.2.2.2.2.2.2.2.2,()),(v4.1,v4.2.1.1,v4.2.1.2,(),v4.2.2.2.1,v4.2.2.2.2.1,v4.2.2.2.2.2.1,v4.2.2.2.2.2.2.1,v4.2.2.2.2.2.2.2.1,(),v4.2.2.2.2.2.2.2.2.2.1,v4.2.2.2.2.2.2.2.2.2.2.1,v4.2.2.2.2.2.2.2.2.2.2.2,()),((),(),v5.2.2.1,(),()),()),(v4.2.2.1,v5.1,v5.2.1,v5.2.2.2,()))
abbrev yz7 (v0 v1:Int) (v2:dG) (v3 v4:dA) (v5:dM):(ye0).X:=(((v0,()),((),()),((),()),((),()),(v1,()),((),()),()),((v2.1,v2.2,()),(v3.1,v3.2.1.1,v3.2.1.2,(),v3.2.2.2.1,v3.2.2.2.2.1,v3.2.2.2.2.2.1,v3.2.2.2.2.2.2.1,v3.2.2.2.2.2.2.2.1,(),v3.2.2.2.2.2.2.2.2.2.1,v3.2.2.2.2.2.2.2.2.2.2.1,v3.2.2.2.2.2.2.2.2.2.2.2,()),(v4.1,v4.2.1.1,v4.2.1.2,(),v4.2.2.2.1,v4.2.2.2.2.1,v4.2.2.2.2.2.1,v4.2.2.2.2.2.2.1,v4.2.2.2.2.2.2.2.1,(),v4.2.2.2.2.2.2.2.2.2.1,v4.2.2.2.2.2.2.2.2.2.2.1,v4.2.2.2.2.2.2.2.2.2.2.2,()),((),(),v5.2.2.1,(),()),()),(v4.2.2.1,v5.1,v5.2.1,v5.2.2.2,()))
def ypk (v0 v1 v2 v3 v4 v5 v6 v7 v8 v9 v10 v11 v12 v13:Int) (v14 v15:Bool) (v16 v17 v18 v19 v20 v21 v22 v23 v24:Int) (v25 v26 v27:Bool) (v28:List dM) (v29:List (List Int)) (v30:List dW) (v31:List Int):Option ((ya3).X ⊕ ((ye0).X ⊕ (yju).X)) :=
 bif (ltb v2 v4) then
 let r13:=yaN v2
 bif (inb r13 v29.length) then
 some (.inl (((v0,()),((),()),((),()),((),()),(v1,()),((),()),((IntKind.i64.wrap (v2+1)),()),()),((v3,v4,()),(v5,v6,v7,(),v8,v9,v10,v11,v12,(),v13,v14,v15,()),(v16,v17,v18,(),v19,v20,v21,v22,v23,(),v24,v25,v26,()),((),(),v27,(),()),()),(v28,(v29.set (r13).toNat ([0]:List Int)),v30,v31,())))
 else none
 else
 some (.inr (.inl (((v0,()),((),()),((),()),((),()),(v1,()),((),()),()),((v3,v4,()),(v5,v6,v7,(),v8,v9,v10,v11,v12,(),v13,v14,v15,()),(v16,v17,v18,(),v19,v20,v21,v22,v23,(),v24,v25,v26,()),((),(),v27,(),()),()),(v28,v29,v30,v31,()))))
def ybm (x:(ya3).X):=ypk x.1.1.1 x.1.2.2.2.2.1.1 x.1.2.2.2.2.2.2.1.1 x.2.1.1.1 x.2.1.1.2.1 x.2.1.2.1.1 x.2.1.2.1.2.1 x.2.1.2.1.2.2.1 x.2.1.2.1.2.2.2.2.1 x.2.1.2.1.2.2.2.2.2.1 x.2.1.2.1.2.2.2.2.2.2.1 x.2.1.2.1.2.2.2.2.2.2.2.1 x.2.1.2.1.2.2.2.2.2.2.2.2.1 x.2.1.2.1.2.2.2.2.2.2.2.2.2.2.1 x.2.1.2.1.2.2.2.2.2.2.2.2.2.2.2.1 x.2.1.2.1.2.2.2.2.2.2.2.2.2.2.2.2.1 x.2.1.2.2.1.1 x.2.1.2.2.1.2.1 x.2.1.2.2.1.2.2.1 x.2.1.2.2.1.2.2.2.2.1 x.2.1.2.2.1.2.2.2.2.2.1 x.2.1.2.2.1.2.2.2.2.2.2.1 x.2.1.2.2.1.2.2.2.2.2.2.2.1 x.2.1.2.2.1.2.2.2.2.2.2.2.2.1 x.2.1.2.2.1.2.2.2.2.2.2.2.2.2.2.1 x.2.1.2.2.1.2.2.2.2.2.2.2.2.2.2.2.1 x.2.1.2.2.1.2.2.2.2.2.2.2.2.2.2.2.2.1 x.2.1.2.2.2.1.2.2.1 x.2.2.1 x.2.2.2.1 x.2.2.2.2.1 x.2.2.2.2.2.1
def yzI (x:(ye9).X):(ya3).X:=(((x.1.1.1,()),((),()),((),()),((),()),(x.1.2.2.2.2.1.1,()),((),()),(0,()),()),((x.2.1.1.1,x.2.1.1.2.1,()),(x.2.1.2.1.1,x.2.1.2.1.2.1,x.2.1.2.1.2.2.1,(),x.2.1.2.1.2.2.2.2.1,x.2.1.2.1.2.2.2.2.2.1,x.2.1.2.1.2.2.2.2.2.2.1,x.2.1.2.1.2.2.2.2.2.2.2.1,x.2.1.2.1.2.2.2.2.2.2.2.2.1,(),x.2.1.2.1.2.2.2.2.2.2.2.2.2.2.1,x.2.1.2.1.2.2.2.2.2.2.2.2.2.2.2.1,x.2.1.2.1.2.2.2.2.2.2.2.2.2.2.2.2.1,()),(x.2.1.2.2.1.1,x.2.1.2.2.1.2.1,x.2.1.2.2.1.2.2.1,(),x.2.1.2.2.1.2.2.2.2.1,x.2.1.2.2.1.2.2.2.2.2.1,x.2.1.2.2.1.2.2.2.2.2.2.1,x.2.1.2.2.1.2.2.2.2.2.2.2.1,x.2.1.2.2.1.2.2.2.2.2.2.2.2.1,(),x.2.1.2.2.1.2.2.2.2.2.2.2.2.2.2.1,x.2.1.2.2.1.2.2.2.2.2.2.2.2.2.2.2.1,x.2.1.2.2.1.2.2.2.2.2.2.2.2.2.2.2.2.1,()),((),(),x.2.1.2.2.2.1.2.2.1,(),()),()),(x.2.2.1,x.2.2.2.1,x.2.2.2.2.1,x.2.2.2.2.2.1,()))
def yAY:Code:=(zdD yeJ 64 125236).getD .skip
theorem yPF:zdD yeJ 64 31309=some (.block 2 (.loop yAY)):=by kernel_rfl
theorem yQv (x:(ya3).X):zg0 ⟨yjD,60,yJr⟩ 2 yAY 125236 ya3 ye0 yju x=ybm x:=by kernel_rfl
def yzT (x:(ye9).X):Nat:=18446744073709551616
def yqy (x:(ye9).X):Option ((ye0).X ⊕ (yju).X):=zz ybm (yzT x) (yzI x)
def yAD:Seg:=⟨ye9,ye0,yju,yqy⟩
def yys:Nat→Option Seg:=fun q=>bif Nat.beq q 31309 then some yAD else yJr q
theorem yXs:FrOk Tryz.prog ⟨yjD,60,yys⟩ yeJ:=(yXr).loop (sg:=yAD) ya3 yzI (by decide) yPF ybm yzT (by decide) (fun _=>rfl) (fun x r _ h=>h) yQv
def ycZ:Shape:=⟨[(0,false,[.int .i64]),(3,false,[.ptr 0 0]),(4,false,[.ptr 64 0]),(5,false,[.ptr 12480 0]),(6,false,[.int .i64])],[(0,[.int .i64,.int .i64]),(64,[.int .i64,.int .i64,.int .i64,.nil,.int .i64,.int .i64,.int .i64,.int .i64,.int .i64,.nil,.int .i64,.bool,.bool]),(12480,[.int .i64,.int .i64,.int .i64,.at 800000000,.int .i64,.int .i64,.int .i64,.int .i64,.int .i64,.nil,.int .i64,.bool,.bool])],[(800000000,tM,(.pr (.ow .fz) (.pr (.ow (.pr .fz .fz)) (.pr .fz (.ow .fz)))))]⟩
def yiU:Shape:=⟨[(0,false,[.int .i64]),(3,false,[.ptr 0 0]),(4,false,[.ptr 64 0]),(5,false,[.ptr 12480 0]),(6,false,[.ci .i64 0])],[(0,[.int .i64,.int .i64]),(64,[.int .i64,.int .i64,.int .i64,.nil,.int .i64,.int .i64,.int .i64,.int .i64,.int .i64,.nil,.int .i64,.bool,.bool]),(12480,[.int .i64,.int .i64,.int .i64,.at 800000000,.int .i64,.int .i64,.int .i64,.int .i64,.int .i64,.nil,.int .i64,.bool,.bool])],[(800000000,tM,(.pr (.ow .fz) (.pr (.ow (.pr .fz .fz)) (.pr .fz (.ow .fz)))))]⟩
def yiH:Shape:=⟨[(4,false,[.ptr 64 0]),(5,false,[.ptr 12480 0])],[(64,[.int .i64,.int .i64,.int .i64,.nil,.int .i64,.int .i64,.int .i64,.int .i64,.int .i64,.nil,.int .i64,.bool,.bool]),(12480,[.int .i64,.int .i64,.int .i64,.at 800000000,.int .i64,.int .i64,.int .i64,.int .i64,.int .i64,.nil,.int .i64,.bool,.bool])],[(800000000,tM,(.pr (.ow .fz) (.pr (.ow (.pr .fz .fz)) (.pr .fz (.ow .fz)))))]⟩
def yor:Shape:=⟨[],[],[]⟩
abbrev ymj (v0 v1:Int) (v2:dG) (v3 v4:dA):(ycZ).X:=(((v0,()),((),()),((),()),((),()),(v1,()),()),((v2.1,v2.2,()),(v3.1,v3.2.1.1,v3.2.1.2,(),v3.2.2.2.1,v3.2.2.2.2.1,v3.2.2.2.2.2.1,v3.2.2.2.2.2.2.1,v3.2.2.2.2.2.2.2.1,(),v3.2.2.2.2.2.2.2.2.2.1,v3.2.2.2.2.2.2.2.2.2.2.1,v3.2.2.2.2.2.2.2.2.2.2.2,()),(v4.1,v4.2.1.1,v4.2.1.2,(),v4.2.2.2.1,v4.2.2.2.2.1,v4.2.2.2.2.2.1,v4.2.2.2.2.2.2.1,v4.2.2.2.2.2.2.2.1,(),v4.2.2.2.2.2.2.2.2.2.1,v4.2.2.2.2.2.2.2.2.2.2.1,v4.2.2.2.2.2.2.2.2.2.2.2,()),()),(v4.2.2.1,()))
abbrev yU3 (v0:Int) (v1:dG) (v2 v3:dA):(yiU).X:=(((v0,()),((),()),((),()),((),()),((),()),()),((v1.1,v1.2,()),(v2.1,v2.2.1.1,v2.2.1.2,(),v2.2.2.2.1,v2.2.2.2.2.1,v2.2.2.2.2.2.1,v2.2.2.2.2.2.2.1,v2.2.2.2.2.2.2.2.1,(),v2.2.2.2.2.2.2.2.2.2.1,v2.2.2.2.2.2.2.2.2.2.2.1,v2.2.2.2.2.2.2.2.2.2.2.2,()),(v3.1,v3.2.1.1,v3.2.1.2,(),v3.2.2.2.1,v3.2.2.2.2.1,v3.2.2.2.2.2.1,v3.2.2.2.2.2.2.1,v3.2.2.2.2.2.2.2.1,(),v3.2.2.2.2.2.2.2.2.2.1,v3.2.2.2.2.2.2.2.2.2.2.1,v3.2.2.2.2.2.2.2.2.2.2.2,()),()),(v3.2.2.1,()))
abbrev yF7 (v0 v1:dA):(yiH).X:=((((),()),((),()),()),((v0.1,v0.2.1.1,v0.2.1.2,(),v0.2.2.2.1,v0.2.2.2.2.1,v0.2.2.2.2.2.1,v0.2.2.2.2.2.2.1,v0.2.2.2.2.2.2.2.1,(),v0.2.2.2.2.2.2.2.2.2.1,v0.2.2.2.2.2.2.2.2.2.2.1,v0.2.2.2.2.2.2.2.2.2.2.2,()),(v1.1,v1.2.1.1,v1.2.1.2,(),v1.2.2.2.1,v1.2.2.2.2.1,v1.2.2.2.2.2.1,v1.2.2.2.2.2.2.1,v1.2.2.2.2.2.2.2.1,(),v1.2.2.2.2.2.2.2.2.2.1,v1.2.2.2.2.2.2.2.2.2.2.1,v1.2.2.2.2.2.2.2.2.2.2.2,()),()),(v1.2.2.1,()))
def yvF (v0 v1 v2 v3 v4 v5 v6 v7 v8 v9 v10 v11 v12:Int) (v13 v14:Bool) (v15 v16 v17 v18 v19 v20 v21 v22 v23:Int) (v24 v25:Bool) (v26:List dM):Option ((ycZ).X ⊕ ((yiH).X ⊕ (yor).X)) :=
 bif (ltb v1 v2) then
 let r15:=ycT (v2,v3)
 let r16:=ybN r15
 let r17:=yJ (v0,0,v1,v2,v3,0,(-1),0)
 bif (inb 0 r16.1.length) then
 zjY (yqy (((v0,()),((),()),((),()),((),()),(v1,()),((),()),((),()),()),((v2,v3,()),(v4,v5,v6,(),v7,v8,v9,v10,v11,(),v12,v13,v14,()),(v15,v16,v17,(),v18,v19,v20,v21,v22,(),v23,v24,v25,()),((),(),r16.2.2.1,(),()),()),(v26,(r16.1.set (0:Int).toNat r17),r16.2.1,r16.2.2.2,()))) (fun y17 =>
 bif (zjQ y17.2.2.1.length ([(y17.2.2.2.1,y17.2.2.2.2.1,y17.2.1.2.2.2.1.2.2.1,y17.2.2.2.2.2.1)]:List dM).length 80) then
 some (.inl (((y17.1.1.1,()),((),()),((),()),((),()),((IntKind.i64.wrap (y17.1.2.2.2.2.1.1+1)),()),()),((y17.2.1.1.1,y17.2.1.1.2.1,()),(y17.2.1.2.1.1,y17.2.1.2.1.2.1,y17.2.1.2.1.2.2.1,(),y17.2.1.2.1.2.2.2.2.1,y17.2.1.2.1.2.2.2.2.2.1,y17.2.1.2.1.2.2.2.2.2.2.1,y17.2.1.2.1.2.2.2.2.2.2.2.1,y17.2.1.2.1.2.2.2.2.2.2.2.2.1,(),y17.2.1.2.1.2.2.2.2.2.2.2.2.2.2.1,y17.2.1.2.1.2.2.2.2.2.2.2.2.2.2.2.1,y17.2.1.2.1.2.2.2.2.2.2.2.2.2.2.2.2.1,()),(y17.2.1.2.2.1.1,y17.2.1.2.2.1.2.1,y17.2.1.2.2.1.2.2.1,(),y17.2.1.2.2.1.2.2.2.2.1,y17.2.1.2.2.1.2.2.2.2.2.1,y17.2.1.2.2.1.2.2.2.2.2.2.1,y17.2.1.2.2.1.2.2.2.2.2.2.2.1,y17.2.1.2.2.1.2.2.2.2.2.2.2.2.1,(),y17.2.1.2.2.1.2.2.2.2.2.2.2.2.2.2.1,y17.2.1.2.2.1.2.2.2.2.2.2.2.2.2.2.2.1,y17.2.1.2.2.1.2.2.2.2.2.2.2.2.2.2.2.2.1,()),()),((y17.2.2.1++([(y17.2.2.2.1,y17.2.2.2.2.1,y17.2.1.2.2.2.1.2.2.1,y17.2.2.2.2.2.1)]:List dM)),())))
 else none) (fun y17 =>
 some (.inr (.inr ((),(),()))))
 else none
 else
 some (.inr (.inl ((((),()),((),()),()),((v4,v5,v6,(),v7,v8,v9,v10,v11,(),v12,v13,v14,()),(v15,v16,v17,(),v18,v19,v20,v21,v22,(),v23,v24,v25,()),()),(v26,()))))
def ydB (x:(ycZ).X):=yvF x.1.1.1 x.1.2.2.2.2.1.1 x.2.1.1.1 x.2.1.1.2.1 x.2.1.2.1.1 x.2.1.2.1.2.1 x.2.1.2.1.2.2.1 x.2.1.2.1.2.2.2.2.1 x.2.1.2.1.2.2.2.2.2.1 x.2.1.2.1.2.2.2.2.2.2.1 x.2.1.2.1.2.2.2.2.2.2.2.1 x.2.1.2.1.2.2.2.2.2.2.2.2.1 x.2.1.2.1.2.2.2.2.2.2.2.2.2.2.1 x.2.1.2.1.2.2.2.2.2.2.2.2.2.2.2.1 x.2.1.2.1.2.2.2.2.2.2.2.2.2.2.2.2.1 x.2.1.2.2.1.1 x.2.1.2.2.1.2.1 x.2.1.2.2.1.2.2.1 x.2.1.2.2.1.2.2.2.2.1 x.2.1.2.2.1.2.2.2.2.2.1 x.2.1.2.2.1.2.2.2.2.2.2.1 x.2.1.2.2.1.2.2.2.2.2.2.2.1 x.2.1.2.2.1.2.2.2.2.2.2.2.2.1 x.2.1.2.2.1.2.2.2.2.2.2.2.2.2.2.1 x.2.1.2.2.1.2.2.2.2.2.2.2.2.2.2.2.1 x.2.1.2.2.1.2.2.2.2.2.2.2.2.2.2.2.2.1 x.2.2.1
def yFI (x:(yiU).X):(ycZ).X:=(((x.1.1.1,()),((),()),((),()),((),()),(0,()),()),((x.2.1.1.1,x.2.1.1.2.1,()),(x.2.1.2.1.1,x.2.1.2.1.2.1,x.2.1.2.1.2.2.1,(),x.2.1.2.1.2.2.2.2.1,x.2.1.2.1.2.2.2.2.2.1,x.2.1.2.1.2.2.2.2.2.2.1,x.2.1.2.1.2.2.2.2.2.2.2.1,x.2.1.2.1.2.2.2.2.2.2.2.2.1,(),x.2.1.2.1.2.2.2.2.2.2.2.2.2.2.1,x.2.1.2.1.2.2.2.2.2.2.2.2.2.2.2.1,x.2.1.2.1.2.2.2.2.2.2.2.2.2.2.2.2.1,()),(x.2.1.2.2.1.1,x.2.1.2.2.1.2.1,x.2.1.2.2.1.2.2.1,(),x.2.1.2.2.1.2.2.2.2.1,x.2.1.2.2.1.2.2.2.2.2.1,x.2.1.2.2.1.2.2.2.2.2.2.1,x.2.1.2.2.1.2.2.2.2.2.2.2.1,x.2.1.2.2.1.2.2.2.2.2.2.2.2.1,(),x.2.1.2.2.1.2.2.2.2.2.2.2.2.2.2.1,x.2.1.2.2.1.2.2.2.2.2.2.2.2.2.2.2.1,x.2.1.2.2.1.2.2.2.2.2.2.2.2.2.2.2.2.1,()),()),(x.2.2.1,()))
def yHe:Code:=(zdD yeJ 64 244).getD .skip
theorem yWP:zdD yeJ 64 61=some (.block 0 (.loop yHe)):=by kernel_rfl
theorem yZ2 (x:(ycZ).X):zg0 ⟨yjD,60,yys⟩ 0 yHe 244 ycZ yiH yor x=ydB x:=by kernel_rfl
def yFV (x:(yiU).X):Nat:=18446744073709551616
def yw8 (x:(yiU).X):Option ((yiH).X ⊕ (yor).X):=zz ydB (yFV x) (yFI x)
def yGd:Seg:=⟨yiU,yiH,yor,yw8⟩
def yJs:Nat→Option Seg:=fun q=>bif Nat.beq q 61 then some yGd else yys q
theorem yXt:FrOk Tryz.prog ⟨yjD,60,yJs⟩ yeJ:=(yXs).loop (sg:=yGd) ycZ yFI (by decide) yWP ydB yFV (by decide) (fun _=>rfl) (fun x r _ h=>h) yZ2
abbrev yjL:List Par:= [.rd tI,.rd tG]
abbrev yws:List OT:= [⟨false,tA,(.pr .fz (.pr (.pr .fz .fz) (.pr (.ow (.pr (.ow .fz) (.pr (.ow (.pr .fz .fz)) (.pr .fz (.ow .fz))))) (.pr .fz (.pr .fz (.pr .fz (.pr .fz (.pr .fz (.pr (.ow (.pr .fz .fz)) (.pr .fz (.pr .fz .fz)))))))))))⟩]
def ysa (a0:Int) (a1:dG):Option (ResD yws×MutD yjL) :=
 let r1:=yf a1
 bif (!(!r1)) then
 let r2:=ya a0 1 60000
 bif (!r2) then
 some (((0,(0,0),[],0,0,0,0,0,[],0,false,false),()),())
 else
 zjY (yw8 (((a0,()),((),()),((),()),((),()),((),()),()),((a1.1,a1.2,()),(0,0,0,(),0,0,0,0,0,(),0,false,false,()),(a0,a1.1,a1.2,(),(-1),0,0,0,0,(),(-1),false,false,()),()),([],()))) (fun y18 =>
 some (((y18.2.1.2.1.1,(y18.2.1.2.1.2.1,y18.2.1.2.1.2.2.1),y18.2.2.1,y18.2.1.2.1.2.2.2.2.1,y18.2.1.2.1.2.2.2.2.2.1,y18.2.1.2.1.2.2.2.2.2.2.1,y18.2.1.2.1.2.2.2.2.2.2.2.1,y18.2.1.2.1.2.2.2.2.2.2.2.2.1,[],y18.2.1.2.1.2.2.2.2.2.2.2.2.2.2.1,y18.2.1.2.1.2.2.2.2.2.2.2.2.2.2.2.1,y18.2.1.2.1.2.2.2.2.2.2.2.2.2.2.2.2.1),()),())) (fun y18 =>
 none)
 else
 some (((0,(0,0),[],0,0,0,0,0,[],0,false,false),()),())
theorem y7Y (x:InD yjL):zjw ⟨yjD,60,yJs⟩ Tryz.f49.results.toList yeJ yjL yws x=ysa x.1 x.2.1:=by kernel_rfl
theorem y3p:ConOk Tryz.prog 49 ⟨yjL,yws,fun x=>ysa x.1 x.2.1⟩:=zj1 (yXt) Tryz.func49 (by kernel_rfl) (by kernel_rfl) Tryz.ntmps49.symm (by decide) (fun x r h=>(y7Y x).trans h)
def yqc (a0:Int) (a1:dG):dA:=yCX a0 a1
theorem y5R (a0:Int) (a1:dG) (hk:zi1 yjL (a0,a1,())):ysa a0 a1=(fun n=>some ((n,()),())) (yqc a0 a1):=by
 unfold ysa yqc yCX
 simp only [ybr]
 cases hg:yf a1
 ·rfl
 cases hid:(leb 1 a0&&leb a0 60000)
 ·rfl
 have hge:=yk.1 hg
 have inner: ∀ (i:Int) (a:dA),yqy (yNS a0 i a1 yK a (yD1 a0 a1 i))=some (.inl (yz7 a0 i a1 yK a (yO a0 a1 i))):=fun i a =>
  zj8 (step:=ybm) a1.2.toNat (fun s m=>yoL a0 i s a1 yK a m) yM2 (fun _ m=>(m.1.length:Int)=6+a1.2) (fun m=> .inl (yz7 a0 i a1 yK a m)) (fun s m hs hm=>⟨by
   simp only [ybm,yoL,ypk,zj4 (show (s:Int) < a1.2 by omega),cond_true,wr (show -9223372036854775808≤(s:Int)+1 by omega) (by omega),Int.natCast_add,Int.natCast_one,Int.toNat_natCast,yfO]
   have hd:dataAt (s:Int)=((s+6:Nat):Int):=by unfold dataAt; rw [zkw (show (0:Int)≤s by omega),zkw (show (s:Int)≤1099511627776 by omega)]; rfl
   rw [hd,zkl (show s+6 < m.1.length by omega),Int.toNat_natCast]; rfl,by show ((m.1.set _ _).length:Int)=_; rw [List.length_set]; exact hm⟩) (fun m hm=>by simp only [ybm,yoL,ypk,show ((a1.2.toNat:Nat):Int)=a1.2 by omega,zkx (Int.le_refl _),cond_false]) (yD1 a0 a1 i) (by
   unfold yD1 ycO
   rw [zkw (show 1≤6+a1.2 by omega),zkw (show 6+a1.2≤20 by omega)]
   show (((List.replicate (6+a1.2).toNat ([]:List Int)).set 0 _).length:Int)=_
   rw [List.length_set,List.length_replicate]; omega) 18446744073709551616 (by omega)
 have hmn:ybN (ycT a1)=ycO (6+a1.2):=by
  unfold ybN ycT
  rw [wr (by omega) (by omega)]
 have h0:inb 0 (ycO (6+a1.2)).1.length=true:=by
  unfold ycO
  rw [zkw (show 1≤6+a1.2 by omega),zkw (show 6+a1.2≤20 by omega)]
  show inb 0 (List.replicate (6+a1.2).toNat ([]:List Int)).length=true
  rw [List.length_replicate,zjC]; omega
 have outer:yw8 (yU3 a0 a1 yK (yHc a0 a1))=some (.inl (yF7 yK ((List.range a1.1.toNat).foldl (fun a (i:Nat)=>yHb a (yO a0 a1 i)) (yHc a0 a1)))) :=
  zj8 (step:=ydB) a1.1.toNat (fun i a=>ymj a0 i a1 yK a) (fun a i=>yHb a (yO a0 a1 i)) (fun i a=>a.2.2.1.length=i) (fun a=> .inl (yF7 yK a)) (fun i a hi ha=>⟨by
   simp only [ydB,ymj,yvF,zj4 (show (i:Int) < a1.1 by omega),cond_true,wr (show -9223372036854775808≤(i:Int)+1 by omega) (by omega),Int.natCast_add,Int.natCast_one,zkr,hmn,h0]
   refine (congrArg (fun z=>zjY z _ _) (inner i a)).trans ?_
   simp only [zkh]
   show (bif zjQ a.2.2.1.length [yO a0 a1 i].length 80 then _ else _)=_
   rw [zka.2 (show (a.2.2.1.length+ [yO a0 a1 i].length) * 80≤140737488355328 by simp only [List.length_cons,List.length_nil]; omega)]
   simp only [cond_true]
   show some (Sum.inl (ymj a0 (IntKind.i64.wrap ((i:Int)+1)) a1 yK (yHb a (yO a0 a1 i))))=_
   rw [wr (show -9223372036854775808≤(i:Int)+1 by omega) (by omega)],by show (a.2.2.1++ [_]).length=_; rw [List.length_append,ha]; rfl⟩) (fun a ha=>by simp only [ydB,ymj,yvF,show ((a1.1.toNat:Nat):Int)=a1.1 by omega,zkx (Int.le_refl _),cond_false]) (yHc a0 a1) rfl 18446744073709551616 (by omega)
 have hdr: ∀ (l:List Nat) (a:dA),a.2.2.2.2.2.2.2.2.1= []→(l.foldl (fun a (i:Nat)=>yHb a (yO a0 a1 i)) a).2.2.2.2.2.2.2.2.1= []:=by
  intro l
  induction l with
  | nil=>intro a h; exact h
  | cons x t ih=>intro a h; exact ih _ h
 have h:=hdr (List.range a1.1.toNat) (yHc a0 a1) rfl
 simp only [Bool.not_true,Bool.not_false,cond_true,cond_false,Bool.and_self]
 refine (congrArg (fun z=>zjY z _ _) outer).trans ?_
 generalize (List.range a1.1.toNat).foldl (fun a (i:Nat)=>yHb a (yO a0 a1 i)) (yHc a0 a1)=R at h
 simp only [zkh]
 show some ((((R.1,R.2.1,R.2.2.1,R.2.2.2.1,R.2.2.2.2.1,R.2.2.2.2.2.1,R.2.2.2.2.2.2.1,R.2.2.2.2.2.2.2.1,[],R.2.2.2.2.2.2.2.2.2):dA),()),())=some ((R,()),())
 rw [← h]
def yKz:Con:=⟨yjL,yws,fun x=>(fun n=>some ((n,()),())) (yqc x.1 x.2.1)⟩
theorem y6M:ConOk Tryz.prog 49 yKz:=(y3p).mono (fun x r hk h=>(y5R x.1 x.2.1 hk).trans h)
end
section
def yOs:Code:=(Tryz.f121.body).getD .skip
def yO3:Env:=zj2 TT [(134,yik)] []
theorem yXu:FrOk Tryz.prog ⟨yO3,12,fun _=>none⟩ yOs:=zj6 yc yd ⟨yqj,trivial⟩
def y0v:Nat→Option Seg:=fun _=>none
abbrev ypI:List Par:= [.rd tG]
abbrev ywt:List OT:= [⟨false,tI,.fz⟩]
def yAr (a0:dG):Option (ResD ywt×MutD ypI) :=
 let r1:=yf a0
 bif (!r1) then
 some ((0,()),())
 else
 some (((IntKind.i64.wrap (a0.2 * (IntKind.i64.wrap (a0.1 - 1)))),()),())
theorem y7Z (x:InD ypI):zjw ⟨yO3,12,y0v⟩ Tryz.f121.results.toList yOs ypI ywt x=yAr x.1:=by kernel_rfl
theorem y3q:ConOk Tryz.prog 121 ⟨ypI,ywt,fun x=>yAr x.1⟩:=zj1 (yXu) Tryz.func121 (by kernel_rfl) (by kernel_rfl) Tryz.ntmps121.symm (by decide) (fun x r h=>(y7Z x).trans h)
def yx (a0:dG):Int :=
 let r1:=yf a0
 bif (!r1) then
 0
 else
 (IntKind.i64.wrap (a0.2 * (IntKind.i64.wrap (a0.1 - 1))))
def yrT:Con:=⟨ypI,ywt,fun x=>(fun n=>some ((n,()),())) (yx x.1)⟩
theorem y5S (a0:dG):yAr a0=(fun n=>some ((n,()),())) (yx a0):=zkp (p:=fun (n:Int)=>((n,()),())) (zkb (p:=fun (n:Int)=>((n,()),())) rfl rfl)
theorem yCb:ConOk Tryz.prog 121 yrT:=(y3q).mono (fun x r _ h=>(y5S x.1).trans h)
theorem y68 (a:Int×Int):0≤yx a∧yx a≤32:=by
 unfold yx
 cases h:yf a
 ·simp
 ·obtain ⟨⟨h1,h2⟩,h3,h4⟩:=yk.1 h
  have h5:0≤a.2 * (a.1 - 1):=Int.mul_nonneg (by omega) (by omega)
  have h6:a.2 * (a.1 - 1)≤8 * 4:=Int.mul_le_mul h4 (by omega) (by omega) (by omega)
  simp only [Bool.not_true,cond_false,wr (show -9223372036854775808≤a.1 - 1 by omega) (by omega),wr (show -9223372036854775808≤a.2 * (a.1 - 1) by omega) (by omega)]
  omega
theorem yNo {a:Int×Int} (h:yf a=true):yx a=a.2 * (a.1 - 1):=by
 unfold yx
 obtain ⟨⟨h1,h2⟩,h3,h4⟩:=yk.1 h
 have h5:0≤a.2 * (a.1 - 1):=Int.mul_nonneg (by omega) (by omega)
 have h6:a.2 * (a.1 - 1)≤8 * 4:=Int.mul_le_mul h4 (by omega) (by omega) (by omega)
 simp only [h,Bool.not_true,cond_false,wr (show -9223372036854775808≤a.1 - 1 by omega) (by omega),wr (show -9223372036854775808≤a.2 * (a.1 - 1) by omega) (by omega)]
def yI (l:List dW) (s:Int):Int:=yR (fun e:dW=>e.1==s) l
def blkOk (g:dG) (b:Int):Bool:=leb 0 b&&leb b (yx g - 1)
def yav (g:dG) (b:Int):Int:=bif blkOk g b then b.tdiv (g.1 - 1) else -1
def yym (g:dG) (b:Int):Int:=bif blkOk g b then b.tmod (g.1 - 1) else -1
theorem yKb {g:dG} {b:Int} (h:blkOk g b=true):yf g=true∧(0≤b.tdiv (g.1 - 1)∧b.tdiv (g.1 - 1)≤g.2 - 1)∧(0≤b.tmod (g.1 - 1)∧b.tmod (g.1 - 1)≤g.1 - 2):=by
 simp only [blkOk,Bool.and_eq_true,zjD]at h
 cases hg:yf g
 ·have:yx g=0:=by unfold yx; rw [hg]; rfl
  omega
 ·rw [yNo hg]at h
  have h2:=yk.1 hg
  rw [Int.tdiv_eq_ediv_of_nonneg h.1,Int.tmod_eq_emod_of_nonneg h.1]
  have h3:=Int.ediv_lt_of_lt_mul (show 0 < g.1 - 1 by omega) (show b < g.2 * (g.1 - 1) by omega)
  have h4:=Int.ediv_nonneg h.1 (show 0≤g.1 - 1 by omega)
  have h5:=Int.emod_nonneg b (show g.1 - 1≠0 by omega)
  have h6:=Int.emod_lt_of_pos b (show 0 < g.1 - 1 by omega)
  exact ⟨rfl,⟨h4,by omega⟩,h5,by omega⟩
theorem yLC {g:dG} {b:Int} (h:blkOk g b=true):ycU g (yav g b)=true:=by
 obtain ⟨h1,h2,_⟩:=yKb h
 unfold yav
 rw [h,cond_true,ybK]
 exact ⟨h1,h2⟩
def yao (a:dA) (s:Int):List Int×Bool:=bif leb 0 (yI a.2.2.2.2.2.2.2.2.1 s) then ((nth a.2.2.2.2.2.2.2.2.1 (yI a.2.2.2.2.2.2.2.2.1 s) (0,[])).2,true) else bif a.2.2.2.2.2.2.2.2.2.2.2 then ([],false) else yTp a s
theorem yabU {a:dA} (h:yE a=true) {i:Nat} (hi:i < a.2.2.2.2.2.2.2.2.1.length):(0≤(nth a.2.2.2.2.2.2.2.2.1 i (0,[])).1∧(nth a.2.2.2.2.2.2.2.2.1 i (0,[])).1≤a.2.1.2 - 1)∧((nth a.2.2.2.2.2.2.2.2.1 i (0,[])).2.length:Int)=a.2.1.1 - 1∧(nth a.2.2.2.2.2.2.2.2.1 i (0,[])).2.all isW=true∧(0 < i→(nth a.2.2.2.2.2.2.2.2.1 ((i - 1:Nat):Int) (0,[])).1 < (nth a.2.2.2.2.2.2.2.2.1 i (0,[])).1):=by
 have h1:yaA a.2.1 a.2.2.2.2.2.2.2.2.1=true:=by simp only [yE,Bool.and_eq_true]at h; exact h.2.2.2.1
 simp only [yaA,Bool.not_eq_true',List.any_eq_false,List.mem_range]at h1
 have h2:=h1 i hi
 simp only [yjY,Bool.not_eq_true,Bool.or_eq_false_iff,Bool.not_eq_false',bne_eq_false_iff_eq,Bool.and_eq_true,Bool.and_eq_false_iff,decide_eq_false_iff_not,zjD]at h2
 refine ⟨h2.1,h2.2.1,h2.2.2.1,fun h0=> ?_⟩
 rcases h2.2.2.2 with h3 | h3
 ·exact absurd h0 h3
 ·have:=mt zkw (by rw [h3]; simp: ¬ leb (nth a.2.2.2.2.2.2.2.2.1 i (0,[])).1 (nth a.2.2.2.2.2.2.2.2.1 ((i - 1:Nat):Int) (0,[])).1=true)
  omega
theorem yED {a:dA} {s:Int} (h:yE a=true) (hs:ycU a.2.1 s=true) (h2:(yao a s).2=true):((yao a s).1.length:Int)=a.2.1.1 - 1:=by
 have hg:=yk.1 (yll h)
 unfold yao at h2 ⊢
 cases hk:leb 0 (yI a.2.2.2.2.2.2.2.2.1 s)
 ·rw [hk]at h2
  simp only [cond_false]at h2 ⊢
  cases hb:a.2.2.2.2.2.2.2.2.2.2.2
  ·rw [hb]at h2
   simp only [cond_false]at h2 ⊢
   unfold yTp at h2 ⊢
   cases hw:(yax a s).2
   ·rw [hw]at h2; cases h2
   ·simp only [cond_true,List.length_map,List.length_range]; omega
  ·rw [hb]at h2; cases h2
 ·have h3:=zjC.1 (yta (d:=((0,[]):dW)) hk).1
  have:=(yabU h (i:=(yI a.2.2.2.2.2.2.2.2.1 s).toNat) (by unfold yI; omega)).2.1
  rw [show (((yI a.2.2.2.2.2.2.2.2.1 s).toNat:Nat):Int)=yI a.2.2.2.2.2.2.2.2.1 s by have:=zjD.1 hk; omega]at this
  exact this
theorem yabh (g:dG) (b:Int):ya b 0 (IntKind.i64.wrap (yx g - 1))=blkOk g b:=by
 have:=y68 g
 rw [wr (by omega) (by omega),ybr]; rfl
end
section
def yOJ:Code:=(Tryz.f146.body).getD .skip
def yPk:Env:=zj2 TT [(46,ynF),(135,yq),(225,yje)] []
theorem yX1:FrOk Tryz.prog ⟨yPk,48,fun _=>none⟩ yOJ:=zj6 yc yd ⟨ywZ,yy,yr4,trivial⟩
def y0M:Nat→Option Seg:=fun _=>none
abbrev ypU:List Par:= [.rd tA,.rd tI,.rd tL]
abbrev ywO:List OT:= [⟨false,tI,.fz⟩]
def yAx (a0:dA) (a1:Int) (a2:List Int):Option (ResD ywO×MutD ypU) :=
 let r1:=yaM a0
 bif (!(!r1)) then
 bif (!((a2.length:Int) !=(IntKind.i64.wrap (a0.2.1.1 - 1)))) then
 let r2:=yX a2
 bif (!r2) then
 some ((1,()),())
 else
 bif a0.2.2.2.2.2.2.2.2.2.2.1 then
 some ((6,()),())
 else
 let r3:=ya a1 0 (IntKind.i64.wrap (a0.2.1.2 - 1))
 bif (!r3) then
 some ((2,()),())
 else
 bif a0.2.2.2.2.2.2.2.2.2.2.2 then
 some ((5,()),())
 else
 bif (!(leb 60000 a0.2.2.2.2.2.1)) then
 bif (leb 59990 a0.2.2.2.2.2.2.2.1) then
 some ((7,()),())
 else
 some ((0,()),())
 else
 some ((7,()),())
 else
 some ((1,()),())
 else
 some ((1,()),())
theorem y8n (x:InD ypU):zjw ⟨yPk,48,y0M⟩ Tryz.f146.results.toList yOJ ypU ywO x=yAx x.1 x.2.1 x.2.2.1:=by kernel_rfl
theorem y3O:ConOk Tryz.prog 146 ⟨ypU,ywO,fun x=>yAx x.1 x.2.1 x.2.2.1⟩:=zj1 (yX1) Tryz.func146 (by kernel_rfl) (by kernel_rfl) Tryz.ntmps146.symm (by decide) (fun x r h=>(y8n x).trans h)
def yN (a0:dA) (a1:Int) (a2:List Int):Int :=
 let r1:=yaM a0
 bif (!(!r1)) then
 bif (!((a2.length:Int) !=(IntKind.i64.wrap (a0.2.1.1 - 1)))) then
 let r2:=yX a2
 bif (!r2) then
 1
 else
 bif a0.2.2.2.2.2.2.2.2.2.2.1 then
 6
 else
 let r3:=ya a1 0 (IntKind.i64.wrap (a0.2.1.2 - 1))
 bif (!r3) then
 2
 else
 bif a0.2.2.2.2.2.2.2.2.2.2.2 then
 5
 else
 bif (!(leb 60000 a0.2.2.2.2.2.1)) then
 bif (leb 59990 a0.2.2.2.2.2.2.2.1) then
 7
 else
 0
 else
 7
 else
 1
 else
 1
def yKK:Con:=⟨ypU,ywO,fun x=>(fun n=>some ((n,()),())) (yN x.1 x.2.1 x.2.2.1)⟩
theorem y59 (a0:dA) (a1:Int) (a2:List Int):yAx a0 a1 a2=(fun n=>some ((n,()),())) (yN a0 a1 a2):=zkp (p:=fun (n:Int)=>((n,()),())) (zkb (p:=fun (n:Int)=>((n,()),())) (zkb (p:=fun (n:Int)=>((n,()),())) (zkb (p:=fun (n:Int)=>((n,()),())) rfl (zkb (p:=fun (n:Int)=>((n,()),())) rfl (zkb (p:=fun (n:Int)=>((n,()),())) rfl (zkb (p:=fun (n:Int)=>((n,()),())) rfl (zkb (p:=fun (n:Int)=>((n,()),())) (zkb (p:=fun (n:Int)=>((n,()),())) rfl rfl) rfl))))) rfl) rfl)
theorem y6X:ConOk Tryz.prog 146 yKK:=(y3O).mono (fun x r _ h=>(y59 x.1 x.2.1 x.2.2.1).trans h)
end
section
def yOz:Code:=(Tryz.f160.body).getD .skip
def yPa:Env:=zj2 TT [] []
theorem yXD:FrOk Tryz.prog ⟨yPa,8,fun _=>none⟩ yOz:=zj6 yc yd trivial
def y0C:Nat→Option Seg:=fun _=>none
abbrev ypK:List Par:= [.rd tI]
abbrev ywB:List OT:= [⟨false,tI,.fz⟩]
def yAt (a0:Int):Option (ResD ywB×MutD ypK) :=
 bif (ltb a0 0) then
 some (((-1),()),())
 else
 some (((IntKind.i64.wrap (2+(a0.tmod 4))),()),())
theorem y77 (x:InD ypK):zjw ⟨yPa,8,y0C⟩ Tryz.f160.results.toList yOz ypK ywB x=yAt x.1:=by kernel_rfl
theorem y3y:ConOk Tryz.prog 160 ⟨ypK,ywB,fun x=>yAt x.1⟩:=zj1 (yXD) Tryz.func160 (by kernel_rfl) (by kernel_rfl) Tryz.ntmps160.symm (by decide) (fun x r h=>(y77 x).trans h)
def yl (a0:Int):Int :=
 bif (ltb a0 0) then
 (-1)
 else
 (IntKind.i64.wrap (2+(a0.tmod 4)))
def yzx:Con:=⟨ypK,ywB,fun x=>(fun n=>some ((n,()),())) (yl x.1)⟩
theorem y50 (a0:Int):yAt a0=(fun n=>some ((n,()),())) (yl a0):=zkp (p:=fun (n:Int)=>((n,()),())) (zkb (p:=fun (n:Int)=>((n,()),())) rfl rfl)
theorem yNc:ConOk Tryz.prog 160 yzx:=(y3y).mono (fun x r _ h=>(y50 x.1).trans h)
end
section
def yOw:Code:=(Tryz.f48.body).getD .skip
def yO7:Env:=zj2 TT [(135,yq)] []
theorem yXy:FrOk Tryz.prog ⟨yO7,34,fun _=>none⟩ yOw:=zj6 yc yd ⟨yy,trivial⟩
def y0z:Nat→Option Seg:=fun _=>none
abbrev yjO:List Par:= [.rd tA,.rd tI,.rd tI]
abbrev ywx:List OT:= [⟨false,tB,.fz⟩]
def ysd (a0:dA) (a1 a2:Int):Option (ResD ywx×MutD yjO) :=
 let r1:=ya a1 0 (IntKind.i64.wrap ((a0.2.2.1.length:Int) - 1))
 bif r1 then
 bif (inb a1 a0.2.2.1.length) then
 bif (!((((nth a0.2.2.1 a1 ([],[],false,[])).2).2).1)) then
 bif (!(a1 !=a0.2.2.2.1)) then
 some (((ltb a2 a0.2.2.2.2.1),()),())
 else
 some ((true,()),())
 else
 some ((false,()),())
 else none
 else
 some ((false,()),())
theorem y73 (x:InD yjO):zjw ⟨yO7,34,y0z⟩ Tryz.f48.results.toList yOw yjO ywx x=ysd x.1 x.2.1 x.2.2.1:=by kernel_rfl
theorem y3u:ConOk Tryz.prog 48 ⟨yjO,ywx,fun x=>ysd x.1 x.2.1 x.2.2.1⟩:=zj1 (yXy) Tryz.func48 (by kernel_rfl) (by kernel_rfl) Tryz.ntmps48.symm (by decide) (fun x r h=>(y73 x).trans h)
def yeN (a0:dA) (a1 a2:Int):Bool:=yff a0 a1 a2
theorem y5W (a0:dA) (a1 a2:Int) (hk:zi1 yjO (a0,a1,a2,())):ysd a0 a1 a2=(fun n=>some ((n,()),())) (yeN a0 a1 a2):=by
 have hb:a0.2.2.1.length * 80≤2 ^ 47:=hk.1.2.2.1.1
 unfold ysd yeN yff noMem
 rw [yvZ (show a0.2.2.1.length≤1152921504606846976 by omega)]
 cases inb a1 a0.2.2.1.length
 ·rfl
 ·cases (nth a0.2.2.1 a1 ([],[],false,[])).2.2.1<;>cases (a1 !=a0.2.2.2.1)<;>rfl
def yzu:Con:=⟨yjO,ywx,fun x=>(fun n=>some ((n,()),())) (yeN x.1 x.2.1 x.2.2.1)⟩
theorem yNa:ConOk Tryz.prog 48 yzu:=(y3u).mono (fun x r hk h=>(y5W x.1 x.2.1 x.2.2.1 hk).trans h)
end
section
def ysw:Code:=(Tryz.f238.body).getD .skip
def yyD:Env:=zj2 TT [] []
theorem y2h:FrOk Tryz.prog ⟨yyD,18,fun _=>none⟩ ysw:=zj6 yc yd trivial
def yMc:Nat→Option Seg:=fun _=>none
def yd1:Shape:=⟨[(0,false,[.br tI]),(1,false,[.int .i64]),(5,false,[.int .i64])],[],[]⟩
def ykP:Shape:=⟨[(0,false,[.br tI]),(1,false,[.int .i64]),(5,false,[.ci .i64 0])],[],[]⟩
def ykA:Shape:=⟨[],[],[]⟩
def ylj:Shape:=⟨[(4,false,[.bool])],[],[]⟩
abbrev yxD (v0:List Int) (v1 v2:Int):(yd1).X:=(((v0,()),(v1,()),(v2,()),()),(),())
abbrev yYv (v0:List Int) (v1:Int):(ykP).X:=(((v0,()),(v1,()),((),()),()),(),())
abbrev yYk  :(ykA).X:=((),(),())
abbrev yYG (v0:Bool):(ylj).X:=(((v0,()),()),(),())
def yx5 (v0:List Int) (v1 v2:Int):Option ((yd1).X ⊕ ((ykA).X ⊕ (ylj).X)) :=
 bif (ltb v2 (v0.length:Int)) then
 bif (inb v2 v0.length) then
 bif ((nth v0 v2 0)==v1) then
 some (.inr (.inr (((true,()),()),(),())))
 else
 some (.inl (((v0,()),(v1,()),((IntKind.i64.wrap (v2+1)),()),()),(),()))
 else none
 else
 some (.inr (.inl ((),(),())))
def yeD (x:(yd1).X):=yx5 x.1.1.1 x.1.2.1.1 x.1.2.2.1.1
def yHS (x:(ykP).X):(yd1).X:=(((x.1.1.1,()),(x.1.2.1.1,()),(0,()),()),(),())
def yKm:Code:=(zdD ysw 64 52).getD .skip
theorem y0Z:zdD ysw 64 13=some (.block 0 (.loop yKm)):=by kernel_rfl
theorem y4p (x:(yd1).X):zg0 ⟨yyD,18,yMc⟩ 0 yKm 52 yd1 ykA ylj x=yeD x:=by kernel_rfl
def yH8 (x:(ykP).X):Nat:=18446744073709551616
def yyR (x:(ykP).X):Option ((ykA).X ⊕ (ylj).X):=zz yeD (yH8 x) (yHS x)
def yIT:Seg:=⟨ykP,ykA,ylj,yyR⟩
def yMd:Nat→Option Seg:=fun q=>bif Nat.beq q 13 then some yIT else yMc q
theorem y2i:FrOk Tryz.prog ⟨yyD,18,yMd⟩ ysw:=(y2h).loop (sg:=yIT) yd1 yHS (by decide) y0Z yeD yH8 (by decide) (fun _=>rfl) (fun x r _ h=>h) y4p
abbrev yng:List Par:= [.rd tL,.rd tI]
abbrev yze:List OT:= [⟨false,tB,.fz⟩]
def yuK (a0:List Int) (a1:Int):Option (ResD yze×MutD yng) :=
 zjY (yyR (((a0,()),(a1,()),((),()),()),(),())) (fun y0 =>
 some ((false,()),())) (fun y0 =>
 some ((y0.1.1.1,()),()))
theorem y9B (x:InD yng):zjw ⟨yyD,18,yMd⟩ Tryz.f238.results.toList ysw yng yze x=yuK x.1 x.2.1:=by kernel_rfl
theorem y6v:ConOk Tryz.prog 238 ⟨yng,yze,fun x=>yuK x.1 x.2.1⟩:=zj1 (y2i) Tryz.func238 (by kernel_rfl) (by kernel_rfl) Tryz.ntmps238.symm (by decide) (fun x r h=>(y9B x).trans h)
def yjk (a0:List Int) (a1:Int):Bool:=a0.any (· ==a1)
theorem y8K (a0:List Int) (a1:Int) (hk:zi1 yng (a0,a1,())):yuK a0 a1=(fun n=>some ((n,()),())) (yjk a0 a1):=by
 have hb:a0.length * 8≤2 ^ 47:=hk.1.1
 have h1:yyR (yYv a0 a1)=some (bif a0.all (· !=a1) then .inl yYk else .inr (yYG true)) :=
  zjF (step:=yeD) a0 0 (fun i=>yxD a0 a1 i) (· !=a1) _ _ (fun i hi=>by
   simp only [yeD,yxD,yx5,zj4 (show (i:Int) < a0.length by omega),cond_true,wr (show -9223372036854775808≤(i:Int)+1 by omega) (by omega),Int.natCast_add,Int.natCast_one,Int.toNat_natCast,zkl hi,zkm,bne]
   cases (a0.getD i 0==a1)<;>rfl) (by simp only [yeD,yxD,yx5,zkx (Int.le_refl _),cond_false]) _ (by show _ < 18446744073709551616; omega)
 unfold yuK yjk
 rw [h1,show a0.any (· ==a1)= !(a0.all (· !=a1)) by simp [List.all_eq_not_any_not,bne]]
 cases a0.all (· !=a1)<;>rfl
def yB3:Con:=⟨yng,yze,fun x=>(fun n=>some ((n,()),())) (yjk x.1 x.2.1)⟩
theorem yPu:ConOk Tryz.prog 238 yB3:=(y6v).mono (fun x r hk h=>(y8K x.1 x.2.1 hk).trans h)
end
section
def ymT:Code:=(Tryz.f159.body).getD .skip
def ytX:Env:=zj2 TT [(135,yq),(224,yfB),(238,yB3)] []
theorem yUB:FrOk Tryz.prog ⟨ytX,60,fun _=>none⟩ ymT:=zj6 yc yd ⟨yy,yj1,yPu,trivial⟩
def yGY:Nat→Option Seg:=fun _=>none
def ycg:Shape:=⟨[(1,false,[.int .i64]),(2,false,[.ptr 0 0]),(6,false,[.br tI]),(7,false,[.int .i64])],[(0,[.br tL,.br tW,.bool,.br tI])],[]⟩
def yhH:Shape:=⟨[(1,false,[.int .i64]),(2,false,[.ptr 0 0]),(6,false,[.br tI]),(7,false,[.ci .i64 0])],[(0,[.br tL,.br tW,.bool,.br tI])],[]⟩
def yhs:Shape:=⟨[(6,false,[.br tI])],[],[]⟩
def ymb:Shape:=⟨[],[],[]⟩
abbrev ytk (v0:Int) (v1:List Int) (v2:Int) (v3:dM):(ycg).X:=(((v0,()),((),()),(v1,()),(v2,()),()),((v3.1,v3.2.1,v3.2.2.1,v3.2.2.2,()),()),())
abbrev ySx (v0:Int) (v1:List Int) (v2:dM):(yhH).X:=(((v0,()),((),()),(v1,()),((),()),()),((v2.1,v2.2.1,v2.2.2.1,v2.2.2.2,()),()),())
abbrev yDZ (v0:List Int):(yhs).X:=(((v0,()),()),(),())
def ytI (v0:Int) (v1:List Int) (v2:Int) (v3:List (List Int)) (v4:List dW) (v5:Bool) (v6:List Int):Option ((ycg).X ⊕ ((yhs).X ⊕ (ymb).X)) :=
 bif (ltb v2 (v4.length:Int)) then
 bif (inb v2 v4.length) then
 bif ((nth v4 v2 (0,[])).1==v0) then
 bif (inb v2 v4.length) then
 some (.inl (((v0,()),((),()),((nth v4 v2 (0,[])).2,()),((IntKind.i64.wrap (v2+1)),()),()),((v3,v4,v5,v6,()),()),()))
 else none
 else
 some (.inl (((v0,()),((),()),(v1,()),((IntKind.i64.wrap (v2+1)),()),()),((v3,v4,v5,v6,()),()),()))
 else none
 else
 some (.inr (.inl (((v1,()),()),(),())))
def ycG (x:(ycg).X):=ytI x.1.1.1 x.1.2.2.1.1 x.1.2.2.2.1.1 x.2.1.1.1 x.2.1.1.2.1 x.2.1.1.2.2.1 x.2.1.1.2.2.2.1
def yDs (x:(yhH).X):(ycg).X:=(((x.1.1.1,()),((),()),(x.1.2.2.1.1,()),(0,()),()),((x.2.1.1.1,x.2.1.1.2.1,x.2.1.1.2.2.1,x.2.1.1.2.2.2.1,()),()),())
def yFk:Code:=(zdD ymT 64 244).getD .skip
theorem yTV:zdD ymT 64 61=some (.block 0 (.loop yFk)):=by kernel_rfl
theorem yWa (x:(ycg).X):zg0 ⟨ytX,60,yGY⟩ 0 yFk 244 ycg yhs ymb x=ycG x:=by kernel_rfl
def yDK (x:(yhH).X):Nat:=18446744073709551616
def yu4 (x:(yhH).X):Option ((yhs).X ⊕ (ymb).X):=zz ycG (yDK x) (yDs x)
def yEd:Seg:=⟨yhH,yhs,ymb,yu4⟩
def yGZ:Nat→Option Seg:=fun q=>bif Nat.beq q 61 then some yEd else yGY q
theorem yUC:FrOk Tryz.prog ⟨ytX,60,yGZ⟩ ymT:=(yUB).loop (sg:=yEd) ycg yDs (by decide) yTV ycG yDK (by decide) (fun _=>rfl) (fun x r _ h=>h) yWa
abbrev yih:List Par:= [.rd tM,.rd tI]
abbrev yuh:List OT:= [⟨false,tL,(.ow .fz)⟩,⟨false,tB,.fz⟩]
def yo6 (a0:dM) (a1:Int):Option (ResD yuh×MutD yih) :=
 let r1:=yab a0
 bif (!(!r1)) then
 bif (!a0.2.2.1) then
 let r2:=ya a1 0 (IntKind.i64.wrap ((a0.1.length:Int) - 1))
 bif (!(!r2)) then
 let r3:=yjk a0.2.2.2 a1
 bif r3 then
 some ((([]:List Int),false,()),())
 else
 bif (inb a1 a0.1.length) then
 zjY (yu4 (((a1,()),((),()),((nth a0.1 a1 []),()),((),()),()),((a0.1,a0.2.1,a0.2.2.1,a0.2.2.2,()),()),())) (fun y3 =>
 bif (zjQ ([]:List Int).length y3.1.1.1.length 8) then
 some (((([]:List Int)++y3.1.1.1),true,()),())
 else none) (fun y3 =>
 none)
 else none
 else
 some ((([]:List Int),false,()),())
 else
 some ((([]:List Int),false,()),())
 else
 some ((([]:List Int),false,()),())
theorem y5c (x:InD yih):zjw ⟨ytX,60,yGZ⟩ Tryz.f159.results.toList ymT yih yuh x=yo6 x.1 x.2.1:=by kernel_rfl
theorem yZs:ConOk Tryz.prog 159 ⟨yih,yuh,fun x=>yo6 x.1 x.2.1⟩:=zj1 (yUC) Tryz.func159 (by kernel_rfl) (by kernel_rfl) Tryz.ntmps159.symm (by decide) (fun x r h=>(y5c x).trans h)
def ybQ (a0:dM) (a1:Int):List Int×Bool:=yr a0 a1
theorem y20 (a0:dM) (a1:Int) (hk:zi1 yih (a0,a1,())):yo6 a0 a1=(fun n=>some ((n.1,n.2,()),())) (ybQ a0 a1):=by
 have hb1:a0.1.length * 24≤2 ^ 47:=hk.1.1.1
 have hb2:a0.2.1.length * 32≤2 ^ 47:=hk.1.2.1.1
 have h1: ∀ s,yu4 (ySx a1 s a0)=some (.inl (yDZ (yM3 a1 a0.2.1 s))):=fun s =>
  zj3 (step:=ycG) a0.2.1 (0,[]) (fun i s=>ytk a1 s i a0) (fun s w=>bif w.1==a1 then w.2 else s) (fun _ _=>True) (fun s=> .inl (yDZ s)) (fun i s hi _=>⟨by
   simp only [ycG,ytk,ytI,zj4 (show (i:Int) < a0.2.1.length by omega),cond_true,wr (show -9223372036854775808≤(i:Int)+1 by omega) (by omega),Int.natCast_add,Int.natCast_one,Int.toNat_natCast,zkl hi,zkm]
   cases ((a0.2.1.getD i (0,[])).1==a1)<;>rfl,trivial⟩) (fun s _=>by simp only [ycG,ytk,ytI,zkx (Int.le_refl _),cond_false]) s trivial _ (by show _ < 18446744073709551616; omega)
 unfold yo6 ybQ yr yGy
 rw [yvZ (show a0.1.length≤1152921504606846976 by omega)]
 unfold yab yjk
 simp only [h1,zkh,List.nil_append]
 cases yu a0
 ·rfl
 cases a0.2.2.1
 ·cases hi:inb a1 a0.1.length
  ·rfl
  ·cases a0.2.2.2.any (· ==a1)
   ·have hs:(yM3 a1 a0.2.1 (nth a0.1 a1 [])).length * 8≤2 ^ 47 :=
     yNY (P:=fun s=>s.length * 8≤2 ^ 47) (yfH (P:=fun s:List Int=>s.length * 8≤2 ^ 47) hi fun x hx=>(hk.1.1.2 x hx).1) fun w hw=>(hk.1.2.1.2 w hw).2.1
    simp only [Bool.not_true,Bool.not_false,cond_true,cond_false,Bool.true_and,show zjQ ([]:List Int).length (yM3 a1 a0.2.1 (nth a0.1 a1 [])).length 8=true from zka.2 (by rw [List.length_nil]; omega)]
   ·rfl
 ·rfl
def yoE:Con:=⟨yih,yuh,fun x=>(fun n=>some ((n.1,n.2,()),())) (ybQ x.1 x.2.1)⟩
theorem yAg:ConOk Tryz.prog 159 yoE:=(yZs).mono (fun x r hk h=>(y20 x.1 x.2.1 hk).trans h)
end
section
def yOI:Code:=(Tryz.f215.body).getD .skip
def yPj:Env:=zj2 TT [(48,yzu),(141,yed),(159,yoE)] []
theorem yX0:FrOk Tryz.prog ⟨yPj,36,fun _=>none⟩ yOI:=zj6 yc yd ⟨yNa,yis,yAg,trivial⟩
def y0L:Nat→Option Seg:=fun _=>none
abbrev yjU:List Par:= [.rd tA,.rd tI,.rd tI]
abbrev ywN:List OT:= [⟨false,tI,.fz⟩,⟨false,tB,.fz⟩]
def ysl (a0:dA) (a1 a2:Int):Option (ResD ywN×MutD yjU) :=
 let r1:=yeN a0 a1 a2
 bif (!r1) then
 some ((0,false,()),())
 else
 bif (inb a1 a0.2.2.1.length) then
 let r2:=yaN a2
 let r3:=ybQ ((nth a0.2.2.1 a1 ([],[],false,[])).1,((nth a0.2.2.1 a1 ([],[],false,[])).2).1,(((nth a0.2.2.1 a1 ([],[],false,[])).2).2)) r2
 bif (!(!r3.2)) then
 bif ((r3.1.length:Int) !=1) then
 some ((0,false,()),())
 else
 bif (inb 0 r3.1.length) then
 some (((nth r3.1 0 0),true,()),())
 else none
 else
 some ((0,false,()),())
 else none
theorem y8m (x:InD yjU):zjw ⟨yPj,36,y0L⟩ Tryz.f215.results.toList yOI yjU ywN x=ysl x.1 x.2.1 x.2.2.1:=by kernel_rfl
theorem y3N:ConOk Tryz.prog 215 ⟨yjU,ywN,fun x=>ysl x.1 x.2.1 x.2.2.1⟩:=zj1 (yX0) Tryz.func215 (by kernel_rfl) (by kernel_rfl) Tryz.ntmps215.symm (by decide) (fun x r h=>(y8m x).trans h)
def yqh (a0:dA) (a1 a2:Int):Int×Bool:=(yOf a0 a1 a2,yP a0 a1 a2)
theorem y58 (a0:dA) (a1 a2:Int) (hk:zi1 yjU (a0,a1,a2,())):ysl a0 a1 a2=(fun n=>some ((n.1,n.2,()),())) (yqh a0 a1 a2):=by
 unfold ysl yqh yOf yeN
 simp only [zkr,yfO,ybQ]
 rw [show yP a0 a1 a2=(yff a0 a1 a2&&((yuR a0 a1 a2).2&&((yuR a0 a1 a2).1.length:Int)==1)) from rfl]
 rw [show yr (nth a0.2.2.1 a1 ([],[],false,[])) (dataAt a2)=yuR a0 a1 a2 from rfl]
 cases hl:yff a0 a1 a2
 ·rfl
 ·rw [show inb a1 a0.2.2.1.length=true by unfold yff at hl; exact (Bool.and_eq_true_iff.1 hl).1]
  cases (yuR a0 a1 a2).2
  ·rfl
  ·rw [bne]
   cases h1:(((yuR a0 a1 a2).1.length:Int)==1)
   ·rfl
   ·rw [show inb 0 (yuR a0 a1 a2).1.length=true from zjC.2 (by have:=beq_iff_eq.1 h1; omega)]; rfl
def yKJ:Con:=⟨yjU,ywN,fun x=>(fun n=>some ((n.1,n.2,()),())) (yqh x.1 x.2.1 x.2.2.1)⟩
theorem y6W:ConOk Tryz.prog 215 yKJ:=(y3N).mono (fun x r hk h=>(y58 x.1 x.2.1 x.2.2.1 hk).trans h)
end
section
def yfW:Code:=(Tryz.f262.body).getD .skip
def ykf:Env:=zj2 TT [] []
theorem yMW:FrOk Tryz.prog ⟨ykf,23,fun _=>none⟩ yfW:=zj6 yc yd trivial
def yyt:Nat→Option Seg:=fun _=>none
def yat:Shape:=⟨[(0,false,[.br tI]),(1,false,[.int .i64]),(5,false,[.int .i64]),(6,false,[.int .i64])],[],[]⟩
def ydq:Shape:=⟨[(0,false,[.br tI]),(1,false,[.int .i64]),(5,false,[.ci .i64 0]),(6,false,[.ci .i64 0])],[],[]⟩
def ydo:Shape:=⟨[(5,false,[.int .i64])],[],[]⟩
def ygT:Shape:=⟨[],[],[]⟩
abbrev ylO (v0:List Int) (v1 v2 v3:Int):(yat).X:=(((v0,()),(v1,()),(v2,()),(v3,()),()),(),())
abbrev yLy (v0:List Int) (v1:Int):(ydq).X:=(((v0,()),(v1,()),((),()),((),()),()),(),())
abbrev yLw (v0:Int):(ydo).X:=(((v0,()),()),(),())
def ylU (v0:List Int) (v1 v2 v3:Int):Option ((yat).X ⊕ ((ydo).X ⊕ (ygT).X)) :=
 bif (ltb v3 (v0.length:Int)) then
 bif (v3 !=v1) then
 bif (inb v3 v0.length) then
 some (.inl (((v0,()),(v1,()),((IntKind.i64.wrap ((BitVec.ofInt IntKind.i64.bits v2 ^^^ BitVec.ofInt IntKind.i64.bits (nth v0 v3 0)).toNat:Int)),()),((IntKind.i64.wrap (v3+1)),()),()),(),()))
 else none
 else
 some (.inl (((v0,()),(v1,()),(v2,()),((IntKind.i64.wrap (v3+1)),()),()),(),()))
 else
 some (.inr (.inl (((v2,()),()),(),())))
def yaD (x:(yat).X):=ylU x.1.1.1 x.1.2.1.1 x.1.2.2.1.1 x.1.2.2.2.1.1
def yvW (x:(ydq).X):(yat).X:=(((x.1.1.1,()),(x.1.2.1.1,()),(0,()),(0,()),()),(),())
def yyd:Code:=(zdD yfW 64 116).getD .skip
theorem yMC:zdD yfW 64 29=some (.block 0 (.loop yyd)):=by kernel_rfl
theorem yNm (x:(yat).X):zg0 ⟨ykf,23,yyt⟩ 0 yyd 116 yat ydo ygT x=yaD x:=by kernel_rfl
def yvY (x:(ydq).X):Nat:=18446744073709551616
def ymZ (x:(ydq).X):Option ((ydo).X ⊕ (ygT).X):=zz yaD (yvY x) (yvW x)
def yv3:Seg:=⟨ydq,ydo,ygT,ymZ⟩
def yyu:Nat→Option Seg:=fun q=>bif Nat.beq q 29 then some yv3 else yyt q
theorem yMX:FrOk Tryz.prog ⟨ykf,23,yyu⟩ yfW:=(yMW).loop (sg:=yv3) yat yvW (by decide) yMC yaD yvY (by decide) (fun _=>rfl) (fun x r _ h=>h) yNm
abbrev ydl:List Par:= [.rd tL,.rd tI]
abbrev yk0:List OT:= [⟨false,tI,.fz⟩]
def yh4 (a0:List Int) (a1:Int):Option (ResD yk0×MutD ydl) :=
 zjY (ymZ (((a0,()),(a1,()),((),()),((),()),()),(),())) (fun y0 =>
 some ((y0.1.1.1,()),())) (fun y0 =>
 none)
theorem yRs (x:InD ydl):zjw ⟨ykf,23,yyu⟩ Tryz.f262.results.toList yfW ydl yk0 x=yh4 x.1 x.2.1:=by kernel_rfl
theorem yN3:ConOk Tryz.prog 262 ⟨ydl,yk0,fun x=>yh4 x.1 x.2.1⟩:=zj1 (yMX) Tryz.func262 (by kernel_rfl) (by kernel_rfl) Tryz.ntmps262.symm (by decide) (fun x r h=>(yRs x).trans h)
def ygs (a0:List Int) (a1:Int):Int:=yB9 a0 a1
theorem yQg (a0:List Int) (a1:Int) (hk:zi1 ydl (a0,a1,())):yh4 a0 a1=(fun n=>some ((n,()),())) (ygs a0 a1):=by
 have hb:a0.length * 8≤2 ^ 47:=hk.1.1
 have h1:=zj8 (step:=yaD) a0.length (fun i s=>ylO a0 a1 s i) (fun n (i:Nat)=>bif (i:Int) !=a1 then xw n (nth a0 i 0) else n) (fun _ _=>True) (fun s=> .inl (yLw s)) (fun i s hi _=>⟨by
  simp only [yaD,ylO,ylU,zj4 (show (i:Int) < a0.length by omega),cond_true,wr (show -9223372036854775808≤(i:Int)+1 by omega) (by omega),Int.natCast_add,Int.natCast_one,Int.toNat_natCast,zkl hi]
  cases ((i:Int) !=a1)<;>rfl,trivial⟩) (fun s _=>by simp only [yaD,ylO,ylU,zkx (Int.le_refl _),cond_false]) 0 trivial 18446744073709551616 (by omega)
 rw [yabv]at h1
 unfold yh4 ygs
 rw [show ymZ (yLy a0 a1)=_ from h1]; rfl
def yzv:Con:=⟨ydl,yk0,fun x=>(fun n=>some ((n,()),())) (ygs x.1 x.2.1)⟩
theorem yQq:ConOk Tryz.prog 262 yzv:=(yN3).mono (fun x r hk h=>(yQg x.1 x.2.1 hk).trans h)
end
section
def ymW:Code:=(Tryz.f206.body).getD .skip
def yt0:Env:=zj2 TT [(215,yKJ),(262,yzv)] []
theorem yUM:FrOk Tryz.prog ⟨yt0,45,fun _=>none⟩ ymW:=zj6 yc yd ⟨y6W,yQq,trivial⟩
def yG4:Nat→Option Seg:=fun _=>none
def ycj:Shape:=⟨[(1,false,[.int .i64]),(2,false,[.ptr 0 0]),(6,false,[.at 800000000]),(7,false,[.int .i64]),(8,false,[.int .i64])],[(0,[.int .i64,.int .i64,.int .i64,.br tM,.int .i64,.int .i64,.int .i64,.int .i64,.int .i64,.br tW,.int .i64,.bool,.bool])],[(800000000,tI,.fz)]⟩
def yhK:Shape:=⟨[(1,false,[.int .i64]),(2,false,[.ptr 0 0]),(6,false,[.at 800000000]),(7,false,[.ci .i64 (-1)]),(8,false,[.ci .i64 0])],[(0,[.int .i64,.int .i64,.int .i64,.br tM,.int .i64,.int .i64,.int .i64,.int .i64,.int .i64,.br tW,.int .i64,.bool,.bool])],[(800000000,tI,.fz)]⟩
def yhv:Shape:=⟨[(6,false,[.at 800000000]),(7,false,[.int .i64])],[],[(800000000,tI,.fz)]⟩
def yhS:Shape:=⟨[(4,false,[.at 800000000]),(5,false,[.bool])],[],[(800000000,tI,.fz)]⟩
abbrev ytn (v0 v1 v2:Int) (v3:dA) (v4:List Int):(ycj).X:=(((v0,()),((),()),((),()),(v1,()),(v2,()),()),((v3.1,v3.2.1.1,v3.2.1.2,v3.2.2.1,v3.2.2.2.1,v3.2.2.2.2.1,v3.2.2.2.2.2.1,v3.2.2.2.2.2.2.1,v3.2.2.2.2.2.2.2.1,v3.2.2.2.2.2.2.2.2.1,v3.2.2.2.2.2.2.2.2.2.1,v3.2.2.2.2.2.2.2.2.2.2.1,v3.2.2.2.2.2.2.2.2.2.2.2,()),()),(v4,()))
abbrev ySA (v0:Int) (v1:dA) (v2:List Int):(yhK).X:=(((v0,()),((),()),((),()),((),()),((),()),()),((v1.1,v1.2.1.1,v1.2.1.2,v1.2.2.1,v1.2.2.2.1,v1.2.2.2.2.1,v1.2.2.2.2.2.1,v1.2.2.2.2.2.2.1,v1.2.2.2.2.2.2.2.1,v1.2.2.2.2.2.2.2.2.1,v1.2.2.2.2.2.2.2.2.2.1,v1.2.2.2.2.2.2.2.2.2.2.1,v1.2.2.2.2.2.2.2.2.2.2.2,()),()),(v2,()))
abbrev ySl (v0:Int) (v1:List Int):(yhv).X:=((((),()),(v0,()),()),(),(v1,()))
abbrev ySH (v0:Bool) (v1:List Int):(yhS).X:=((((),()),(v0,()),()),(),(v1,()))
def ytM (v0 v1 v2 v3 v4 v5:Int) (v6:List dM) (v7 v8 v9 v10 v11:Int) (v12:List dW) (v13:Int) (v14 v15:Bool) (v16:List Int):Option ((ycj).X ⊕ ((yhv).X ⊕ (yhS).X)) :=
 bif (ltb v2 v4) then
 let r2:=yqh (v3,(v4,v5),v6,v7,v8,v9,v10,v11,v12,v13,v14,v15) v2 v0
 bif (!r2.2) then
 bif (leb 0 v1) then
 some (.inr (.inr ((((),()),(false,()),()),(),(([]:List Int),()))))
 else
 bif (zjQ v16.length ([r2.1]:List Int).length 8) then
 some (.inl (((v0,()),((),()),((),()),(v2,()),((IntKind.i64.wrap (v2+1)),()),()),((v3,v4,v5,v6,v7,v8,v9,v10,v11,v12,v13,v14,v15,()),()),((v16++([r2.1]:List Int)),())))
 else none
 else
 bif (zjQ v16.length ([r2.1]:List Int).length 8) then
 some (.inl (((v0,()),((),()),((),()),(v1,()),((IntKind.i64.wrap (v2+1)),()),()),((v3,v4,v5,v6,v7,v8,v9,v10,v11,v12,v13,v14,v15,()),()),((v16++([r2.1]:List Int)),())))
 else none
 else
 some (.inr (.inl ((((),()),(v1,()),()),(),(v16,()))))
def ycK (x:(ycj).X):=ytM x.1.1.1 x.1.2.2.2.1.1 x.1.2.2.2.2.1.1 x.2.1.1.1 x.2.1.1.2.1 x.2.1.1.2.2.1 x.2.1.1.2.2.2.1 x.2.1.1.2.2.2.2.1 x.2.1.1.2.2.2.2.2.1 x.2.1.1.2.2.2.2.2.2.1 x.2.1.1.2.2.2.2.2.2.2.1 x.2.1.1.2.2.2.2.2.2.2.2.1 x.2.1.1.2.2.2.2.2.2.2.2.2.1 x.2.1.1.2.2.2.2.2.2.2.2.2.2.1 x.2.1.1.2.2.2.2.2.2.2.2.2.2.2.1 x.2.1.1.2.2.2.2.2.2.2.2.2.2.2.2.1 x.2.2.1
def yDw (x:(yhK).X):(ycj).X:=(((x.1.1.1,()),((),()),((),()),((-1),()),(0,()),()),((x.2.1.1.1,x.2.1.1.2.1,x.2.1.1.2.2.1,x.2.1.1.2.2.2.1,x.2.1.1.2.2.2.2.1,x.2.1.1.2.2.2.2.2.1,x.2.1.1.2.2.2.2.2.2.1,x.2.1.1.2.2.2.2.2.2.2.1,x.2.1.1.2.2.2.2.2.2.2.2.1,x.2.1.1.2.2.2.2.2.2.2.2.2.1,x.2.1.1.2.2.2.2.2.2.2.2.2.2.1,x.2.1.1.2.2.2.2.2.2.2.2.2.2.2.1,x.2.1.1.2.2.2.2.2.2.2.2.2.2.2.2.1,()),()),(x.2.2.1,()))
def yFo:Code:=(zdD ymW 64 244).getD .skip
theorem yTZ:zdD ymW 64 61=some (.block 0 (.loop yFo)):=by kernel_rfl
theorem yWe (x:(ycj).X):zg0 ⟨yt0,45,yG4⟩ 0 yFo 244 ycj yhv yhS x=ycK x:=by kernel_rfl
def yDO (x:(yhK).X):Nat:=18446744073709551616
def yu8 (x:(yhK).X):Option ((yhv).X ⊕ (yhS).X):=zz ycK (yDO x) (yDw x)
def yEh:Seg:=⟨yhK,yhv,yhS,yu8⟩
def yG5:Nat→Option Seg:=fun q=>bif Nat.beq q 61 then some yEh else yG4 q
theorem yUN:FrOk Tryz.prog ⟨yt0,45,yG5⟩ ymW:=(yUM).loop (sg:=yEh) ycj yDw (by decide) yTZ ycK yDO (by decide) (fun _=>rfl) (fun x r _ h=>h) yWe
abbrev yfs:List Par:= [.rd tA,.rd tI]
abbrev yny:List OT:= [⟨false,tL,(.ow .fz)⟩,⟨false,tB,.fz⟩]
def ypc (a0:dA) (a1:Int):Option (ResD yny×MutD yfs) :=
 zjY (yu8 (((a1,()),((),()),((),()),((),()),((),()),()),((a0.1,a0.2.1.1,a0.2.1.2,a0.2.2.1,a0.2.2.2.1,a0.2.2.2.2.1,a0.2.2.2.2.2.1,a0.2.2.2.2.2.2.1,a0.2.2.2.2.2.2.2.1,a0.2.2.2.2.2.2.2.2.1,a0.2.2.2.2.2.2.2.2.2.1,a0.2.2.2.2.2.2.2.2.2.2.1,a0.2.2.2.2.2.2.2.2.2.2.2,()),()),(([]:List Int),()))) (fun y2 =>
 bif (leb 0 y2.1.2.1.1) then
 let r4:=ygs y2.2.2.1 y2.1.2.1.1
 bif (inb y2.1.2.1.1 y2.2.2.1.length) then
 some (((y2.2.2.1.set (y2.1.2.1.1).toNat r4),true,()),())
 else none
 else
 some ((y2.2.2.1,true,()),())) (fun y2 =>
 some ((y2.2.2.1,y2.1.2.1.1,()),()))
theorem y5k (x:InD yfs):zjw ⟨yt0,45,yG5⟩ Tryz.f206.results.toList ymW yfs yny x=ypc x.1 x.2.1:=by kernel_rfl
theorem yZA:ConOk Tryz.prog 206 ⟨yfs,yny,fun x=>ypc x.1 x.2.1⟩:=zj1 (yUN) Tryz.func206 (by kernel_rfl) (by kernel_rfl) Tryz.ntmps206.symm (by decide) (fun x r h=>(y5k x).trans h)
def yiq (a0:dA) (a1:Int):List Int×Bool:=yax a0 a1
def yCk (a0:dA) (a1:Int):Bool:=yf a0.2.1
theorem y27 (a0:dA) (a1:Int) (hk:zi1 yfs (a0,a1,())) (hq:yCk a0 a1=true):ypc a0 a1=(fun n=>some ((n.1,n.2,()),())) (yiq a0 a1):=by
 have hg:=yk.1 hq
 have h1:yu8 (ySA a1 a0 [])=some (bif y2C (fun (i:Nat)=>yP a0 i a1) a0.2.1.1.toNat then .inr (ySH false []) else .inl (ySl (yai (fun (i:Nat)=>yP a0 i a1) a0.2.1.1.toNat) (yaJ a0 a1 a0.2.1.1.toNat))) :=
  ziN (step:=ycK) (fun i=>ytn a1 (yai (fun (i:Nat)=>yP a0 i a1) i) i a0 (yaJ a0 a1 i)) a0.2.1.1.toNat (fun i=> !yP a0 i a1&&leb 0 (yai (fun (i:Nat)=>yP a0 i a1) i)) _ _ (fun i hi=>by
   simp only [ycK,ytn,ytM,zj4 (show (i:Int) < a0.2.1.1 by omega),cond_true,wr (show -9223372036854775808≤(i:Int)+1 by omega) (by omega),Int.natCast_add,Int.natCast_one,Int.toNat_natCast,zkr,yqh,yai]
   rw [zka.2 (show ((yaJ a0 a1 i).length+ [yOf a0 i a1].length) * 8≤140737488355328 by simp only [List.length_cons,List.length_nil,yAM]; omega),y86]
   cases yP a0 i a1<;>cases leb 0 (yai (fun (i:Nat)=>yP a0 i a1) i)<;>rfl) (by simp only [ycK,ytn,ytM,zkx (show a0.2.1.1≤(a0.2.1.1.toNat:Int) by omega),cond_false]) _ (by show _ < 18446744073709551616; omega)
 unfold ypc yiq yax
 rw [h1]
 cases y2C (fun (i:Nat)=>yP a0 i a1) a0.2.1.1.toNat
 ·simp only [cond_false,zkh,ygs]
  cases hm:leb 0 (yai (fun (i:Nat)=>yP a0 i a1) a0.2.1.1.toNat)
  ·rfl
  ·obtain ⟨h2,h3⟩:=yabw a0 a1 a0.2.1.1.toNat hm
   rw [h2,h3]; rfl
 ·rfl
def yn2 (a0:dA) (a1:Int):Option (ResD yny×MutD yfs):=bif yCk a0 a1 then (fun n=>some ((n.1,n.2,()),())) (yiq a0 a1) else none
theorem yLh (a0:dA) (a1:Int) (h:yCk a0 a1=true):yn2 a0 a1=(fun n=>some ((n.1,n.2,()),())) (yiq a0 a1):=by unfold yn2; rw [h]; rfl
def yxp:Con:=⟨yfs,yny,fun x=>yn2 x.1 x.2.1⟩
theorem yLb:ConOk Tryz.prog 206 yxp:=(yZA).mono (fun x r hk h=>zks h (fun hq=>y27 x.1 x.2.1 hk hq))
end
section
def yJn:Code:=(Tryz.f288.body).getD .skip
def yJ8:Env:=zj2 TT [(134,yik),(135,yq)] []
theorem yR8:FrOk Tryz.prog ⟨yJ8,14,fun _=>none⟩ yJn:=zj6 yc yd ⟨yqj,yy,trivial⟩
def yTJ:Nat→Option Seg:=fun _=>none
abbrev yko:List Par:= [.rd tG,.rd tI]
abbrev yrG:List OT:= [⟨false,tB,.fz⟩]
def yvD (a0:dG) (a1:Int):Option (ResD yrG×MutD yko) :=
 let r1:=yf a0
 bif r1 then
 let r2:=ya a1 0 (IntKind.i64.wrap (a0.2 - 1))
 some ((r2,()),())
 else
 some ((false,()),())
theorem y1D (x:InD yko):zjw ⟨yJ8,14,yTJ⟩ Tryz.f288.results.toList yJn yko yrG x=yvD x.1 x.2.1:=by kernel_rfl
theorem yVO:ConOk Tryz.prog 288 ⟨yko,yrG,fun x=>yvD x.1 x.2.1⟩:=zj1 (yR8) Tryz.func288 (by kernel_rfl) (by kernel_rfl) Tryz.ntmps288.symm (by decide) (fun x r h=>(y1D x).trans h)
def ygY (a0:dG) (a1:Int):Bool :=
 let r1:=yf a0
 bif r1 then
 let r2:=ya a1 0 (IntKind.i64.wrap (a0.2 - 1))
 r2
 else
 false
def yvj:Con:=⟨yko,yrG,fun x=>(fun n=>some ((n,()),())) (ygY x.1 x.2.1)⟩
theorem yY7 (a0:dG) (a1:Int):yvD a0 a1=(fun n=>some ((n,()),())) (ygY a0 a1):=zkp (p:=fun (n:Bool)=>((n,()),())) (zkb (p:=fun (n:Bool)=>((n,()),())) rfl rfl)
theorem yIB:ConOk Tryz.prog 288 yvj:=(yVO).mono (fun x r _ h=>(yY7 x.1 x.2.1).trans h)
theorem yWv (g:dG) (s:Int):ygY g s=ycU g s:=by
 unfold ygY ycU
 cases hg:yf g
 ·rfl
 have:=yk.1 hg
 rw [ybr,wr (by omega) (by omega)]; rfl
end
section
def yJh:Code:=(Tryz.f272.body).getD .skip
def yJ2:Env:=zj2 TT [(288,yvj)] []
theorem yR0:FrOk Tryz.prog ⟨yJ2,17,fun _=>none⟩ yJh:=zj6 yc yd ⟨yIB,trivial⟩
def yTD:Nat→Option Seg:=fun _=>none
abbrev ygL:List Par:= [.rd tG,.rd tI]
abbrev yrA:List OT:= [⟨false,tI,.fz⟩]
def ymC (a0:dG) (a1:Int):Option (ResD yrA×MutD ygL) :=
 let r1:=ygY a0 a1
 bif (!r1) then
 some (((-1),()),())
 else
 bif (a0.1 !=0) then
 some (((IntKind.i64.wrap ((IntKind.i64.wrap (a0.1 - 1)) - (a1.tmod a0.1))),()),())
 else none
theorem y1w (x:InD ygL):zjw ⟨yJ2,17,yTD⟩ Tryz.f272.results.toList yJh ygL yrA x=ymC x.1 x.2.1:=by kernel_rfl
theorem yVH:ConOk Tryz.prog 272 ⟨ygL,yrA,fun x=>ymC x.1 x.2.1⟩:=zj1 (yR0) Tryz.func272 (by kernel_rfl) (by kernel_rfl) Tryz.ntmps272.symm (by decide) (fun x r h=>(y1w x).trans h)
def yek (a0:dG) (a1:Int):Int:=yh a0 a1
theorem yY0 (a0:dG) (a1:Int) (hk:zi1 ygL (a0,a1,())):ymC a0 a1=(fun n=>some ((n,()),())) (yek a0 a1):=by
 unfold ymC yek
 rw [yWv]
 cases hs:ycU a0 a1
 ·unfold yh; rw [hs]; rfl
 ·have h1:=ybK.1 hs
  have h2:=yk.1 h1.1
  have h3:=ytt hs
  have h4:yh a0 a1=a0.1 - 1 - a1.tmod a0.1:=by unfold yh; rw [hs]; rfl
  rw [show (a0.1 !=0)=true from bne_iff_ne.2 (by omega),wr (show -9223372036854775808≤a0.1 - 1 by omega) (by omega),wr (show -9223372036854775808≤a0.1 - 1 - a1.tmod a0.1 by omega) (by omega),h4]; rfl
def yvg:Con:=⟨ygL,yrA,fun x=>(fun n=>some ((n,()),())) (yek x.1 x.2.1)⟩
theorem yIy:ConOk Tryz.prog 272 yvg:=(yVH).mono (fun x r hk h=>(yY0 x.1 x.2.1 hk).trans h)
end
end
end Go.Tf
