/- Functions of the program, and what they come to. -/
import Derived.Test.YtgmadfpnljibhaaGreatExactFlushAllF1
namespace Go.Tf
noncomputable section
open Go.Proofs
set_option synthInstance.maxHeartbeats 400000
set_option synthInstance.maxSize 10000
set_option linter.unusedVariables false
set_option linter.unusedSimpArgs false
set_option maxRecDepth 100000
section
def yKM:Code:=(Tryz.f122.body).getD .skip
def yLb:Env:=zki TT [(126,yw)] []
theorem yUn:FrOk Tryz.prog ⟨yLb,11,fun _=>none⟩ yKM:=zkp yb yc ⟨yQ,trivial⟩
def yW3:Nat→Option Seg:=fun _=>none
abbrev yp0:List Par:= [.rd tG]
abbrev yvw:List OT:= [⟨false,tB,.fz⟩]
def yyg (a0:dG):Option (ResD yvw×MutD yp0) :=
 let r1:=ye a0.1 3 5
 bif r1 then
 let r2:=ye a0.2 1 8
 some ((r2,()),())
 else
 some ((false,()),())
theorem y17 (x:InD yp0):zjH ⟨yLb,11,yW3⟩ Tryz.f122.results.toList yKM yp0 yvw x=yyg x.1:=by kernel_rfl
theorem yYL:ConOk Tryz.prog 122 ⟨yp0,yvw,fun x=>yyg x.1⟩:=zkh (yUn) Tryz.func122 (by kernel_rfl) (by kernel_rfl) Tryz.ntmps122.symm (by decide) (fun x r h=>(y17 x).trans h)
def yeL (a0:dG):Bool :=
 let r1:=ye a0.1 3 5
 bif r1 then
 let r2:=ye a0.2 1 8
 r2
 else
 false
def yrn:Con:=⟨yp0,yvw,fun x=>(fun n=>some ((n,()),())) (yeL x.1)⟩
theorem y0S (a0:dG):yyg a0=(fun n=>some ((n,()),())) (yeL a0):=zkS (p:=fun (n:Bool)=>((n,()),())) (zkx (p:=fun (n:Bool)=>((n,()),())) rfl rfl)
theorem yAt:ConOk Tryz.prog 122 yrn:=(yYL).mono (fun x r _ h=>(y0S x.1).trans h)
theorem yU9 (a:Int×Int):yeL a=yf a:=by kernel_rfl
end
section
def yJh:Code:=(Tryz.f131.body).getD .skip
def yJG:Env:=zki TT [(126,yw)] []
theorem yQC:FrOk Tryz.prog ⟨yJG,26,fun _=>none⟩ yJh:=zkp yb yc ⟨yQ,trivial⟩
def yTn:Nat→Option Seg:=fun _=>none
abbrev ync:List Par:= [.rd tG,.rd tI,.rd tI]
abbrev ytd:List OT:= [⟨false,tB,.fz⟩]
def ywN (a0:dG) (a1 a2:Int):Option (ResD ytd×MutD ync) :=
 let r1:=ye a1 (-1) (IntKind.i64.wrap (a0.1 - 1))
 bif r1 then
 let r2:=ye a2 0 a0.2
 bif r2 then
 bif (!(a2==0)) then
 some (((a1 !=(-1)),()),())
 else
 some ((true,()),())
 else
 some ((false,()),())
 else
 some ((false,()),())
theorem y0m (x:InD ync):zjH ⟨yJG,26,yTn⟩ Tryz.f131.results.toList yJh ync ytd x=ywN x.1 x.2.1 x.2.2.1:=by kernel_rfl
theorem yVU:ConOk Tryz.prog 131 ⟨ync,ytd,fun x=>ywN x.1 x.2.1 x.2.2.1⟩:=zkh (yQC) Tryz.func131 (by kernel_rfl) (by kernel_rfl) Tryz.ntmps131.symm (by decide) (fun x r h=>(y0m x).trans h)
def yfu (a0:dG) (a1 a2:Int):Bool :=
 let r1:=ye a1 (-1) (IntKind.i64.wrap (a0.1 - 1))
 bif r1 then
 let r2:=ye a2 0 a0.2
 bif r2 then
 bif (!(a2==0)) then
 (a1 !=(-1))
 else
 true
 else
 false
 else
 false
def yv6:Con:=⟨ync,ytd,fun x=>(fun n=>some ((n,()),())) (yfu x.1 x.2.1 x.2.2.1)⟩
theorem yYg (a0:dG) (a1 a2:Int):ywN a0 a1 a2=(fun n=>some ((n,()),())) (yfu a0 a1 a2):=zkS (p:=fun (n:Bool)=>((n,()),())) (zkx (p:=fun (n:Bool)=>((n,()),())) (zkx (p:=fun (n:Bool)=>((n,()),())) (zkx (p:=fun (n:Bool)=>((n,()),())) rfl rfl) rfl) rfl)
theorem yIr:ConOk Tryz.prog 131 yv6:=(yVU).mono (fun x r _ h=>(yYg x.1 x.2.1 x.2.2.1).trans h)
end
section
def yCK:Code:=(Tryz.f116.body).getD .skip
def yDe:Env:=zki TT [(122,yrn),(126,yw)] []
theorem yKi:FrOk Tryz.prog ⟨yDe,14,fun _=>none⟩ yCK:=zkp yb yc ⟨yAt,yQ,trivial⟩
def yLa:Nat→Option Seg:=fun _=>none
abbrev ygD:List Par:= [.rd tG,.rd tI]
abbrev yl5:List OT:= [⟨false,tB,.fz⟩]
def yqB (a0:dG) (a1:Int):Option (ResD yl5×MutD ygD) :=
 let r1:=yeL a0
 bif r1 then
 let r2:=ye a1 0 (IntKind.i64.wrap (a0.2 - 1))
 some ((r2,()),())
 else
 some ((false,()),())
theorem yQn (x:InD ygD):zjH ⟨yDe,14,yLa⟩ Tryz.f116.results.toList yCK ygD yl5 x=yqB x.1 x.2.1:=by kernel_rfl
theorem yMY:ConOk Tryz.prog 116 ⟨ygD,yl5,fun x=>yqB x.1 x.2.1⟩:=zkh (yKi) Tryz.func116 (by kernel_rfl) (by kernel_rfl) Tryz.ntmps116.symm (by decide) (fun x r h=>(yQn x).trans h)
def yS (a0:dG) (a1:Int):Bool :=
 let r1:=yeL a0
 bif r1 then
 let r2:=ye a1 0 (IntKind.i64.wrap (a0.2 - 1))
 r2
 else
 false
def yct:Con:=⟨ygD,yl5,fun x=>(fun n=>some ((n,()),())) (yS x.1 x.2.1)⟩
theorem yOP (a0:dG) (a1:Int):yqB a0 a1=(fun n=>some ((n,()),())) (yS a0 a1):=zkS (p:=fun (n:Bool)=>((n,()),())) (zkx (p:=fun (n:Bool)=>((n,()),())) rfl rfl)
theorem yf7:ConOk Tryz.prog 116 yct:=(yMY).mono (fun x r _ h=>(yOP x.1 x.2.1).trans h)
theorem yyM (g:dG) (s:Int):yS g s=yK g s:=by
 unfold yS yK
 rw [yU9]
 cases hg:yf g
 ·rfl
 have:=yo.1 hg
 rw [yaH,yff,wr (by omega) (by omega)]; rfl
end
section
def yJg:Code:=(Tryz.f179.body).getD .skip
def yJF:Env:=zki TT [(126,yw)] []
theorem yQB:FrOk Tryz.prog ⟨yJF,5,fun _=>none⟩ yJg:=zkp yb yc ⟨yQ,trivial⟩
def yTm:Nat→Option Seg:=fun _=>none
abbrev ynb:List Par:= [.rd tI]
abbrev ytc:List OT:= [⟨false,tB,.fz⟩]
def ywM (a0:Int):Option (ResD ytc×MutD ynb) :=
 let r1:=ye a0 0 65535
 some ((r1,()),())
theorem y0l (x:InD ynb):zjH ⟨yJF,5,yTm⟩ Tryz.f179.results.toList yJg ynb ytc x=ywM x.1:=by kernel_rfl
theorem yVT:ConOk Tryz.prog 179 ⟨ynb,ytc,fun x=>ywM x.1⟩:=zkh (yQB) Tryz.func179 (by kernel_rfl) (by kernel_rfl) Tryz.ntmps179.symm (by decide) (fun x r h=>(y0l x).trans h)
def yW (a0:Int):Bool :=
 let r1:=ye a0 0 65535
 r1
def yGj:Con:=⟨ynb,ytc,fun x=>(fun n=>some ((n,()),())) (yW x.1)⟩
theorem yYf (a0:Int):ywM a0=(fun n=>some ((n,()),())) (yW a0):=zkS (p:=fun (n:Bool)=>((n,()),())) rfl
theorem yZo:ConOk Tryz.prog 179 yGj:=(yVT).mono (fun x r _ h=>(yYf x.1).trans h)
end
section
def ykA:Code:=(Tryz.f228.body).getD .skip
def yqT:Env:=zki TT [(179,yGj)] []
theorem yOa:FrOk Tryz.prog ⟨yqT,15,fun _=>none⟩ ykA:=zkp yb yc ⟨yZo,trivial⟩
def yCR:Nat→Option Seg:=fun _=>none
def ydh:Shape:=⟨[(5,false,[.br tI]),(6,false,[.int .i64]),(7,false,[.int .i64])],[],[]⟩
def yjN:Shape:=⟨[(5,false,[.br tI]),(6,false,[.int .i64]),(7,false,[.ci .i64 0])],[],[]⟩
def yjG:Shape:=⟨[],[],[]⟩
def yj0:Shape:=⟨[(2,false,[.bool])],[],[]⟩
def yqG (v0:List Int) (v1 v2:Int):Option ((ydh).X ⊕ ((yjG).X ⊕ (yj0).X)) :=
 bif (ltb v2 v1) then
 bif (inb v2 v0.length) then
 let r2:=yW (nth v0 v2 0)
 bif (!r2) then
 some (.inr (.inr (((false,()),()),(),())))
 else
 some (.inl (((v0,()),(v1,()),((IntKind.i64.wrap (v2+1)),()),()),(),()))
 else none
 else
 some (.inr (.inl ((),(),())))
def ybI (x:(ydh).X):=yqG x.1.1.1 x.1.2.1.1 x.1.2.2.1.1
def yzs (x:(yjN).X):(ydh).X:=(((x.1.1.1,()),(x.1.2.1.1,()),(0,()),()),(),())
def yBe:Code:=(zdI ykA 64 52).getD .skip
theorem yNJ:zdI ykA 64 13=some (.block 0 (.loop yBe)):=by kernel_rfl
theorem yPr (x:(ydh).X):zg7 ⟨yqT,15,yCR⟩ 0 yBe 52 ydh yjG yj0 x=ybI x:=by kernel_rfl
def yzI (x:(yjN).X):Nat:=18446744073709551616
def yrV (x:(yjN).X):Option ((yjG).X ⊕ (yj0).X):=zr ybI (yzI x) (yzs x)
def yz7:Seg:=⟨yjN,yjG,yj0,yrV⟩
def yCS:Nat→Option Seg:=fun q=>bif Nat.beq q 13 then some yz7 else yCR q
theorem yOb:FrOk Tryz.prog ⟨yqT,15,yCS⟩ ykA:=(yOa).loop (sg:=yz7) ydh yzs (by decide) yNJ ybI yzI (by decide) (fun _=>rfl) (fun x r _ h=>h) yPr
abbrev ygo:List Par:= [.rd tL]
abbrev yq9:List OT:= [⟨false,tB,.fz⟩]
def ymB (a0:List Int):Option (ResD yq9×MutD ygo) :=
 zjw (yrV (((a0,()),((a0.length:Int),()),((),()),()),(),())) (fun y2 =>
 some ((true,()),())) (fun y2 =>
 some ((y2.1.1.1,()),()))
theorem yXD (x:InD ygo):zjH ⟨yqT,15,yCS⟩ Tryz.f228.results.toList ykA ygo yq9 x=ymB x.1:=by kernel_rfl
theorem ySj:ConOk Tryz.prog 228 ⟨ygo,yq9,fun x=>ymB x.1⟩:=zkh (yOb) Tryz.func228 (by kernel_rfl) (by kernel_rfl) Tryz.ntmps228.symm (by decide) (fun x r h=>(yXD x).trans h)
def yO (a0:List Int):Bool:=a0.all yW
theorem yVt (a0:List Int) (hk:zi9 ygo (a0,())):ymB a0=(fun n=>some ((n,()),())) (yO a0):=by
 have hb:a0.length * 8≤2 ^ 47:=hk.1.1
 have hl:yrV (((a0,()),((a0.length:Int),()),((),()),()),(),())=some (bif a0.all yW then .inl ((),(),()) else .inr (((false,()),()),(),())) :=
  zjS (step:=ybI) a0 0 (fun i=>(((a0,()),((a0.length:Int),()),((i:Int),()),()),(),())) yW _ _ (fun i hi=>by
   simp only [ybI,yqG,zkO hi,zjW,zjI (show (i:Int) < a0.length by omega),cond_true,wr (show -9223372036854775808≤(i:Int)+1 by omega) (by omega),Int.natCast_add,Int.natCast_one]
   cases yW (a0.getD i 0)<;>rfl) (by simp only [ybI,yqG,zkm (Int.le_refl _),cond_false]) _ (by show _ < 18446744073709551616; omega)
 unfold ymB yO
 rw [hl]
 cases a0.all yW<;>rfl
def ymp:Con:=⟨ygo,yq9,fun x=>(fun n=>some ((n,()),())) (yO x.1)⟩
theorem ywC:ConOk Tryz.prog 228 ymp:=(ySj).mono (fun x r hk h=>(yVt x.1 hk).trans h)
end
section
def yJd:Code:=(Tryz.f144.body).getD .skip
def yJC:Env:=zki TT [(228,ymp)] []
theorem yQy:FrOk Tryz.prog ⟨yJC,15,fun _=>none⟩ yJd:=zkp yb yc ⟨ywC,trivial⟩
def yTj:Nat→Option Seg:=fun _=>none
abbrev ym8:List Par:= [.rd tG,.rd tL]
abbrev ys9:List OT:= [⟨false,tB,.fz⟩]
def ywJ (a0:dG) (a1:List Int):Option (ResD ys9×MutD ym8) :=
 bif ((a1.length:Int)==(IntKind.i64.wrap (a0.1 - 1))) then
 let r1:=yO a1
 some ((r1,()),())
 else
 some ((false,()),())
theorem y0i (x:InD ym8):zjH ⟨yJC,15,yTj⟩ Tryz.f144.results.toList yJd ym8 ys9 x=ywJ x.1 x.2.1:=by kernel_rfl
theorem yVQ:ConOk Tryz.prog 144 ⟨ym8,ys9,fun x=>ywJ x.1 x.2.1⟩:=zkh (yQy) Tryz.func144 (by kernel_rfl) (by kernel_rfl) Tryz.ntmps144.symm (by decide) (fun x r h=>(y0i x).trans h)
def ydK (a0:dG) (a1:List Int):Bool :=
 bif ((a1.length:Int)==(IntKind.i64.wrap (a0.1 - 1))) then
 let r1:=yO a1
 r1
 else
 false
def yv4:Con:=⟨ym8,ys9,fun x=>(fun n=>some ((n,()),())) (ydK x.1 x.2.1)⟩
theorem yYc (a0:dG) (a1:List Int):ywJ a0 a1=(fun n=>some ((n,()),())) (ydK a0 a1):=zkS (p:=fun (n:Bool)=>((n,()),())) (zkx (p:=fun (n:Bool)=>((n,()),())) rfl rfl)
theorem yIp:ConOk Tryz.prog 144 yv4:=(yVQ).mono (fun x r _ h=>(yYc x.1 x.2.1).trans h)
end
end
end Go.Tf
