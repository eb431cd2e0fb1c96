/- Functions of the program, and what they come to. -/
import Derived.Test.YtgmadfpnljibhaaGreatBuiltBentF12
namespace Go.Tf
noncomputable section
open Go.Proofs
set_option synthInstance.maxHeartbeats 400000
set_option synthInstance.maxSize 10000
set_option linter.unusedVariables false
set_option linter.unusedSimpArgs false
set_option maxRecDepth 100000
section
def yE2:Code:=(Tryz.f100.body).getD .skip
def yFG:Env:=zki TT [] []
theorem yMa:FrOk Tryz.prog ⟨yFG,6,fun _=>none⟩ yE2:=zkp yc yd trivial
def yNS:Nat→Option Seg:=fun _=>none
abbrev ykB:List Par:= [.rd tG]
abbrev yqk:List OT:= [⟨false,tI,.fz⟩]
def yty (a0:dG):Option (ResD yqk×MutD ykB) :=
  some (((IntKind.i64.wrap (6+a0.2)),()),())
theorem yU8 (x:InD ykB):zjH ⟨yFG,6,yNS⟩ Tryz.f100.results.toList yE2 ykB yqk x=yty x.1:=by kernel_rfl
theorem yQi:ConOk Tryz.prog 100 ⟨ykB,yqk,fun x=>yty x.1⟩:=zkh (yMa) Tryz.func100 (by kernel_rfl) (by kernel_rfl) Tryz.ntmps100.symm (by decide) (fun x r h=>(yU8 x).trans h)
def ygC (a0:dG):Int :=
  (IntKind.i64.wrap (6+a0.2))
def ys4:Con:=⟨ykB,yqk,fun x=>(fun n=>some ((n,()),())) (ygC x.1)⟩
theorem yTg (a0:dG):yty a0=(fun n=>some ((n,()),())) (ygC a0):=zkS (p:=fun (n:Int)=>((n,()),())) rfl
theorem yEA:ConOk Tryz.prog 100 ys4:=(yQi).mono (fun x r _ h=>(yTg x.1).trans h)
end
section
def yHl:Code:=(Tryz.f126.body).getD .skip
def yHO:Env:=zki TT [] []
theorem yOF:FrOk Tryz.prog ⟨yHO,15,fun _=>none⟩ yHl:=zkp yc yd trivial
def yRc:Nat→Option Seg:=fun _=>none
abbrev ymz:List Par:= [.rd tI,.rd tI,.rd tI]
abbrev ysi:List OT:= [⟨false,tB,.fz⟩]
def yvJ (a0:Int) (a1:Int) (a2:Int):Option (ResD ysi×MutD ymz) :=
  bif (leb a1 a0) then
    some (((leb a0 a2),()),())
  else
    some ((false,()),())
theorem yXF (x:InD ymz):zjH ⟨yHO,15,yRc⟩ Tryz.f126.results.toList yHl ymz ysi x=yvJ x.1 x.2.1 x.2.2.1:=by kernel_rfl
theorem yTE:ConOk Tryz.prog 126 ⟨ymz,ysi,fun x=>yvJ x.1 x.2.1 x.2.2.1⟩:=zkh (yOF) Tryz.func126 (by kernel_rfl) (by kernel_rfl) Tryz.ntmps126.symm (by decide) (fun x r h=>(yXF x).trans h)
def yh (a0:Int) (a1:Int) (a2:Int):Bool :=
  bif (leb a1 a0) then
    (leb a0 a2)
  else
    false
def yJ:Con:=⟨ymz,ysi,fun x=>(fun n=>some ((n,()),())) (yh x.1 x.2.1 x.2.2.1)⟩
theorem yVH (a0:Int) (a1:Int) (a2:Int):yvJ a0 a1 a2=(fun n=>some ((n,()),())) (yh a0 a1 a2):=zkS (p:=fun (n:Bool)=>((n,()),())) (zkx (p:=fun (n:Bool)=>((n,()),())) rfl rfl)
theorem yaa:ConOk Tryz.prog 126 yJ:=(yTE).mono (fun x r _ h=>(yVH x.1 x.2.1 x.2.2.1).trans h)
theorem yaw (a b c:Int):yh a b c=ya a b c:=by kernel_rfl
end
section
def yI4:Code:=(Tryz.f122.body).getD .skip
def yJt:Env:=zki TT [(126,yJ)] []
theorem ySg:FrOk Tryz.prog ⟨yJt,11,fun _=>none⟩ yI4:=zkp yc yd ⟨yaa,trivial⟩
def yUJ:Nat→Option Seg:=fun _=>none
abbrev yo7:List Par:= [.rd tG]
abbrev yuD:List OT:= [⟨false,tB,.fz⟩]
def yxe (a0:dG):Option (ResD yuD×MutD yo7) :=
  let r1:=yh a0.1 3 5
  bif r1 then
    let r2:=yh a0.2 1 8
    some ((r2,()),())
  else
    some ((false,()),())
theorem yY5 (x:InD yo7):zjH ⟨yJt,11,yUJ⟩ Tryz.f122.results.toList yI4 yo7 yuD x=yxe x.1:=by kernel_rfl
theorem yV6:ConOk Tryz.prog 122 ⟨yo7,yuD,fun x=>yxe x.1⟩:=zkh (ySg) Tryz.func122 (by kernel_rfl) (by kernel_rfl) Tryz.ntmps122.symm (by decide) (fun x r h=>(yY5 x).trans h)
def yeZ (a0:dG):Bool :=
  let r1:=yh a0.1 3 5
  bif r1 then
    let r2:=yh a0.2 1 8
    r2
  else
    false
def yqx:Con:=⟨yo7,yuD,fun x=>(fun n=>some ((n,()),())) (yeZ x.1)⟩
theorem yYe (a0:dG):yxe a0=(fun n=>some ((n,()),())) (yeZ a0):=zkS (p:=fun (n:Bool)=>((n,()),())) (zkx (p:=fun (n:Bool)=>((n,()),())) rfl rfl)
theorem yyV:ConOk Tryz.prog 122 yqx:=(yV6).mono (fun x r _ h=>(yYe x.1).trans h)
theorem yS0 (a:Int×Int):yeZ a=yf a:=by kernel_rfl
end
section
def yHk:Code:=(Tryz.f131.body).getD .skip
def yHN:Env:=zki TT [(126,yJ)] []
theorem yOE:FrOk Tryz.prog ⟨yHN,26,fun _=>none⟩ yHk:=zkp yc yd ⟨yaa,trivial⟩
def yRb:Nat→Option Seg:=fun _=>none
abbrev ymy:List Par:= [.rd tG,.rd tI,.rd tI]
abbrev ysh:List OT:= [⟨false,tB,.fz⟩]
def yvI (a0:dG) (a1:Int) (a2:Int):Option (ResD ysh×MutD ymy) :=
  let r1:=yh a1 (-1) (IntKind.i64.wrap (a0.1 - 1))
  bif r1 then
    let r2:=yh a2 0 a0.2
    bif r2 then
      bif (!(a2==0)) then
        some (((a1 !=(-1)),()),())
      else
        some ((true,()),())
    else
      some ((false,()),())
  else
    some ((false,()),())
theorem yXE (x:InD ymy):zjH ⟨yHN,26,yRb⟩ Tryz.f131.results.toList yHk ymy ysh x=yvI x.1 x.2.1 x.2.2.1:=by kernel_rfl
theorem yTD:ConOk Tryz.prog 131 ⟨ymy,ysh,fun x=>yvI x.1 x.2.1 x.2.2.1⟩:=zkh (yOE) Tryz.func131 (by kernel_rfl) (by kernel_rfl) Tryz.ntmps131.symm (by decide) (fun x r h=>(yXE x).trans h)
def yfE (a0:dG) (a1:Int) (a2:Int):Bool :=
  let r1:=yh a1 (-1) (IntKind.i64.wrap (a0.1 - 1))
  bif r1 then
    let r2:=yh a2 0 a0.2
    bif r2 then
      bif (!(a2==0)) then
        (a1 !=(-1))
      else
        true
    else
      false
  else
    false
def yu8:Con:=⟨ymy,ysh,fun x=>(fun n=>some ((n,()),())) (yfE x.1 x.2.1 x.2.2.1)⟩
theorem yVG (a0:dG) (a1:Int) (a2:Int):yvI a0 a1 a2=(fun n=>some ((n,()),())) (yfE a0 a1 a2):=zkS (p:=fun (n:Bool)=>((n,()),())) (zkx (p:=fun (n:Bool)=>((n,()),())) (zkx (p:=fun (n:Bool)=>((n,()),())) (zkx (p:=fun (n:Bool)=>((n,()),())) rfl rfl) rfl) rfl)
theorem yGq:ConOk Tryz.prog 131 yu8:=(yTD).mono (fun x r _ h=>(yVG x.1 x.2.1 x.2.2.1).trans h)
end
section
def yAV:Code:=(Tryz.f116.body).getD .skip
def yBn:Env:=zki TT [(122,yqx),(126,yJ)] []
theorem yIt:FrOk Tryz.prog ⟨yBn,14,fun _=>none⟩ yAV:=zkp yc yd ⟨yyV,yaa,trivial⟩
def yJp:Nat→Option Seg:=fun _=>none
abbrev ygR:List Par:= [.rd tG,.rd tI]
abbrev ylB:List OT:= [⟨false,tB,.fz⟩]
def ypS (a0:dG) (a1:Int):Option (ResD ylB×MutD ygR) :=
  let r1:=yeZ a0
  bif r1 then
    let r2:=yh a1 0 (IntKind.i64.wrap (a0.2 - 1))
    some ((r2,()),())
  else
    some ((false,()),())
theorem yOp (x:InD ygR):zjH ⟨yBn,14,yJp⟩ Tryz.f116.results.toList yAV ygR ylB x=ypS x.1 x.2.1:=by kernel_rfl
theorem yK4:ConOk Tryz.prog 116 ⟨ygR,ylB,fun x=>ypS x.1 x.2.1⟩:=zkh (yIt) Tryz.func116 (by kernel_rfl) (by kernel_rfl) Tryz.ntmps116.symm (by decide) (fun x r h=>(yOp x).trans h)
def ycl (a0:dG) (a1:Int):Bool :=
  let r1:=yeZ a0
  bif r1 then
    let r2:=yh a1 0 (IntKind.i64.wrap (a0.2 - 1))
    r2
  else
    false
def ypt:Con:=⟨ygR,ylB,fun x=>(fun n=>some ((n,()),())) (ycl x.1 x.2.1)⟩
theorem yMZ (a0:dG) (a1:Int):ypS a0 a1=(fun n=>some ((n,()),())) (ycl a0 a1):=zkS (p:=fun (n:Bool)=>((n,()),())) (zkx (p:=fun (n:Bool)=>((n,()),())) rfl rfl)
theorem yAm:ConOk Tryz.prog 116 ypt:=(yK4).mono (fun x r _ h=>(yMZ x.1 x.2.1).trans h)
theorem yZ5 (g:dG) (s:Int):ycl g s=ycW g s:=by
  unfold ycl ycW
  rw [yS0]
  cases hg:yf g
  · rfl
  have:=yk.1 hg
  rw [yaw,ydj,wr (by omega) (by omega)]; rfl
end
section
def yHj:Code:=(Tryz.f179.body).getD .skip
def yHM:Env:=zki TT [(126,yJ)] []
theorem yOD:FrOk Tryz.prog ⟨yHM,5,fun _=>none⟩ yHj:=zkp yc yd ⟨yaa,trivial⟩
def yRa:Nat→Option Seg:=fun _=>none
abbrev ymx:List Par:= [.rd tI]
abbrev ysg:List OT:= [⟨false,tB,.fz⟩]
def yvH (a0:Int):Option (ResD ysg×MutD ymx) :=
  let r1:=yh a0 0 65535
  some ((r1,()),())
theorem yXD (x:InD ymx):zjH ⟨yHM,5,yRa⟩ Tryz.f179.results.toList yHj ymx ysg x=yvH x.1:=by kernel_rfl
theorem yTC:ConOk Tryz.prog 179 ⟨ymx,ysg,fun x=>yvH x.1⟩:=zkh (yOD) Tryz.func179 (by kernel_rfl) (by kernel_rfl) Tryz.ntmps179.symm (by decide) (fun x r h=>(yXD x).trans h)
def yai (a0:Int):Bool :=
  let r1:=yh a0 0 65535
  r1
def yEc:Con:=⟨ymx,ysg,fun x=>(fun n=>some ((n,()),())) (yai x.1)⟩
theorem yVF (a0:Int):yvH a0=(fun n=>some ((n,()),())) (yai a0):=zkS (p:=fun (n:Bool)=>((n,()),())) rfl
theorem yWD:ConOk Tryz.prog 179 yEc:=(yTC).mono (fun x r _ h=>(yVF x.1).trans h)
end
end
end Go.Tf
