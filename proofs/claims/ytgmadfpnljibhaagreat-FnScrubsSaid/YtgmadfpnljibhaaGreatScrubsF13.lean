/- Functions of the program, and what they come to. -/
import Derived.Test.YtgmadfpnljibhaaGreatScrubsF12
namespace Go.Tf
noncomputable section
open Go.Proofs
set_option synthInstance.maxHeartbeats 400000
set_option synthInstance.maxSize 10000
set_option linter.unusedVariables false
set_option linter.unusedSimpArgs false
set_option maxRecDepth 100000
section
def yul:Code:=(Tryz.f29.body).getD .skip
def yum:Env:=zki TT [(94,yfA),(96,yez),(114,yjO)] []
theorem yCD:FrOk Tryz.prog ⟨yum,10,fun _=>none⟩ yul:=zkp yc yd ⟨ylP,yka,yq7,trivial⟩
def yDb:Nat→Option Seg:=fun _=>none
abbrev ydg:List Par:= [.kp tYs .fz]
abbrev ygy:List OT:= [⟨false,tA,(.pr .fz (.pr (.pr .fz .fz) (.pr (.ow (.pr (.ow .fz) (.pr (.ow (.pr .fz .fz)) (.pr .fz (.ow .fz))))) (.pr .fz (.pr .fz (.pr .fz (.pr .fz (.pr .fz (.pr (.ow (.pr .fz .fz)) (.pr .fz (.pr .fz .fz)))))))))))⟩]
def yaO (a0:List Int):Option (ResD ygy×MutD ydg) :=
  let r1:=ybz a0
  let r2:=yac a0 14
  bnd (ya6 r1 r2) fun r3 =>
  some ((r3.1.1,()),())
theorem yGu (x:InD ydg):zjH ⟨yum,10,yDb⟩ Tryz.f29.results.toList yul ydg ygy x=yaO x.1:=by kernel_rfl
theorem yEj:ConOk Tryz.prog 29 ⟨ydg,ygy,fun x=>yaO x.1⟩:=zkh (yCD) Tryz.func29 (by kernel_rfl) (by kernel_rfl) Tryz.ntmps29.symm (by decide) (fun x r h=>(yGu x).trans h)
def ysi:Con:=⟨ydg,ygy,fun x=>yaO x.1⟩
theorem yE4:ConOk Tryz.prog 29 ysi:=yEj
theorem yOW (a0:List Int) (hb:a0.length≤140737488355328): ∃ a:dA,yaO a0=some ((a,()),()):=by
  unfold yaO
  obtain ⟨h1,h2⟩:=yD7 a0 14 (by omega) hb
  obtain ⟨a,u1,e1,q1,d1⟩:=yEG _ _ (yHw a0 hb) h1 (by omega)
  simp only [e1,zky]
  exact ⟨a,rfl⟩
end
section
def yvC:Code:=(Tryz.f30.body).getD .skip
def yvG:Env:=zki TT [(94,yfA),(96,yez),(114,yjO)] []
theorem yEc:FrOk Tryz.prog ⟨yvG,10,fun _=>none⟩ yvC:=zkp yc yd ⟨ylP,yka,yq7,trivial⟩
def yEy:Nat→Option Seg:=fun _=>none
abbrev ydW:List Par:= [.kp tYs .fz]
abbrev yhN:List OT:= [⟨false,tA,(.pr .fz (.pr (.pr .fz .fz) (.pr (.ow (.pr (.ow .fz) (.pr (.ow (.pr .fz .fz)) (.pr .fz (.ow .fz))))) (.pr .fz (.pr .fz (.pr .fz (.pr .fz (.pr .fz (.pr (.ow (.pr .fz .fz)) (.pr .fz (.pr .fz .fz)))))))))))⟩]
def ya5 (a0:List Int):Option (ResD yhN×MutD ydW) :=
  let r1:=ybz a0
  let r2:=yac a0 14
  bnd (ya6 r1 r2) fun r3 =>
  some ((r3.1.1,()),())
theorem yHz (x:InD ydW):zjH ⟨yvG,10,yEy⟩ Tryz.f30.results.toList yvC ydW yhN x=ya5 x.1:=by kernel_rfl
theorem yE1:ConOk Tryz.prog 30 ⟨ydW,yhN,fun x=>ya5 x.1⟩:=zkh (yEc) Tryz.func30 (by kernel_rfl) (by kernel_rfl) Tryz.ntmps30.symm (by decide) (fun x r h=>(yHz x).trans h)
def yty:Con:=⟨ydW,yhN,fun x=>ya5 x.1⟩
theorem yGM:ConOk Tryz.prog 30 yty:=yE1
theorem ySz (a0:List Int) (hb:a0.length≤140737488355328): ∃ a:dA,ya5 a0=some ((a,()),()):=by
  unfold ya5
  obtain ⟨h1,h2⟩:=yD7 a0 14 (by omega) hb
  obtain ⟨a,u1,e1,q1,d1⟩:=yEG _ _ (yHw a0 hb) h1 (by omega)
  simp only [e1,zky]
  exact ⟨a,rfl⟩
end
section
def yCQ:Code:=(Tryz.f100.body).getD .skip
def yDz:Env:=zki TT [] []
theorem yJt:FrOk Tryz.prog ⟨yDz,6,fun _=>none⟩ yCQ:=zkp yc yd trivial
def yK1:Nat→Option Seg:=fun _=>none
abbrev yjc:List Par:= [.rd tG]
abbrev yoC:List OT:= [⟨false,tI,.fz⟩]
def yrT (a0:dG):Option (ResD yoC×MutD yjc) :=
  some (((IntKind.i64.wrap (6+a0.2)),()),())
theorem ySJ (x:InD yjc):zjH ⟨yDz,6,yK1⟩ Tryz.f100.results.toList yCQ yjc yoC x=yrT x.1:=by kernel_rfl
theorem yNo:ConOk Tryz.prog 100 ⟨yjc,yoC,fun x=>yrT x.1⟩:=zkh (yJt) Tryz.func100 (by kernel_rfl) (by kernel_rfl) Tryz.ntmps100.symm (by decide) (fun x r h=>(ySJ x).trans h)
def yoS (a0:dG):Int :=
  (IntKind.i64.wrap (6+a0.2))
def yyT:Con:=⟨yjc,yoC,fun x=>(fun n=>some ((n,()),())) (yoS x.1)⟩
theorem yQC (a0:dG):yrT a0=(fun n=>some ((n,()),())) (yoS a0):=zkS (p:=fun (n:Int)=>((n,()),())) rfl
theorem yRA:ConOk Tryz.prog 100 yyT:=(yNo).mono (fun x r _ h=>(yQC x.1).trans h)
end
section
def yFj:Code:=(Tryz.f126.body).getD .skip
def yFU:Env:=zki TT [] []
theorem yLI:FrOk Tryz.prog ⟨yFU,15,fun _=>none⟩ yFj:=zkp yc yd trivial
def yOf:Nat→Option Seg:=fun _=>none
abbrev yld:List Par:= [.rd tI,.rd tI,.rd tI]
abbrev yqB:List OT:= [⟨false,tB,.fz⟩]
def yt4 (a0:Int) (a1:Int) (a2:Int):Option (ResD yqB×MutD yld) :=
  bif (leb a1 a0) then
    some (((leb a0 a2),()),())
  else
    some ((false,()),())
theorem yVx (x:InD yld):zjH ⟨yFU,15,yOf⟩ Tryz.f126.results.toList yFj yld yqB x=yt4 x.1 x.2.1 x.2.2.1:=by kernel_rfl
theorem yQ1:ConOk Tryz.prog 126 ⟨yld,yqB,fun x=>yt4 x.1 x.2.1 x.2.2.1⟩:=zkh (yLI) Tryz.func126 (by kernel_rfl) (by kernel_rfl) Tryz.ntmps126.symm (by decide) (fun x r h=>(yVx x).trans h)
def yi (a0:Int) (a1:Int) (a2:Int):Bool :=
  bif (leb a1 a0) then
    (leb a0 a2)
  else
    false
def yG:Con:=⟨yld,yqB,fun x=>(fun n=>some ((n,()),())) (yi x.1 x.2.1 x.2.2.1)⟩
theorem yTp (a0:Int) (a1:Int) (a2:Int):yt4 a0 a1 a2=(fun n=>some ((n,()),())) (yi a0 a1 a2):=zkS (p:=fun (n:Bool)=>((n,()),())) (zkx (p:=fun (n:Bool)=>((n,()),())) rfl rfl)
theorem yU:ConOk Tryz.prog 126 yG:=(yQ1).mono (fun x r _ h=>(yTp x.1 x.2.1 x.2.2.1).trans h)
theorem yat (a b c:Int):yi a b c=ya a b c:=by kernel_rfl
end
section
def yGR:Code:=(Tryz.f122.body).getD .skip
def yG8:Env:=zki TT [(126,yG)] []
theorem yPn:FrOk Tryz.prog ⟨yG8,11,fun _=>none⟩ yGR:=zkp yc yd ⟨yU,trivial⟩
def ySb:Nat→Option Seg:=fun _=>none
abbrev ynC:List Par:= [.rd tG]
abbrev ys3:List OT:= [⟨false,tB,.fz⟩]
def yvg (a0:dG):Option (ResD ys3×MutD ynC) :=
  let r1:=yi a0.1 3 5
  bif r1 then
    let r2:=yi a0.2 1 8
    some ((r2,()),())
  else
    some ((false,()),())
theorem yWY (x:InD ynC):zjH ⟨yG8,11,ySb⟩ Tryz.f122.results.toList yGR ynC ys3 x=yvg x.1:=by kernel_rfl
theorem yTN:ConOk Tryz.prog 122 ⟨ynC,ys3,fun x=>yvg x.1⟩:=zkh (yPn) Tryz.func122 (by kernel_rfl) (by kernel_rfl) Tryz.ntmps122.symm (by decide) (fun x r h=>(yWY x).trans h)
def ycE (a0:dG):Bool :=
  let r1:=yi a0.1 3 5
  bif r1 then
    let r2:=yi a0.2 1 8
    r2
  else
    false
def yjN:Con:=⟨ynC,ys3,fun x=>(fun n=>some ((n,()),())) (ycE x.1)⟩
theorem yV3 (a0:dG):yvg a0=(fun n=>some ((n,()),())) (ycE a0):=zkS (p:=fun (n:Bool)=>((n,()),())) (zkx (p:=fun (n:Bool)=>((n,()),())) rfl rfl)
theorem yq6:ConOk Tryz.prog 122 yjN:=(yTN).mono (fun x r _ h=>(yV3 x.1).trans h)
theorem yH5 (a:Int×Int):ycE a=ye a:=by kernel_rfl
end
section
def yFi:Code:=(Tryz.f131.body).getD .skip
def yFT:Env:=zki TT [(126,yG)] []
theorem yLH:FrOk Tryz.prog ⟨yFT,26,fun _=>none⟩ yFi:=zkp yc yd ⟨yU,trivial⟩
def yOe:Nat→Option Seg:=fun _=>none
abbrev ylc:List Par:= [.rd tG,.rd tI,.rd tI]
abbrev yqA:List OT:= [⟨false,tB,.fz⟩]
def yt3 (a0:dG) (a1:Int) (a2:Int):Option (ResD yqA×MutD ylc) :=
  let r1:=yi a1 (-1) (IntKind.i64.wrap (a0.1 - 1))
  bif r1 then
    let r2:=yi a2 0 a0.2
    bif r2 then
      bif (!(a2==0)) then
        some (((a1 !=(-1)),()),())
      else
        some ((true,()),())
    else
      some ((false,()),())
  else
    some ((false,()),())
theorem yVw (x:InD ylc):zjH ⟨yFT,26,yOe⟩ Tryz.f131.results.toList yFi ylc yqA x=yt3 x.1 x.2.1 x.2.2.1:=by kernel_rfl
theorem yQ0:ConOk Tryz.prog 131 ⟨ylc,yqA,fun x=>yt3 x.1 x.2.1 x.2.2.1⟩:=zkh (yLH) Tryz.func131 (by kernel_rfl) (by kernel_rfl) Tryz.ntmps131.symm (by decide) (fun x r h=>(yVw x).trans h)
def yq1 (a0:dG) (a1:Int) (a2:Int):Bool :=
  let r1:=yi a1 (-1) (IntKind.i64.wrap (a0.1 - 1))
  bif r1 then
    let r2:=yi a2 0 a0.2
    bif r2 then
      bif (!(a2==0)) then
        (a1 !=(-1))
      else
        true
    else
      false
  else
    false
def yBL:Con:=⟨ylc,yqA,fun x=>(fun n=>some ((n,()),())) (yq1 x.1 x.2.1 x.2.2.1)⟩
theorem yTo (a0:dG) (a1:Int) (a2:Int):yt3 a0 a1 a2=(fun n=>some ((n,()),())) (yq1 a0 a1 a2):=zkS (p:=fun (n:Bool)=>((n,()),())) (zkx (p:=fun (n:Bool)=>((n,()),())) (zkx (p:=fun (n:Bool)=>((n,()),())) (zkx (p:=fun (n:Bool)=>((n,()),())) rfl rfl) rfl) rfl)
theorem yUm:ConOk Tryz.prog 131 yBL:=(yQ0).mono (fun x r _ h=>(yTo x.1 x.2.1 x.2.2.1).trans h)
end
end
end Go.Tf
