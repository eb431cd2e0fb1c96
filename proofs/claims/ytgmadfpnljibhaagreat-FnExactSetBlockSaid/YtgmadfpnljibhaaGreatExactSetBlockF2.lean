/- Functions of the program, and what they come to. -/
import Derived.Test.YtgmadfpnljibhaaGreatExactSetBlockF1
namespace Go.Tf
noncomputable section
open Go.Proofs
set_option synthInstance.maxHeartbeats 400000
set_option synthInstance.maxSize 10000
set_option linter.unusedVariables false
set_option linter.unusedSimpArgs false
set_option maxRecDepth 100000
section
def yCC:Code:=(Tryz.f122.body).getD .skip
def yCX:Env:=zki TT [(126,yp)] []
theorem yKD:FrOk Tryz.prog ⟨yCX,11,fun _=>none⟩ yCC:=zkp yb yc ⟨yF,trivial⟩
def yMZ:Nat→Option Seg:=fun _=>none
abbrev ylE:List Par:= [.rd tG]
abbrev yqF:List OT:= [⟨false,tB,.fz⟩]
def ysm (a0:dG):Option (ResD yqF×MutD ylE) :=
 let r1:=ye a0.1 3 5
 bif r1 then
 let r2:=ye a0.2 1 8
 some ((r2,()),())
 else
 some ((false,()),())
theorem yRk (x:InD ylE):zjH ⟨yCX,11,yMZ⟩ Tryz.f122.results.toList yCC ylE yqF x=ysm x.1:=by kernel_rfl
theorem yOv:ConOk Tryz.prog 122 ⟨ylE,yqF,fun x=>ysm x.1⟩:=zkh (yKD) Tryz.func122 (by kernel_rfl) (by kernel_rfl) Tryz.ntmps122.symm (by decide) (fun x r h=>(yRk x).trans h)
def yc1 (a0:dG):Bool :=
 let r1:=ye a0.1 3 5
 bif r1 then
 let r2:=ye a0.2 1 8
 r2
 else
 false
def ym7:Con:=⟨ylE,yqF,fun x=>(fun n=>some ((n,()),())) (yc1 x.1)⟩
theorem yQm (a0:dG):ysm a0=(fun n=>some ((n,()),())) (yc1 a0):=zkS (p:=fun (n:Bool)=>((n,()),())) (zkx (p:=fun (n:Bool)=>((n,()),())) rfl rfl)
theorem yt6:ConOk Tryz.prog 122 ym7:=(yOv).mono (fun x r _ h=>(yQm x.1).trans h)
theorem yRM (a:Int×Int):yc1 a=yd a:=by kernel_rfl
end
section
def yBz:Code:=(Tryz.f131.body).getD .skip
def yBW:Env:=zki TT [(126,yp)] []
theorem yHn:FrOk Tryz.prog ⟨yBW,26,fun _=>none⟩ yBz:=zkp yb yc ⟨yF,trivial⟩
def yJJ:Nat→Option Seg:=fun _=>none
abbrev yjH:List Par:= [.rd tG,.rd tI,.rd tI]
abbrev yoM:List OT:= [⟨false,tB,.fz⟩]
def yrx (a0:dG) (a1 a2:Int):Option (ResD yoM×MutD yjH) :=
 let r1:=ye a1 (-1) (IntKind.i64.wrap (a0.1 - 1))
 bif r1 then
 let r2:=ye a2 0 a0.2
 bif r2 then
 bif (!(a2==0)) then
 some (((a1 !=(-1)),()),())
 else
 some ((true,()),())
 else
 some ((false,()),())
 else
 some ((false,()),())
theorem yPS (x:InD yjH):zjH ⟨yBW,26,yJJ⟩ Tryz.f131.results.toList yBz yjH yoM x=yrx x.1 x.2.1 x.2.2.1:=by kernel_rfl
theorem yLT:ConOk Tryz.prog 131 ⟨yjH,yoM,fun x=>yrx x.1 x.2.1 x.2.2.1⟩:=zkh (yHn) Tryz.func131 (by kernel_rfl) (by kernel_rfl) Tryz.ntmps131.symm (by decide) (fun x r h=>(yPS x).trans h)
def ypa (a0:dG) (a1 a2:Int):Bool :=
 let r1:=ye a1 (-1) (IntKind.i64.wrap (a0.1 - 1))
 bif r1 then
 let r2:=ye a2 0 a0.2
 bif r2 then
 bif (!(a2==0)) then
 (a1 !=(-1))
 else
 true
 else
 false
 else
 false
def yy9:Con:=⟨yjH,yoM,fun x=>(fun n=>some ((n,()),())) (ypa x.1 x.2.1 x.2.2.1)⟩
theorem yN3 (a0:dG) (a1 a2:Int):yrx a0 a1 a2=(fun n=>some ((n,()),())) (ypa a0 a1 a2):=zkS (p:=fun (n:Bool)=>((n,()),())) (zkx (p:=fun (n:Bool)=>((n,()),())) (zkx (p:=fun (n:Bool)=>((n,()),())) (zkx (p:=fun (n:Bool)=>((n,()),())) rfl rfl) rfl) rfl)
theorem yO3:ConOk Tryz.prog 131 yy9:=(yLT).mono (fun x r _ h=>(yN3 x.1 x.2.1 x.2.2.1).trans h)
end
section
def yvY:Code:=(Tryz.f116.body).getD .skip
def ywt:Env:=zki TT [(122,ym7),(126,yp)] []
theorem yCn:FrOk Tryz.prog ⟨ywt,14,fun _=>none⟩ yvY:=zkp yb yc ⟨yt6,yF,trivial⟩
def yCW:Nat→Option Seg:=fun _=>none
abbrev yez:List Par:= [.rd tG,.rd tI]
abbrev yiQ:List OT:= [⟨false,tB,.fz⟩]
def ymh (a0:dG) (a1:Int):Option (ResD yiQ×MutD yez) :=
 let r1:=yc1 a0
 bif r1 then
 let r2:=ye a1 0 (IntKind.i64.wrap (a0.2 - 1))
 some ((r2,()),())
 else
 some ((false,()),())
theorem yHb (x:InD yez):zjH ⟨ywt,14,yCW⟩ Tryz.f116.results.toList yvY yez yiQ x=ymh x.1 x.2.1:=by kernel_rfl
theorem yEi:ConOk Tryz.prog 116 ⟨yez,yiQ,fun x=>ymh x.1 x.2.1⟩:=zkh (yCn) Tryz.func116 (by kernel_rfl) (by kernel_rfl) Tryz.ntmps116.symm (by decide) (fun x r h=>(yHb x).trans h)
def yX (a0:dG) (a1:Int):Bool :=
 let r1:=yc1 a0
 bif r1 then
 let r2:=ye a1 0 (IntKind.i64.wrap (a0.2 - 1))
 r2
 else
 false
def ycZ:Con:=⟨yez,yiQ,fun x=>(fun n=>some ((n,()),())) (yX x.1 x.2.1)⟩
theorem yFR (a0:dG) (a1:Int):ymh a0 a1=(fun n=>some ((n,()),())) (yX a0 a1):=zkS (p:=fun (n:Bool)=>((n,()),())) (zkx (p:=fun (n:Bool)=>((n,()),())) rfl rfl)
theorem yhn:ConOk Tryz.prog 116 ycZ:=(yEi).mono (fun x r _ h=>(yFR x.1 x.2.1).trans h)
theorem yzH (g:dG) (s:Int):yX g s=yaO g s:=by
 unfold yX yaO
 rw [yRM]
 cases hg:yd g
 ·rfl
 have:=yo.1 hg
 rw [yaf,ydr,wr (by omega) (by omega)]; rfl
end
section
def yBy:Code:=(Tryz.f179.body).getD .skip
def yBV:Env:=zki TT [(126,yp)] []
theorem yHm:FrOk Tryz.prog ⟨yBV,5,fun _=>none⟩ yBy:=zkp yb yc ⟨yF,trivial⟩
def yJI:Nat→Option Seg:=fun _=>none
abbrev yjG:List Par:= [.rd tI]
abbrev yoL:List OT:= [⟨false,tB,.fz⟩]
def yrw (a0:Int):Option (ResD yoL×MutD yjG) :=
 let r1:=ye a0 0 65535
 some ((r1,()),())
theorem yPR (x:InD yjG):zjH ⟨yBV,5,yJI⟩ Tryz.f179.results.toList yBy yjG yoL x=yrw x.1:=by kernel_rfl
theorem yLS:ConOk Tryz.prog 179 ⟨yjG,yoL,fun x=>yrw x.1⟩:=zkh (yHm) Tryz.func179 (by kernel_rfl) (by kernel_rfl) Tryz.ntmps179.symm (by decide) (fun x r h=>(yPR x).trans h)
def yr (a0:Int):Bool :=
 let r1:=ye a0 0 65535
 r1
def yq9:Con:=⟨yjG,yoL,fun x=>(fun n=>some ((n,()),())) (yr x.1)⟩
theorem yN2 (a0:Int):yrw a0=(fun n=>some ((n,()),())) (yr a0):=zkS (p:=fun (n:Bool)=>((n,()),())) rfl
theorem yA5:ConOk Tryz.prog 179 yq9:=(yLS).mono (fun x r _ h=>(yN2 x.1).trans h)
end
section
def yhH:Code:=(Tryz.f228.body).getD .skip
def ymE:Env:=zki TT [(179,yq9)] []
theorem yFf:FrOk Tryz.prog ⟨ymE,15,fun _=>none⟩ yhH:=zkp yb yc ⟨yA5,trivial⟩
def yv7:Nat→Option Seg:=fun _=>none
def yb6:Shape:=⟨[(5,false,[.br tI]),(6,false,[.int .i64]),(7,false,[.int .i64])],[],[]⟩
def ygZ:Shape:=⟨[(5,false,[.br tI]),(6,false,[.int .i64]),(7,false,[.ci .i64 0])],[],[]⟩
def ygS:Shape:=⟨[],[],[]⟩
def yhb:Shape:=⟨[(2,false,[.bool])],[],[]⟩
def ymp (v0:List Int) (v1 v2:Int):Option ((yb6).X ⊕ ((ygS).X ⊕ (yhb).X)) :=
 bif (ltb v2 v1) then
 bif (inb v2 v0.length) then
 let r2:=yr (nth v0 v2 0)
 bif (!r2) then
 some (.inr (.inr (((false,()),()),(),())))
 else
 some (.inl (((v0,()),(v1,()),((IntKind.i64.wrap (v2+1)),()),()),(),()))
 else none
 else
 some (.inr (.inl ((),(),())))
def yaX (x:(yb6).X):=ymp x.1.1.1 x.1.2.1.1 x.1.2.2.1.1
def ytc (x:(ygZ).X):(yb6).X:=(((x.1.1.1,()),(x.1.2.1.1,()),(0,()),()),(),())
def yuC:Code:=(zdI yhH 64 52).getD .skip
theorem yEQ:zdI yhH 64 13=some (.block 0 (.loop yuC)):=by kernel_rfl
theorem yGl (x:(yb6).X):zg7 ⟨ymE,15,yv7⟩ 0 yuC 52 yb6 ygS yhb x=yaX x:=by kernel_rfl
def ytu (x:(ygZ).X):Nat:=18446744073709551616
def ynB (x:(ygZ).X):Option ((ygS).X ⊕ (yhb).X):=zr yaX (ytu x) (ytc x)
def ytS:Seg:=⟨ygZ,ygS,yhb,ynB⟩
def yv8:Nat→Option Seg:=fun q=>bif Nat.beq q 13 then some ytS else yv7 q
theorem yFg:FrOk Tryz.prog ⟨ymE,15,yv8⟩ yhH:=(yFf).loop (sg:=ytS) yb6 ytc (by decide) yEQ yaX ytu (by decide) (fun _=>rfl) (fun x r _ h=>h) yGl
abbrev yek:List Par:= [.rd tL]
abbrev ymV:List OT:= [⟨false,tB,.fz⟩]
def yje (a0:List Int):Option (ResD ymV×MutD yek) :=
 zjw (ynB (((a0,()),((a0.length:Int),()),((),()),()),(),())) (fun y2 =>
 some ((true,()),())) (fun y2 =>
 some ((y2.1.1.1,()),()))
theorem yNu (x:InD yek):zjH ⟨ymE,15,yv8⟩ Tryz.f228.results.toList yhH yek ymV x=yje x.1:=by kernel_rfl
theorem yIS:ConOk Tryz.prog 228 ⟨yek,ymV,fun x=>yje x.1⟩:=zkh (yFg) Tryz.func228 (by kernel_rfl) (by kernel_rfl) Tryz.ntmps228.symm (by decide) (fun x r h=>(yNu x).trans h)
def yD (a0:List Int):Bool:=a0.all yr
theorem yLx (a0:List Int) (hk:zi9 yek (a0,())):yje a0=(fun n=>some ((n,()),())) (yD a0):=by
 have hb:a0.length * 8≤2 ^ 47:=hk.1.1
 have hl:ynB (((a0,()),((a0.length:Int),()),((),()),()),(),())=some (bif a0.all yr then .inl ((),(),()) else .inr (((false,()),()),(),())) :=
  zjS (step:=yaX) a0 0 (fun i=>(((a0,()),((a0.length:Int),()),((i:Int),()),()),(),())) yr _ _ (fun i hi=>by
   simp only [yaX,ymp,zkO hi,zjW,zjI (show (i:Int) < a0.length by omega),cond_true,wr (show -9223372036854775808≤(i:Int)+1 by omega) (by omega),Int.natCast_add,Int.natCast_one]
   cases yr (a0.getD i 0)<;>rfl) (by simp only [yaX,ymp,zkm (Int.le_refl _),cond_false]) _ (by show _ < 18446744073709551616; omega)
 unfold yje yD
 rw [hl]
 cases a0.all yr<;>rfl
def ypy:Con:=⟨yek,ymV,fun x=>(fun n=>some ((n,()),())) (yD x.1)⟩
theorem yzy:ConOk Tryz.prog 228 ypy:=(yIS).mono (fun x r hk h=>(yLx x.1 hk).trans h)
theorem yDV (a:Int):yr a=yh a:=by kernel_rfl
theorem yTF (a:List Int):yD a=a.all yh:=by
 unfold yD; rw [show yr=yh from funext yDV]
end
section
def yBw:Code:=(Tryz.f144.body).getD .skip
def yBT:Env:=zki TT [(228,ypy)] []
theorem yHk:FrOk Tryz.prog ⟨yBT,15,fun _=>none⟩ yBw:=zkp yb yc ⟨yzy,trivial⟩
def yJG:Nat→Option Seg:=fun _=>none
abbrev yjE:List Par:= [.rd tG,.rd tL]
abbrev yoJ:List OT:= [⟨false,tB,.fz⟩]
def yru (a0:dG) (a1:List Int):Option (ResD yoJ×MutD yjE) :=
 bif ((a1.length:Int)==(IntKind.i64.wrap (a0.1 - 1))) then
 let r1:=yD a1
 some ((r1,()),())
 else
 some ((false,()),())
theorem yPP (x:InD yjE):zjH ⟨yBT,15,yJG⟩ Tryz.f144.results.toList yBw yjE yoJ x=yru x.1 x.2.1:=by kernel_rfl
theorem yLQ:ConOk Tryz.prog 144 ⟨yjE,yoJ,fun x=>yru x.1 x.2.1⟩:=zkh (yHk) Tryz.func144 (by kernel_rfl) (by kernel_rfl) Tryz.ntmps144.symm (by decide) (fun x r h=>(yPP x).trans h)
def yj2 (a0:dG) (a1:List Int):Bool :=
 bif ((a1.length:Int)==(IntKind.i64.wrap (a0.1 - 1))) then
 let r1:=yD a1
 r1
 else
 false
def yy8:Con:=⟨yjE,yoJ,fun x=>(fun n=>some ((n,()),())) (yj2 x.1 x.2.1)⟩
theorem yN0 (a0:dG) (a1:List Int):yru a0 a1=(fun n=>some ((n,()),())) (yj2 a0 a1):=zkS (p:=fun (n:Bool)=>((n,()),())) (zkx (p:=fun (n:Bool)=>((n,()),())) rfl rfl)
theorem yO2:ConOk Tryz.prog 144 yy8:=(yLQ).mono (fun x r _ h=>(yN0 x.1 x.2.1).trans h)
end
end
end Go.Tf
