/- Functions of the program, and what they come to. -/
import Derived.Test.YtgmadfpnljibhaaGreatExactFlushStripeF1
namespace Go.Tf
noncomputable section
open Go.Proofs
set_option synthInstance.maxHeartbeats 400000
set_option synthInstance.maxSize 10000
set_option linter.unusedVariables false
set_option linter.unusedSimpArgs false
set_option maxRecDepth 100000
section
def yJt:Code:=(Tryz.f122.body).getD .skip
def yJS:Env:=zki TT [(126,yv)] []
theorem ySN:FrOk Tryz.prog ⟨yJS,11,fun _=>none⟩ yJt:=zkp yb yc ⟨yP,trivial⟩
def yVq:Nat→Option Seg:=fun _=>none
abbrev ypr:List Par:= [.rd tG]
abbrev yuO:List OT:= [⟨false,tB,.fz⟩]
def yxl (a0:dG):Option (ResD yuO×MutD ypr) :=
 let r1:=ye a0.1 3 5
 bif r1 then
 let r2:=ye a0.2 1 8
 some ((r2,()),())
 else
 some ((false,()),())
theorem y0q (x:InD ypr):zjH ⟨yJS,11,yVq⟩ Tryz.f122.results.toList yJt ypr yuO x=yxl x.1:=by kernel_rfl
theorem yW6:ConOk Tryz.prog 122 ⟨ypr,yuO,fun x=>yxl x.1⟩:=zkh (ySN) Tryz.func122 (by kernel_rfl) (by kernel_rfl) Tryz.ntmps122.symm (by decide) (fun x r h=>(y0q x).trans h)
def yey (a0:dG):Bool :=
 let r1:=ye a0.1 3 5
 bif r1 then
 let r2:=ye a0.2 1 8
 r2
 else
 false
def yqN:Con:=⟨ypr,yuO,fun x=>(fun n=>some ((n,()),())) (yey x.1)⟩
theorem yZe (a0:dG):yxl a0=(fun n=>some ((n,()),())) (yey a0):=zkS (p:=fun (n:Bool)=>((n,()),())) (zkx (p:=fun (n:Bool)=>((n,()),())) rfl rfl)
theorem yzw:ConOk Tryz.prog 122 yqN:=(yW6).mono (fun x r _ h=>(yZe x.1).trans h)
theorem yTx (a:Int×Int):yey a=yf a:=by kernel_rfl
end
section
def yH2:Code:=(Tryz.f131.body).getD .skip
def yIr:Env:=zki TT [(126,yv)] []
theorem yPa:FrOk Tryz.prog ⟨yIr,26,fun _=>none⟩ yH2:=zkp yb yc ⟨yP,trivial⟩
def yRR:Nat→Option Seg:=fun _=>none
abbrev ymJ:List Par:= [.rd tG,.rd tI,.rd tI]
abbrev ysB:List OT:= [⟨false,tB,.fz⟩]
def yv1 (a0:dG) (a1 a2:Int):Option (ResD ysB×MutD ymJ) :=
 let r1:=ye a1 (-1) (IntKind.i64.wrap (a0.1 - 1))
 bif r1 then
 let r2:=ye a2 0 a0.2
 bif r2 then
 bif (!(a2==0)) then
 some (((a1 !=(-1)),()),())
 else
 some ((true,()),())
 else
 some ((false,()),())
 else
 some ((false,()),())
theorem yYH (x:InD ymJ):zjH ⟨yIr,26,yRR⟩ Tryz.f131.results.toList yH2 ymJ ysB x=yv1 x.1 x.2.1 x.2.2.1:=by kernel_rfl
theorem yUd:ConOk Tryz.prog 131 ⟨ymJ,ysB,fun x=>yv1 x.1 x.2.1 x.2.2.1⟩:=zkh (yPa) Tryz.func131 (by kernel_rfl) (by kernel_rfl) Tryz.ntmps131.symm (by decide) (fun x r h=>(yYH x).trans h)
def yff (a0:dG) (a1 a2:Int):Bool :=
 let r1:=ye a1 (-1) (IntKind.i64.wrap (a0.1 - 1))
 bif r1 then
 let r2:=ye a2 0 a0.2
 bif r2 then
 bif (!(a2==0)) then
 (a1 !=(-1))
 else
 true
 else
 false
 else
 false
def yvp:Con:=⟨ymJ,ysB,fun x=>(fun n=>some ((n,()),())) (yff x.1 x.2.1 x.2.2.1)⟩
theorem yWB (a0:dG) (a1 a2:Int):yv1 a0 a1 a2=(fun n=>some ((n,()),())) (yff a0 a1 a2):=zkS (p:=fun (n:Bool)=>((n,()),())) (zkx (p:=fun (n:Bool)=>((n,()),())) (zkx (p:=fun (n:Bool)=>((n,()),())) (zkx (p:=fun (n:Bool)=>((n,()),())) rfl rfl) rfl) rfl)
theorem yHe:ConOk Tryz.prog 131 yvp:=(yUd).mono (fun x r _ h=>(yWB x.1 x.2.1 x.2.2.1).trans h)
end
section
def yBJ:Code:=(Tryz.f116.body).getD .skip
def yCc:Env:=zki TT [(122,yqN),(126,yv)] []
theorem yIZ:FrOk Tryz.prog ⟨yCc,14,fun _=>none⟩ yBJ:=zkp yb yc ⟨yzw,yP,trivial⟩
def yJR:Nat→Option Seg:=fun _=>none
abbrev ygm:List Par:= [.rd tG,.rd tI]
abbrev ylE:List OT:= [⟨false,tB,.fz⟩]
def yp2 (a0:dG) (a1:Int):Option (ResD ylE×MutD ygm) :=
 let r1:=yey a0
 bif r1 then
 let r2:=ye a1 0 (IntKind.i64.wrap (a0.2 - 1))
 some ((r2,()),())
 else
 some ((false,()),())
theorem yOV (x:InD ygm):zjH ⟨yCc,14,yJR⟩ Tryz.f116.results.toList yBJ ygm ylE x=yp2 x.1 x.2.1:=by kernel_rfl
theorem yLC:ConOk Tryz.prog 116 ⟨ygm,ylE,fun x=>yp2 x.1 x.2.1⟩:=zkh (yIZ) Tryz.func116 (by kernel_rfl) (by kernel_rfl) Tryz.ntmps116.symm (by decide) (fun x r h=>(yOV x).trans h)
def yR (a0:dG) (a1:Int):Bool :=
 let r1:=yey a0
 bif r1 then
 let r2:=ye a1 0 (IntKind.i64.wrap (a0.2 - 1))
 r2
 else
 false
def yci:Con:=⟨ygm,ylE,fun x=>(fun n=>some ((n,()),())) (yR x.1 x.2.1)⟩
theorem yNq (a0:dG) (a1:Int):yp2 a0 a1=(fun n=>some ((n,()),())) (yR a0 a1):=zkS (p:=fun (n:Bool)=>((n,()),())) (zkx (p:=fun (n:Bool)=>((n,()),())) rfl rfl)
theorem yfR:ConOk Tryz.prog 116 yci:=(yLC).mono (fun x r _ h=>(yNq x.1 x.2.1).trans h)
theorem yxR (g:dG) (s:Int):yR g s=yL g s:=by
 unfold yR yL
 rw [yTx]
 cases hg:yf g
 ·rfl
 have:=ym.1 hg
 rw [yaB,ye1,wr (by omega) (by omega)]; rfl
end
section
def yH1:Code:=(Tryz.f179.body).getD .skip
def yIq:Env:=zki TT [(126,yv)] []
theorem yO9:FrOk Tryz.prog ⟨yIq,5,fun _=>none⟩ yH1:=zkp yb yc ⟨yP,trivial⟩
def yRQ:Nat→Option Seg:=fun _=>none
abbrev ymI:List Par:= [.rd tI]
abbrev ysA:List OT:= [⟨false,tB,.fz⟩]
def yv0 (a0:Int):Option (ResD ysA×MutD ymI) :=
 let r1:=ye a0 0 65535
 some ((r1,()),())
theorem yYG (x:InD ymI):zjH ⟨yIq,5,yRQ⟩ Tryz.f179.results.toList yH1 ymI ysA x=yv0 x.1:=by kernel_rfl
theorem yUc:ConOk Tryz.prog 179 ⟨ymI,ysA,fun x=>yv0 x.1⟩:=zkh (yO9) Tryz.func179 (by kernel_rfl) (by kernel_rfl) Tryz.ntmps179.symm (by decide) (fun x r h=>(yYG x).trans h)
def yV (a0:Int):Bool :=
 let r1:=ye a0 0 65535
 r1
def yFe:Con:=⟨ymI,ysA,fun x=>(fun n=>some ((n,()),())) (yV x.1)⟩
theorem yWA (a0:Int):yv0 a0=(fun n=>some ((n,()),())) (yV a0):=zkS (p:=fun (n:Bool)=>((n,()),())) rfl
theorem yXI:ConOk Tryz.prog 179 yFe:=(yUc).mono (fun x r _ h=>(yWA x.1).trans h)
end
section
def yke:Code:=(Tryz.f228.body).getD .skip
def yqk:Env:=zki TT [(179,yFe)] []
theorem yML:FrOk Tryz.prog ⟨yqk,15,fun _=>none⟩ yke:=zkp yb yc ⟨yXI,trivial⟩
def yBQ:Nat→Option Seg:=fun _=>none
def yc6:Shape:=⟨[(5,false,[.br tI]),(6,false,[.int .i64]),(7,false,[.int .i64])],[],[]⟩
def yjt:Shape:=⟨[(5,false,[.br tI]),(6,false,[.int .i64]),(7,false,[.ci .i64 0])],[],[]⟩
def yjm:Shape:=⟨[],[],[]⟩
def yjG:Shape:=⟨[(2,false,[.bool])],[],[]⟩
def yp7 (v0:List Int) (v1 v2:Int):Option ((yc6).X ⊕ ((yjm).X ⊕ (yjG).X)) :=
 bif (ltb v2 v1) then
 bif (inb v2 v0.length) then
 let r2:=yV (nth v0 v2 0)
 bif (!r2) then
 some (.inr (.inr (((false,()),()),(),())))
 else
 some (.inl (((v0,()),(v1,()),((IntKind.i64.wrap (v2+1)),()),()),(),()))
 else none
 else
 some (.inr (.inl ((),(),())))
def ybx (x:(yc6).X):=yp7 x.1.1.1 x.1.2.1.1 x.1.2.2.1.1
def yyw (x:(yjt).X):(yc6).X:=(((x.1.1.1,()),(x.1.2.1.1,()),(0,()),()),(),())
def yAg:Code:=(zdI yke 64 52).getD .skip
theorem yMk:zdI yke 64 13=some (.block 0 (.loop yAg)):=by kernel_rfl
theorem yN0 (x:(yc6).X):zg7 ⟨yqk,15,yBQ⟩ 0 yAg 52 yc6 yjm yjG x=ybx x:=by kernel_rfl
def yyM (x:(yjt).X):Nat:=18446744073709551616
def yrl (x:(yjt).X):Option ((yjm).X ⊕ (yjG).X):=zr ybx (yyM x) (yyw x)
def yzb:Seg:=⟨yjt,yjm,yjG,yrl⟩
def yBR:Nat→Option Seg:=fun q=>bif Nat.beq q 13 then some yzb else yBQ q
theorem yMM:FrOk Tryz.prog ⟨yqk,15,yBR⟩ yke:=(yML).loop (sg:=yzb) yc6 yyw (by decide) yMk ybx yyM (by decide) (fun _=>rfl) (fun x r _ h=>h) yN0
abbrev yf8:List Par:= [.rd tL]
abbrev yqA:List OT:= [⟨false,tB,.fz⟩]
def yl8 (a0:List Int):Option (ResD yqA×MutD yf8) :=
 zjw (yrl (((a0,()),((a0.length:Int),()),((),()),()),(),())) (fun y2 =>
 some ((true,()),())) (fun y2 =>
 some ((y2.1.1.1,()),()))
theorem yVY (x:InD yf8):zjH ⟨yqk,15,yBR⟩ Tryz.f228.results.toList yke yf8 yqA x=yl8 x.1:=by kernel_rfl
theorem yQP:ConOk Tryz.prog 228 ⟨yf8,yqA,fun x=>yl8 x.1⟩:=zkh (yMM) Tryz.func228 (by kernel_rfl) (by kernel_rfl) Tryz.ntmps228.symm (by decide) (fun x r h=>(yVY x).trans h)
def yM (a0:List Int):Bool:=a0.all yV
theorem yTM (a0:List Int) (hk:zi9 yf8 (a0,())):yl8 a0=(fun n=>some ((n,()),())) (yM a0):=by
 have hb:a0.length * 8≤2 ^ 47:=hk.1.1
 have hl:yrl (((a0,()),((a0.length:Int),()),((),()),()),(),())=some (bif a0.all yV then .inl ((),(),()) else .inr (((false,()),()),(),())) :=
  zjS (step:=ybx) a0 0 (fun i=>(((a0,()),((a0.length:Int),()),((i:Int),()),()),(),())) yV _ _ (fun i hi=>by
   simp only [ybx,yp7,zkO hi,zjW,zjI (show (i:Int) < a0.length by omega),cond_true,wr (show -9223372036854775808≤(i:Int)+1 by omega) (by omega),Int.natCast_add,Int.natCast_one]
   cases yV (a0.getD i 0)<;>rfl) (by simp only [ybx,yp7,zkm (Int.le_refl _),cond_false]) _ (by show _ < 18446744073709551616; omega)
 unfold yl8 yM
 rw [hl]
 cases a0.all yV<;>rfl
def ylW:Con:=⟨yf8,yqA,fun x=>(fun n=>some ((n,()),())) (yM x.1)⟩
theorem yvQ:ConOk Tryz.prog 228 ylW:=(yQP).mono (fun x r hk h=>(yTM x.1 hk).trans h)
end
section
def yHY:Code:=(Tryz.f144.body).getD .skip
def yIn:Env:=zki TT [(228,ylW)] []
theorem yO6:FrOk Tryz.prog ⟨yIn,15,fun _=>none⟩ yHY:=zkp yb yc ⟨yvQ,trivial⟩
def yRN:Nat→Option Seg:=fun _=>none
abbrev ymF:List Par:= [.rd tG,.rd tL]
abbrev ysx:List OT:= [⟨false,tB,.fz⟩]
def yvX (a0:dG) (a1:List Int):Option (ResD ysx×MutD ymF) :=
 bif ((a1.length:Int)==(IntKind.i64.wrap (a0.1 - 1))) then
 let r1:=yM a1
 some ((r1,()),())
 else
 some ((false,()),())
theorem yYD (x:InD ymF):zjH ⟨yIn,15,yRN⟩ Tryz.f144.results.toList yHY ymF ysx x=yvX x.1 x.2.1:=by kernel_rfl
theorem yT9:ConOk Tryz.prog 144 ⟨ymF,ysx,fun x=>yvX x.1 x.2.1⟩:=zkh (yO6) Tryz.func144 (by kernel_rfl) (by kernel_rfl) Tryz.ntmps144.symm (by decide) (fun x r h=>(yYD x).trans h)
def ydz (a0:dG) (a1:List Int):Bool :=
 bif ((a1.length:Int)==(IntKind.i64.wrap (a0.1 - 1))) then
 let r1:=yM a1
 r1
 else
 false
def yvn:Con:=⟨ymF,ysx,fun x=>(fun n=>some ((n,()),())) (ydz x.1 x.2.1)⟩
theorem yWx (a0:dG) (a1:List Int):yvX a0 a1=(fun n=>some ((n,()),())) (ydz a0 a1):=zkS (p:=fun (n:Bool)=>((n,()),())) (zkx (p:=fun (n:Bool)=>((n,()),())) rfl rfl)
theorem yHc:ConOk Tryz.prog 144 yvn:=(yT9).mono (fun x r _ h=>(yWx x.1 x.2.1).trans h)
end
end
end Go.Tf
