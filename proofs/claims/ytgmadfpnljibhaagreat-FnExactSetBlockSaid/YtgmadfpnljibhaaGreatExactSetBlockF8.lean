/- Functions of the program, and what they come to. -/
import Derived.Test.YtgmadfpnljibhaaGreatExactSetBlockF7
namespace Go.Tf
noncomputable section
open Go.Proofs
set_option synthInstance.maxHeartbeats 400000
set_option synthInstance.maxSize 10000
set_option linter.unusedVariables false
set_option linter.unusedSimpArgs false
set_option maxRecDepth 100000
section
def yzR:Code:=(Tryz.f248.body).getD .skip
def yAj:Env:=zki TT [] []
theorem yFd:FrOk Tryz.prog ⟨yAj,8,fun _=>none⟩ yzR:=zkp yb yc trivial
def yGN:Nat→Option Seg:=fun _=>none
abbrev yhY:List Par:= [.rd tW,.rp tI]
abbrev ymT:List OT:= [⟨false,tB,.fz⟩]
def ypL (a0:dW) (a1:Int):Option (ResD ymT×MutD yhY) :=
 some (((a0.1==a1),()),())
theorem yNs (x:InD yhY):zjH ⟨yAj,8,yGN⟩ Tryz.f248.results.toList yzR yhY ymT x=ypL x.1 x.2.1:=by kernel_rfl
theorem yIQ:ConOk Tryz.prog 248 ⟨yhY,ymT,fun x=>ypL x.1 x.2.1⟩:=zkh (yFd) Tryz.func248 (by kernel_rfl) (by kernel_rfl) Tryz.ntmps248.symm (by decide) (fun x r h=>(yNs x).trans h)
def ym9 (a0:dW) (a1:Int):Bool :=
 (a0.1==a1)
def ywR:Con:=⟨yhY,ymT,fun x=>(fun n=>some ((n,()),())) (ym9 x.1 x.2.1)⟩
theorem yLv (a0:dW) (a1:Int):ypL a0 a1=(fun n=>some ((n,()),())) (ym9 a0 a1):=zkS (p:=fun (n:Bool)=>((n,()),())) rfl
theorem yMq:ConOk Tryz.prog 248 ywR:=(yIQ).mono (fun x r _ h=>(yLv x.1 x.2.1).trans h)
end
section
def ya8:Code:=(Tryz.f247.body).getD .skip
def ycN:Env:=zki TT [(248,ywR)] []
theorem yvO:FrOk Tryz.prog ⟨ycN,19,fun _=>none⟩ ya8:=zkp yb yc ⟨yMq,trivial⟩
def ylv:Nat→Option Seg:=fun _=>none
def yw:Shape:=⟨[(0,false,[.br tW]),(1,false,[.fx 248 tI]),(7,false,[.int .i64]),(8,false,[.int .i64])],[],[]⟩
def yad:Shape:=⟨[(0,false,[.br tW]),(1,false,[.fx 248 tI]),(7,false,[.int .i64]),(8,false,[.ci .i64 0])],[],[]⟩
def yac:Shape:=⟨[],[],[]⟩
def yae:Shape:=⟨[(4,false,[.int .i64])],[],[]⟩
abbrev ydB (v0:List dW) (v1 v2 v3:Int):(yw).X:=(((v0,()),(v1,()),(v2,()),(v3,()),()),(),())
abbrev yt4 (v0:List dW) (v1 v2:Int):(yad).X:=(((v0,()),(v1,()),(v2,()),((),()),()),(),())
abbrev yt3  :(yac).X:=((),(),())
abbrev yjX (v0:Int):(yae).X:=(((v0,()),()),(),())
def ydE (v0:List dW) (v1 v2 v3:Int):Option ((yw).X ⊕ ((yac).X ⊕ (yae).X)) :=
 bif (ltb v3 v2) then
 bif (inb v3 v0.length) then
 let r2:=ym9 (nth v0 v3 (0,[])) v1
 bif r2 then
 some (.inr (.inr (((v3,()),()),(),())))
 else
 some (.inl (((v0,()),(v1,()),(v2,()),((IntKind.i64.wrap (v3+1)),()),()),(),()))
 else none
 else
 some (.inr (.inl ((),(),())))
def yC (x:(yw).X):=ydE x.1.1.1 x.1.2.1.1 x.1.2.2.1.1 x.1.2.2.2.1.1
def yjU (x:(yad).X):(yw).X:=(((x.1.1.1,()),(x.1.2.1.1,()),(x.1.2.2.1.1,()),(0,()),()),(),())
def ykY:Code:=(zdI ya8 64 52).getD .skip
theorem yvL:zdI ya8 64 13=some (.block 0 (.loop ykY)):=by kernel_rfl
theorem yvS (x:(yw).X):zg7 ⟨ycN,19,ylv⟩ 0 ykY 52 yw yac yae x=yC x:=by kernel_rfl
def yjV (x:(yad).X):Nat:=18446744073709551616
def yd7 (x:(yad).X):Option ((yac).X ⊕ (yae).X):=zr yC (yjV x) (yjU x)
def ykc:Seg:=⟨yad,yac,yae,yd7⟩
def ylw:Nat→Option Seg:=fun q=>bif Nat.beq q 13 then some ykc else ylv q
theorem yvP:FrOk Tryz.prog ⟨ycN,19,ylw⟩ ya8:=(yvO).loop (sg:=ykc) yw yjU (by decide) yvL yC yjV (by decide) (fun _=>rfl) (fun x r _ h=>h) yvS
abbrev y9:List Par:= [.rd tWs,.fn 248 tI]
abbrev ycP:List OT:= [⟨false,tI,.fz⟩]
def yb5 (a0:List dW) (a1:Int):Option (ResD ycP×MutD y9) :=
 zjw (yd7 (((a0,()),(a1,()),((a0.length:Int),()),((),()),()),(),())) (fun y2 =>
 some (((-1),()),())) (fun y2 =>
 some ((y2.1.1.1,()),()))
theorem yzF (x:InD y9):zjH ⟨ycN,19,ylw⟩ Tryz.f247.results.toList ya8 y9 ycP x=yb5 x.1 x.2.1:=by kernel_rfl
theorem yxD:ConOk Tryz.prog 247 ⟨y9,ycP,fun x=>yb5 x.1 x.2.1⟩:=zkh (yvP) Tryz.func247 (by kernel_rfl) (by kernel_rfl) Tryz.ntmps247.symm (by decide) (fun x r h=>(yzF x).trans h)
def ycR (a0:List dW) (a1:Int):Int:=yN a0 a1
theorem yx0 (a0:List dW) (a1:Int) (hk:zi9 y9 (a0,a1,())):yb5 a0 a1=(fun n=>some ((n,()),())) (ycR a0 a1):=by
 have hb:a0.length * 32≤2 ^ 47:=hk.1.1
 have h1:yd7 (yt4 a0 a1 a0.length)=some (bif leb 0 (yN a0 a1) then .inr (yjX (yN a0 a1)) else .inl yt3) :=
  yDW (step:=yC) a0 (0,[]) (fun i=>ydB a0 a1 a0.length i) (fun e:dW=>e.1==a1) (fun i=> .inr (yjX i)) _ (fun i hi=>by
   simp only [yC,ydB,ydE,zjI (show (i:Int) < a0.length by omega),cond_true,wr (show -9223372036854775808≤(i:Int)+1 by omega) (by omega),Int.natCast_add,Int.natCast_one,Int.toNat_natCast,zkO hi,zjW,ym9]
   cases ((a0.getD i (0,[])).1==a1)<;>rfl) (by simp only [yC,ydB,ydE,zkm (Int.le_refl _),cond_false]) _ (by show _ < 18446744073709551616; omega)
 unfold yb5 ycR
 rw [h1]
 cases h:leb 0 (yN a0 a1)
 ·rw [show yN a0 a1= -1 from ySp h]; rfl
 ·rfl
def ylX:Con:=⟨y9,ycP,fun x=>(fun n=>some ((n,()),())) (ycR x.1 x.2.1)⟩
theorem yx3:ConOk Tryz.prog 247 ylX:=(yxD).mono (fun x r hk h=>(yx0 x.1 x.2.1 hk).trans h)
end
section
def yCE:Code:=(Tryz.f183.body).getD .skip
def yCZ:Env:=zki TT [(247,ylX)] []
theorem yKN:FrOk Tryz.prog ⟨yCZ,9,fun _=>none⟩ yCE:=zkp yb yc ⟨yx3,trivial⟩
def yM1:Nat→Option Seg:=fun _=>none
abbrev yhX:List Par:= [.rd tA,.rd tI]
abbrev yqK:List OT:= [⟨false,tI,.fz⟩]
def yso (a0:dA) (a1:Int):Option (ResD yqK×MutD yhX) :=
 let r1:=ycR a0.2.2.2.2.2.2.2.2.1 a1
 some ((r1,()),())
theorem yRp (x:InD yhX):zjH ⟨yCZ,9,yM1⟩ Tryz.f183.results.toList yCE yhX yqK x=yso x.1 x.2.1:=by kernel_rfl
theorem yOA:ConOk Tryz.prog 183 ⟨yhX,yqK,fun x=>yso x.1 x.2.1⟩:=zkh (yKN) Tryz.func183 (by kernel_rfl) (by kernel_rfl) Tryz.ntmps183.symm (by decide) (fun x r h=>(yRp x).trans h)
def yrk (a0:dA) (a1:Int):Int:=yN a0.2.2.2.2.2.2.2.2.1 a1
theorem yQr (a0:dA) (a1:Int) (hk:zi9 yhX (a0,a1,())):yso a0 a1=(fun n=>some ((n,()),())) (yrk a0 a1):=rfl
def yAv:Con:=⟨yhX,yqK,fun x=>(fun n=>some ((n,()),())) (yrk x.1 x.2.1)⟩
theorem yQW:ConOk Tryz.prog 183 yAv:=(yOA).mono (fun x r hk h=>(yQr x.1 x.2.1 hk).trans h)
end
section
def yzQ:Code:=(Tryz.f172.body).getD .skip
def yAi:Env:=zki TT [(55,yy5),(183,yAv),(200,yd2)] []
theorem yFa:FrOk Tryz.prog ⟨yAi,24,fun _=>none⟩ yzQ:=zkp yb yc ⟨yOZ,yQW,yi5,trivial⟩
def yGM:Nat→Option Seg:=fun _=>none
abbrev yej:List Par:= [.rd tA,.rd tI]
abbrev ymS:List OT:= [⟨false,tL,(.ow .fz)⟩,⟨false,tB,.fz⟩]
def yjc (a0:dA) (a1:Int):Option (ResD ymS×MutD yej) :=
 let r1:=yrk a0 a1
 bif (leb 0 r1) then
 bif (inb r1 a0.2.2.2.2.2.2.2.2.1.length) then
 let r2:=yk ((nth a0.2.2.2.2.2.2.2.2.1 r1 (0,[])).2)
 some ((r2,true,()),())
 else none
 else
 let r3:=yjZ a0 a1
 some ((r3.1,r3.2,()),())
theorem yNq (x:InD yej):zjH ⟨yAi,24,yGM⟩ Tryz.f172.results.toList yzQ yej ymS x=yjc x.1 x.2.1:=by kernel_rfl
theorem yIO:ConOk Tryz.prog 172 ⟨yej,ymS,fun x=>yjc x.1 x.2.1⟩:=zkh (yFa) Tryz.func172 (by kernel_rfl) (by kernel_rfl) Tryz.ntmps172.symm (by decide) (fun x r h=>(yNq x).trans h)
def ycJ (a0:dA) (a1:Int):List Int×Bool:=bif leb 0 (yN a0.2.2.2.2.2.2.2.2.1 a1) then ((nth a0.2.2.2.2.2.2.2.2.1 (yN a0.2.2.2.2.2.2.2.2.1 a1) (0,[])).2,true) else yAO a0 a1
theorem yLt (a0:dA) (a1:Int) (hk:zi9 yej (a0,a1,())):yjc a0 a1=(fun n=>some ((n.1,n.2,()),())) (ycJ a0 a1):=by
 unfold yjc ycJ yrk yjZ yk
 simp only []
 cases h:leb 0 (yN a0.2.2.2.2.2.2.2.2.1 a1)
 ·rfl
 ·rw [show inb (yN a0.2.2.2.2.2.2.2.2.1 a1) a0.2.2.2.2.2.2.2.2.1.length=true from (yBi (d:=((0,[]):dW)) h).1]; rfl
theorem ySu {a:dA} {s:Int} (h:yI a=true) (hs:yaO a.2.1 s=true):ycJ a s=yM a s:=by
 unfold ycJ yM yAO
 rw [h,hs]
 cases a.2.2.2.2.2.2.2.2.2.2.2<;>rfl
def ywP:Con:=⟨yej,ymS,fun x=>(fun n=>some ((n.1,n.2,()),())) (ycJ x.1 x.2.1)⟩
theorem yMo:ConOk Tryz.prog 172 ywP:=(yIO).mono (fun x r hk h=>(yLt x.1 x.2.1 hk).trans h)
end
section
def yx5:Code:=(Tryz.f173.body).getD .skip
def yyF:Env:=zki TT [(242,yhk)] []
theorem yDy:FrOk Tryz.prog ⟨yyF,14,fun _=>none⟩ yx5:=zkp yb yc ⟨ypK,trivial⟩
def yEB:Nat→Option Seg:=fun _=>none
abbrev yda:List Par:= [.rd tG,.rd tI]
abbrev ykE:List OT:= [⟨false,tI,.fz⟩]
def yhq (a0:dG) (a1:Int):Option (ResD ykE×MutD yda) :=
 let r1:=yaM a0 a1
 bif (!r1) then
 some (((-1),()),())
 else
 bif ((IntKind.i64.wrap (a0.1 - 1)) !=0) then
 some (((IntKind.i64.wrap (a1.tdiv (IntKind.i64.wrap (a0.1 - 1)))),()),())
 else none
theorem yKj (x:InD yda):zjH ⟨yyF,14,yEB⟩ Tryz.f173.results.toList yx5 yda ykE x=yhq x.1 x.2.1:=by kernel_rfl
theorem yFW:ConOk Tryz.prog 173 ⟨yda,ykE,fun x=>yhq x.1 x.2.1⟩:=zkh (yDy) Tryz.func173 (by kernel_rfl) (by kernel_rfl) Tryz.ntmps173.symm (by decide) (fun x r h=>(yKj x).trans h)
def ydt (a0:dG) (a1:Int):Int:=yB a0 a1
theorem yIu (a0:dG) (a1:Int) (hk:zi9 yda (a0,a1,())):yhq a0 a1=(fun n=>some ((n,()),())) (ydt a0 a1):=by
 unfold yhq ydt yB
 rw [yzG]
 cases hb:ygx a0 a1
 ·rfl
 ·obtain ⟨h1,h2,h3⟩:=ylW hb
  have h4:=yo.1 h1
  rw [wr (show -9223372036854775808≤a0.1 - 1 by omega) (by omega),show (a0.1 - 1 !=0)=true from bne_iff_ne.2 (by omega),wr (by omega) (by omega)]; rfl
def yuP:Con:=⟨yda,ykE,fun x=>(fun n=>some ((n,()),())) (ydt x.1 x.2.1)⟩
theorem yI8:ConOk Tryz.prog 173 yuP:=(yFW).mono (fun x r hk h=>(yIu x.1 x.2.1 hk).trans h)
end
section
def yzP:Code:=(Tryz.f174.body).getD .skip
def yAh:Env:=zki TT [(242,yhk)] []
theorem yE2:FrOk Tryz.prog ⟨yAh,14,fun _=>none⟩ yzP:=zkp yb yc ⟨ypK,trivial⟩
def yGL:Nat→Option Seg:=fun _=>none
abbrev yef:List Par:= [.rd tG,.rd tI]
abbrev ymO:List OT:= [⟨false,tI,.fz⟩]
def yi8 (a0:dG) (a1:Int):Option (ResD ymO×MutD yef) :=
 let r1:=yaM a0 a1
 bif (!r1) then
 some (((-1),()),())
 else
 bif ((IntKind.i64.wrap (a0.1 - 1)) !=0) then
 some (((a1.tmod (IntKind.i64.wrap (a0.1 - 1))),()),())
 else none
theorem yNm (x:InD yef):zjH ⟨yAh,14,yGL⟩ Tryz.f174.results.toList yzP yef ymO x=yi8 x.1 x.2.1:=by kernel_rfl
theorem yIK:ConOk Tryz.prog 174 ⟨yef,ymO,fun x=>yi8 x.1 x.2.1⟩:=zkh (yE2) Tryz.func174 (by kernel_rfl) (by kernel_rfl) Tryz.ntmps174.symm (by decide) (fun x r h=>(yNm x).trans h)
def yet (a0:dG) (a1:Int):Int:=ycd a0 a1
theorem yLp (a0:dG) (a1:Int) (hk:zi9 yef (a0,a1,())):yi8 a0 a1=(fun n=>some ((n,()),())) (yet a0 a1):=by
 unfold yi8 yet ycd
 rw [yzG]
 cases hb:ygx a0 a1
 ·rfl
 ·obtain ⟨h1,h2,h3⟩:=ylW hb
  have h4:=yo.1 h1
  rw [wr (show -9223372036854775808≤a0.1 - 1 by omega) (by omega),show (a0.1 - 1 !=0)=true from bne_iff_ne.2 (by omega)]; rfl
def ywL:Con:=⟨yef,ymO,fun x=>(fun n=>some ((n,()),())) (yet x.1 x.2.1)⟩
theorem yMk:ConOk Tryz.prog 174 ywL:=(yIK).mono (fun x r hk h=>(yLp x.1 x.2.1 hk).trans h)
end
end
end Go.Tf
