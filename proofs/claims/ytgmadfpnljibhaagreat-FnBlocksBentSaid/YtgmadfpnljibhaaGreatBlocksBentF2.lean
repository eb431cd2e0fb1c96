/- Functions of the program, and what they come to. -/
import Derived.Test.YtgmadfpnljibhaaGreatBlocksBentF1
namespace Go.Tf
noncomputable section
open Go.Proofs
set_option synthInstance.maxHeartbeats 400000
set_option synthInstance.maxSize 10000
set_option linter.unusedVariables false
set_option linter.unusedSimpArgs false
set_option maxRecDepth 100000
section
def yM5:Code:=(Tryz.f122.body).getD .skip
def yNr:Env:=zj3 TT [(126,yy)] []
theorem yXo:FrOk Tryz.prog ⟨yNr,11,fun _=>none⟩ yM5:=zj7 yb yc ⟨yN,trivial⟩
def yZV:Nat→Option Seg:=fun _=>none
abbrev yq5:List Par:= [.rd tG]
abbrev ywW:List OT:= [⟨false,tB,.fz⟩]
def yzT (a0:dG):Option (ResD ywW×MutD yq5) :=
 let r1:=yf a0.1 3 5
 bif r1 then
 let r2:=yf a0.2 1 8
 some ((r2,()),())
 else
 some ((false,()),())
theorem y4s (x:InD yq5):zjx ⟨yNr,11,yZV⟩ Tryz.f122.results.toList yM5 yq5 ywW x=yzT x.1:=by kernel_rfl
theorem y1s:ConOk Tryz.prog 122 ⟨yq5,ywW,fun x=>yzT x.1⟩:=zj2 (yXo) Tryz.func122 (by kernel_rfl) (by kernel_rfl) Tryz.ntmps122.symm (by decide) (fun x r h=>(y4s x).trans h)
def yct (a0:dG):Bool :=
 let r1:=yf a0.1 3 5
 bif r1 then
 let r2:=yf a0.2 1 8
 r2
 else
 false
def ymn:Con:=⟨yq5,ywW,fun x=>(fun n=>some ((n,()),())) (yct x.1)⟩
theorem y3H (a0:dG):yzT a0=(fun n=>some ((n,()),())) (yct a0):=zkq (p:=fun (n:Bool)=>((n,()),())) (zkc (p:=fun (n:Bool)=>((n,()),())) rfl rfl)
theorem yuW:ConOk Tryz.prog 122 ymn:=(y1s).mono (fun x r _ h=>(y3H x.1).trans h)
theorem yX7 (a:Int×Int):yct a=yg a:=by kernel_rfl
end
section
def yK7:Code:=(Tryz.f131.body).getD .skip
def yLE:Env:=zj3 TT [(126,yy)] []
theorem yTf:FrOk Tryz.prog ⟨yLE,26,fun _=>none⟩ yK7:=zj7 yb yc ⟨yN,trivial⟩
def yV3:Nat→Option Seg:=fun _=>none
abbrev yn9:List Par:= [.rd tG,.rd tI,.rd tI]
abbrev yup:List OT:= [⟨false,tB,.fz⟩]
def yyh (a0:dG) (a1 a2:Int):Option (ResD yup×MutD yn9) :=
 let r1:=yf a1 (-1) (IntKind.i64.wrap (a0.1 - 1))
 bif r1 then
 let r2:=yf a2 0 a0.2
 bif r2 then
 bif (!(a2==0)) then
 some (((a1 !=(-1)),()),())
 else
 some ((true,()),())
 else
 some ((false,()),())
 else
 some ((false,()),())
theorem y28 (x:InD yn9):zjx ⟨yLE,26,yV3⟩ Tryz.f131.results.toList yK7 yn9 yup x=yyh x.1 x.2.1 x.2.2.1:=by kernel_rfl
theorem yYO:ConOk Tryz.prog 131 ⟨yn9,yup,fun x=>yyh x.1 x.2.1 x.2.2.1⟩:=zj2 (yTf) Tryz.func131 (by kernel_rfl) (by kernel_rfl) Tryz.ntmps131.symm (by decide) (fun x r h=>(y28 x).trans h)
def ygs (a0:dG) (a1 a2:Int):Bool :=
 let r1:=yf a1 (-1) (IntKind.i64.wrap (a0.1 - 1))
 bif r1 then
 let r2:=yf a2 0 a0.2
 bif r2 then
 bif (!(a2==0)) then
 (a1 !=(-1))
 else
 true
 else
 false
 else
 false
def yxw:Con:=⟨yn9,yup,fun x=>(fun n=>some ((n,()),())) (ygs x.1 x.2.1 x.2.2.1)⟩
theorem y02 (a0:dG) (a1 a2:Int):yyh a0 a1 a2=(fun n=>some ((n,()),())) (ygs a0 a1 a2):=zkq (p:=fun (n:Bool)=>((n,()),())) (zkc (p:=fun (n:Bool)=>((n,()),())) (zkc (p:=fun (n:Bool)=>((n,()),())) (zkc (p:=fun (n:Bool)=>((n,()),())) rfl rfl) rfl) rfl)
theorem yJV:ConOk Tryz.prog 131 yxw:=(yYO).mono (fun x r _ h=>(y02 x.1 x.2.1 x.2.2.1).trans h)
end
section
def yDI:Code:=(Tryz.f116.body).getD .skip
def yD7:Env:=zj3 TT [(122,ymn),(126,yy)] []
theorem yMu:FrOk Tryz.prog ⟨yD7,14,fun _=>none⟩ yDI:=zj7 yb yc ⟨yuW,yN,trivial⟩
def yNp:Nat→Option Seg:=fun _=>none
abbrev yhL:List Par:= [.rd tG,.rd tI]
abbrev ym6:List OT:= [⟨false,tB,.fz⟩]
def yrN (a0:dG) (a1:Int):Option (ResD ym6×MutD yhL) :=
 let r1:=yct a0
 bif r1 then
 let r2:=yf a1 0 (IntKind.i64.wrap (a0.2 - 1))
 some ((r2,()),())
 else
 some ((false,()),())
theorem ySY (x:InD yhL):zjx ⟨yD7,14,yNp⟩ Tryz.f116.results.toList yDI yhL ym6 x=yrN x.1 x.2.1:=by kernel_rfl
theorem yPi:ConOk Tryz.prog 116 ⟨yhL,ym6,fun x=>yrN x.1 x.2.1⟩:=zj2 (yMu) Tryz.func116 (by kernel_rfl) (by kernel_rfl) Tryz.ntmps116.symm (by decide) (fun x r h=>(ySY x).trans h)
def yY (a0:dG) (a1:Int):Bool :=
 let r1:=yct a0
 bif r1 then
 let r2:=yf a1 0 (IntKind.i64.wrap (a0.2 - 1))
 r2
 else
 false
def ybt:Con:=⟨yhL,ym6,fun x=>(fun n=>some ((n,()),())) (yY x.1 x.2.1)⟩
theorem yRr (a0:dG) (a1:Int):yrN a0 a1=(fun n=>some ((n,()),())) (yY a0 a1):=zkq (p:=fun (n:Bool)=>((n,()),())) (zkc (p:=fun (n:Bool)=>((n,()),())) rfl rfl)
theorem yd9:ConOk Tryz.prog 116 ybt:=(yPi).mono (fun x r _ h=>(yRr x.1 x.2.1).trans h)
theorem ytY (g:dG) (s:Int):yY g s=yP g s:=by
 unfold yY yP
 rw [yX7]
 cases hg:yg g
 ·rfl
 have:=yk.1 hg
 rw [yag,ybE,wr (by omega) (by omega)]; rfl
end
section
def yK6:Code:=(Tryz.f179.body).getD .skip
def yLD:Env:=zj3 TT [(126,yy)] []
theorem yTe:FrOk Tryz.prog ⟨yLD,5,fun _=>none⟩ yK6:=zj7 yb yc ⟨yN,trivial⟩
def yV2:Nat→Option Seg:=fun _=>none
abbrev yn8:List Par:= [.rd tI]
abbrev yuo:List OT:= [⟨false,tB,.fz⟩]
def yyg (a0:Int):Option (ResD yuo×MutD yn8) :=
 let r1:=yf a0 0 65535
 some ((r1,()),())
theorem y27 (x:InD yn8):zjx ⟨yLD,5,yV2⟩ Tryz.f179.results.toList yK6 yn8 yuo x=yyg x.1:=by kernel_rfl
theorem yYN:ConOk Tryz.prog 179 ⟨yn8,yuo,fun x=>yyg x.1⟩:=zj2 (yTe) Tryz.func179 (by kernel_rfl) (by kernel_rfl) Tryz.ntmps179.symm (by decide) (fun x r h=>(y27 x).trans h)
def yW (a0:Int):Bool :=
 let r1:=yf a0 0 65535
 r1
def yxv:Con:=⟨yn8,yuo,fun x=>(fun n=>some ((n,()),())) (yW x.1)⟩
theorem y01 (a0:Int):yyg a0=(fun n=>some ((n,()),())) (yW a0):=zkq (p:=fun (n:Bool)=>((n,()),())) rfl
theorem yJU:ConOk Tryz.prog 179 yxv:=(yYN).mono (fun x r _ h=>(y01 x.1).trans h)
end
section
def ylG:Code:=(Tryz.f228.body).getD .skip
def yr6:Env:=zj3 TT [(179,yxv)] []
theorem yQE:FrOk Tryz.prog ⟨yr6,15,fun _=>none⟩ ylG:=zj7 yb yc ⟨yJU,trivial⟩
def yDR:Nat→Option Seg:=fun _=>none
def yd4:Shape:=⟨[(5,false,[.br tI]),(6,false,[.int .i64]),(7,false,[.int .i64])],[],[]⟩
def ykU:Shape:=⟨[(5,false,[.br tI]),(6,false,[.int .i64]),(7,false,[.ci .i64 0])],[],[]⟩
def ykS:Shape:=⟨[],[],[]⟩
def yk4:Shape:=⟨[(2,false,[.bool])],[],[]⟩
def yrU (v0:List Int) (v1 v2:Int):Option ((yd4).X ⊕ ((ykS).X ⊕ (yk4).X)) :=
 bif (ltb v2 v1) then
 bif (inb v2 v0.length) then
 let r2:=yW (nth v0 v2 0)
 bif (!r2) then
 some (.inr (.inr (((false,()),()),(),())))
 else
 some (.inl (((v0,()),(v1,()),((IntKind.i64.wrap (v2+1)),()),()),(),()))
 else none
 else
 some (.inr (.inl ((),(),())))
def yci (x:(yd4).X):=yrU x.1.1.1 x.1.2.1.1 x.1.2.2.1.1
def yAI (x:(ykU).X):(yd4).X:=(((x.1.1.1,()),(x.1.2.1.1,()),(0,()),()),(),())
def yCl:Code:=(zdD ylG 64 52).getD .skip
theorem yQc:zdD ylG 64 13=some (.block 0 (.loop yCl)):=by kernel_rfl
theorem yR7 (x:(yd4).X):zg0 ⟨yr6,15,yDR⟩ 0 yCl 52 yd4 ykS yk4 x=yci x:=by kernel_rfl
def yAX (x:(ykU).X):Nat:=18446744073709551616
def ys3 (x:(ykU).X):Option ((ykS).X ⊕ (yk4).X):=zz yci (yAX x) (yAI x)
def yBn:Seg:=⟨ykU,ykS,yk4,ys3⟩
def yDS:Nat→Option Seg:=fun q=>bif Nat.beq q 13 then some yBn else yDR q
theorem yQF:FrOk Tryz.prog ⟨yr6,15,yDS⟩ ylG:=(yQE).loop (sg:=yBn) yd4 yAI (by decide) yQc yci yAX (by decide) (fun _=>rfl) (fun x r _ h=>h) yR7
abbrev yhs:List Par:= [.rd tL]
abbrev ysk:List OT:= [⟨false,tB,.fz⟩]
def ynD (a0:List Int):Option (ResD ysk×MutD yhs) :=
 zjZ (ys3 (((a0,()),((a0.length:Int),()),((),()),()),(),())) (fun y2 =>
 some ((true,()),())) (fun y2 =>
 some ((y2.1.1.1,()),()))
theorem y0s (x:InD yhs):zjx ⟨yr6,15,yDS⟩ Tryz.f228.results.toList ylG yhs ysk x=ynD x.1:=by kernel_rfl
theorem yU2:ConOk Tryz.prog 228 ⟨yhs,ysk,fun x=>ynD x.1⟩:=zj2 (yQF) Tryz.func228 (by kernel_rfl) (by kernel_rfl) Tryz.ntmps228.symm (by decide) (fun x r h=>(y0s x).trans h)
def yaf (a0:List Int):Bool:=a0.all yW
theorem yYp (a0:List Int) (hk:zi2 yhs (a0,())):ynD a0=(fun n=>some ((n,()),())) (yaf a0):=by
 have hb:a0.length * 8≤2 ^ 47:=hk.1.1
 have hl:ys3 (((a0,()),((a0.length:Int),()),((),()),()),(),())=some (bif a0.all yW then .inl ((),(),()) else .inr (((false,()),()),(),())) :=
  zjG (step:=yci) a0 0 (fun i=>(((a0,()),((a0.length:Int),()),((i:Int),()),()),(),())) yW _ _ (fun i hi=>by
   simp only [yci,yrU,zkm hi,zkn,zj5 (show (i:Int) < a0.length by omega),cond_true,wr (show -9223372036854775808≤(i:Int)+1 by omega) (by omega),Int.natCast_add,Int.natCast_one]
   cases yW (a0.getD i 0)<;>rfl) (by simp only [yci,yrU,zky (Int.le_refl _),cond_false]) _ (by show _ < 18446744073709551616; omega)
 unfold ynD yaf
 rw [hl]
 cases a0.all yW<;>rfl
def ynk:Con:=⟨yhs,ysk,fun x=>(fun n=>some ((n,()),())) (yaf x.1)⟩
theorem yx5:ConOk Tryz.prog 228 ynk:=(yU2).mono (fun x r hk h=>(yYp x.1 hk).trans h)
theorem y4X (a:Int):yW a=yv a:=by kernel_rfl
end
section
def yK3:Code:=(Tryz.f144.body).getD .skip
def yLA:Env:=zj3 TT [(228,ynk)] []
theorem yTb:FrOk Tryz.prog ⟨yLA,15,fun _=>none⟩ yK3:=zj7 yb yc ⟨yx5,trivial⟩
def yVZ:Nat→Option Seg:=fun _=>none
abbrev yn5:List Par:= [.rd tG,.rd tL]
abbrev yul:List OT:= [⟨false,tB,.fz⟩]
def yyd (a0:dG) (a1:List Int):Option (ResD yul×MutD yn5) :=
 bif ((a1.length:Int)==(IntKind.i64.wrap (a0.1 - 1))) then
 let r1:=yaf a1
 some ((r1,()),())
 else
 some ((false,()),())
theorem y24 (x:InD yn5):zjx ⟨yLA,15,yVZ⟩ Tryz.f144.results.toList yK3 yn5 yul x=yyd x.1 x.2.1:=by kernel_rfl
theorem yYK:ConOk Tryz.prog 144 ⟨yn5,yul,fun x=>yyd x.1 x.2.1⟩:=zj2 (yTb) Tryz.func144 (by kernel_rfl) (by kernel_rfl) Tryz.ntmps144.symm (by decide) (fun x r h=>(y24 x).trans h)
def yeu (a0:dG) (a1:List Int):Bool :=
 bif ((a1.length:Int)==(IntKind.i64.wrap (a0.1 - 1))) then
 let r1:=yaf a1
 r1
 else
 false
def yxu:Con:=⟨yn5,yul,fun x=>(fun n=>some ((n,()),())) (yeu x.1 x.2.1)⟩
theorem y0Y (a0:dG) (a1:List Int):yyd a0 a1=(fun n=>some ((n,()),())) (yeu a0 a1):=zkq (p:=fun (n:Bool)=>((n,()),())) (zkc (p:=fun (n:Bool)=>((n,()),())) rfl rfl)
theorem yJT:ConOk Tryz.prog 144 yxu:=(yYK).mono (fun x r _ h=>(y0Y x.1 x.2.1).trans h)
end
end
end Go.Tf
