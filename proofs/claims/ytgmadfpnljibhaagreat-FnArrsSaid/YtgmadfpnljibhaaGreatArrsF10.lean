/- Functions of the program, and what they come to. -/
import Derived.Test.YtgmadfpnljibhaaGreatArrsF9
namespace Go.Tf
noncomputable section
open Go.Proofs
set_option synthInstance.maxHeartbeats 400000
set_option synthInstance.maxSize 10000
set_option linter.unusedVariables false
set_option linter.unusedSimpArgs false
set_option maxRecDepth 100000
section
def yHL:Code:=(Tryz.f181.body).getD .skip
def yIi:Env:=zj2 TT [(135,yr)] []
theorem yO6:FrOk Tryz.prog ⟨yIi,5,fun _=>none⟩ yHL:=zj6 yc yd ⟨yx,trivial⟩
def yRB:Nat→Option Seg:=fun _=>none
abbrev ymx:List Par:= [.rd tI]
abbrev ysz:List OT:= [⟨false,tB,.fz⟩]
def yvT (a0:Int):Option (ResD ysz×MutD ymx) :=
 let r1:=ya a0 0 65535
 some ((r1,()),())
theorem yYn (x:InD ymx):zjx ⟨yIi,5,yRB⟩ Tryz.f181.results.toList yHL ymx ysz x=yvT x.1:=by kernel_rfl
theorem yUe:ConOk Tryz.prog 181 ⟨ymx,ysz,fun x=>yvT x.1⟩:=zj1 (yO6) Tryz.func181 (by kernel_rfl) (by kernel_rfl) Tryz.ntmps181.symm (by decide) (fun x r h=>(yYn x).trans h)
def yaa (a0:Int):Bool :=
 let r1:=ya a0 0 65535
 r1
def yEv:Con:=⟨ymx,ysz,fun x=>(fun n=>some ((n,()),())) (yaa x.1)⟩
theorem yWn (a0:Int):yvT a0=(fun n=>some ((n,()),())) (yaa a0):=zkp (p:=fun (n:Bool)=>((n,()),())) rfl
theorem yXd:ConOk Tryz.prog 181 yEv:=(yUe).mono (fun x r _ h=>(yWn x.1).trans h)
end
section
def yke:Code:=(Tryz.f225.body).getD .skip
def yqa:Env:=zj2 TT [(181,yEv)] []
theorem yME:FrOk Tryz.prog ⟨yqa,16,fun _=>none⟩ yke:=zj6 yc yd ⟨yXd,trivial⟩
def yA7:Nat→Option Seg:=fun _=>none
def ydc:Shape:=⟨[(0,false,[.br tI]),(3,false,[.int .i64])],[],[]⟩
def yjv:Shape:=⟨[(0,false,[.br tI]),(3,false,[.ci .i64 0])],[],[]⟩
def yjt:Shape:=⟨[],[],[]⟩
def yjJ:Shape:=⟨[(2,false,[.bool])],[],[]⟩
def yp3 (v0:List Int) (v1:Int):Option ((ydc).X ⊕ ((yjt).X ⊕ (yjJ).X)) :=
 bif (ltb v1 (v0.length:Int)) then
 bif (inb v1 v0.length) then
 let r2:=yaa (nth v0 v1 0)
 bif (!r2) then
 some (.inr (.inr (((false,()),()),(),())))
 else
 some (.inl (((v0,()),((IntKind.i64.wrap (v1+1)),()),()),(),()))
 else none
 else
 some (.inr (.inl ((),(),())))
def ybO (x:(ydc).X):=yp3 x.1.1.1 x.1.2.1.1
def yx7 (x:(yjv).X):(ydc).X:=(((x.1.1.1,()),(0,()),()),(),())
def yzE:Code:=(zdD yke 64 52).getD .skip
theorem yL5:zdD yke 64 13=some (.block 0 (.loop yzE)):=by kernel_rfl
theorem yNN (x:(ydc).X):zg0 ⟨yqa,16,yA7⟩ 0 yzE 52 ydc yjt yjJ x=ybO x:=by kernel_rfl
def yyk (x:(yjv).X):Nat:=18446744073709551616
def yrc (x:(yjv).X):Option ((yjt).X ⊕ (yjJ).X):=zz ybO (yyk x) (yx7 x)
def yyG:Seg:=⟨yjv,yjt,yjJ,yrc⟩
def yA8:Nat→Option Seg:=fun q=>bif Nat.beq q 13 then some yyG else yA7 q
theorem yMF:FrOk Tryz.prog ⟨yqa,16,yA8⟩ yke:=(yME).loop (sg:=yyG) ydc yx7 (by decide) yL5 ybO yyk (by decide) (fun _=>rfl) (fun x r _ h=>h) yNN
abbrev ygl:List Par:= [.rd tL]
abbrev yqt:List OT:= [⟨false,tB,.fz⟩]
def ylY (a0:List Int):Option (ResD yqt×MutD ygl) :=
 zkh (yrc (((a0,()),((),()),()),(),())) (fun y2 =>
 some ((true,()),())) (fun y2 =>
 some ((y2.1.1.1,()),()))
theorem yVJ (x:InD ygl):zjx ⟨yqa,16,yA8⟩ Tryz.f225.results.toList yke ygl yqt x=ylY x.1:=by kernel_rfl
theorem yQG:ConOk Tryz.prog 225 ⟨ygl,yqt,fun x=>ylY x.1⟩:=zj1 (yMF) Tryz.func225 (by kernel_rfl) (by kernel_rfl) Tryz.ntmps225.symm (by decide) (fun x r h=>(yVJ x).trans h)
def yK (a0:List Int):Bool:=a0.all yaa
theorem yTI (a0:List Int) (hk:zi2 ygl (a0,())):ylY a0=(fun n=>some ((n,()),())) (yK a0):=by
 have hb:a0.length * 8≤2 ^ 47:=hk.1.1
 have hl:yrc (((a0,()),((),()),()),(),())=some (bif a0.all yaa then .inl ((),(),()) else .inr (((false,()),()),(),())) :=
  zjG (step:=ybO) a0 0 (fun i=>(((a0,()),((i:Int),()),()),(),())) yaa _ _ (fun i hi=>by
   simp only [ybO,yp3,zkl hi,zkm,zj4 (show (i:Int) < a0.length by omega),cond_true,wr (show -9223372036854775808≤(i:Int)+1 by omega) (by omega),Int.natCast_add,Int.natCast_one]
   cases yaa (a0.getD i 0)<;>rfl) (by simp only [ybO,yp3,zkx (Int.le_refl _),cond_false]) _ (by show _ < 18446744073709551616; omega)
 unfold ylY yK
 rw [hl]
 cases a0.all yaa<;>rfl
def yhd:Con:=⟨ygl,yqt,fun x=>(fun n=>some ((n,()),())) (yK x.1)⟩
theorem yov:ConOk Tryz.prog 225 yhd:=(yQG).mono (fun x r hk h=>(yTI x.1 hk).trans h)
end
section
def yJu:Code:=(Tryz.f269.body).getD .skip
def yJN:Env:=zj2 TT [(225,yhd)] []
theorem ySP:FrOk Tryz.prog ⟨yJN,10,fun _=>none⟩ yJu:=zj6 yc yd ⟨yov,trivial⟩
def yVc:Nat→Option Seg:=fun _=>none
abbrev yph:List Par:= [.rd tL]
abbrev yuM:List OT:= [⟨false,tB,.fz⟩]
def yxm (a0:List Int):Option (ResD yuM×MutD yph) :=
 bif (leb (a0.length:Int) 12) then
 let r1:=yK a0
 some ((r1,()),())
 else
 some ((false,()),())
theorem yZH (x:InD yph):zjx ⟨yJN,10,yVc⟩ Tryz.f269.results.toList yJu yph yuM x=yxm x.1:=by kernel_rfl
theorem yWK:ConOk Tryz.prog 269 ⟨yph,yuM,fun x=>yxm x.1⟩:=zj1 (ySP) Tryz.func269 (by kernel_rfl) (by kernel_rfl) Tryz.ntmps269.symm (by decide) (fun x r h=>(yZH x).trans h)
def yhl (a0:List Int):Bool :=
 bif (leb (a0.length:Int) 12) then
 let r1:=yK a0
 r1
 else
 false
def ywY:Con:=⟨yph,yuM,fun x=>(fun n=>some ((n,()),())) (yhl x.1)⟩
theorem yYP (a0:List Int):yxm a0=(fun n=>some ((n,()),())) (yhl a0):=zkp (p:=fun (n:Bool)=>((n,()),())) (zkb (p:=fun (n:Bool)=>((n,()),())) rfl rfl)
theorem yIt:ConOk Tryz.prog 269 ywY:=(yWK).mono (fun x r _ h=>(yYP x.1).trans h)
theorem yFf:yhl=yS:=funext fun s=>by
 unfold yhl yS yK
 rw [show yaa=isW from funext fun x=>by unfold yaa; rw [ybX]; rfl]
 cases leb (s.length:Int) 12<;>rfl
end
section
def yaX:Code:=(Tryz.f224.body).getD .skip
def yen:Env:=zj2 TT [(135,yr),(269,ywY)] []
theorem ySK:FrOk Tryz.prog ⟨yen,91,fun _=>none⟩ yaX:=zj6 yc yd ⟨yx,yIt,trivial⟩
def yFH:Nat→Option Seg:=fun _=>none
def ycR:Shape:=⟨[(1,false,[.ptr 0 0]),(3,false,[.int .i64]),(4,false,[.int .i64])],[(0,[.br tL,.br tW,.bool,.br tI])],[]⟩
def yiy:Shape:=⟨[(1,false,[.ptr 0 0]),(3,false,[.int .i64]),(4,false,[.ci .i64 0])],[(0,[.br tL,.br tW,.bool,.br tI])],[]⟩
def yii:Shape:=⟨[(1,false,[.ptr 0 0]),(3,false,[.int .i64])],[(0,[.br tL,.br tW,.bool,.br tI])],[]⟩
def yiX:Shape:=⟨[(2,false,[.bool])],[],[]⟩
abbrev ytk (v0 v1:Int) (v2:dM):(ycR).X:=((((),()),(v0,()),(v1,()),()),((v2.1,v2.2.1,v2.2.2.1,v2.2.2.2,()),()),())
abbrev yPH (v0:Int) (v1:dM):(yiy).X:=((((),()),(v0,()),((),()),()),((v1.1,v1.2.1,v1.2.2.1,v1.2.2.2,()),()),())
abbrev yPw (v0:Int) (v1:dM):(yii).X:=((((),()),(v0,()),()),((v1.1,v1.2.1,v1.2.2.1,v1.2.2.2,()),()),())
abbrev yPV (v0:Bool):(yiX).X:=(((v0,()),()),(),())
def ytI (v0 v1:Int) (v2:List (List Int)) (v3:List dW) (v4:Bool) (v5:List Int):Option ((ycR).X ⊕ ((yii).X ⊕ (yiX).X)) :=
 bif (ltb v1 v0) then
 bif (inb v1 v2.length) then
 let r2:=yhl (nth v2 v1 [])
 bif (!r2) then
 some (.inr (.inr (((false,()),()),(),())))
 else
 some (.inl ((((),()),(v0,()),((IntKind.i64.wrap (v1+1)),()),()),((v2,v3,v4,v5,()),()),()))
 else none
 else
 some (.inr (.inl ((((),()),(v0,()),()),((v2,v3,v4,v5,()),()),())))
def ydn (x:(ycR).X):=ytI x.1.2.1.1 x.1.2.2.1.1 x.2.1.1.1 x.2.1.1.2.1 x.2.1.1.2.2.1 x.2.1.1.2.2.2.1
def yBR (x:(yiy).X):(ycR).X:=((((),()),(x.1.2.1.1,()),(0,()),()),((x.2.1.1.1,x.2.1.1.2.1,x.2.1.1.2.2.1,x.2.1.1.2.2.2.1,()),()),())
def yEa:Code:=(zdD yaX 64 116).getD .skip
theorem yRN:zdD yaX 64 29=some (.block 0 (.loop yEa)):=by kernel_rfl
theorem yUR (x:(ycR).X):zg0 ⟨yen,91,yFH⟩ 0 yEa 116 ycR yii yiX x=ydn x:=by kernel_rfl
def yCa (x:(yiy).X):Nat:=18446744073709551616
def yuo (x:(yiy).X):Option ((yii).X ⊕ (yiX).X):=zz ydn (yCa x) (yBR x)
def yCP:Seg:=⟨yiy,yii,yiX,yuo⟩
def ywO:Nat→Option Seg:=fun q=>bif Nat.beq q 29 then some yCP else yFH q
theorem ySL:FrOk Tryz.prog ⟨yen,91,ywO⟩ yaX:=(ySK).loop (sg:=yCP) ycR yBR (by decide) yRN ydn yCa (by decide) (fun _=>rfl) (fun x r _ h=>h) yUR
def ycS:Shape:=⟨[(1,false,[.ptr 0 0]),(3,false,[.int .i64]),(5,false,[.int .i64])],[(0,[.br tL,.br tW,.bool,.br tI])],[]⟩
def yiz:Shape:=⟨[(1,false,[.ptr 0 0]),(3,false,[.int .i64]),(5,false,[.ci .i64 0])],[(0,[.br tL,.br tW,.bool,.br tI])],[]⟩
def yij:Shape:=⟨[(1,false,[.ptr 0 0]),(3,false,[.int .i64])],[(0,[.br tL,.br tW,.bool,.br tI])],[]⟩
def yiY:Shape:=⟨[(2,false,[.bool])],[],[]⟩
abbrev ytl (v0 v1:Int) (v2:dM):(ycS).X:=((((),()),(v0,()),(v1,()),()),((v2.1,v2.2.1,v2.2.2.1,v2.2.2.2,()),()),())
abbrev yPI (v0:Int) (v1:dM):(yiz).X:=((((),()),(v0,()),((),()),()),((v1.1,v1.2.1,v1.2.2.1,v1.2.2.2,()),()),())
abbrev yPx (v0:Int) (v1:dM):(yij).X:=((((),()),(v0,()),()),((v1.1,v1.2.1,v1.2.2.1,v1.2.2.2,()),()),())
abbrev yPW (v0:Bool):(yiY).X:=(((v0,()),()),(),())
def ytJ (v0 v1:Int) (v2:List (List Int)) (v3:List dW) (v4:Bool) (v5:List Int):Option ((ycS).X ⊕ ((yij).X ⊕ (yiY).X)) :=
 bif (ltb v1 (v3.length:Int)) then
 bif (inb v1 v3.length) then
 let r6:=ya ((nth v3 v1 (0,[])).1) 0 (IntKind.i64.wrap (v0 - 1))
 bif (!(!r6)) then
 bif (inb v1 v3.length) then
 let r7:=yhl ((nth v3 v1 (0,[])).2)
 bif (!r7) then
 some (.inr (.inr (((false,()),()),(),())))
 else
 some (.inl ((((),()),(v0,()),((IntKind.i64.wrap (v1+1)),()),()),((v2,v3,v4,v5,()),()),()))
 else none
 else
 some (.inr (.inr (((false,()),()),(),())))
 else none
 else
 some (.inr (.inl ((((),()),(v0,()),()),((v2,v3,v4,v5,()),()),())))
def ydo (x:(ycS).X):=ytJ x.1.2.1.1 x.1.2.2.1.1 x.2.1.1.1 x.2.1.1.2.1 x.2.1.1.2.2.1 x.2.1.1.2.2.2.1
def yBS (x:(yiz).X):(ycS).X:=((((),()),(x.1.2.1.1,()),(0,()),()),((x.2.1.1.1,x.2.1.1.2.1,x.2.1.1.2.2.1,x.2.1.1.2.2.2.1,()),()),())
def yEb:Code:=(zdD yaX 64 244).getD .skip
theorem yRO:zdD yaX 64 61=some (.block 2 (.loop yEb)):=by kernel_rfl
theorem yUS (x:(ycS).X):zg0 ⟨yen,91,ywO⟩ 2 yEb 244 ycS yij yiY x=ydo x:=by kernel_rfl
def yCb (x:(yiz).X):Nat:=18446744073709551616
def yup (x:(yiz).X):Option ((yij).X ⊕ (yiY).X):=zz ydo (yCb x) (yBS x)
def yCQ:Seg:=⟨yiz,yij,yiY,yup⟩
def ywP:Nat→Option Seg:=fun q=>bif Nat.beq q 61 then some yCQ else ywO q
theorem ySM:FrOk Tryz.prog ⟨yen,91,ywP⟩ yaX:=(ySL).loop (sg:=yCQ) ycS yBS (by decide) yRO ydo yCb (by decide) (fun _=>rfl) (fun x r _ h=>h) yUS
def yb3:Shape:=⟨[(1,false,[.ptr 0 0]),(3,false,[.int .i64]),(6,false,[.int .i64])],[(0,[.br tL,.br tW,.bool,.br tI])],[]⟩
def yg1:Shape:=⟨[(1,false,[.ptr 0 0]),(3,false,[.int .i64]),(6,false,[.ci .i64 0])],[(0,[.br tL,.br tW,.bool,.br tI])],[]⟩
def ygP:Shape:=⟨[(1,false,[.ptr 0 0]),(3,false,[.int .i64])],[(0,[.br tL,.br tW,.bool,.br tI])],[]⟩
def yha:Shape:=⟨[(2,false,[.bool])],[],[]⟩
abbrev yrp (v0 v1:Int) (v2:dM):(yb3).X:=((((),()),(v0,()),(v1,()),()),((v2.1,v2.2.1,v2.2.2.1,v2.2.2.2,()),()),())
abbrev yMX (v0:Int) (v1:dM):(yg1).X:=((((),()),(v0,()),((),()),()),((v1.1,v1.2.1,v1.2.2.1,v1.2.2.2,()),()),())
abbrev yMP (v0:Int) (v1:dM):(ygP).X:=((((),()),(v0,()),()),((v1.1,v1.2.1,v1.2.2.1,v1.2.2.2,()),()),())
abbrev yM5 (v0:Bool):(yha).X:=(((v0,()),()),(),())
def yrE (v0 v1:Int) (v2:List (List Int)) (v3:List dW) (v4:Bool) (v5:List Int):Option ((yb3).X ⊕ ((ygP).X ⊕ (yha).X)) :=
 bif (ltb v1 (v5.length:Int)) then
 bif (inb v1 v5.length) then
 let r10:=ya (nth v5 v1 0) 0 (IntKind.i64.wrap (v0 - 1))
 bif (!(!r10)) then
 bif (ltb 0 v1) then
 bif (inb (IntKind.i64.wrap (v1 - 1)) v5.length) then
 bif (inb v1 v5.length) then
 bif (leb (nth v5 v1 0) (nth v5 (IntKind.i64.wrap (v1 - 1)) 0)) then
 some (.inr (.inr (((false,()),()),(),())))
 else
 some (.inl ((((),()),(v0,()),((IntKind.i64.wrap (v1+1)),()),()),((v2,v3,v4,v5,()),()),()))
 else none
 else none
 else
 some (.inl ((((),()),(v0,()),((IntKind.i64.wrap (v1+1)),()),()),((v2,v3,v4,v5,()),()),()))
 else
 some (.inr (.inr (((false,()),()),(),())))
 else none
 else
 some (.inr (.inl ((((),()),(v0,()),()),((v2,v3,v4,v5,()),()),())))
def ycA (x:(yb3).X):=yrE x.1.2.1.1 x.1.2.2.1.1 x.2.1.1.1 x.2.1.1.2.1 x.2.1.1.2.2.1 x.2.1.1.2.2.2.1
def yzZ (x:(yg1).X):(yb3).X:=((((),()),(x.1.2.1.1,()),(0,()),()),((x.2.1.1.1,x.2.1.1.2.1,x.2.1.1.2.2.1,x.2.1.1.2.2.2.1,()),()),())
def yBo:Code:=(zdD yaX 64 500).getD .skip
theorem yOi:zdD yaX 64 125=some (.block 4 (.loop yBo)):=by kernel_rfl
theorem yQ6 (x:(yb3).X):zg0 ⟨yen,91,ywP⟩ 4 yBo 500 yb3 ygP yha x=ycA x:=by kernel_rfl
def yAb (x:(yg1).X):Nat:=18446744073709551616
def ysY (x:(yg1).X):Option ((ygP).X ⊕ (yha).X):=zz ycA (yAb x) (yzZ x)
def yAt:Seg:=⟨yg1,ygP,yha,ysY⟩
def yFI:Nat→Option Seg:=fun q=>bif Nat.beq q 125 then some yAt else ywP q
theorem ySN:FrOk Tryz.prog ⟨yen,91,yFI⟩ yaX:=(ySM).loop (sg:=yAt) yb3 yzZ (by decide) yOi ycA yAb (by decide) (fun _=>rfl) (fun x r _ h=>h) yQ6
abbrev yky:List Par:= [.rd tM]
abbrev yuK:List OT:= [⟨false,tB,.fz⟩]
def yqS (a0:dM):Option (ResD yuK×MutD yky) :=
 zkh (yuo ((((),()),((a0.1.length:Int),()),((),()),()),((a0.1,a0.2.1,a0.2.2.1,a0.2.2.2,()),()),())) (fun y2 =>
 zkh (yup ((((),()),(y2.1.2.1.1,()),((),()),()),((y2.2.1.1.1,y2.2.1.1.2.1,y2.2.1.1.2.2.1,y2.2.1.1.2.2.2.1,()),()),())) (fun y7 =>
 zkh (ysY ((((),()),(y7.1.2.1.1,()),((),()),()),((y7.2.1.1.1,y7.2.1.1.2.1,y7.2.1.1.2.2.1,y7.2.1.1.2.2.2.1,()),()),())) (fun y10 =>
 let r12:=ya y10.1.2.1.1 1 20
 bif r12 then
 some (((leb (y10.2.1.1.2.1.length:Int) 60),()),())
 else
 some ((false,()),())) (fun y10 =>
 some ((y10.1.1.1,()),()))) (fun y7 =>
 some ((y7.1.1.1,()),()))) (fun y2 =>
 some ((y2.1.1.1,()),()))
theorem yZF (x:InD yky):zjx ⟨yen,91,yFI⟩ Tryz.f224.results.toList yaX yky yuK x=yqS x.1:=by kernel_rfl
theorem yWI:ConOk Tryz.prog 224 ⟨yky,yuK,fun x=>yqS x.1⟩:=zj1 (ySN) Tryz.func224 (by kernel_rfl) (by kernel_rfl) Tryz.ntmps224.symm (by decide) (fun x r h=>(yZF x).trans h)
def yag (a0:dM):Bool:=yq a0
theorem yYN (a0:dM) (hk:zi2 yky (a0,())):yqS a0=(fun n=>some ((n,()),())) (yag a0):=by
 have hb1:a0.1.length * 24≤2 ^ 47:=hk.1.1.1
 have hb2:a0.2.1.length * 32≤2 ^ 47:=hk.1.2.1.1
 have hb3:a0.2.2.2.length * 8≤2 ^ 47:=hk.1.2.2.2.1
 have h1:yuo (yPH a0.1.length a0)=some (bif a0.1.all yS then .inl (yPw a0.1.length a0) else .inr (yPV false)) :=
  zjG (step:=ydn) a0.1 [] (fun i=>ytk a0.1.length i a0) yS _ _ (fun i hi=>by
   simp only [ydn,ytk,ytI,zj4 (show (i:Int) < a0.1.length by omega),cond_true,wr (show -9223372036854775808≤(i:Int)+1 by omega) (by omega),Int.natCast_add,Int.natCast_one,Int.toNat_natCast,zkl hi,zkm,yFf]
   cases yS (a0.1.getD i [])<;>rfl) (by simp only [ydn,ytk,ytI,zkx (Int.le_refl _),cond_false]) _ (by show _ < 18446744073709551616; omega)
 have h2:yup (yPI a0.1.length a0)=some (bif a0.2.1.all (yrL a0.1.length) then .inl (yPx a0.1.length a0) else .inr (yPW false)) :=
  zjG (step:=ydo) a0.2.1 (0,[]) (fun i=>ytl a0.1.length i a0) (yrL a0.1.length) _ _ (fun i hi=>by
   simp only [ydo,ytl,ytJ,zj4 (show (i:Int) < a0.2.1.length by omega),cond_true,wr (show -9223372036854775808≤(i:Int)+1 by omega) (by omega),Int.natCast_add,Int.natCast_one,Int.toNat_natCast,zkl hi,zkm,yFf,ypA (show a0.1.length≤1152921504606846976 by omega),yrL]
   cases inb (a0.2.1.getD i (0,[])).1 a0.1.length<;>cases yS (a0.2.1.getD i (0,[])).2<;>rfl) (by simp only [ydo,ytl,ytJ,zkx (Int.le_refl _),cond_false]) _ (by show _ < 18446744073709551616; omega)
 have h3:ysY (yMX a0.1.length a0)=some (bif (List.range a0.2.2.2.length).any (yD3 a0.1.length a0.2.2.2) then .inr (yM5 false) else .inl (yMP a0.1.length a0)) :=
  ziO (step:=ycA) (fun i=>yrp a0.1.length i a0) a0.2.2.2.length (yD3 a0.1.length a0.2.2.2) _ _ (fun i hi=>by
   simp only [ycA,yrp,yrE,zj4 (show (i:Int) < a0.2.2.2.length by omega),cond_true,wr (show -9223372036854775808≤(i:Int)+1 by omega) (by omega),Int.natCast_add,Int.natCast_one,Int.toNat_natCast,zkl hi,zkm,ypA (show a0.1.length≤1152921504606846976 by omega),yD3]
   rcases Nat.eq_zero_or_pos i with rfl | h0
   ·cases inb (a0.2.2.2.getD 0 0) a0.1.length<;>rfl
   ·rw [show IntKind.i64.wrap ((i:Int) - 1)=((i - 1:Nat):Int) by rw [wr (by omega) (by omega)]; omega,zkl (show i - 1 < a0.2.2.2.length by omega),zkm,zj4 (show (0:Int) < i by omega),decide_eq_true h0]
    cases inb (a0.2.2.2.getD i 0) a0.1.length<;>cases leb (a0.2.2.2.getD i 0) (a0.2.2.2.getD (i - 1) 0)<;>rfl) (by simp only [ycA,yrp,yrE,zkx (Int.le_refl _),cond_false]) _ (by show _ < 18446744073709551616; omega)
 unfold yqS yag yq
 rw [h1]
 cases a0.1.all yS
 ·rfl
 simp only [cond_true,zki,h2]
 cases a0.2.1.all (yrL a0.1.length)
 ·rfl
 simp only [cond_true,zki,h3,yXv,ybX]
 cases yqw a0.1.length a0.2.2.2
 ·rfl
 simp only [Bool.not_true,cond_false,zki]
 cases leb 1 (a0.1.length:Int)<;>cases leb (a0.1.length:Int) 20<;>rfl
def ygq:Con:=⟨yky,yuK,fun x=>(fun n=>some ((n,()),())) (yag x.1)⟩
theorem ym5:ConOk Tryz.prog 224 ygq:=(yWI).mono (fun x r hk h=>(yYN x.1 hk).trans h)
end
section
def ymf:Code:=(Tryz.f136.body).getD .skip
def yr6:Env:=zj2 TT [(139,yop),(224,ygq)] []
theorem yPg:FrOk Tryz.prog ⟨yr6,51,fun _=>none⟩ ymf:=zj6 yc yd ⟨yw9,ym5,trivial⟩
def yDE:Nat→Option Seg:=fun _=>none
def yb9:Shape:=⟨[(1,false,[.ptr 0 0]),(3,false,[.int .i64])],[(0,[.int .i64,.int .i64,.int .i64,.br tM,.int .i64,.int .i64,.int .i64,.int .i64,.int .i64,.br tW,.int .i64,.bool,.bool])],[]⟩
def yg7:Shape:=⟨[(1,false,[.ptr 0 0]),(3,false,[.ci .i64 0])],[(0,[.int .i64,.int .i64,.int .i64,.br tM,.int .i64,.int .i64,.int .i64,.int .i64,.int .i64,.br tW,.int .i64,.bool,.bool])],[]⟩
def ygV:Shape:=⟨[(1,false,[.ptr 0 0])],[(0,[.int .i64,.int .i64,.int .i64,.br tM,.int .i64,.int .i64,.int .i64,.int .i64,.int .i64,.br tW,.int .i64,.bool,.bool])],[]⟩
def yhb:Shape:=⟨[(2,false,[.bool])],[],[]⟩
abbrev yrt (v0:Int) (v1:dA):(yb9).X:=((((),()),(v0,()),()),((v1.1,v1.2.1.1,v1.2.1.2,v1.2.2.1,v1.2.2.2.1,v1.2.2.2.2.1,v1.2.2.2.2.2.1,v1.2.2.2.2.2.2.1,v1.2.2.2.2.2.2.2.1,v1.2.2.2.2.2.2.2.2.1,v1.2.2.2.2.2.2.2.2.2.1,v1.2.2.2.2.2.2.2.2.2.2.1,v1.2.2.2.2.2.2.2.2.2.2.2,()),()),())
abbrev yM2 (v0:dA):(yg7).X:=((((),()),((),()),()),((v0.1,v0.2.1.1,v0.2.1.2,v0.2.2.1,v0.2.2.2.1,v0.2.2.2.2.1,v0.2.2.2.2.2.1,v0.2.2.2.2.2.2.1,v0.2.2.2.2.2.2.2.1,v0.2.2.2.2.2.2.2.2.1,v0.2.2.2.2.2.2.2.2.2.1,v0.2.2.2.2.2.2.2.2.2.2.1,v0.2.2.2.2.2.2.2.2.2.2.2,()),()),())
abbrev yMS (v0:dA):(ygV).X:=((((),()),()),((v0.1,v0.2.1.1,v0.2.1.2,v0.2.2.1,v0.2.2.2.1,v0.2.2.2.2.1,v0.2.2.2.2.2.1,v0.2.2.2.2.2.2.1,v0.2.2.2.2.2.2.2.1,v0.2.2.2.2.2.2.2.2.1,v0.2.2.2.2.2.2.2.2.2.1,v0.2.2.2.2.2.2.2.2.2.2.1,v0.2.2.2.2.2.2.2.2.2.2.2,()),()),())
abbrev yM6 (v0:Bool):(yhb).X:=(((v0,()),()),(),())
def yrJ (v0 v1 v2 v3:Int) (v4:List dM) (v5 v6 v7 v8 v9:Int) (v10:List dW) (v11:Int) (v12 v13:Bool):Option ((yb9).X ⊕ ((ygV).X ⊕ (yhb).X)) :=
 bif (ltb v0 (v4.length:Int)) then
 bif (inb v0 v4.length) then
 let r3:=yag ((nth v4 v0 ([],[],false,[])).1,((nth v4 v0 ([],[],false,[])).2).1,(((nth v4 v0 ([],[],false,[])).2).2))
 bif (!(!r3)) then
 let r4:=ybY (v2,v3)
 bif (!((((nth v4 v0 ([],[],false,[])).1).length:Int) !=r4)) then
 bif (((nth v4 v0 ([],[],false,[])).2).2).1 then
 bif (v0 !=v5) then
 bif (!v13) then
 some (.inr (.inr (((false,()),()),(),())))
 else
 some (.inl ((((),()),((IntKind.i64.wrap (v0+1)),()),()),((v1,v2,v3,v4,v5,v6,v7,v8,v9,v10,v11,v12,v13,()),()),()))
 else
 some (.inl ((((),()),((IntKind.i64.wrap (v0+1)),()),()),((v1,v2,v3,v4,v5,v6,v7,v8,v9,v10,v11,v12,v13,()),()),()))
 else
 some (.inl ((((),()),((IntKind.i64.wrap (v0+1)),()),()),((v1,v2,v3,v4,v5,v6,v7,v8,v9,v10,v11,v12,v13,()),()),()))
 else
 some (.inr (.inr (((false,()),()),(),())))
 else
 some (.inr (.inr (((false,()),()),(),())))
 else none
 else
 some (.inr (.inl ((((),()),()),((v1,v2,v3,v4,v5,v6,v7,v8,v9,v10,v11,v12,v13,()),()),())))
def ycE (x:(yb9).X):=yrJ x.1.2.1.1 x.2.1.1.1 x.2.1.1.2.1 x.2.1.1.2.2.1 x.2.1.1.2.2.2.1 x.2.1.1.2.2.2.2.1 x.2.1.1.2.2.2.2.2.1 x.2.1.1.2.2.2.2.2.2.1 x.2.1.1.2.2.2.2.2.2.2.1 x.2.1.1.2.2.2.2.2.2.2.2.1 x.2.1.1.2.2.2.2.2.2.2.2.2.1 x.2.1.1.2.2.2.2.2.2.2.2.2.2.1 x.2.1.1.2.2.2.2.2.2.2.2.2.2.2.1 x.2.1.1.2.2.2.2.2.2.2.2.2.2.2.2.1
def yz5 (x:(yg7).X):(yb9).X:=((((),()),(0,()),()),((x.2.1.1.1,x.2.1.1.2.1,x.2.1.1.2.2.1,x.2.1.1.2.2.2.1,x.2.1.1.2.2.2.2.1,x.2.1.1.2.2.2.2.2.1,x.2.1.1.2.2.2.2.2.2.1,x.2.1.1.2.2.2.2.2.2.2.1,x.2.1.1.2.2.2.2.2.2.2.2.1,x.2.1.1.2.2.2.2.2.2.2.2.2.1,x.2.1.1.2.2.2.2.2.2.2.2.2.2.1,x.2.1.1.2.2.2.2.2.2.2.2.2.2.2.1,x.2.1.1.2.2.2.2.2.2.2.2.2.2.2.2.1,()),()),())
def yBu:Code:=(zdD ymf 64 52).getD .skip
theorem yOo:zdD ymf 64 13=some (.block 0 (.loop yBu)):=by kernel_rfl
theorem yRc (x:(yb9).X):zg0 ⟨yr6,51,yDE⟩ 0 yBu 52 yb9 ygV yhb x=ycE x:=by kernel_rfl
def yAh (x:(yg7).X):Nat:=18446744073709551616
def ys3 (x:(yg7).X):Option ((ygV).X ⊕ (yhb).X):=zz ycE (yAh x) (yz5 x)
def yAz:Seg:=⟨yg7,ygV,yhb,ys3⟩
def yDF:Nat→Option Seg:=fun q=>bif Nat.beq q 13 then some yAz else yDE q
theorem yPh:FrOk Tryz.prog ⟨yr6,51,yDF⟩ ymf:=(yPg).loop (sg:=yAz) yb9 yz5 (by decide) yOo ycE yAh (by decide) (fun _=>rfl) (fun x r _ h=>h) yRc
abbrev yfk:List Par:= [.rd tA]
abbrev ymE:List OT:= [⟨false,tB,.fz⟩]
def yoK (a0:dA):Option (ResD ymE×MutD yfk) :=
 zkh (ys3 ((((),()),((),()),()),((a0.1,a0.2.1.1,a0.2.1.2,a0.2.2.1,a0.2.2.2.1,a0.2.2.2.2.1,a0.2.2.2.2.2.1,a0.2.2.2.2.2.2.1,a0.2.2.2.2.2.2.2.1,a0.2.2.2.2.2.2.2.2.1,a0.2.2.2.2.2.2.2.2.2.1,a0.2.2.2.2.2.2.2.2.2.2.1,a0.2.2.2.2.2.2.2.2.2.2.2,()),()),())) (fun y4 =>
 some ((((y4.2.1.1.2.2.2.1.length:Int)==y4.2.1.1.2.1),()),())) (fun y4 =>
 some ((y4.1.1.1,()),()))
theorem yYs (x:InD yfk):zjx ⟨yr6,51,yDF⟩ Tryz.f136.results.toList ymf yfk ymE x=yoK x.1:=by kernel_rfl
theorem yUj:ConOk Tryz.prog 136 ⟨yfk,ymE,fun x=>yoK x.1⟩:=zj1 (yPh) Tryz.func136 (by kernel_rfl) (by kernel_rfl) Tryz.ntmps136.symm (by decide) (fun x r h=>(yYs x).trans h)
def ymY (a0:dA):Bool:=ymM a0
def yyZ (a0:dA):Bool:=yb a0.2.1
theorem yWq (a0:dA) (hk:zi2 yfk (a0,())) (hq:yyZ a0=true):yoK a0=(fun n=>some ((n,()),())) (ymY a0):=by
 have hb:a0.2.2.1.length * 80≤2 ^ 47:=hk.1.2.2.1.1
 have hg:=yi.1 hq
 have h1:ys3 (yM2 a0)=some (bif (List.range a0.2.2.1.length).any (yhe a0) then .inr (yM6 false) else .inl (yMS a0)) :=
  ziO (step:=ycE) (fun i=>yrt i a0) a0.2.2.1.length (yhe a0) _ _ (fun i hi=>by
   simp only [ycE,yrt,yrJ,zj4 (show (i:Int) < a0.2.2.1.length by omega),cond_true,wr (show -9223372036854775808≤(i:Int)+1 by omega) (by omega),Int.natCast_add,Int.natCast_one,Int.toNat_natCast,zkl hi,zkr,yag,yhe,ybY,wr (show -9223372036854775808≤6+a0.2.1.2 by omega) (by omega),noMem]
   cases yq (nth a0.2.2.1 i ([],[],false,[]))<;>cases (((nth a0.2.2.1 i ([],[],false,[])).1.length:Int) !=6+a0.2.1.2)<;>cases (nth a0.2.2.1 i ([],[],false,[])).2.2.1<;>cases ((i:Int) !=a0.2.2.2.1)<;>cases a0.2.2.2.2.2.2.2.2.2.2.2<;>rfl) (by simp only [ycE,yrt,yrJ,zkx (Int.le_refl _),cond_false]) _ (by show _ < 18446744073709551616; omega)
 unfold yoK ymY ymM
 rw [h1]
 cases (List.range a0.2.2.1.length).any (yhe a0)<;>rfl
def ysM (a0:dA):Option (ResD ymE×MutD yfk):=bif yyZ a0 then (fun n=>some ((n,()),())) (ymY a0) else none
theorem yXn (a0:dA) (h:yyZ a0=true):ysM a0=(fun n=>some ((n,()),())) (ymY a0):=by unfold ysM; rw [h]; rfl
def yEz:Con:=⟨yfk,ymE,fun x=>ysM x.1⟩
theorem yXh:ConOk Tryz.prog 136 yEz:=(yUj).mono (fun x r hk h=>zks h (fun hq=>yWq x.1 hk hq))
end
section
def ykf:Code:=(Tryz.f137.body).getD .skip
def yqb:Env:=zj2 TT [(135,yr),(225,yhd)] []
theorem yMG:FrOk Tryz.prog ⟨yqb,57,fun _=>none⟩ ykf:=zj6 yc yd ⟨yx,yov,trivial⟩
def yA9:Nat→Option Seg:=fun _=>none
def ybv:Shape:=⟨[(1,false,[.ptr 0 0]),(3,false,[.int .i64])],[(0,[.int .i64,.int .i64,.int .i64,.br tM,.int .i64,.int .i64,.int .i64,.int .i64,.int .i64,.br tW,.int .i64,.bool,.bool])],[]⟩
def yfU:Shape:=⟨[(1,false,[.ptr 0 0]),(3,false,[.ci .i64 0])],[(0,[.int .i64,.int .i64,.int .i64,.br tM,.int .i64,.int .i64,.int .i64,.int .i64,.int .i64,.br tW,.int .i64,.bool,.bool])],[]⟩
def yfK:Shape:=⟨[],[],[]⟩
def yfX:Shape:=⟨[(2,false,[.bool])],[],[]⟩
abbrev ypK (v0:Int) (v1:dA):(ybv).X:=((((),()),(v0,()),()),((v1.1,v1.2.1.1,v1.2.1.2,v1.2.2.1,v1.2.2.2.1,v1.2.2.2.2.1,v1.2.2.2.2.2.1,v1.2.2.2.2.2.2.1,v1.2.2.2.2.2.2.2.1,v1.2.2.2.2.2.2.2.2.1,v1.2.2.2.2.2.2.2.2.2.1,v1.2.2.2.2.2.2.2.2.2.2.1,v1.2.2.2.2.2.2.2.2.2.2.2,()),()),())
abbrev yK1 (v0:dA):(yfU).X:=((((),()),((),()),()),((v0.1,v0.2.1.1,v0.2.1.2,v0.2.2.1,v0.2.2.2.1,v0.2.2.2.2.1,v0.2.2.2.2.2.1,v0.2.2.2.2.2.2.1,v0.2.2.2.2.2.2.2.1,v0.2.2.2.2.2.2.2.2.1,v0.2.2.2.2.2.2.2.2.2.1,v0.2.2.2.2.2.2.2.2.2.2.1,v0.2.2.2.2.2.2.2.2.2.2.2,()),()),())
abbrev yKR  :(yfK).X:=((),(),())
abbrev yK4 (v0:Bool):(yfX).X:=(((v0,()),()),(),())
def yp4 (v0 v1 v2 v3:Int) (v4:List dM) (v5 v6 v7 v8 v9:Int) (v10:List dW) (v11:Int) (v12 v13:Bool):Option ((ybv).X ⊕ ((yfK).X ⊕ (yfX).X)) :=
 bif (ltb v0 (v10.length:Int)) then
 bif (inb v0 v10.length) then
 let r3:=ya ((nth v10 v0 (0,[])).1) 0 (IntKind.i64.wrap (v3 - 1))
 bif (!(!r3)) then
 bif (!((((nth v10 v0 (0,[])).2).length:Int) !=(IntKind.i64.wrap (v2 - 1)))) then
 let r4:=yK ((nth v10 v0 (0,[])).2)
 bif (!(!r4)) then
 bif (ltb 0 v0) then
 bif (inb (IntKind.i64.wrap (v0 - 1)) v10.length) then
 bif (leb ((nth v10 v0 (0,[])).1) ((nth v10 (IntKind.i64.wrap (v0 - 1)) (0,[])).1)) then
 some (.inr (.inr (((false,()),()),(),())))
 else
 some (.inl ((((),()),((IntKind.i64.wrap (v0+1)),()),()),((v1,v2,v3,v4,v5,v6,v7,v8,v9,v10,v11,v12,v13,()),()),()))
 else none
 else
 some (.inl ((((),()),((IntKind.i64.wrap (v0+1)),()),()),((v1,v2,v3,v4,v5,v6,v7,v8,v9,v10,v11,v12,v13,()),()),()))
 else
 some (.inr (.inr (((false,()),()),(),())))
 else
 some (.inr (.inr (((false,()),()),(),())))
 else
 some (.inr (.inr (((false,()),()),(),())))
 else none
 else
 some (.inr (.inl ((),(),())))
def ybP (x:(ybv).X):=yp4 x.1.2.1.1 x.2.1.1.1 x.2.1.1.2.1 x.2.1.1.2.2.1 x.2.1.1.2.2.2.1 x.2.1.1.2.2.2.2.1 x.2.1.1.2.2.2.2.2.1 x.2.1.1.2.2.2.2.2.2.1 x.2.1.1.2.2.2.2.2.2.2.1 x.2.1.1.2.2.2.2.2.2.2.2.1 x.2.1.1.2.2.2.2.2.2.2.2.2.1 x.2.1.1.2.2.2.2.2.2.2.2.2.2.1 x.2.1.1.2.2.2.2.2.2.2.2.2.2.2.1 x.2.1.1.2.2.2.2.2.2.2.2.2.2.2.2.1
def yx8 (x:(yfU).X):(ybv).X:=((((),()),(0,()),()),((x.2.1.1.1,x.2.1.1.2.1,x.2.1.1.2.2.1,x.2.1.1.2.2.2.1,x.2.1.1.2.2.2.2.1,x.2.1.1.2.2.2.2.2.1,x.2.1.1.2.2.2.2.2.2.1,x.2.1.1.2.2.2.2.2.2.2.1,x.2.1.1.2.2.2.2.2.2.2.2.1,x.2.1.1.2.2.2.2.2.2.2.2.2.1,x.2.1.1.2.2.2.2.2.2.2.2.2.2.1,x.2.1.1.2.2.2.2.2.2.2.2.2.2.2.1,x.2.1.1.2.2.2.2.2.2.2.2.2.2.2.2.1,()),()),())
def yzF:Code:=(zdD ykf 64 52).getD .skip
theorem yL6:zdD ykf 64 13=some (.block 0 (.loop yzF)):=by kernel_rfl
theorem yNO (x:(ybv).X):zg0 ⟨yqb,57,yA9⟩ 0 yzF 52 ybv yfK yfX x=ybP x:=by kernel_rfl
def yyl (x:(yfU).X):Nat:=18446744073709551616
def yrd (x:(yfU).X):Option ((yfK).X ⊕ (yfX).X):=zz ybP (yyl x) (yx8 x)
def yyH:Seg:=⟨yfU,yfK,yfX,yrd⟩
def yBa:Nat→Option Seg:=fun q=>bif Nat.beq q 13 then some yyH else yA9 q
theorem yMH:FrOk Tryz.prog ⟨yqb,57,yBa⟩ ykf:=(yMG).loop (sg:=yyH) ybv yx8 (by decide) yL6 ybP yyl (by decide) (fun _=>rfl) (fun x r _ h=>h) yNO
abbrev ydX:List Par:= [.rd tA]
abbrev ykR:List OT:= [⟨false,tB,.fz⟩]
def ylZ (a0:dA):Option (ResD ykR×MutD ydX) :=
 zkh (yrd ((((),()),((),()),()),((a0.1,a0.2.1.1,a0.2.1.2,a0.2.2.1,a0.2.2.2.1,a0.2.2.2.2.1,a0.2.2.2.2.2.1,a0.2.2.2.2.2.2.1,a0.2.2.2.2.2.2.2.1,a0.2.2.2.2.2.2.2.2.1,a0.2.2.2.2.2.2.2.2.2.1,a0.2.2.2.2.2.2.2.2.2.2.1,a0.2.2.2.2.2.2.2.2.2.2.2,()),()),())) (fun y4 =>
 some ((true,()),())) (fun y4 =>
 some ((y4.1.1.1,()),()))
theorem yVK (x:InD ydX):zjx ⟨yqb,57,yBa⟩ Tryz.f137.results.toList ykf ydX ykR x=ylZ x.1:=by kernel_rfl
theorem yQH:ConOk Tryz.prog 137 ⟨ydX,ykR,fun x=>ylZ x.1⟩:=zj1 (yMH) Tryz.func137 (by kernel_rfl) (by kernel_rfl) Tryz.ntmps137.symm (by decide) (fun x r h=>(yVK x).trans h)
def yk7 (a0:dA):Bool:=yaO a0.2.1 a0.2.2.2.2.2.2.2.2.1
def yxe (a0:dA):Bool:=yb a0.2.1
theorem yy3 (l:List Int):yK l=l.all isW:=by
 unfold yK
 rw [show yaa=isW from funext fun x=>by unfold yaa; rw [ybX]; rfl]
theorem yTJ (a0:dA) (hk:zi2 ydX (a0,())) (hq:yxe a0=true):ylZ a0=(fun n=>some ((n,()),())) (yk7 a0):=by
 have hb:a0.2.2.2.2.2.2.2.2.1.length * 32≤2 ^ 47:=hk.1.2.2.2.2.2.2.2.2.1.1
 have hg:=yi.1 hq
 have h1:yrd (yK1 a0)=some (bif (List.range a0.2.2.2.2.2.2.2.2.1.length).any (yhT a0.2.1 a0.2.2.2.2.2.2.2.2.1) then .inr (yK4 false) else .inl yKR) :=
  ziO (step:=ybP) (fun i=>ypK i a0) a0.2.2.2.2.2.2.2.2.1.length (yhT a0.2.1 a0.2.2.2.2.2.2.2.2.1) _ _ (fun i hi=>by
   simp only [ybP,ypK,yp4,zj4 (show (i:Int) < a0.2.2.2.2.2.2.2.2.1.length by omega),cond_true,wr (show -9223372036854775808≤(i:Int)+1 by omega) (by omega),Int.natCast_add,Int.natCast_one,Int.toNat_natCast,zkl hi,ybX,yy3,wr (show -9223372036854775808≤a0.2.1.2 - 1 by omega) (by omega),wr (show -9223372036854775808≤a0.2.1.1 - 1 by omega) (by omega),yhT]
   rcases Nat.eq_zero_or_pos i with rfl | h0
   ·cases (leb 0 (nth a0.2.2.2.2.2.2.2.2.1 ((0:Nat):Int) (0,[])).1&&leb (nth a0.2.2.2.2.2.2.2.2.1 ((0:Nat):Int) (0,[])).1 (a0.2.1.2 - 1))<;>cases (((nth a0.2.2.2.2.2.2.2.2.1 ((0:Nat):Int) (0,[])).2.length:Int) !=a0.2.1.1 - 1)<;>cases ((nth a0.2.2.2.2.2.2.2.2.1 ((0:Nat):Int) (0,[])).2.all isW)<;>rfl
   ·rw [show IntKind.i64.wrap ((i:Int) - 1)=((i - 1:Nat):Int) by rw [wr (by omega) (by omega)]; omega,zkl (show i - 1 < a0.2.2.2.2.2.2.2.2.1.length by omega),zj4 (show (0:Int) < i by omega),decide_eq_true h0]
    cases (leb 0 (nth a0.2.2.2.2.2.2.2.2.1 (i:Int) (0,[])).1&&leb (nth a0.2.2.2.2.2.2.2.2.1 (i:Int) (0,[])).1 (a0.2.1.2 - 1))<;>cases (((nth a0.2.2.2.2.2.2.2.2.1 (i:Int) (0,[])).2.length:Int) !=a0.2.1.1 - 1)<;>cases ((nth a0.2.2.2.2.2.2.2.2.1 (i:Int) (0,[])).2.all isW)<;>cases leb (nth a0.2.2.2.2.2.2.2.2.1 (i:Int) (0,[])).1 (nth a0.2.2.2.2.2.2.2.2.1 ((i - 1:Nat):Int) (0,[])).1<;>rfl) (by simp only [ybP,ypK,yp4,zkx (Int.le_refl _),cond_false]) _ (by show _ < 18446744073709551616; omega)
 unfold ylZ yk7 yaO
 rw [h1]
 cases (List.range a0.2.2.2.2.2.2.2.2.1.length).any (yhT a0.2.1 a0.2.2.2.2.2.2.2.2.1)<;>rfl
def yqI (a0:dA):Option (ResD ykR×MutD ydX):=bif yxe a0 then (fun n=>some ((n,()),())) (yk7 a0) else none
theorem yUI (a0:dA) (h:yxe a0=true):yqI a0=(fun n=>some ((n,()),())) (yk7 a0):=by unfold yqI; rw [h]; rfl
def yBI:Con:=⟨ydX,ykR,fun x=>yqI x.1⟩
theorem yUD:ConOk Tryz.prog 137 yBI:=(yQH).mono (fun x r hk h=>zks h (fun hq=>yTJ x.1 hk hq))
end
end
end Go.Tf
