/- Functions of the program, and what they come to. -/
import Derived.Test.YtgmadfpnljibhaaGreatStripesF12
namespace Go.Tf
noncomputable section
open Go.Proofs
set_option synthInstance.maxHeartbeats 400000
set_option synthInstance.maxSize 10000
set_option linter.unusedVariables false
set_option linter.unusedSimpArgs false
set_option maxRecDepth 100000
section
def yHF:Code:=(Tryz.f220.body).getD .skip
def yIb:Env:=zki TT [(126,yJ)] []
theorem yOQ:FrOk Tryz.prog ⟨yIb,11,fun _=>none⟩ yHF:=zkp yb yd ⟨yT,trivial⟩
def yRp:Nat→Option Seg:=fun _=>none
abbrev ymP:List Par:= [.rd tM,.rd tI]
abbrev ysm:List OT:= [⟨false,tB,.fz⟩]
def yvU (a0:dM) (a1:Int):Option (ResD ysm×MutD ymP) :=
 let r1:=yf a1 0 (IntKind.i64.wrap ((a0.1.length:Int) - 1))
 some ((r1,()),())
theorem yXY (x:InD ymP):zjH ⟨yIb,11,yRp⟩ Tryz.f220.results.toList yHF ymP ysm x=yvU x.1 x.2.1:=by kernel_rfl
theorem yTO:ConOk Tryz.prog 220 ⟨ymP,ysm,fun x=>yvU x.1 x.2.1⟩:=zkh (yOQ) Tryz.func220 (by kernel_rfl) (by kernel_rfl) Tryz.ntmps220.symm (by decide) (fun x r h=>(yXY x).trans h)
def ybl (a0:dM) (a1:Int):Bool :=
 let r1:=yf a1 0 (IntKind.i64.wrap ((a0.1.length:Int) - 1))
 r1
def yov:Con:=⟨ymP,ysm,fun x=>(fun n=>some ((n,()),())) (ybl x.1 x.2.1)⟩
theorem yVU (a0:dM) (a1:Int):yvU a0 a1=(fun n=>some ((n,()),())) (ybl a0 a1):=zkS (p:=fun (n:Bool)=>((n,()),())) rfl
theorem ywZ:ConOk Tryz.prog 220 yov:=(yTO).mono (fun x r _ h=>(yVU x.1 x.2.1).trans h)
end
section
def ykt:Code:=(Tryz.f228.body).getD .skip
def yqi:Env:=zki TT [(179,yEd)] []
theorem yMr:FrOk Tryz.prog ⟨yqi,15,fun _=>none⟩ ykt:=zkp yb yd ⟨yWL,trivial⟩
def yA2:Nat→Option Seg:=fun _=>none
def ydy:Shape:=⟨[(5,false,[.br tI]),(6,false,[.int .i64]),(7,false,[.int .i64])],[],[]⟩
def yjN:Shape:=⟨[(5,false,[.br tI]),(6,false,[.int .i64]),(7,false,[.ci .i64 0])],[],[]⟩
def yjL:Shape:=⟨[],[],[]⟩
def yjX:Shape:=⟨[(2,false,[.bool])],[],[]⟩
def yp6 (v0:List Int) (v1 v2:Int):Option ((ydy).X ⊕ ((yjL).X ⊕ (yjX).X)) :=
 bif (ltb v2 v1) then
 bif (inb v2 v0.length) then
 let r2:=yaj (nth v0 v2 0)
 bif (!r2) then
 some (.inr (.inr (((false,()),()),(),())))
 else
 some (.inl (((v0,()),(v1,()),((IntKind.i64.wrap (v2+1)),()),()),(),()))
 else none
 else
 some (.inr (.inl ((),(),())))
def ybX (x:(ydy).X):=yp6 x.1.1.1 x.1.2.1.1 x.1.2.2.1.1
def yx1 (x:(yjN).X):(ydy).X:=(((x.1.1.1,()),(x.1.2.1.1,()),(0,()),()),(),())
def yzF:Code:=(zdI ykt 64 52).getD .skip
theorem yL2:zdI ykt 64 13=some (.block 0 (.loop yzF)):=by kernel_rfl
theorem yNJ (x:(ydy).X):zg7 ⟨yqi,15,yA2⟩ 0 yzF 52 ydy yjL yjX x=ybX x:=by kernel_rfl
def yyi (x:(yjN).X):Nat:=18446744073709551616
def yrd (x:(yjN).X):Option ((yjL).X ⊕ (yjX).X):=zr ybX (yyi x) (yx1 x)
def yyI:Seg:=⟨yjN,yjL,yjX,yrd⟩
def yA3:Nat→Option Seg:=fun q=>bif Nat.beq q 13 then some yyI else yA2 q
theorem yMs:FrOk Tryz.prog ⟨yqi,15,yA3⟩ ykt:=(yMr).loop (sg:=yyI) ydy yx1 (by decide) yL2 ybX yyi (by decide) (fun _=>rfl) (fun x r _ h=>h) yNJ
abbrev ygF:List Par:= [.rd tL]
abbrev yqt:List OT:= [⟨false,tB,.fz⟩]
def yml (a0:List Int):Option (ResD yqt×MutD ygF) :=
 zjw (yrd (((a0,()),((a0.length:Int),()),((),()),()),(),())) (fun y2 =>
 some ((true,()),())) (fun y2 =>
 some ((y2.1.1.1,()),()))
theorem yVl (x:InD ygF):zjH ⟨yqi,15,yA3⟩ Tryz.f228.results.toList ykt ygF yqt x=yml x.1:=by kernel_rfl
theorem yQx:ConOk Tryz.prog 228 ⟨ygF,yqt,fun x=>yml x.1⟩:=zkh (yMs) Tryz.func228 (by kernel_rfl) (by kernel_rfl) Tryz.ntmps228.symm (by decide) (fun x r h=>(yVl x).trans h)
def yac (a0:List Int):Bool:=a0.all yaj
theorem yTs (a0:List Int) (hk:zi9 ygF (a0,())):yml a0=(fun n=>some ((n,()),())) (yac a0):=by
 have hb:a0.length * 8≤2 ^ 47:=hk.1.1
 have hl:yrd (((a0,()),((a0.length:Int),()),((),()),()),(),())=some (bif a0.all yaj then .inl ((),(),()) else .inr (((false,()),()),(),())) :=
  zjS (step:=ybX) a0 0 (fun i=>(((a0,()),((a0.length:Int),()),((i:Int),()),()),(),())) yaj _ _ (fun i hi=>by
   simp only [ybX,yp6,zkO hi,zjW,zjI (show (i:Int) < a0.length by omega),cond_true,wr (show -9223372036854775808≤(i:Int)+1 by omega) (by omega),Int.natCast_add,Int.natCast_one]
   cases yaj (a0.getD i 0)<;>rfl) (by simp only [ybX,yp6,zkm (Int.le_refl _),cond_false]) _ (by show _ < 18446744073709551616; omega)
 unfold yml yac
 rw [hl]
 cases a0.all yaj<;>rfl
def yl7:Con:=⟨ygF,yqt,fun x=>(fun n=>some ((n,()),())) (yac x.1)⟩
theorem yvN:ConOk Tryz.prog 228 yl7:=(yQx).mono (fun x r hk h=>(yTs x.1 hk).trans h)
end
section
def yJq:Code:=(Tryz.f221.body).getD .skip
def yJE:Env:=zki TT [(228,yl7)] []
theorem ySy:FrOk Tryz.prog ⟨yJE,10,fun _=>none⟩ yJq:=zkp yb yd ⟨yvN,trivial⟩
def yU0:Nat→Option Seg:=fun _=>none
abbrev ypn:List Par:= [.rd tL]
abbrev yuS:List OT:= [⟨false,tB,.fz⟩]
def yxc (a0:List Int):Option (ResD yuS×MutD ypn) :=
 bif (leb (a0.length:Int) 12) then
 let r1:=yac a0
 some ((r1,()),())
 else
 some ((false,()),())
theorem yZs (x:InD ypn):zjH ⟨yJE,10,yU0⟩ Tryz.f221.results.toList yJq ypn yuS x=yxc x.1:=by kernel_rfl
theorem yWo:ConOk Tryz.prog 221 ⟨ypn,yuS,fun x=>yxc x.1⟩:=zkh (ySy) Tryz.func221 (by kernel_rfl) (by kernel_rfl) Tryz.ntmps221.symm (by decide) (fun x r h=>(yZs x).trans h)
def yhy (a0:List Int):Bool :=
 bif (leb (a0.length:Int) 12) then
 let r1:=yac a0
 r1
 else
 false
def ywV:Con:=⟨ypn,yuS,fun x=>(fun n=>some ((n,()),())) (yhy x.1)⟩
theorem yYz (a0:List Int):yxc a0=(fun n=>some ((n,()),())) (yhy a0):=zkS (p:=fun (n:Bool)=>((n,()),())) (zkx (p:=fun (n:Bool)=>((n,()),())) rfl rfl)
theorem yIw:ConOk Tryz.prog 221 ywV:=(yWo).mono (fun x r _ h=>(yYz x.1).trans h)
theorem yEW:yhy=yab:=funext fun s=>by
 unfold yhy yab yac
 rw [show yaj=isW from funext fun x=>by unfold yaj; rw [yai,ycd]; rfl]
 cases leb (s.length:Int) 12<;>rfl
end
section
def ya5:Code:=(Tryz.f133.body).getD .skip
def yeN:Env:=zki TT [(126,yJ),(220,yov),(221,ywV)] []
theorem ySt:FrOk Tryz.prog ⟨yeN,76,fun _=>none⟩ ya5:=zkp yb yd ⟨yT,ywZ,yIw,trivial⟩
def yFo:Nat→Option Seg:=fun _=>none
def yc7:Shape:=⟨[(1,false,[.ptr 0 0]),(10,false,[.br tL]),(11,false,[.int .i64]),(12,false,[.int .i64])],[(0,[.br tL,.br tW,.bool,.br tI])],[]⟩
def yiE:Shape:=⟨[(1,false,[.ptr 0 0]),(10,false,[.br tL]),(11,false,[.int .i64]),(12,false,[.ci .i64 0])],[(0,[.br tL,.br tW,.bool,.br tI])],[]⟩
def yip:Shape:=⟨[(1,false,[.ptr 0 0])],[(0,[.br tL,.br tW,.bool,.br tI])],[]⟩
def yi3:Shape:=⟨[(2,false,[.bool])],[],[]⟩
abbrev yth (v0:List (List Int)) (v1 v2:Int) (v3:dM):(yc7).X:=((((),()),(v0,()),(v1,()),(v2,()),()),((v3.1,v3.2.1,v3.2.2.1,v3.2.2.2,()),()),())
abbrev yPL (v0:List (List Int)) (v1:Int) (v2:dM):(yiE).X:=((((),()),(v0,()),(v1,()),((),()),()),((v2.1,v2.2.1,v2.2.2.1,v2.2.2.2,()),()),())
abbrev yPD (v0:dM):(yip).X:=((((),()),()),((v0.1,v0.2.1,v0.2.2.1,v0.2.2.2,()),()),())
abbrev yPZ (v0:Bool):(yi3).X:=(((v0,()),()),(),())
def ytF (v0:List (List Int)) (v1 v2:Int) (v3:List (List Int)) (v4:List dW) (v5:Bool) (v6:List Int):Option ((yc7).X ⊕ ((yip).X ⊕ (yi3).X)) :=
 bif (ltb v2 v1) then
 bif (inb v2 v0.length) then
 let r2:=yhy (nth v0 v2 [])
 bif (!r2) then
 some (.inr (.inr (((false,()),()),(),())))
 else
 some (.inl ((((),()),(v0,()),(v1,()),((IntKind.i64.wrap (v2+1)),()),()),((v3,v4,v5,v6,()),()),()))
 else none
 else
 some (.inr (.inl ((((),()),()),((v3,v4,v5,v6,()),()),())))
def ydF (x:(yc7).X):=ytF x.1.2.1.1 x.1.2.2.1.1 x.1.2.2.2.1.1 x.2.1.1.1 x.2.1.1.2.1 x.2.1.1.2.2.1 x.2.1.1.2.2.2.1
def yBS (x:(yiE).X):(yc7).X:=((((),()),(x.1.2.1.1,()),(x.1.2.2.1.1,()),(0,()),()),((x.2.1.1.1,x.2.1.1.2.1,x.2.1.1.2.2.1,x.2.1.1.2.2.2.1,()),()),())
def yDV:Code:=(zdI ya5 64 52).getD .skip
theorem yRL:zdI ya5 64 13=some (.block 0 (.loop yDV)):=by kernel_rfl
theorem yUD (x:(yc7).X):zg7 ⟨yeN,76,yFo⟩ 0 yDV 52 yc7 yip yi3 x=ydF x:=by kernel_rfl
def yB8 (x:(yiE).X):Nat:=18446744073709551616
def yuy (x:(yiE).X):Option ((yip).X ⊕ (yi3).X):=zr ydF (yB8 x) (yBS x)
def yCL:Seg:=⟨yiE,yip,yi3,yuy⟩
def ywM:Nat→Option Seg:=fun q=>bif Nat.beq q 13 then some yCL else yFo q
theorem ySu:FrOk Tryz.prog ⟨yeN,76,ywM⟩ ya5:=(ySt).loop (sg:=yCL) yc7 yBS (by decide) yRL ydF yB8 (by decide) (fun _=>rfl) (fun x r _ h=>h) yUD
def yc8:Shape:=⟨[(1,false,[.ptr 0 0]),(21,false,[.br tW]),(22,false,[.int .i64]),(23,false,[.int .i64])],[(0,[.br tL,.br tW,.bool,.br tI])],[]⟩
def yiF:Shape:=⟨[(1,false,[.ptr 0 0]),(21,false,[.br tW]),(22,false,[.int .i64]),(23,false,[.ci .i64 0])],[(0,[.br tL,.br tW,.bool,.br tI])],[]⟩
def yiq:Shape:=⟨[(1,false,[.ptr 0 0])],[(0,[.br tL,.br tW,.bool,.br tI])],[]⟩
def yi4:Shape:=⟨[(2,false,[.bool])],[],[]⟩
abbrev yti (v0:List dW) (v1 v2:Int) (v3:dM):(yc8).X:=((((),()),(v0,()),(v1,()),(v2,()),()),((v3.1,v3.2.1,v3.2.2.1,v3.2.2.2,()),()),())
abbrev yPM (v0:List dW) (v1:Int) (v2:dM):(yiF).X:=((((),()),(v0,()),(v1,()),((),()),()),((v2.1,v2.2.1,v2.2.2.1,v2.2.2.2,()),()),())
abbrev yPE (v0:dM):(yiq).X:=((((),()),()),((v0.1,v0.2.1,v0.2.2.1,v0.2.2.2,()),()),())
abbrev yP0 (v0:Bool):(yi4).X:=(((v0,()),()),(),())
def ytG (v0:List dW) (v1 v2:Int) (v3:List (List Int)) (v4:List dW) (v5:Bool) (v6:List Int):Option ((yc8).X ⊕ ((yiq).X ⊕ (yi4).X)) :=
 bif (ltb v2 v1) then
 bif (inb v2 v0.length) then
 let r6:=ybl (v3,v4,v5,v6) ((nth v0 v2 (0,[])).1)
 bif (!(!r6)) then
 let r7:=yhy ((nth v0 v2 (0,[])).2)
 bif (!r7) then
 some (.inr (.inr (((false,()),()),(),())))
 else
 some (.inl ((((),()),(v0,()),(v1,()),((IntKind.i64.wrap (v2+1)),()),()),((v3,v4,v5,v6,()),()),()))
 else
 some (.inr (.inr (((false,()),()),(),())))
 else none
 else
 some (.inr (.inl ((((),()),()),((v3,v4,v5,v6,()),()),())))
def ydG (x:(yc8).X):=ytG x.1.2.1.1 x.1.2.2.1.1 x.1.2.2.2.1.1 x.2.1.1.1 x.2.1.1.2.1 x.2.1.1.2.2.1 x.2.1.1.2.2.2.1
def yBT (x:(yiF).X):(yc8).X:=((((),()),(x.1.2.1.1,()),(x.1.2.2.1.1,()),(0,()),()),((x.2.1.1.1,x.2.1.1.2.1,x.2.1.1.2.2.1,x.2.1.1.2.2.2.1,()),()),())
def yDW:Code:=(zdI ya5 64 116).getD .skip
theorem yRM:zdI ya5 64 29=some (.block 2 (.loop yDW)):=by kernel_rfl
theorem yUE (x:(yc8).X):zg7 ⟨yeN,76,ywM⟩ 2 yDW 116 yc8 yiq yi4 x=ydG x:=by kernel_rfl
def yB9 (x:(yiF).X):Nat:=18446744073709551616
def yuz (x:(yiF).X):Option ((yiq).X ⊕ (yi4).X):=zr ydG (yB9 x) (yBT x)
def yCM:Seg:=⟨yiF,yiq,yi4,yuz⟩
def ywN:Nat→Option Seg:=fun q=>bif Nat.beq q 29 then some yCM else ywM q
theorem ySv:FrOk Tryz.prog ⟨yeN,76,ywN⟩ ya5:=(ySu).loop (sg:=yCM) yc8 yBT (by decide) yRM ydG yB9 (by decide) (fun _=>rfl) (fun x r _ h=>h) yUE
def yc9:Shape:=⟨[(1,false,[.ptr 0 0]),(40,false,[.br tI]),(41,false,[.int .i64]),(42,false,[.int .i64])],[(0,[.br tL,.br tW,.bool,.br tI])],[]⟩
def yiG:Shape:=⟨[(1,false,[.ptr 0 0]),(40,false,[.br tI]),(41,false,[.int .i64]),(42,false,[.ci .i64 0])],[(0,[.br tL,.br tW,.bool,.br tI])],[]⟩
def yir:Shape:=⟨[(1,false,[.ptr 0 0])],[(0,[.br tL,.br tW,.bool,.br tI])],[]⟩
def yi5:Shape:=⟨[(2,false,[.bool])],[],[]⟩
abbrev ytj (v0:List Int) (v1 v2:Int) (v3:dM):(yc9).X:=((((),()),(v0,()),(v1,()),(v2,()),()),((v3.1,v3.2.1,v3.2.2.1,v3.2.2.2,()),()),())
abbrev yPN (v0:List Int) (v1:Int) (v2:dM):(yiG).X:=((((),()),(v0,()),(v1,()),((),()),()),((v2.1,v2.2.1,v2.2.2.1,v2.2.2.2,()),()),())
abbrev yPF (v0:dM):(yir).X:=((((),()),()),((v0.1,v0.2.1,v0.2.2.1,v0.2.2.2,()),()),())
abbrev yP1 (v0:Bool):(yi5).X:=(((v0,()),()),(),())
def ytH (v0:List Int) (v1 v2:Int) (v3:List (List Int)) (v4:List dW) (v5:Bool) (v6:List Int):Option ((yc9).X ⊕ ((yir).X ⊕ (yi5).X)) :=
 bif (ltb v2 v1) then
 bif (inb v2 v0.length) then
 let r10:=ybl (v3,v4,v5,v6) (nth v0 v2 0)
 bif (!(!r10)) then
 bif (ltb 0 v2) then
 bif (inb (IntKind.i64.wrap (v2 - 1)) v6.length) then
 bif (leb (nth v0 v2 0) (nth v6 (IntKind.i64.wrap (v2 - 1)) 0)) then
 some (.inr (.inr (((false,()),()),(),())))
 else
 some (.inl ((((),()),(v0,()),(v1,()),((IntKind.i64.wrap (v2+1)),()),()),((v3,v4,v5,v6,()),()),()))
 else none
 else
 some (.inl ((((),()),(v0,()),(v1,()),((IntKind.i64.wrap (v2+1)),()),()),((v3,v4,v5,v6,()),()),()))
 else
 some (.inr (.inr (((false,()),()),(),())))
 else none
 else
 some (.inr (.inl ((((),()),()),((v3,v4,v5,v6,()),()),())))
def ydH (x:(yc9).X):=ytH x.1.2.1.1 x.1.2.2.1.1 x.1.2.2.2.1.1 x.2.1.1.1 x.2.1.1.2.1 x.2.1.1.2.2.1 x.2.1.1.2.2.2.1
def yBU (x:(yiG).X):(yc9).X:=((((),()),(x.1.2.1.1,()),(x.1.2.2.1.1,()),(0,()),()),((x.2.1.1.1,x.2.1.1.2.1,x.2.1.1.2.2.1,x.2.1.1.2.2.2.1,()),()),())
def yDX:Code:=(zdI ya5 64 244).getD .skip
theorem yRN:zdI ya5 64 61=some (.block 4 (.loop yDX)):=by kernel_rfl
theorem yUF (x:(yc9).X):zg7 ⟨yeN,76,ywN⟩ 4 yDX 244 yc9 yir yi5 x=ydH x:=by kernel_rfl
def yCa (x:(yiG).X):Nat:=18446744073709551616
def yuA (x:(yiG).X):Option ((yir).X ⊕ (yi5).X):=zr ydH (yCa x) (yBU x)
def yCN:Seg:=⟨yiG,yir,yi5,yuA⟩
def yFp:Nat→Option Seg:=fun q=>bif Nat.beq q 61 then some yCN else ywN q
theorem ySw:FrOk Tryz.prog ⟨yeN,76,yFp⟩ ya5:=(ySv).loop (sg:=yCN) yc9 yBU (by decide) yRN ydH yCa (by decide) (fun _=>rfl) (fun x r _ h=>h) yUF
abbrev ykC:List Par:= [.rd tM]
abbrev yuQ:List OT:= [⟨false,tB,.fz⟩]
def yqT (a0:dM):Option (ResD yuQ×MutD ykC) :=
 zjw (yuy ((((),()),(a0.1,()),((a0.1.length:Int),()),((),()),()),((a0.1,a0.2.1,a0.2.2.1,a0.2.2.2,()),()),())) (fun y2 =>
 zjw (yuz ((((),()),(y2.2.1.1.2.1,()),((y2.2.1.1.2.1.length:Int),()),((),()),()),((y2.2.1.1.1,y2.2.1.1.2.1,y2.2.1.1.2.2.1,y2.2.1.1.2.2.2.1,()),()),())) (fun y7 =>
 zjw (yuA ((((),()),(y7.2.1.1.2.2.2.1,()),((y7.2.1.1.2.2.2.1.length:Int),()),((),()),()),((y7.2.1.1.1,y7.2.1.1.2.1,y7.2.1.1.2.2.1,y7.2.1.1.2.2.2.1,()),()),())) (fun y10 =>
 let r12:=yf (y10.2.1.1.1.length:Int) 1 20
 bif r12 then
 some (((leb (y10.2.1.1.2.1.length:Int) 60),()),())
 else
 some ((false,()),())) (fun y10 =>
 some ((y10.1.1.1,()),()))) (fun y7 =>
 some ((y7.1.1.1,()),()))) (fun y2 =>
 some ((y2.1.1.1,()),()))
theorem yZq (x:InD ykC):zjH ⟨yeN,76,yFp⟩ Tryz.f133.results.toList ya5 ykC yuQ x=yqT x.1:=by kernel_rfl
theorem yWm:ConOk Tryz.prog 133 ⟨ykC,yuQ,fun x=>yqT x.1⟩:=zkh (ySw) Tryz.func133 (by kernel_rfl) (by kernel_rfl) Tryz.ntmps133.symm (by decide) (fun x r h=>(yZq x).trans h)
def ybf (a0:dM):Bool:=yl a0
theorem yYx (a0:dM) (hk:zi9 ykC (a0,())):yqT a0=(fun n=>some ((n,()),())) (ybf a0):=by
 have hb1:a0.1.length * 24≤2 ^ 47:=hk.1.1.1
 have hb2:a0.2.1.length * 32≤2 ^ 47:=hk.1.2.1.1
 have hb3:a0.2.2.2.length * 8≤2 ^ 47:=hk.1.2.2.2.1
 have h1:yuy (yPL a0.1 a0.1.length a0)=some (bif a0.1.all yab then .inl (yPD a0) else .inr (yPZ false)) :=
  zjS (step:=ydF) a0.1 [] (fun i=>yth a0.1 a0.1.length i a0) yab _ _ (fun i hi=>by
   simp only [ydF,yth,ytF,zjI (show (i:Int) < a0.1.length by omega),cond_true,wr (show -9223372036854775808≤(i:Int)+1 by omega) (by omega),Int.natCast_add,Int.natCast_one,Int.toNat_natCast,zkO hi,zjW,yEW]
   cases yab (a0.1.getD i [])<;>rfl) (by simp only [ydF,yth,ytF,zkm (Int.le_refl _),cond_false]) _ (by show _ < 18446744073709551616; omega)
 have h2:yuz (yPM a0.2.1 a0.2.1.length a0)=some (bif a0.2.1.all (ytS a0.1.length) then .inl (yPE a0) else .inr (yP0 false)) :=
  zjS (step:=ydG) a0.2.1 (0,[]) (fun i=>yti a0.2.1 a0.2.1.length i a0) (ytS a0.1.length) _ _ (fun i hi=>by
   simp only [ydG,yti,ytG,zjI (show (i:Int) < a0.2.1.length by omega),cond_true,wr (show -9223372036854775808≤(i:Int)+1 by omega) (by omega),Int.natCast_add,Int.natCast_one,Int.toNat_natCast,zkO hi,zjW,yEW,ybl,yai,ypD (show a0.1.length≤1152921504606846976 by omega),ytS]
   cases inb (a0.2.1.getD i (0,[])).1 a0.1.length<;>cases yab (a0.2.1.getD i (0,[])).2<;>rfl) (by simp only [ydG,yti,ytG,zkm (Int.le_refl _),cond_false]) _ (by show _ < 18446744073709551616; omega)
 have h3:yuA (yPN a0.2.2.2 a0.2.2.2.length a0)=some (bif (List.range a0.2.2.2.length).any (yDR a0.1.length a0.2.2.2) then .inr (yP1 false) else .inl (yPF a0)) :=
  zf4 (step:=ydH) (fun i=>ytj a0.2.2.2 a0.2.2.2.length i a0) a0.2.2.2.length (yDR a0.1.length a0.2.2.2) _ _ (fun i hi=>by
   simp only [ydH,ytj,ytH,zjI (show (i:Int) < a0.2.2.2.length by omega),cond_true,wr (show -9223372036854775808≤(i:Int)+1 by omega) (by omega),Int.natCast_add,Int.natCast_one,Int.toNat_natCast,zkO hi,zjW,ybl,yai,ypD (show a0.1.length≤1152921504606846976 by omega),yDR]
   rcases Nat.eq_zero_or_pos i with rfl | h0
   ·cases inb (a0.2.2.2.getD 0 0) a0.1.length<;>rfl
   ·rw [show IntKind.i64.wrap ((i:Int) - 1)=((i - 1:Nat):Int) by rw [wr (by omega) (by omega)]; omega,zkO (show i - 1 < a0.2.2.2.length by omega),zjW,zjI (show (0:Int) < i by omega),decide_eq_true h0]
    cases inb (a0.2.2.2.getD i 0) a0.1.length<;>cases leb (a0.2.2.2.getD i 0) (a0.2.2.2.getD (i - 1) 0)<;>rfl) (by simp only [ydH,ytj,ytH,zkm (Int.le_refl _),cond_false]) _ (by show _ < 18446744073709551616; omega)
 unfold yqT ybf yl
 rw [h1]
 cases a0.1.all yab
 ·rfl
 simp only [cond_true,zkJ,h2]
 cases a0.2.1.all (ytS a0.1.length)
 ·rfl
 simp only [cond_true,zkJ,h3,yXg,yai,ycd]
 cases yqE a0.1.length a0.2.2.2
 ·rfl
 simp only [Bool.not_true,cond_false,zkJ]
 cases leb 1 (a0.1.length:Int)<;>cases leb (a0.1.length:Int) 20<;>rfl
def ylc:Con:=⟨ykC,yuQ,fun x=>(fun n=>some ((n,()),())) (ybf x.1)⟩
theorem ysR:ConOk Tryz.prog 133 ylc:=(yWm).mono (fun x r hk h=>(yYx x.1 hk).trans h)
end
section
def yDb:Code:=(Tryz.f200.body).getD .skip
def yDI:Env:=zki TT [] []
theorem yKh:FrOk Tryz.prog ⟨yDI,6,fun _=>none⟩ yDb:=zkp yb yd trivial
def yLO:Nat→Option Seg:=fun _=>none
abbrev yfi:List Par:= [.rd tL]
abbrev yoc:List OT:= [⟨false,tL,(.ow .fz)⟩]
def ykf (a0:List Int):Option (ResD yoc×MutD yfi) :=
 bif (zj4 ([]:List Int).length a0.length 8) then
 some (((([]:List Int)++a0),()),())
 else none
theorem ySb (x:InD yfi):zjH ⟨yDI,6,yLO⟩ Tryz.f200.results.toList yDb yfi yoc x=ykf x.1:=by kernel_rfl
theorem yNk:ConOk Tryz.prog 200 ⟨yfi,yoc,fun x=>ykf x.1⟩:=zkh (yKh) Tryz.func200 (by kernel_rfl) (by kernel_rfl) Tryz.ntmps200.symm (by decide) (fun x r h=>(ySb x).trans h)
def yp (a0:List Int):List Int:=a0
theorem yQe (a0:List Int) (hk:zi9 yfi (a0,())):ykf a0=(fun n=>some ((n,()),())) (yp a0):=by
 have hb:a0.length * 8≤2 ^ 47:=hk.1.1
 unfold ykf yp
 rw [show zj4 ([]:List Int).length a0.length 8=true by rw [zkw,List.length_nil]; omega]
 rfl
def ybN:Con:=⟨yfi,yoc,fun x=>(fun n=>some ((n,()),())) (yp x.1)⟩
theorem yeB:ConOk Tryz.prog 200 ybN:=(yNk).mono (fun x r hk h=>(yQe x.1 hk).trans h)
end
section
def yeL:Code:=(Tryz.f275.body).getD .skip
def yii:Env:=zki TT [] []
theorem yGk:FrOk Tryz.prog ⟨yii,19,fun _=>none⟩ yeL:=zkp yb yd trivial
def yug:Nat→Option Seg:=fun _=>none
def yam:Shape:=⟨[(0,false,[.br tI]),(1,false,[.int .i64]),(7,false,[.int .i64]),(8,false,[.int .i64])],[],[]⟩
def ycI:Shape:=⟨[(0,false,[.br tI]),(1,false,[.int .i64]),(7,false,[.int .i64]),(8,false,[.ci .i64 0])],[],[]⟩
def ycF:Shape:=⟨[],[],[]⟩
def ycK:Shape:=⟨[(4,false,[.int .i64])],[],[]⟩
abbrev yjB (v0:List Int) (v1 v2 v3:Int):(yam).X:=(((v0,()),(v1,()),(v2,()),(v3,()),()),(),())
abbrev yE1 (v0:List Int) (v1 v2:Int):(ycI).X:=(((v0,()),(v1,()),(v2,()),((),()),()),(),())
abbrev yEY  :(ycF).X:=((),(),())
abbrev yrZ (v0:Int):(ycK).X:=(((v0,()),()),(),())
def yjG (v0:List Int) (v1 v2 v3:Int):Option ((yam).X ⊕ ((ycF).X ⊕ (ycK).X)) :=
 bif (ltb v3 v2) then
 bif (inb v3 v0.length) then
 bif (v1==(nth v0 v3 0)) then
 some (.inr (.inr (((v3,()),()),(),())))
 else
 some (.inl (((v0,()),(v1,()),(v2,()),((IntKind.i64.wrap (v3+1)),()),()),(),()))
 else none
 else
 some (.inr (.inl ((),(),())))
def yax (x:(yam).X):=yjG x.1.1.1 x.1.2.1.1 x.1.2.2.1.1 x.1.2.2.2.1.1
def yrT (x:(ycI).X):(yam).X:=(((x.1.1.1,()),(x.1.2.1.1,()),(x.1.2.2.1.1,()),(0,()),()),(),())
def ytX:Code:=(zdI yeL 64 52).getD .skip
theorem yFZ:zdI yeL 64 13=some (.block 0 (.loop ytX)):=by kernel_rfl
theorem yGH (x:(yam).X):zg7 ⟨yii,19,yug⟩ 0 ytX 52 yam ycF ycK x=yax x:=by kernel_rfl
def yrW (x:(ycI).X):Nat:=18446744073709551616
def ykz (x:(ycI).X):Option ((ycF).X ⊕ (ycK).X):=zr yax (yrW x) (yrT x)
def yr3:Seg:=⟨ycI,ycF,ycK,ykz⟩
def yuh:Nat→Option Seg:=fun q=>bif Nat.beq q 13 then some yr3 else yug q
theorem yGl:FrOk Tryz.prog ⟨yii,19,yuh⟩ yeL:=(yGk).loop (sg:=yr3) yam yrT (by decide) yFZ yax yrW (by decide) (fun _=>rfl) (fun x r _ h=>h) yGH
abbrev ycA:List Par:= [.rd tL,.rd tI]
abbrev yiW:List OT:= [⟨false,tI,.fz⟩]
def ygw (a0:List Int) (a1:Int):Option (ResD yiW×MutD ycA) :=
 zjw (ykz (((a0,()),(a1,()),((a0.length:Int),()),((),()),()),(),())) (fun y0 =>
 some (((-1),()),())) (fun y0 =>
 some ((y0.1.1.1,()),()))
theorem yJ3 (x:InD ycA):zjH ⟨yii,19,yuh⟩ Tryz.f275.results.toList yeL ycA yiW x=ygw x.1 x.2.1:=by kernel_rfl
theorem yHl:ConOk Tryz.prog 275 ⟨ycA,yiW,fun x=>ygw x.1 x.2.1⟩:=zkh (yGl) Tryz.func275 (by kernel_rfl) (by kernel_rfl) Tryz.ntmps275.symm (by decide) (fun x r h=>(yJ3 x).trans h)
def yVJ (l:List Int) (x:Int):Int:=bif l.any (· ==x) then ((l.takeWhile (· !=x)).length:Int) else -1
def ye6 (a0:List Int) (a1:Int):Int:=yVJ a0 a1
theorem y1g {A B α:Type} {step:A→Option (A ⊕ B)} (l:List α) (d:α) (f:Nat→A) (p:α→Bool) (b:Nat→B) (c:B)
  (h: ∀ i,i < l.length→step (f i)=some (bif p (l.getD i d) then .inr (b i) else .inl (f (i+1)))) (e:step (f l.length)=some (.inr c)) (fuel:Nat) (hf:l.length < fuel) :
  zr step fuel (f 0)=some (bif l.any p then b (l.takeWhile (fun x=> !p x)).length else c):=by
 have: ∀ (t q:List α) (fuel:Nat),q++t=l→t.length < fuel→zr step fuel (f q.length)=some (bif t.any p then b (q.length+(t.takeWhile (fun x=> !p x)).length) else c):=by
  intro t
  induction t with
  | nil =>
   intro q fuel hq hf
   obtain ⟨fuel,rfl⟩: ∃ m,fuel=m+1:=⟨fuel - 1,by omega⟩
   rw [List.append_nil]at hq
   subst hq
   simp only [zr,e,List.any_nil,cond_false]
  | cons x t ih =>
   intro q fuel hq hf
   obtain ⟨fuel,rfl⟩: ∃ m,fuel=m+1:=⟨fuel - 1,by omega⟩
   have hx:l.getD q.length d=x:=by
    subst hq
    rw [zcq (by simp)]; simp
   have hs:=h q.length (by rw [← hq]; simp)
   rw [hx]at hs
   cases hp:p x
   ·rw [hp]at hs
    have:=ih (q++ [x]) fuel (by rw [← hq]; simp) (by simp at hf; omega)
    simp only [List.length_append,List.length_cons,List.length_nil]at this
    simp only [zr,hs,cond_false]
    simp only [List.any_cons,hp,Bool.false_or,List.takeWhile_cons,Bool.not_false,if_true,List.length_cons]
    rw [show q.length+((t.takeWhile (fun x=> !p x)).length+1)=q.length+(0+1)+(t.takeWhile (fun x=> !p x)).length by omega]
    exact this
   ·rw [hp]at hs
    simp only [zr,hs,cond_true,List.any_cons,hp,Bool.true_or,List.takeWhile_cons,Bool.not_true,Bool.false_eq_true,if_false,List.length_nil,Nat.add_zero]
 have:=this l [] fuel rfl hf
 simpa using this
theorem yI6 (a0:List Int) (a1:Int) (hk:zi9 ycA (a0,a1,())):ygw a0 a1=(fun n=>some ((n,()),())) (ye6 a0 a1):=by
 have hb:a0.length * 8≤2 ^ 47:=hk.1.1
 have h1:ykz (yE1 a0 a1 a0.length)=some (bif a0.any (· ==a1) then .inr (yrZ ((a0.takeWhile (fun x=> !(x==a1))).length:Int)) else .inl yEY) :=
  y1g (step:=yax) a0 0 (fun i=>yjB a0 a1 a0.length i) (· ==a1) (fun i=> .inr (yrZ (i:Int))) _ (fun i hi=>by
   simp only [yax,yjB,yjG,zjI (show (i:Int) < a0.length by omega),cond_true,wr (show -9223372036854775808≤(i:Int)+1 by omega) (by omega),Int.natCast_add,Int.natCast_one,Int.toNat_natCast,zkO hi,zjW]
   rw [show (a1==a0.getD i 0)=(a0.getD i 0==a1) by rw [Bool.eq_iff_iff,beq_iff_eq,beq_iff_eq]; exact eq_comm]
   cases (a0.getD i 0==a1)<;>rfl) (by simp only [yax,yjB,yjG,zkm (Int.le_refl _),cond_false]) _ (by show _ < 18446744073709551616; omega)
 unfold ygw ye6 yVJ
 rw [h1]
 cases a0.any (· ==a1)<;>rfl
def yvj:Con:=⟨ycA,yiW,fun x=>(fun n=>some ((n,()),())) (ye6 x.1 x.2.1)⟩
theorem yJg:ConOk Tryz.prog 275 yvj:=(yHl).mono (fun x r hk h=>(yI6 x.1 x.2.1 hk).trans h)
end
end
end Go.Tf
