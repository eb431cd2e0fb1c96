/- Functions of the program, and what they come to. -/
import Derived.Test.YtfpjmijaiekbgaaGreatExactReplayF14
namespace Go.Tf
noncomputable section
open Go.Proofs
set_option synthInstance.maxHeartbeats 400000
set_option synthInstance.maxSize 10000
set_option linter.unusedVariables false
set_option linter.unusedSimpArgs false
set_option maxRecDepth 100000
section
def yaq:Code:=(Tryz.f132.body).getD .skip
def ydJ:Env:=zki TT [(114,yp),(203,yvC),(204,yno)] []
theorem yPZ:FrOk Tryz.prog ⟨ydJ,76,fun _=>none⟩ yaq:=zkp yb yc ⟨yE,yGf,yvG,trivial⟩
def yD4:Nat→Option Seg:=fun _=>none
def yco:Shape:=⟨[(1,false,[.ptr 0 0]),(10,false,[.br tL]),(11,false,[.int .i64]),(12,false,[.int .i64])],[(0,[.br tL,.br tW,.bool,.br tI])],[]⟩
def yhm:Shape:=⟨[(1,false,[.ptr 0 0]),(10,false,[.br tL]),(11,false,[.int .i64]),(12,false,[.ci .i64 0])],[(0,[.br tL,.br tW,.bool,.br tI])],[]⟩
def yg4:Shape:=⟨[(1,false,[.ptr 0 0])],[(0,[.br tL,.br tW,.bool,.br tI])],[]⟩
def yhJ:Shape:=⟨[(2,false,[.bool])],[],[]⟩
abbrev ysr (v0:List (List Int)) (v1:Int) (v2:Int) (v3:dM):(yco).X:=((((),()),(v0,()),(v1,()),(v2,()),()),((v3.1,v3.2.1,v3.2.2.1,v3.2.2.2,()),()),())
abbrev yNj (v0:List (List Int)) (v1:Int) (v2:dM):(yhm).X:=((((),()),(v0,()),(v1,()),((),()),()),((v2.1,v2.2.1,v2.2.2.1,v2.2.2.2,()),()),())
abbrev yNc (v0:dM):(yg4).X:=((((),()),()),((v0.1,v0.2.1,v0.2.2.1,v0.2.2.2,()),()),())
abbrev yNv (v0:Bool):(yhJ).X:=(((v0,()),()),(),())
def ysN (v0:List (List Int)) (v1:Int) (v2:Int) (v3:List (List Int)) (v4:List dW) (v5:Bool) (v6:List Int):Option ((yco).X ⊕ ((yg4).X ⊕ (yhJ).X)) :=
  bif (ltb v2 v1) then
    bif (inb v2 v0.length) then
      let r2:=yfW (nth v0 v2 [])
      bif (!r2) then
        some (.inr (.inr (((false,()),()),(),())))
      else
        some (.inl ((((),()),(v0,()),(v1,()),((IntKind.i64.wrap (v2+1)),()),()),((v3,v4,v5,v6,()),()),()))
    else none
  else
    some (.inr (.inl ((((),()),()),((v3,v4,v5,v6,()),()),())))
def ycT (x:(yco).X):=ysN x.1.2.1.1 x.1.2.2.1.1 x.1.2.2.2.1.1 x.2.1.1.1 x.2.1.1.2.1 x.2.1.1.2.2.1 x.2.1.1.2.2.2.1
def yA3 (x:(yhm).X):(yco).X:=((((),()),(x.1.2.1.1,()),(x.1.2.2.1.1,()),(0,()),()),((x.2.1.1.1,x.2.1.1.2.1,x.2.1.1.2.2.1,x.2.1.1.2.2.2.1,()),()),())
def yCX:Code:=(zdI yaq 64 52).getD .skip
theorem yPg:zdI yaq 64 13=some (.block 0 (.loop yCX)):=by kernel_rfl
theorem yR2 (x:(yco).X):zg7 ⟨ydJ,76,yD4⟩ 0 yCX 52 yco yg4 yhJ x=ycT x:=by kernel_rfl
def yBk (x:(yhm).X):Nat:=(fun (u0:List (List Int)) (u1:Int) (u2:List (List Int)) (u3:List dW) (u4:Bool) (u5:List Int)=>18446744073709551616) x.1.2.1.1 x.1.2.2.1.1 x.2.1.1.1 x.2.1.1.2.1 x.2.1.1.2.2.1 x.2.1.1.2.2.2.1
def ytr (x:(yhm).X):Option ((yg4).X ⊕ (yhJ).X):=zr ycT (yBk x) (yA3 x)
def yBN:Seg:=⟨yhm,yg4,yhJ,ytr⟩
def yvw:Nat→Option Seg:=fun q=>bif Nat.beq q 13 then some yBN else yD4 q
theorem yP0:FrOk Tryz.prog ⟨ydJ,76,yvw⟩ yaq:=(yPZ).loop (sg:=yBN) yco yA3 (by decide) yPg ycT yBk (by decide) (fun _=>rfl) (fun x r _ h=>h) yR2
def ycp:Shape:=⟨[(1,false,[.ptr 0 0]),(21,false,[.br tW]),(22,false,[.int .i64]),(23,false,[.int .i64])],[(0,[.br tL,.br tW,.bool,.br tI])],[]⟩
def yhn:Shape:=⟨[(1,false,[.ptr 0 0]),(21,false,[.br tW]),(22,false,[.int .i64]),(23,false,[.ci .i64 0])],[(0,[.br tL,.br tW,.bool,.br tI])],[]⟩
def yg5:Shape:=⟨[(1,false,[.ptr 0 0])],[(0,[.br tL,.br tW,.bool,.br tI])],[]⟩
def yhK:Shape:=⟨[(2,false,[.bool])],[],[]⟩
abbrev yss (v0:List dW) (v1:Int) (v2:Int) (v3:dM):(ycp).X:=((((),()),(v0,()),(v1,()),(v2,()),()),((v3.1,v3.2.1,v3.2.2.1,v3.2.2.2,()),()),())
abbrev yNk (v0:List dW) (v1:Int) (v2:dM):(yhn).X:=((((),()),(v0,()),(v1,()),((),()),()),((v2.1,v2.2.1,v2.2.2.1,v2.2.2.2,()),()),())
abbrev yNd (v0:dM):(yg5).X:=((((),()),()),((v0.1,v0.2.1,v0.2.2.1,v0.2.2.2,()),()),())
abbrev yNw (v0:Bool):(yhK).X:=(((v0,()),()),(),())
def ysO (v0:List dW) (v1:Int) (v2:Int) (v3:List (List Int)) (v4:List dW) (v5:Bool) (v6:List Int):Option ((ycp).X ⊕ ((yg5).X ⊕ (yhK).X)) :=
  bif (ltb v2 v1) then
    bif (inb v2 v0.length) then
      let r6:=yaC (v3,v4,v5,v6) ((nth v0 v2 (0,[])).1)
      bif (!(!r6)) then
        let r7:=yfW ((nth v0 v2 (0,[])).2)
        bif (!r7) then
          some (.inr (.inr (((false,()),()),(),())))
        else
          some (.inl ((((),()),(v0,()),(v1,()),((IntKind.i64.wrap (v2+1)),()),()),((v3,v4,v5,v6,()),()),()))
      else
        some (.inr (.inr (((false,()),()),(),())))
    else none
  else
    some (.inr (.inl ((((),()),()),((v3,v4,v5,v6,()),()),())))
def ycU (x:(ycp).X):=ysO x.1.2.1.1 x.1.2.2.1.1 x.1.2.2.2.1.1 x.2.1.1.1 x.2.1.1.2.1 x.2.1.1.2.2.1 x.2.1.1.2.2.2.1
def yA4 (x:(yhn).X):(ycp).X:=((((),()),(x.1.2.1.1,()),(x.1.2.2.1.1,()),(0,()),()),((x.2.1.1.1,x.2.1.1.2.1,x.2.1.1.2.2.1,x.2.1.1.2.2.2.1,()),()),())
def yCY:Code:=(zdI yaq 64 116).getD .skip
theorem yPh:zdI yaq 64 29=some (.block 2 (.loop yCY)):=by kernel_rfl
theorem yR3 (x:(ycp).X):zg7 ⟨ydJ,76,yvw⟩ 2 yCY 116 ycp yg5 yhK x=ycU x:=by kernel_rfl
def yBl (x:(yhn).X):Nat:=(fun (u0:List dW) (u1:Int) (u2:List (List Int)) (u3:List dW) (u4:Bool) (u5:List Int)=>18446744073709551616) x.1.2.1.1 x.1.2.2.1.1 x.2.1.1.1 x.2.1.1.2.1 x.2.1.1.2.2.1 x.2.1.1.2.2.2.1
def yts (x:(yhn).X):Option ((yg5).X ⊕ (yhK).X):=zr ycU (yBl x) (yA4 x)
def yBO:Seg:=⟨yhn,yg5,yhK,yts⟩
def yvx:Nat→Option Seg:=fun q=>bif Nat.beq q 29 then some yBO else yvw q
theorem yP1:FrOk Tryz.prog ⟨ydJ,76,yvx⟩ yaq:=(yP0).loop (sg:=yBO) ycp yA4 (by decide) yPh ycU yBl (by decide) (fun _=>rfl) (fun x r _ h=>h) yR3
def ycq:Shape:=⟨[(1,false,[.ptr 0 0]),(40,false,[.br tI]),(41,false,[.int .i64]),(42,false,[.int .i64])],[(0,[.br tL,.br tW,.bool,.br tI])],[]⟩
def yho:Shape:=⟨[(1,false,[.ptr 0 0]),(40,false,[.br tI]),(41,false,[.int .i64]),(42,false,[.ci .i64 0])],[(0,[.br tL,.br tW,.bool,.br tI])],[]⟩
def yg6:Shape:=⟨[(1,false,[.ptr 0 0])],[(0,[.br tL,.br tW,.bool,.br tI])],[]⟩
def yhL:Shape:=⟨[(2,false,[.bool])],[],[]⟩
abbrev yst (v0:List Int) (v1:Int) (v2:Int) (v3:dM):(ycq).X:=((((),()),(v0,()),(v1,()),(v2,()),()),((v3.1,v3.2.1,v3.2.2.1,v3.2.2.2,()),()),())
abbrev yNl (v0:List Int) (v1:Int) (v2:dM):(yho).X:=((((),()),(v0,()),(v1,()),((),()),()),((v2.1,v2.2.1,v2.2.2.1,v2.2.2.2,()),()),())
abbrev yNe (v0:dM):(yg6).X:=((((),()),()),((v0.1,v0.2.1,v0.2.2.1,v0.2.2.2,()),()),())
abbrev yNx (v0:Bool):(yhL).X:=(((v0,()),()),(),())
def ysP (v0:List Int) (v1:Int) (v2:Int) (v3:List (List Int)) (v4:List dW) (v5:Bool) (v6:List Int):Option ((ycq).X ⊕ ((yg6).X ⊕ (yhL).X)) :=
  bif (ltb v2 v1) then
    bif (inb v2 v0.length) then
      let r10:=yaC (v3,v4,v5,v6) (nth v0 v2 0)
      bif (!(!r10)) then
        bif (ltb 0 v2) then
          bif (inb (IntKind.i64.wrap (v2 - 1)) v6.length) then
            bif (leb (nth v0 v2 0) (nth v6 (IntKind.i64.wrap (v2 - 1)) 0)) then
              some (.inr (.inr (((false,()),()),(),())))
            else
              some (.inl ((((),()),(v0,()),(v1,()),((IntKind.i64.wrap (v2+1)),()),()),((v3,v4,v5,v6,()),()),()))
          else none
        else
          some (.inl ((((),()),(v0,()),(v1,()),((IntKind.i64.wrap (v2+1)),()),()),((v3,v4,v5,v6,()),()),()))
      else
        some (.inr (.inr (((false,()),()),(),())))
    else none
  else
    some (.inr (.inl ((((),()),()),((v3,v4,v5,v6,()),()),())))
def ycV (x:(ycq).X):=ysP x.1.2.1.1 x.1.2.2.1.1 x.1.2.2.2.1.1 x.2.1.1.1 x.2.1.1.2.1 x.2.1.1.2.2.1 x.2.1.1.2.2.2.1
def yA5 (x:(yho).X):(ycq).X:=((((),()),(x.1.2.1.1,()),(x.1.2.2.1.1,()),(0,()),()),((x.2.1.1.1,x.2.1.1.2.1,x.2.1.1.2.2.1,x.2.1.1.2.2.2.1,()),()),())
def yCZ:Code:=(zdI yaq 64 244).getD .skip
theorem yPi:zdI yaq 64 61=some (.block 4 (.loop yCZ)):=by kernel_rfl
theorem yR4 (x:(ycq).X):zg7 ⟨ydJ,76,yvx⟩ 4 yCZ 244 ycq yg6 yhL x=ycV x:=by kernel_rfl
def yBm (x:(yho).X):Nat:=(fun (u0:List Int) (u1:Int) (u2:List (List Int)) (u3:List dW) (u4:Bool) (u5:List Int)=>18446744073709551616) x.1.2.1.1 x.1.2.2.1.1 x.2.1.1.1 x.2.1.1.2.1 x.2.1.1.2.2.1 x.2.1.1.2.2.2.1
def ytt (x:(yho).X):Option ((yg6).X ⊕ (yhL).X):=zr ycV (yBm x) (yA5 x)
def yBP:Seg:=⟨yho,yg6,yhL,ytt⟩
def yD5:Nat→Option Seg:=fun q=>bif Nat.beq q 61 then some yBP else yvx q
theorem yP2:FrOk Tryz.prog ⟨ydJ,76,yD5⟩ yaq:=(yP1).loop (sg:=yBP) ycq yA5 (by decide) yPi ycV yBm (by decide) (fun _=>rfl) (fun x r _ h=>h) yR4
abbrev yjy:List Par:= [.rd tM]
abbrev ytH:List OT:= [⟨false,tB,.fz⟩]
def yp0 (a0:dM):Option (ResD ytH×MutD yjy) :=
  zjw (ytr ((((),()),(a0.1,()),((a0.1.length:Int),()),((),()),()),((a0.1,a0.2.1,a0.2.2.1,a0.2.2.2,()),()),())) (fun y2 =>
    zjw (yts ((((),()),(y2.2.1.1.2.1,()),((y2.2.1.1.2.1.length:Int),()),((),()),()),((y2.2.1.1.1,y2.2.1.1.2.1,y2.2.1.1.2.2.1,y2.2.1.1.2.2.2.1,()),()),())) (fun y7 =>
      zjw (ytt ((((),()),(y7.2.1.1.2.2.2.1,()),((y7.2.1.1.2.2.2.1.length:Int),()),((),()),()),((y7.2.1.1.1,y7.2.1.1.2.1,y7.2.1.1.2.2.1,y7.2.1.1.2.2.2.1,()),()),())) (fun y10 =>
        let r12:=ye (y10.2.1.1.1.length:Int) 1 20
        bif r12 then
          some (((leb (y10.2.1.1.2.1.length:Int) 60),()),())
        else
          some ((false,()),())) (fun y10 =>
        some ((y10.1.1.1,()),()))) (fun y7 =>
      some ((y7.1.1.1,()),()))) (fun y2 =>
    some ((y2.1.1.1,()),()))
theorem yWF (x:InD yjy):zjH ⟨ydJ,76,yD5⟩ Tryz.f132.results.toList yaq yjy ytH x=yp0 x.1:=by kernel_rfl
theorem yTO:ConOk Tryz.prog 132 ⟨yjy,ytH,fun x=>yp0 x.1⟩:=zkh (yP2) Tryz.func132 (by kernel_rfl) (by kernel_rfl) Tryz.ntmps132.symm (by decide) (fun x r h=>(yWF x).trans h)
def yay (a0:dM):Bool:=yo a0
theorem yVH (a0:dM) (hk:zi9 yjy (a0,())):yp0 a0=(fun n=>some ((n,()),())) (yay a0):=by
  have hb1:a0.1.length * 24≤2 ^ 47:=hk.1.1.1
  have hb2:a0.2.1.length * 32≤2 ^ 47:=hk.1.2.1.1
  have hb3:a0.2.2.2.length * 8≤2 ^ 47:=hk.1.2.2.2.1
  have h1:ytr (yNj a0.1 a0.1.length a0)=some (bif a0.1.all ybc then .inl (yNc a0) else .inr (yNv false)) :=
    zjS (step:=ycT) a0.1 [] (fun i=>ysr a0.1 a0.1.length i a0) ybc _ _ (fun i hi=>by
      simp only [ycT,ysr,ysN,zjI (show (i:Int) < a0.1.length by omega),cond_true,wr (show -9223372036854775808≤(i:Int)+1 by omega) (by omega),Int.natCast_add,Int.natCast_one,Int.toNat_natCast,zkO hi,zjW,yDM]
      cases ybc (a0.1.getD i [])<;>rfl) (by simp only [ycT,ysr,ysN,zkm (Int.le_refl _),cond_false]) _ (by show _ < 18446744073709551616; omega)
  have h2:yts (yNk a0.2.1 a0.2.1.length a0)=some (bif a0.2.1.all (yv2 a0.1.length) then .inl (yNd a0) else .inr (yNw false)) :=
    zjS (step:=ycU) a0.2.1 (0,[]) (fun i=>yss a0.2.1 a0.2.1.length i a0) (yv2 a0.1.length) _ _ (fun i hi=>by
      simp only [ycU,yss,ysO,zjI (show (i:Int) < a0.2.1.length by omega),cond_true,wr (show -9223372036854775808≤(i:Int)+1 by omega) (by omega),Int.natCast_add,Int.natCast_one,Int.toNat_natCast,zkO hi,zjW,yDM,yaC,yV,yq8 (show a0.1.length≤1152921504606846976 by omega),yv2]
      cases inb (a0.2.1.getD i (0,[])).1 a0.1.length<;>cases ybc (a0.2.1.getD i (0,[])).2<;>rfl) (by simp only [ycU,yss,ysO,zkm (Int.le_refl _),cond_false]) _ (by show _ < 18446744073709551616; omega)
  have h3:ytt (yNl a0.2.2.2 a0.2.2.2.length a0)=some (bif (List.range a0.2.2.2.length).any (yCV a0.1.length a0.2.2.2) then .inr (yNx false) else .inl (yNe a0)) :=
    zf4 (step:=ycV) (fun i=>yst a0.2.2.2 a0.2.2.2.length i a0) a0.2.2.2.length (yCV a0.1.length a0.2.2.2) _ _ (fun i hi=>by
      simp only [ycV,yst,ysP,zjI (show (i:Int) < a0.2.2.2.length by omega),cond_true,wr (show -9223372036854775808≤(i:Int)+1 by omega) (by omega),Int.natCast_add,Int.natCast_one,Int.toNat_natCast,zkO hi,zjW,yaC,yV,yq8 (show a0.1.length≤1152921504606846976 by omega),yCV]
      rcases Nat.eq_zero_or_pos i with rfl | h0
      · cases inb (a0.2.2.2.getD 0 0) a0.1.length<;>rfl
      · rw [show IntKind.i64.wrap ((i:Int) - 1)=((i - 1:Nat):Int) by rw [wr (by omega) (by omega)]; omega,zkO (show i - 1 < a0.2.2.2.length by omega),zjW,zjI (show (0:Int) < i by omega),decide_eq_true h0]
        cases inb (a0.2.2.2.getD i 0) a0.1.length<;>cases leb (a0.2.2.2.getD i 0) (a0.2.2.2.getD (i - 1) 0)<;>rfl) (by simp only [ycV,yst,ysP,zkm (Int.le_refl _),cond_false]) _ (by show _ < 18446744073709551616; omega)
  unfold yp0 yay yo
  rw [h1]
  cases a0.1.all ybc
  · rfl
  simp only [cond_true,zkJ,h2]
  cases a0.2.1.all (yv2 a0.1.length)
  · rfl
  simp only [cond_true,zkJ,h3,yUL,yV,yiW]
  cases yt7 a0.1.length a0.2.2.2
  · rfl
  simp only [Bool.not_true,cond_false,zkJ]
  cases leb 1 (a0.1.length:Int)<;>cases leb (a0.1.length:Int) 20<;>rfl
def yjT:Con:=⟨yjy,ytH,fun x=>(fun n=>some ((n,()),())) (yay x.1)⟩
theorem yr3:ConOk Tryz.prog 132 yjT:=(yTO).mono (fun x r hk h=>(yVH x.1 hk).trans h)
end
section
def yDW:Code:=(Tryz.f133.body).getD .skip
def yEn:Env:=zki TT [] []
theorem yJ5:FrOk Tryz.prog ⟨yEn,6,fun _=>none⟩ yDW:=zkp yb yc trivial
def yLO:Nat→Option Seg:=fun _=>none
abbrev yjB:List Par:= [.rd tG]
abbrev ypt:List OT:= [⟨false,tI,.fz⟩]
def ysF (a0:dG):Option (ResD ypt×MutD yjB) :=
  some (((IntKind.i64.wrap (6+a0.2)),()),())
theorem ySK (x:InD yjB):zjH ⟨yEn,6,yLO⟩ Tryz.f133.results.toList yDW yjB ypt x=ysF x.1:=by kernel_rfl
theorem yN2:ConOk Tryz.prog 133 ⟨yjB,ypt,fun x=>ysF x.1⟩:=zkh (yJ5) Tryz.func133 (by kernel_rfl) (by kernel_rfl) Tryz.ntmps133.symm (by decide) (fun x r h=>(ySK x).trans h)
def ypO (a0:dG):Int :=
  (IntKind.i64.wrap (6+a0.2))
def yAO:Con:=⟨yjB,ypt,fun x=>(fun n=>some ((n,()),())) (ypO x.1)⟩
theorem yQN (a0:dG):ysF a0=(fun n=>some ((n,()),())) (ypO a0):=zkS (p:=fun (n:Int)=>((n,()),())) rfl
theorem yRJ:ConOk Tryz.prog 133 yAO:=(yN2).mono (fun x r _ h=>(yQN x.1).trans h)
end
section
def ynW:Code:=(Tryz.f51.body).getD .skip
def yth:Env:=zki TT [(114,yp),(129,ypH),(130,yuc),(131,yAN),(132,yjT),(133,yAO)] []
theorem yPW:FrOk Tryz.prog ⟨yth,103,fun _=>none⟩ ynW:=zkp yb yc ⟨yE,yxJ,yE1,yRI,yr3,yRJ,trivial⟩
def yD2:Nat→Option Seg:=fun _=>none
def ycn:Shape:=⟨[(1,false,[.ptr 0 0]),(41,false,[.br tM]),(42,false,[.int .i64]),(43,false,[.int .i64])],[(0,[.int .i64,.int .i64,.int .i64,.br tM,.int .i64,.int .i64,.int .i64,.int .i64,.int .i64,.br tW,.int .i64,.bool,.bool])],[]⟩
def yhl:Shape:=⟨[(1,false,[.ptr 0 0]),(41,false,[.br tM]),(42,false,[.int .i64]),(43,false,[.ci .i64 0])],[(0,[.int .i64,.int .i64,.int .i64,.br tM,.int .i64,.int .i64,.int .i64,.int .i64,.int .i64,.br tW,.int .i64,.bool,.bool])],[]⟩
def yg3:Shape:=⟨[(1,false,[.ptr 0 0])],[(0,[.int .i64,.int .i64,.int .i64,.br tM,.int .i64,.int .i64,.int .i64,.int .i64,.int .i64,.br tW,.int .i64,.bool,.bool])],[]⟩
def yhH:Shape:=⟨[(2,false,[.bool])],[],[]⟩
abbrev ysq (v0:List dM) (v1:Int) (v2:Int) (v3:dA):(ycn).X:=((((),()),(v0,()),(v1,()),(v2,()),()),((v3.1,v3.2.1.1,v3.2.1.2,v3.2.2.1,v3.2.2.2.1,v3.2.2.2.2.1,v3.2.2.2.2.2.1,v3.2.2.2.2.2.2.1,v3.2.2.2.2.2.2.2.1,v3.2.2.2.2.2.2.2.2.1,v3.2.2.2.2.2.2.2.2.2.1,v3.2.2.2.2.2.2.2.2.2.2.1,v3.2.2.2.2.2.2.2.2.2.2.2,()),()),())
abbrev yNi (v0:List dM) (v1:Int) (v2:dA):(yhl).X:=((((),()),(v0,()),(v1,()),((),()),()),((v2.1,v2.2.1.1,v2.2.1.2,v2.2.2.1,v2.2.2.2.1,v2.2.2.2.2.1,v2.2.2.2.2.2.1,v2.2.2.2.2.2.2.1,v2.2.2.2.2.2.2.2.1,v2.2.2.2.2.2.2.2.2.1,v2.2.2.2.2.2.2.2.2.2.1,v2.2.2.2.2.2.2.2.2.2.2.1,v2.2.2.2.2.2.2.2.2.2.2.2,()),()),())
abbrev yNb (v0:dA):(yg3).X:=((((),()),()),((v0.1,v0.2.1.1,v0.2.1.2,v0.2.2.1,v0.2.2.2.1,v0.2.2.2.2.1,v0.2.2.2.2.2.1,v0.2.2.2.2.2.2.1,v0.2.2.2.2.2.2.2.1,v0.2.2.2.2.2.2.2.2.1,v0.2.2.2.2.2.2.2.2.2.1,v0.2.2.2.2.2.2.2.2.2.2.1,v0.2.2.2.2.2.2.2.2.2.2.2,()),()),())
abbrev yNu (v0:Bool):(yhH).X:=(((v0,()),()),(),())
def ysM (v0:List dM) (v1:Int) (v2:Int) (v3:Int) (v4:Int) (v5:Int) (v6:List dM) (v7:Int) (v8:Int) (v9:Int) (v10:Int) (v11:Int) (v12:List dW) (v13:Int) (v14:Bool) (v15:Bool):Option ((ycn).X ⊕ ((yg3).X ⊕ (yhH).X)) :=
  bif (ltb v2 v1) then
    bif (inb v2 v0.length) then
      let r7:=yay ((nth v0 v2 ([],[],false,[])).1,((nth v0 v2 ([],[],false,[])).2).1,(((nth v0 v2 ([],[],false,[])).2).2))
      bif (!(!r7)) then
        let r8:=ypO (v4,v5)
        bif (!((((nth v0 v2 ([],[],false,[])).1).length:Int) !=r8)) then
          bif (((nth v0 v2 ([],[],false,[])).2).2).1 then
            bif (v7 !=v2) then
              bif (!v15) then
                some (.inr (.inr (((false,()),()),(),())))
              else
                some (.inl ((((),()),(v0,()),(v1,()),((IntKind.i64.wrap (v2+1)),()),()),((v3,v4,v5,v6,v7,v8,v9,v10,v11,v12,v13,v14,v15,()),()),()))
            else
              some (.inl ((((),()),(v0,()),(v1,()),((IntKind.i64.wrap (v2+1)),()),()),((v3,v4,v5,v6,v7,v8,v9,v10,v11,v12,v13,v14,v15,()),()),()))
          else
            some (.inl ((((),()),(v0,()),(v1,()),((IntKind.i64.wrap (v2+1)),()),()),((v3,v4,v5,v6,v7,v8,v9,v10,v11,v12,v13,v14,v15,()),()),()))
        else
          some (.inr (.inr (((false,()),()),(),())))
      else
        some (.inr (.inr (((false,()),()),(),())))
    else none
  else
    some (.inr (.inl ((((),()),()),((v3,v4,v5,v6,v7,v8,v9,v10,v11,v12,v13,v14,v15,()),()),())))
def ycS (x:(ycn).X):=ysM x.1.2.1.1 x.1.2.2.1.1 x.1.2.2.2.1.1 x.2.1.1.1 x.2.1.1.2.1 x.2.1.1.2.2.1 x.2.1.1.2.2.2.1 x.2.1.1.2.2.2.2.1 x.2.1.1.2.2.2.2.2.1 x.2.1.1.2.2.2.2.2.2.1 x.2.1.1.2.2.2.2.2.2.2.1 x.2.1.1.2.2.2.2.2.2.2.2.1 x.2.1.1.2.2.2.2.2.2.2.2.2.1 x.2.1.1.2.2.2.2.2.2.2.2.2.2.1 x.2.1.1.2.2.2.2.2.2.2.2.2.2.2.1 x.2.1.1.2.2.2.2.2.2.2.2.2.2.2.2.1
def yA2 (x:(yhl).X):(ycn).X:=((((),()),(x.1.2.1.1,()),(x.1.2.2.1.1,()),(0,()),()),((x.2.1.1.1,x.2.1.1.2.1,x.2.1.1.2.2.1,x.2.1.1.2.2.2.1,x.2.1.1.2.2.2.2.1,x.2.1.1.2.2.2.2.2.1,x.2.1.1.2.2.2.2.2.2.1,x.2.1.1.2.2.2.2.2.2.2.1,x.2.1.1.2.2.2.2.2.2.2.2.1,x.2.1.1.2.2.2.2.2.2.2.2.2.1,x.2.1.1.2.2.2.2.2.2.2.2.2.2.1,x.2.1.1.2.2.2.2.2.2.2.2.2.2.2.1,x.2.1.1.2.2.2.2.2.2.2.2.2.2.2.2.1,()),()),())
def yCW:Code:=(zdI ynW 64 116).getD .skip
theorem yPf:zdI ynW 64 29=some (.block 0 (.loop yCW)):=by kernel_rfl
theorem yR1 (x:(ycn).X):zg7 ⟨yth,103,yD2⟩ 0 yCW 116 ycn yg3 yhH x=ycS x:=by kernel_rfl
def yBj (x:(yhl).X):Nat:=(fun (u0:List dM) (u1:Int) (u2:Int) (u3:Int) (u4:Int) (u5:List dM) (u6:Int) (u7:Int) (u8:Int) (u9:Int) (u10:Int) (u11:List dW) (u12:Int) (u13:Bool) (u14:Bool)=>18446744073709551616) x.1.2.1.1 x.1.2.2.1.1 x.2.1.1.1 x.2.1.1.2.1 x.2.1.1.2.2.1 x.2.1.1.2.2.2.1 x.2.1.1.2.2.2.2.1 x.2.1.1.2.2.2.2.2.1 x.2.1.1.2.2.2.2.2.2.1 x.2.1.1.2.2.2.2.2.2.2.1 x.2.1.1.2.2.2.2.2.2.2.2.1 x.2.1.1.2.2.2.2.2.2.2.2.2.1 x.2.1.1.2.2.2.2.2.2.2.2.2.2.1 x.2.1.1.2.2.2.2.2.2.2.2.2.2.2.1 x.2.1.1.2.2.2.2.2.2.2.2.2.2.2.2.1
def ytq (x:(yhl).X):Option ((yg3).X ⊕ (yhH).X):=zr ycS (yBj x) (yA2 x)
def yBM:Seg:=⟨yhl,yg3,yhH,ytq⟩
def yD3:Nat→Option Seg:=fun q=>bif Nat.beq q 29 then some yBM else yD2 q
theorem yPX:FrOk Tryz.prog ⟨yth,103,yD3⟩ ynW:=(yPW).loop (sg:=yBM) ycn yA2 (by decide) yPf ycS yBj (by decide) (fun _=>rfl) (fun x r _ h=>h) yR1
abbrev yjx:List Par:= [.rd tA]
abbrev ytF:List OT:= [⟨false,tB,.fz⟩]
def ypZ (a0:dA):Option (ResD ytF×MutD yjx) :=
  let r1:=ydX a0.2.1
  bif (!(!r1)) then
    bif (!((a0.2.2.1.length:Int) !=a0.2.1.1)) then
      let r2:=ye a0.1 1 60000
      bif (!(!r2)) then
        let r3:=yet a0.2.1 a0.2.2.2.1 a0.2.2.2.2.1
        bif (!(!r3)) then
          bnd (ypR a0) fun r4 =>
          bif (!r4.1.1) then
            some ((false,()),())
          else
            zjw (ytq ((((),()),(a0.2.2.1,()),((a0.2.2.1.length:Int),()),((),()),()),((a0.1,a0.2.1.1,a0.2.1.2,a0.2.2.1,a0.2.2.2.1,a0.2.2.2.2.1,a0.2.2.2.2.2.1,a0.2.2.2.2.2.2.1,a0.2.2.2.2.2.2.2.1,a0.2.2.2.2.2.2.2.2.1,a0.2.2.2.2.2.2.2.2.2.1,a0.2.2.2.2.2.2.2.2.2.2.1,a0.2.2.2.2.2.2.2.2.2.2.2,()),()),())) (fun y8 =>
              let r10:=ye y8.2.1.1.2.2.2.2.2.2.1 0 60000
              bif r10 then
                let r11:=ye y8.2.1.1.2.2.2.2.2.2.2.1 0 60000
                bif r11 then
                  let r12:=ye y8.2.1.1.2.2.2.2.2.2.2.2.1 0 60000
                  bif r12 then
                    let r13:=ye (IntKind.i64.wrap (y8.2.1.1.2.2.2.2.2.2.1 - y8.2.1.1.2.2.2.2.2.2.2.1)) 0 4
                    bif r13 then
                      let r14:=ye y8.2.1.1.2.2.2.2.2.2.2.2.2.2.1 (-1) 1000
                      some ((r14,()),())
                    else
                      some ((false,()),())
                  else
                    some ((false,()),())
                else
                  some ((false,()),())
              else
                some ((false,()),())) (fun y8 =>
              some ((y8.1.1.1,()),()))
        else
          some ((false,()),())
      else
        some ((false,()),())
    else
      some ((false,()),())
  else
    some ((false,()),())
theorem yWD (x:InD yjx):zjH ⟨yth,103,yD3⟩ Tryz.f51.results.toList ynW yjx ytF x=ypZ x.1:=by kernel_rfl
theorem yTM:ConOk Tryz.prog 51 ⟨yjx,ytF,fun x=>ypZ x.1⟩:=zkh (yPX) Tryz.func51 (by kernel_rfl) (by kernel_rfl) Tryz.ntmps51.symm (by decide) (fun x r h=>(yWD x).trans h)
theorem yYM {S T G F z TS le:Bool} (h1:T=true→TS=true→S=true) (h2:S=true→T=true→z=(TS&&le)) :
    (bif S then bif T then bif G then bif z then some ((F,()),()) else some ((false,()),()) else some ((false,()),()) else some ((false,()),()) else some ((false,()),()))=some (((T&&(TS&&(le&&(G&&F)))),()),()):=by
  cases S
  · cases T
    · rfl
    · cases TS
      · rfl
      · exact absurd (h1 rfl rfl) Bool.false_ne_true
  · cases T
    · cases G<;>rfl
    · rw [h2 rfl rfl]
      cases TS<;>cases le<;>cases G<;>rfl
def yfV (a0:dA):Bool:=yci a0
theorem yVF (a0:dA) (hk:zi9 yjx (a0,())):ypZ a0=(fun n=>some ((n,()),())) (yfV a0):=by
  have hb:a0.2.2.1.length * 80≤2 ^ 47:=hk.1.2.2.1.1
  unfold ypZ yfV yci
  simp only [yQD,yV,yiW]
  cases hg:yf a0.2.1
  · rfl
  have hg2:=yaF.1 hg
  have h1:ytq (yNi a0.2.2.1 a0.2.2.1.length a0)=some (bif (List.range a0.2.2.1.length).any (yh3 a0) then .inr (yNu false) else .inl (yNb a0)) :=
    zf4 (step:=ycS) (fun i=>ysq a0.2.2.1 a0.2.2.1.length i a0) a0.2.2.1.length (yh3 a0) _ _ (fun i hi=>by
      simp only [ycS,ysq,ysM,zjI (show (i:Int) < a0.2.2.1.length by omega),cond_true,wr (show -9223372036854775808≤(i:Int)+1 by omega) (by omega),Int.natCast_add,Int.natCast_one,Int.toNat_natCast,zkO hi,zkV,yay,yh3,ypO,wr (show -9223372036854775808≤6+a0.2.1.2 by omega) (by omega),yh]
      rw [show (a0.2.2.2.1 !=(i:Int))=((i:Int) !=a0.2.2.2.1) from bne_comm]
      cases yo (nth a0.2.2.1 i ([],[],false,[]))<;>cases (((nth a0.2.2.1 i ([],[],false,[])).1.length:Int) !=6+a0.2.1.2)<;>cases (nth a0.2.2.1 i ([],[],false,[])).2.2.1<;>cases ((i:Int) !=a0.2.2.2.1)<;>cases a0.2.2.2.2.2.2.2.2.2.2.2<;>rfl) (by simp only [ycS,ysq,ysM,zkm (Int.le_refl _),cond_false]) _ (by show _ < 18446744073709551616; omega)
  rw [yRY a0 hg,h1]
  simp only [zky,yj7,yet,yV,yiW,wr (show -9223372036854775808≤a0.2.1.1 - 1 by omega) (by omega),yup]
  have hw:(leb 0 a0.2.2.2.2.2.1&&leb a0.2.2.2.2.2.1 60000)=true→(leb 0 a0.2.2.2.2.2.2.1&&leb a0.2.2.2.2.2.2.1 60000)=true→IntKind.i64.wrap (a0.2.2.2.2.2.1 - a0.2.2.2.2.2.2.1)=a0.2.2.2.2.2.1 - a0.2.2.2.2.2.2.1:=fun h h'=>by
    rw [Bool.and_eq_true,zjQ,zjQ]at h h'
    exact wr (by omega) (by omega)
  simp only [bne,Bool.not_not,cond_true,Bool.true_and]
  have h2:(leb 0 a0.2.2.2.2.2.1&&leb a0.2.2.2.2.2.1 60000)=true→(leb 0 a0.2.2.2.2.2.2.1&&leb a0.2.2.2.2.2.2.1 60000)=true→(leb 0 (IntKind.i64.wrap (a0.2.2.2.2.2.1 - a0.2.2.2.2.2.2.1))&&leb (IntKind.i64.wrap (a0.2.2.2.2.2.1 - a0.2.2.2.2.2.2.1)) 4)=((leb a0.2.2.2.2.2.2.1 a0.2.2.2.2.2.1&&leb a0.2.2.2.2.2.1 60000)&&leb a0.2.2.2.2.2.1 (a0.2.2.2.2.2.2.1+4)):=fun h h'=>by
    rw [hw h h',Bool.eq_iff_iff]
    simp only [Bool.and_eq_true,zjQ]at h h' ⊢
    omega
  have h3:(leb 0 a0.2.2.2.2.2.2.1&&leb a0.2.2.2.2.2.2.1 60000)=true→(leb a0.2.2.2.2.2.2.1 a0.2.2.2.2.2.1&&leb a0.2.2.2.2.2.1 60000)=true→(leb 0 a0.2.2.2.2.2.1&&leb a0.2.2.2.2.2.1 60000)=true:=fun h h'=>by
    simp only [Bool.and_eq_true,zjQ]at h h' ⊢
    omega
  cases ((a0.2.2.1.length:Int)==a0.2.1.1)
  · cases (leb 1 a0.1&&leb a0.1 60000)<;>cases (List.range a0.2.2.1.length).any (yh3 a0)<;>rfl
  cases (leb 1 a0.1&&leb a0.1 60000)
  · rfl
  cases (leb (-1) a0.2.2.2.1&&leb a0.2.2.2.1 (a0.2.1.1 - 1))
  · cases (List.range a0.2.2.1.length).any (yh3 a0)<;>cases ypL a0.2.1 a0.2.2.2.2.2.2.2.2.1<;>rfl
  cases (leb 0 a0.2.2.2.2.1&&leb a0.2.2.2.2.1 a0.2.1.2)
  · cases (List.range a0.2.2.1.length).any (yh3 a0)<;>cases ypL a0.2.1 a0.2.2.2.2.2.2.2.2.1<;>rfl
  cases ypL a0.2.1 a0.2.2.2.2.2.2.2.2.1
  · cases (List.range a0.2.2.1.length).any (yh3 a0)<;>cases (a0.2.2.2.1== -1)<;>cases (a0.2.2.2.2.1==0)<;>rfl
  cases (List.range a0.2.2.1.length).any (yh3 a0)
  · cases (a0.2.2.2.1== -1)<;>cases (a0.2.2.2.2.1==0)
    case true.false=>rfl
    all_goals exact yYM h3 h2
  · cases (a0.2.2.2.1== -1)<;>cases (a0.2.2.2.2.1==0)<;>rfl
def yEu:Con:=⟨yjx,ytF,fun x=>(fun n=>some ((n,()),())) (yfV x.1)⟩
theorem yWd:ConOk Tryz.prog 51 yEu:=(yTM).mono (fun x r hk h=>(yVF x.1 hk).trans h)
end
section
def yCc:Code:=(Tryz.f151.body).getD .skip
def yCP:Env:=zki TT [] []
theorem yHZ:FrOk Tryz.prog ⟨yCP,6,fun _=>none⟩ yCc:=zkp yb yc trivial
def yJr:Nat→Option Seg:=fun _=>none
abbrev yd6:List Par:= [.rd tL]
abbrev ym1:List OT:= [⟨false,tL,(.ow .fz)⟩]
def yi5 (a0:List Int):Option (ResD ym1×MutD yd6) :=
  bif (zj4 ([]:List Int).length a0.length 8) then
    some (((([]:List Int)++a0),()),())
  else none
theorem yPF (x:InD yd6):zjH ⟨yCP,6,yJr⟩ Tryz.f151.results.toList yCc yd6 ym1 x=yi5 x.1:=by kernel_rfl
theorem yKV:ConOk Tryz.prog 151 ⟨yd6,ym1,fun x=>yi5 x.1⟩:=zkh (yHZ) Tryz.func151 (by kernel_rfl) (by kernel_rfl) Tryz.ntmps151.symm (by decide) (fun x r h=>(yPF x).trans h)
def yj (a0:List Int):List Int:=a0
theorem yNH (a0:List Int) (hk:zi9 yd6 (a0,())):yi5 a0=(fun n=>some ((n,()),())) (yj a0):=by
  have hb:a0.length * 8≤2 ^ 47:=hk.1.1
  unfold yi5 yj
  rw [show zj4 ([]:List Int).length a0.length 8=true by rw [zkw,List.length_nil]; omega]
  rfl
def ya8:Con:=⟨yd6,ym1,fun x=>(fun n=>some ((n,()),())) (yj x.1)⟩
theorem ydC:ConOk Tryz.prog 151 ya8:=(yKV).mono (fun x r hk h=>(yNH x.1 hk).trans h)
end
section
def ybP:Code:=(Tryz.f215.body).getD .skip
def yfg:Env:=zki TT [(151,ya8)] []
theorem yJ0:FrOk Tryz.prog ⟨yfg,49,fun _=>none⟩ ybP:=zkp yb yc ⟨ydC,trivial⟩
def yz2:Nat→Option Seg:=fun _=>none
def ya0:Shape:=⟨[(1,false,[.ptr 0 0]),(2,false,[.ptr 64 0]),(3,false,[.ptr 4480 0]),(15,false,[.br tL]),(16,false,[.int .i64]),(17,false,[.int .i64])],[(0,[.br tL,.br tW,.bool,.br tI]),(64,[.nil,.nil,.bool,.nil]),(4480,[.at 800000001,.nil,.bool,.at 800000000])],[(800000001,tL,(.ow .fz)),(800000000,tI,.fz)]⟩
def yeP:Shape:=⟨[(1,false,[.ptr 0 0]),(2,false,[.ptr 64 0]),(3,false,[.ptr 4480 0]),(15,false,[.br tL]),(16,false,[.int .i64]),(17,false,[.ci .i64 0])],[(0,[.br tL,.br tW,.bool,.br tI]),(64,[.nil,.nil,.bool,.nil]),(4480,[.at 800000001,.nil,.bool,.at 800000000])],[(800000001,tL,(.ow .fz)),(800000000,tI,.fz)]⟩
def yeE:Shape:=⟨[(1,false,[.ptr 0 0]),(2,false,[.ptr 64 0]),(3,false,[.ptr 4480 0])],[(0,[.br tL,.br tW,.bool,.br tI]),(64,[.nil,.nil,.bool,.nil]),(4480,[.at 800000000,.nil,.bool,.at 800000001])],[(800000000,tL,(.ow .fz)),(800000001,tI,.fz)]⟩
def yiK:Shape:=⟨[],[],[]⟩
abbrev yoE (v0:List (List Int)) (v1:Int) (v2:Int) (v3:dM) (v4:dM) (v5:dM):(ya0).X:=((((),()),((),()),((),()),(v0,()),(v1,()),(v2,()),()),((v3.1,v3.2.1,v3.2.2.1,v3.2.2.2,()),((),(),v4.2.2.1,(),()),((),(),v5.2.2.1,(),()),()),(v5.1,v5.2.2.2,()))
abbrev yIA (v0:List (List Int)) (v1:Int) (v2:dM) (v3:dM) (v4:dM):(yeP).X:=((((),()),((),()),((),()),(v0,()),(v1,()),((),()),()),((v2.1,v2.2.1,v2.2.2.1,v2.2.2.2,()),((),(),v3.2.2.1,(),()),((),(),v4.2.2.1,(),()),()),(v4.1,v4.2.2.2,()))
abbrev yxf (v0:dM) (v1:dM) (v2:dM):(yeE).X:=((((),()),((),()),((),()),()),((v0.1,v0.2.1,v0.2.2.1,v0.2.2.2,()),((),(),v1.2.2.1,(),()),((),(),v2.2.2.1,(),()),()),(v2.1,v2.2.2.2,()))
def yoW (v0:List (List Int)) (v1:Int) (v2:Int) (v3:List (List Int)) (v4:List dW) (v5:Bool) (v6:List Int) (v7:Bool) (v8:Bool) (v9:List (List Int)) (v10:List Int):Option ((ya0).X ⊕ ((yeE).X ⊕ (yiK).X)) :=
  bif (ltb v2 v1) then
    bif (inb v2 v0.length) then
      let r4:=yj (nth v0 v2 [])
      bif (zj4 v9.length ([r4]:List (List Int)).length 24) then
        some (.inl ((((),()),((),()),((),()),(v0,()),(v1,()),((IntKind.i64.wrap (v2+1)),()),()),((v3,v4,v5,v6,()),((),(),v7,(),()),((),(),v8,(),()),()),((v9++([r4]:List (List Int))),v10,())))
      else none
    else none
  else
    some (.inr (.inl ((((),()),((),()),((),()),()),((v3,v4,v5,v6,()),((),(),v7,(),()),((),(),v8,(),()),()),(v9,v10,()))))
def ybi (x:(ya0).X):=yoW x.1.2.2.2.1.1 x.1.2.2.2.2.1.1 x.1.2.2.2.2.2.1.1 x.2.1.1.1 x.2.1.1.2.1 x.2.1.1.2.2.1 x.2.1.1.2.2.2.1 x.2.1.2.1.2.2.1 x.2.1.2.2.1.2.2.1 x.2.2.1 x.2.2.2.1
def ywF (x:(yeP).X):(ya0).X:=((((),()),((),()),((),()),(x.1.2.2.2.1.1,()),(x.1.2.2.2.2.1.1,()),(0,()),()),((x.2.1.1.1,x.2.1.1.2.1,x.2.1.1.2.2.1,x.2.1.1.2.2.2.1,()),((),(),x.2.1.2.1.2.2.1,(),()),((),(),x.2.1.2.2.1.2.2.1,(),()),()),(x.2.2.1,x.2.2.2.1,()))
def yyr:Code:=(zdI ybP 64 116).getD .skip
theorem yJA:zdI ybP 64 29=some (.block 0 (.loop yyr)):=by kernel_rfl
theorem yLk (x:(ya0).X):zg7 ⟨yfg,49,yz2⟩ 0 yyr 116 ya0 yeE yiK x=ybi x:=by kernel_rfl
def ywY (x:(yeP).X):Nat:=(fun (u0:List (List Int)) (u1:Int) (u2:List (List Int)) (u3:List dW) (u4:Bool) (u5:List Int) (u6:Bool) (u7:Bool) (u8:List (List Int)) (u9:List Int)=>18446744073709551616) x.1.2.2.2.1.1 x.1.2.2.2.2.1.1 x.2.1.1.1 x.2.1.1.2.1 x.2.1.1.2.2.1 x.2.1.1.2.2.2.1 x.2.1.2.1.2.2.1 x.2.1.2.2.1.2.2.1 x.2.2.1 x.2.2.2.1
def yqf (x:(yeP).X):Option ((yeE).X ⊕ (yiK).X):=zr ybi (ywY x) (ywF x)
def yxo:Seg:=⟨yeP,yeE,yiK,yqf⟩
def yr7:Nat→Option Seg:=fun q=>bif Nat.beq q 29 then some yxo else yz2 q
theorem yJ1:FrOk Tryz.prog ⟨yfg,49,yr7⟩ ybP:=(yJ0).loop (sg:=yxo) ya0 ywF (by decide) yJA ybi ywY (by decide) (fun _=>rfl) (fun x r _ h=>h) yLk
def ya1:Shape:=⟨[(2,false,[.ptr 64 0]),(3,false,[.ptr 4480 0]),(30,false,[.br tW]),(31,false,[.int .i64]),(32,false,[.int .i64])],[(64,[.nil,.nil,.bool,.nil]),(4480,[.at 800000000,.at 800000002,.bool,.at 800000001])],[(800000000,tL,(.ow .fz)),(800000002,tW,(.pr .fz (.ow .fz))),(800000001,tI,.fz)]⟩
def yeQ:Shape:=⟨[(2,false,[.ptr 64 0]),(3,false,[.ptr 4480 0]),(30,false,[.br tW]),(31,false,[.int .i64]),(32,false,[.ci .i64 0])],[(64,[.nil,.nil,.bool,.nil]),(4480,[.at 800000000,.at 800000002,.bool,.at 800000001])],[(800000000,tL,(.ow .fz)),(800000002,tW,(.pr .fz (.ow .fz))),(800000001,tI,.fz)]⟩
def yeF:Shape:=⟨[(2,false,[.ptr 64 0]),(3,false,[.ptr 4480 0])],[(64,[.nil,.nil,.bool,.nil]),(4480,[.at 800000000,.at 800000001,.bool,.at 800000002])],[(800000000,tL,(.ow .fz)),(800000001,tW,(.pr .fz (.ow .fz))),(800000002,tI,.fz)]⟩
def yiL:Shape:=⟨[],[],[]⟩
abbrev yoF (v0:List dW) (v1:Int) (v2:Int) (v3:dM) (v4:dM):(ya1).X:=((((),()),((),()),(v0,()),(v1,()),(v2,()),()),(((),(),v3.2.2.1,(),()),((),(),v4.2.2.1,(),()),()),(v4.1,v4.2.1,v4.2.2.2,()))
abbrev yIB (v0:List dW) (v1:Int) (v2:dM) (v3:dM):(yeQ).X:=((((),()),((),()),(v0,()),(v1,()),((),()),()),(((),(),v2.2.2.1,(),()),((),(),v3.2.2.1,(),()),()),(v3.1,v3.2.1,v3.2.2.2,()))
abbrev yxg (v0:dM) (v1:dM):(yeF).X:=((((),()),((),()),()),(((),(),v0.2.2.1,(),()),((),(),v1.2.2.1,(),()),()),(v1.1,v1.2.1,v1.2.2.2,()))
def yoX (v0:List dW) (v1:Int) (v2:Int) (v3:Bool) (v4:Bool) (v5:List (List Int)) (v6:List dW) (v7:List Int):Option ((ya1).X ⊕ ((yeF).X ⊕ (yiL).X)) :=
  bif (ltb v2 v1) then
    bif (inb v2 v0.length) then
      let r8:=yj ((nth v0 v2 (0,[])).2)
      bif (zj4 v6.length ([((nth v0 v2 (0,[])).1,r8)]:List dW).length 32) then
        some (.inl ((((),()),((),()),(v0,()),(v1,()),((IntKind.i64.wrap (v2+1)),()),()),(((),(),v3,(),()),((),(),v4,(),()),()),(v5,(v6++([((nth v0 v2 (0,[])).1,r8)]:List dW)),v7,())))
      else none
    else none
  else
    some (.inr (.inl ((((),()),((),()),()),(((),(),v3,(),()),((),(),v4,(),()),()),(v5,v6,v7,()))))
def ybj (x:(ya1).X):=yoX x.1.2.2.1.1 x.1.2.2.2.1.1 x.1.2.2.2.2.1.1 x.2.1.1.2.2.1 x.2.1.2.1.2.2.1 x.2.2.1 x.2.2.2.1 x.2.2.2.2.1
def ywG (x:(yeQ).X):(ya1).X:=((((),()),((),()),(x.1.2.2.1.1,()),(x.1.2.2.2.1.1,()),(0,()),()),(((),(),x.2.1.1.2.2.1,(),()),((),(),x.2.1.2.1.2.2.1,(),()),()),(x.2.2.1,x.2.2.2.1,x.2.2.2.2.1,()))
def yys:Code:=(zdI ybP 64 244).getD .skip
theorem yJB:zdI ybP 64 61=some (.block 2 (.loop yys)):=by kernel_rfl
theorem yLl (x:(ya1).X):zg7 ⟨yfg,49,yr7⟩ 2 yys 244 ya1 yeF yiL x=ybj x:=by kernel_rfl
def ywZ (x:(yeQ).X):Nat:=(fun (u0:List dW) (u1:Int) (u2:Bool) (u3:Bool) (u4:List (List Int)) (u5:List dW) (u6:List Int)=>18446744073709551616) x.1.2.2.1.1 x.1.2.2.2.1.1 x.2.1.1.2.2.1 x.2.1.2.1.2.2.1 x.2.2.1 x.2.2.2.1 x.2.2.2.2.1
def yqg (x:(yeQ).X):Option ((yeF).X ⊕ (yiL).X):=zr ybj (ywZ x) (ywG x)
def yxp:Seg:=⟨yeQ,yeF,yiL,yqg⟩
def yz3:Nat→Option Seg:=fun q=>bif Nat.beq q 61 then some yxp else yr7 q
theorem yJ2:FrOk Tryz.prog ⟨yfg,49,yz3⟩ ybP:=(yJ1).loop (sg:=yxp) ya1 ywG (by decide) yJB ybj ywZ (by decide) (fun _=>rfl) (fun x r _ h=>h) yLl
abbrev yfj:List Par:= [.rd tM]
abbrev yps:List OT:= [⟨false,tM,(.pr (.ow (.ow .fz)) (.pr (.ow (.pr .fz (.ow .fz))) (.pr .fz (.ow .fz))))⟩]
def ylb (a0:dM):Option (ResD yps×MutD yfj) :=
  let r1:=yj a0.2.2.2
  zjw (yqf ((((),()),((),()),((),()),(a0.1,()),((a0.1.length:Int),()),((),()),()),((a0.1,a0.2.1,a0.2.2.1,a0.2.2.2,()),((),(),false,(),()),((),(),a0.2.2.1,(),()),()),([],r1,()))) (fun y4 =>
    zjw (yqg ((((),()),((),()),(y4.2.1.1.2.1,()),((y4.2.1.1.2.1.length:Int),()),((),()),()),(((),(),y4.2.1.2.1.2.2.1,(),()),((),(),y4.2.1.2.2.1.2.2.1,(),()),()),(y4.2.2.1,[],y4.2.2.2.1,()))) (fun y8 =>
      some (((y8.2.2.1,y8.2.2.2.1,y8.2.1.2.1.2.2.1,y8.2.2.2.2.1),()),())) (fun y8 =>
      none)) (fun y4 =>
    none)
theorem ySI (x:InD yfj):zjH ⟨yfg,49,yz3⟩ Tryz.f215.results.toList ybP yfj yps x=ylb x.1:=by kernel_rfl
theorem yN0:ConOk Tryz.prog 215 ⟨yfj,yps,fun x=>ylb x.1⟩:=zkh (yJ2) Tryz.func215 (by kernel_rfl) (by kernel_rfl) Tryz.ntmps215.symm (by decide) (fun x r h=>(ySI x).trans h)
def yaH (a0:dM):dM:=a0
theorem yQL (a0:dM) (hk:zi9 yfj (a0,())):ylb a0=(fun n=>some ((n,()),())) (yaH a0):=by
  have hb1:a0.1.length * 24≤2 ^ 47:=hk.1.1.1
  have hb2:a0.2.1.length * 32≤2 ^ 47:=hk.1.2.1.1
  have h1:yqf (yIA a0.1 a0.1.length a0 yh ([],[],a0.2.2.1,a0.2.2.2))=some (.inl (yxf a0 yh (a0.1,[],a0.2.2.1,a0.2.2.2))):=by
    have:=zkk (step:=ybi) a0.1 [] (fun i s=>yoE a0.1 a0.1.length i a0 yh (s,[],a0.2.2.1,a0.2.2.2)) (fun s x=>s++ [x]) (fun i s=>s.length=i) (fun s=> .inl (yxf a0 yh (s,[],a0.2.2.1,a0.2.2.2))) (fun i s hi hs2=>⟨by
      simp only [ybi,yoE,yoW,zjI (show (i:Int) < a0.1.length by omega),cond_true,wr (show -9223372036854775808≤(i:Int)+1 by omega) (by omega),Int.natCast_add,Int.natCast_one,Int.toNat_natCast,zkO hi,zjW,yj]
      rw [zkw.2 (show (s.length+ [a0.1.getD i []].length) * 24≤140737488355328 by simp only [List.length_cons,List.length_nil]; omega)]; rfl,by simp [hs2]⟩) (fun s _=>by simp only [ybi,yoE,yoW,zkm (Int.le_refl _),cond_false]) [] rfl 18446744073709551616 (by omega)
    rw [ysp]at this
    exact this
  have h2:yqg (yIB a0.2.1 a0.2.1.length yh (a0.1,[],a0.2.2.1,a0.2.2.2))=some (.inl (yxg yh a0)):=by
    have:=zkk (step:=ybj) a0.2.1 (0,[]) (fun i s=>yoF a0.2.1 a0.2.1.length i yh (a0.1,s,a0.2.2.1,a0.2.2.2)) (fun s x=>s++ [x]) (fun i s=>s.length=i) (fun s=> .inl (yxg yh (a0.1,s,a0.2.2.1,a0.2.2.2))) (fun i s hi hs2=>⟨by
      simp only [ybj,yoF,yoX,zjI (show (i:Int) < a0.2.1.length by omega),cond_true,wr (show -9223372036854775808≤(i:Int)+1 by omega) (by omega),Int.natCast_add,Int.natCast_one,Int.toNat_natCast,zkO hi,zjW,yj,zkV]
      rw [zkw.2 (show (s.length+ [a0.2.1.getD i (0,[])].length) * 32≤140737488355328 by simp only [List.length_cons,List.length_nil]; omega)]; rfl,by simp [hs2]⟩) (fun s _=>by simp only [ybj,yoF,yoX,zkm (Int.le_refl _),cond_false]) [] rfl 18446744073709551616 (by omega)
    rw [ysp]at this
    exact this
  unfold ylb yaH
  simp only [yj,h1,zkJ,h2]
def ykW:Con:=⟨yfj,yps,fun x=>(fun n=>some ((n,()),())) (yaH x.1)⟩
theorem yuu:ConOk Tryz.prog 215 ykW:=(yN0).mono (fun x r hk h=>(yQL x.1 hk).trans h)
end
section
def ygP:Code:=(Tryz.f152.body).getD .skip
def ymI:Env:=zki TT [(215,ykW)] []
theorem yH0:FrOk Tryz.prog ⟨ymI,20,fun _=>none⟩ ygP:=zkp yb yc ⟨yuu,trivial⟩
def yx3:Nat→Option Seg:=fun _=>none
def yav:Shape:=⟨[(3,false,[.at 800000000]),(7,false,[.br tM]),(8,false,[.int .i64]),(9,false,[.int .i64])],[],[(800000000,tM,(.pr (.ow (.ow .fz)) (.pr (.ow (.pr .fz (.ow .fz))) (.pr .fz (.ow .fz)))))]⟩
def ydT:Shape:=⟨[(3,false,[.at 800000000]),(7,false,[.br tM]),(8,false,[.int .i64]),(9,false,[.ci .i64 0])],[],[(800000000,tM,(.pr (.ow (.ow .fz)) (.pr (.ow (.pr .fz (.ow .fz))) (.pr .fz (.ow .fz)))))]⟩
def ydO:Shape:=⟨[(3,false,[.at 800000000])],[],[(800000000,tM,(.pr (.ow (.ow .fz)) (.pr (.ow (.pr .fz (.ow .fz))) (.pr .fz (.ow .fz)))))]⟩
def yhM:Shape:=⟨[],[],[]⟩
abbrev ymj (v0:List dM) (v1:Int) (v2:Int) (v3:List dM):(yav).X:=((((),()),(v0,()),(v1,()),(v2,()),()),(),(v3,()))
abbrev yGF (v0:List dM) (v1:Int) (v2:List dM):(ydT).X:=((((),()),(v0,()),(v1,()),((),()),()),(),(v2,()))
abbrev yGB (v0:List dM):(ydO).X:=((((),()),()),(),(v0,()))
def ymv (v0:List dM) (v1:Int) (v2:Int) (v3:List dM):Option ((yav).X ⊕ ((ydO).X ⊕ (yhM).X)) :=
  bif (ltb v2 v1) then
    bif (inb v2 v0.length) then
      let r2:=yaH ((nth v0 v2 ([],[],false,[])).1,((nth v0 v2 ([],[],false,[])).2).1,(((nth v0 v2 ([],[],false,[])).2).2))
      bif (zj4 v3.length ([r2]:List dM).length 80) then
        some (.inl ((((),()),(v0,()),(v1,()),((IntKind.i64.wrap (v2+1)),()),()),(),((v3++([r2]:List dM)),())))
      else none
    else none
  else
    some (.inr (.inl ((((),()),()),(),(v3,()))))
def yaM (x:(yav).X):=ymv x.1.2.1.1 x.1.2.2.1.1 x.1.2.2.2.1.1 x.2.2.1
def yu0 (x:(ydT).X):(yav).X:=((((),()),(x.1.2.1.1,()),(x.1.2.2.1.1,()),(0,()),()),(),(x.2.2.1,()))
def ywp:Code:=(zdI ygP 64 116).getD .skip
theorem yHz:zdI ygP 64 29=some (.block 0 (.loop ywp)):=by kernel_rfl
theorem yI7 (x:(yav).X):zg7 ⟨ymI,20,yx3⟩ 0 ywp 116 yav ydO yhM x=yaM x:=by kernel_rfl
def yvb (x:(ydT).X):Nat:=(fun (u0:List dM) (u1:Int) (u2:List dM)=>18446744073709551616) x.1.2.1.1 x.1.2.2.1.1 x.2.2.1
def yoa (x:(ydT).X):Option ((ydO).X ⊕ (yhM).X):=zr yaM (yvb x) (yu0 x)
def yvo:Seg:=⟨ydT,ydO,yhM,yoa⟩
def yx4:Nat→Option Seg:=fun q=>bif Nat.beq q 29 then some yvo else yx3 q
theorem yH1:FrOk Tryz.prog ⟨ymI,20,yx4⟩ ygP:=(yH0).loop (sg:=yvo) yav yu0 (by decide) yHz yaM yvb (by decide) (fun _=>rfl) (fun x r _ h=>h) yI7
abbrev yd7:List Par:= [.rd tMs]
abbrev ym2:List OT:= [⟨false,tMs,(.ow (.pr (.ow (.ow .fz)) (.pr (.ow (.pr .fz (.ow .fz))) (.pr .fz (.ow .fz)))))⟩]
def yi6 (a0:List dM):Option (ResD ym2×MutD yd7) :=
  zjw (yoa ((((),()),(a0,()),((a0.length:Int),()),((),()),()),(),(([]:List dM),()))) (fun y2 =>
    some ((y2.2.2.1,()),())) (fun y2 =>
    none)
theorem yPG (x:InD yd7):zjH ⟨ymI,20,yx4⟩ Tryz.f152.results.toList ygP yd7 ym2 x=yi6 x.1:=by kernel_rfl
theorem yKW:ConOk Tryz.prog 152 ⟨yd7,ym2,fun x=>yi6 x.1⟩:=zkh (yH1) Tryz.func152 (by kernel_rfl) (by kernel_rfl) Tryz.ntmps152.symm (by decide) (fun x r h=>(yPG x).trans h)
def ynv (a0:List dM):List dM:=a0
theorem yNI (a0:List dM) (hk:zi9 yd7 (a0,())):yi6 a0=(fun n=>some ((n,()),())) (ynv a0):=by
  have hb:a0.length * 80≤2 ^ 47:=hk.1.1
  have h1:=zkk (step:=yaM) a0 yh (fun i s=>ymj a0 a0.length i s) (fun s x=>s++ [x]) (fun i s=>s.length=i) (fun s=> .inl (yGB s)) (fun i s hi hs=>⟨by
      simp only [yaM,ymj,ymv,zjI (show (i:Int) < a0.length by omega),cond_true,wr (show -9223372036854775808≤(i:Int)+1 by omega) (by omega),Int.natCast_add,Int.natCast_one,Int.toNat_natCast,zkO hi,zjW,yaH,zkV]
      rw [zkw.2 (show (s.length+ [a0.getD i ([],[],false,[])].length) * 80≤140737488355328 by simp only [List.length_cons,List.length_nil]; omega)]; rfl,by simp [hs]⟩) (fun s hs=>by simp only [yaM,ymj,ymv,zkm (Int.le_refl _),cond_false]) [] rfl 18446744073709551616 (by omega)
  rw [ysp]at h1
  unfold yi6 ynv
  rw [show yoa (yGF a0 a0.length [])=_ from h1]; rfl
def yyK:Con:=⟨yd7,ym2,fun x=>(fun n=>some ((n,()),())) (ynv x.1)⟩
theorem yOm:ConOk Tryz.prog 152 yyK:=(yKW).mono (fun x r hk h=>(yNI x.1 hk).trans h)
end
end
end Go.Tf
