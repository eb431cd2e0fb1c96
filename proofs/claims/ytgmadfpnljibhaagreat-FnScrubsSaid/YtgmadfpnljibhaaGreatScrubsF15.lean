/- Functions of the program, and what they come to. -/
import Derived.Test.YtgmadfpnljibhaaGreatScrubsF14
namespace Go.Tf
noncomputable section
open Go.Proofs
set_option synthInstance.maxHeartbeats 400000
set_option synthInstance.maxSize 10000
set_option linter.unusedVariables false
set_option linter.unusedSimpArgs false
set_option maxRecDepth 100000
section
def yGS:Code:=(Tryz.f221.body).getD .skip
def yG9:Env:=zki TT [(228,yrt)] []
theorem yPs:FrOk Tryz.prog ⟨yG9,10,fun _=>none⟩ yGS:=zkp yc yd ⟨yCk,trivial⟩
def ySc:Nat→Option Seg:=fun _=>none
abbrev ynD:List Par:= [.rd tL]
abbrev ys5:List OT:= [⟨false,tB,.fz⟩]
def yvh (a0:List Int):Option (ResD ys5×MutD ynD) :=
  bif (leb (a0.length:Int) 12) then
    let r1:=yaA a0
    some ((r1,()),())
  else
    some ((false,()),())
theorem yW0 (x:InD ynD):zjH ⟨yG9,10,ySc⟩ Tryz.f221.results.toList yGS ynD ys5 x=yvh x.1:=by kernel_rfl
theorem yTP:ConOk Tryz.prog 221 ⟨ynD,ys5,fun x=>yvh x.1⟩:=zkh (yPs) Tryz.func221 (by kernel_rfl) (by kernel_rfl) Tryz.ntmps221.symm (by decide) (fun x r h=>(yW0 x).trans h)
def yjV (a0:List Int):Bool :=
  bif (leb (a0.length:Int) 12) then
    let r1:=yaA a0
    r1
  else
    false
def yDU:Con:=⟨ynD,ys5,fun x=>(fun n=>some ((n,()),())) (yjV x.1)⟩
theorem yV5 (a0:List Int):yvh a0=(fun n=>some ((n,()),())) (yjV a0):=zkS (p:=fun (n:Bool)=>((n,()),())) (zkx (p:=fun (n:Bool)=>((n,()),())) rfl rfl)
theorem yWv:ConOk Tryz.prog 221 yDU:=(yTP).mono (fun x r _ h=>(yV5 x.1).trans h)
theorem yKR:yjV=yV:=funext fun s=>by
  unfold yjV yV yaA
  rw [show yaa=isW from funext fun x=>by unfold yaa; rw [yat,ybC]; rfl]
  cases leb (s.length:Int) 12<;>rfl
end
section
def yaT:Code:=(Tryz.f133.body).getD .skip
def ydU:Env:=zki TT [(126,yG),(220,ytw),(221,yDU)] []
theorem yPo:FrOk Tryz.prog ⟨ydU,76,fun _=>none⟩ yaT:=zkp yc yd ⟨yU,yEm,yWv,trivial⟩
def yC3:Nat→Option Seg:=fun _=>none
def ycm:Shape:=⟨[(1,false,[.ptr 0 0]),(10,false,[.br tL]),(11,false,[.int .i64]),(12,false,[.int .i64])],[(0,[.br tL,.br tW,.bool,.br tI])],[]⟩
def yhv:Shape:=⟨[(1,false,[.ptr 0 0]),(10,false,[.br tL]),(11,false,[.int .i64]),(12,false,[.ci .i64 0])],[(0,[.br tL,.br tW,.bool,.br tI])],[]⟩
def yhe:Shape:=⟨[(1,false,[.ptr 0 0])],[(0,[.br tL,.br tW,.bool,.br tI])],[]⟩
def yhS:Shape:=⟨[(2,false,[.bool])],[],[]⟩
abbrev yrC (v0:List (List Int)) (v1:Int) (v2:Int) (v3:dM):(ycm).X:=((((),()),(v0,()),(v1,()),(v2,()),()),((v3.1,v3.2.1,v3.2.2.1,v3.2.2.2,()),()),())
abbrev yMz (v0:List (List Int)) (v1:Int) (v2:dM):(yhv).X:=((((),()),(v0,()),(v1,()),((),()),()),((v2.1,v2.2.1,v2.2.2.1,v2.2.2.2,()),()),())
abbrev yMq (v0:dM):(yhe).X:=((((),()),()),((v0.1,v0.2.1,v0.2.2.1,v0.2.2.2,()),()),())
abbrev yMP (v0:Bool):(yhS).X:=(((v0,()),()),(),())
def yrY (v0:List (List Int)) (v1:Int) (v2:Int) (v3:List (List Int)) (v4:List dW) (v5:Bool) (v6:List Int):Option ((ycm).X ⊕ ((yhe).X ⊕ (yhS).X)) :=
  bif (ltb v2 v1) then
    bif (inb v2 v0.length) then
      let r2:=yjV (nth v0 v2 [])
      bif (!r2) then
        some (.inr (.inr (((false,()),()),(),())))
      else
        some (.inl ((((),()),(v0,()),(v1,()),((IntKind.i64.wrap (v2+1)),()),()),((v3,v4,v5,v6,()),()),()))
    else none
  else
    some (.inr (.inl ((((),()),()),((v3,v4,v5,v6,()),()),())))
def ycS (x:(ycm).X):=yrY x.1.2.1.1 x.1.2.2.1.1 x.1.2.2.2.1.1 x.2.1.1.1 x.2.1.1.2.1 x.2.1.1.2.2.1 x.2.1.1.2.2.2.1
def yy4 (x:(yhv).X):(ycm).X:=((((),()),(x.1.2.1.1,()),(x.1.2.2.1.1,()),(0,()),()),((x.2.1.1.1,x.2.1.1.2.1,x.2.1.1.2.2.1,x.2.1.1.2.2.2.1,()),()),())
def yBo:Code:=(zdI yaT 64 52).getD .skip
theorem yOA:zdI yaT 64 13=some (.block 0 (.loop yBo)):=by kernel_rfl
theorem yRP (x:(ycm).X):zg7 ⟨ydU,76,yC3⟩ 0 yBo 52 ycm yhe yhS x=ycS x:=by kernel_rfl
def yzm (x:(yhv).X):Nat:=(fun (u0:List (List Int)) (u1:Int) (u2:List (List Int)) (u3:List dW) (u4:Bool) (u5:List Int)=>18446744073709551616) x.1.2.1.1 x.1.2.2.1.1 x.2.1.1.1 x.2.1.1.2.1 x.2.1.1.2.2.1 x.2.1.1.2.2.2.1
def ysL (x:(yhv).X):Option ((yhe).X ⊕ (yhS).X):=zr ycS (yzm x) (yy4 x)
def yz7:Seg:=⟨yhv,yhe,yhS,ysL⟩
def yuJ:Nat→Option Seg:=fun q=>bif Nat.beq q 13 then some yz7 else yC3 q
theorem yPp:FrOk Tryz.prog ⟨ydU,76,yuJ⟩ yaT:=(yPo).loop (sg:=yz7) ycm yy4 (by decide) yOA ycS yzm (by decide) (fun _=>rfl) (fun x r _ h=>h) yRP
def ycn:Shape:=⟨[(1,false,[.ptr 0 0]),(21,false,[.br tW]),(22,false,[.int .i64]),(23,false,[.int .i64])],[(0,[.br tL,.br tW,.bool,.br tI])],[]⟩
def yhw:Shape:=⟨[(1,false,[.ptr 0 0]),(21,false,[.br tW]),(22,false,[.int .i64]),(23,false,[.ci .i64 0])],[(0,[.br tL,.br tW,.bool,.br tI])],[]⟩
def yhf:Shape:=⟨[(1,false,[.ptr 0 0])],[(0,[.br tL,.br tW,.bool,.br tI])],[]⟩
def yhT:Shape:=⟨[(2,false,[.bool])],[],[]⟩
abbrev yrD (v0:List dW) (v1:Int) (v2:Int) (v3:dM):(ycn).X:=((((),()),(v0,()),(v1,()),(v2,()),()),((v3.1,v3.2.1,v3.2.2.1,v3.2.2.2,()),()),())
abbrev yMA (v0:List dW) (v1:Int) (v2:dM):(yhw).X:=((((),()),(v0,()),(v1,()),((),()),()),((v2.1,v2.2.1,v2.2.2.1,v2.2.2.2,()),()),())
abbrev yMr (v0:dM):(yhf).X:=((((),()),()),((v0.1,v0.2.1,v0.2.2.1,v0.2.2.2,()),()),())
abbrev yMQ (v0:Bool):(yhT).X:=(((v0,()),()),(),())
def yrZ (v0:List dW) (v1:Int) (v2:Int) (v3:List (List Int)) (v4:List dW) (v5:Bool) (v6:List Int):Option ((ycn).X ⊕ ((yhf).X ⊕ (yhT).X)) :=
  bif (ltb v2 v1) then
    bif (inb v2 v0.length) then
      let r6:=yda (v3,v4,v5,v6) ((nth v0 v2 (0,[])).1)
      bif (!(!r6)) then
        let r7:=yjV ((nth v0 v2 (0,[])).2)
        bif (!r7) then
          some (.inr (.inr (((false,()),()),(),())))
        else
          some (.inl ((((),()),(v0,()),(v1,()),((IntKind.i64.wrap (v2+1)),()),()),((v3,v4,v5,v6,()),()),()))
      else
        some (.inr (.inr (((false,()),()),(),())))
    else none
  else
    some (.inr (.inl ((((),()),()),((v3,v4,v5,v6,()),()),())))
def ycT (x:(ycn).X):=yrZ x.1.2.1.1 x.1.2.2.1.1 x.1.2.2.2.1.1 x.2.1.1.1 x.2.1.1.2.1 x.2.1.1.2.2.1 x.2.1.1.2.2.2.1
def yy5 (x:(yhw).X):(ycn).X:=((((),()),(x.1.2.1.1,()),(x.1.2.2.1.1,()),(0,()),()),((x.2.1.1.1,x.2.1.1.2.1,x.2.1.1.2.2.1,x.2.1.1.2.2.2.1,()),()),())
def yBp:Code:=(zdI yaT 64 116).getD .skip
theorem yOB:zdI yaT 64 29=some (.block 2 (.loop yBp)):=by kernel_rfl
theorem yRQ (x:(ycn).X):zg7 ⟨ydU,76,yuJ⟩ 2 yBp 116 ycn yhf yhT x=ycT x:=by kernel_rfl
def yzn (x:(yhw).X):Nat:=(fun (u0:List dW) (u1:Int) (u2:List (List Int)) (u3:List dW) (u4:Bool) (u5:List Int)=>18446744073709551616) x.1.2.1.1 x.1.2.2.1.1 x.2.1.1.1 x.2.1.1.2.1 x.2.1.1.2.2.1 x.2.1.1.2.2.2.1
def ysM (x:(yhw).X):Option ((yhf).X ⊕ (yhT).X):=zr ycT (yzn x) (yy5 x)
def yz8:Seg:=⟨yhw,yhf,yhT,ysM⟩
def yuK:Nat→Option Seg:=fun q=>bif Nat.beq q 29 then some yz8 else yuJ q
theorem yPq:FrOk Tryz.prog ⟨ydU,76,yuK⟩ yaT:=(yPp).loop (sg:=yz8) ycn yy5 (by decide) yOB ycT yzn (by decide) (fun _=>rfl) (fun x r _ h=>h) yRQ
def yco:Shape:=⟨[(1,false,[.ptr 0 0]),(40,false,[.br tI]),(41,false,[.int .i64]),(42,false,[.int .i64])],[(0,[.br tL,.br tW,.bool,.br tI])],[]⟩
def yhx:Shape:=⟨[(1,false,[.ptr 0 0]),(40,false,[.br tI]),(41,false,[.int .i64]),(42,false,[.ci .i64 0])],[(0,[.br tL,.br tW,.bool,.br tI])],[]⟩
def yhg:Shape:=⟨[(1,false,[.ptr 0 0])],[(0,[.br tL,.br tW,.bool,.br tI])],[]⟩
def yhU:Shape:=⟨[(2,false,[.bool])],[],[]⟩
abbrev yrE (v0:List Int) (v1:Int) (v2:Int) (v3:dM):(yco).X:=((((),()),(v0,()),(v1,()),(v2,()),()),((v3.1,v3.2.1,v3.2.2.1,v3.2.2.2,()),()),())
abbrev yMB (v0:List Int) (v1:Int) (v2:dM):(yhx).X:=((((),()),(v0,()),(v1,()),((),()),()),((v2.1,v2.2.1,v2.2.2.1,v2.2.2.2,()),()),())
abbrev yMs (v0:dM):(yhg).X:=((((),()),()),((v0.1,v0.2.1,v0.2.2.1,v0.2.2.2,()),()),())
abbrev yMR (v0:Bool):(yhU).X:=(((v0,()),()),(),())
def yr0 (v0:List Int) (v1:Int) (v2:Int) (v3:List (List Int)) (v4:List dW) (v5:Bool) (v6:List Int):Option ((yco).X ⊕ ((yhg).X ⊕ (yhU).X)) :=
  bif (ltb v2 v1) then
    bif (inb v2 v0.length) then
      let r10:=yda (v3,v4,v5,v6) (nth v0 v2 0)
      bif (!(!r10)) then
        bif (ltb 0 v2) then
          bif (inb (IntKind.i64.wrap (v2 - 1)) v6.length) then
            bif (leb (nth v0 v2 0) (nth v6 (IntKind.i64.wrap (v2 - 1)) 0)) then
              some (.inr (.inr (((false,()),()),(),())))
            else
              some (.inl ((((),()),(v0,()),(v1,()),((IntKind.i64.wrap (v2+1)),()),()),((v3,v4,v5,v6,()),()),()))
          else none
        else
          some (.inl ((((),()),(v0,()),(v1,()),((IntKind.i64.wrap (v2+1)),()),()),((v3,v4,v5,v6,()),()),()))
      else
        some (.inr (.inr (((false,()),()),(),())))
    else none
  else
    some (.inr (.inl ((((),()),()),((v3,v4,v5,v6,()),()),())))
def ycU (x:(yco).X):=yr0 x.1.2.1.1 x.1.2.2.1.1 x.1.2.2.2.1.1 x.2.1.1.1 x.2.1.1.2.1 x.2.1.1.2.2.1 x.2.1.1.2.2.2.1
def yy6 (x:(yhx).X):(yco).X:=((((),()),(x.1.2.1.1,()),(x.1.2.2.1.1,()),(0,()),()),((x.2.1.1.1,x.2.1.1.2.1,x.2.1.1.2.2.1,x.2.1.1.2.2.2.1,()),()),())
def yBq:Code:=(zdI yaT 64 244).getD .skip
theorem yOC:zdI yaT 64 61=some (.block 4 (.loop yBq)):=by kernel_rfl
theorem yRR (x:(yco).X):zg7 ⟨ydU,76,yuK⟩ 4 yBq 244 yco yhg yhU x=ycU x:=by kernel_rfl
def yzo (x:(yhx).X):Nat:=(fun (u0:List Int) (u1:Int) (u2:List (List Int)) (u3:List dW) (u4:Bool) (u5:List Int)=>18446744073709551616) x.1.2.1.1 x.1.2.2.1.1 x.2.1.1.1 x.2.1.1.2.1 x.2.1.1.2.2.1 x.2.1.1.2.2.2.1
def ysN (x:(yhx).X):Option ((yhg).X ⊕ (yhU).X):=zr ycU (yzo x) (yy6 x)
def yz9:Seg:=⟨yhx,yhg,yhU,ysN⟩
def yC4:Nat→Option Seg:=fun q=>bif Nat.beq q 61 then some yz9 else yuK q
theorem yPr:FrOk Tryz.prog ⟨ydU,76,yC4⟩ yaT:=(yPq).loop (sg:=yz9) yco yy6 (by decide) yOC ycU yzo (by decide) (fun _=>rfl) (fun x r _ h=>h) yRR
abbrev yi6:List Par:= [.rd tM]
abbrev ys4:List OT:= [⟨false,tB,.fz⟩]
def yo1 (a0:dM):Option (ResD ys4×MutD yi6) :=
  zjw (ysL ((((),()),(a0.1,()),((a0.1.length:Int),()),((),()),()),((a0.1,a0.2.1,a0.2.2.1,a0.2.2.2,()),()),())) (fun y2 =>
    zjw (ysM ((((),()),(y2.2.1.1.2.1,()),((y2.2.1.1.2.1.length:Int),()),((),()),()),((y2.2.1.1.1,y2.2.1.1.2.1,y2.2.1.1.2.2.1,y2.2.1.1.2.2.2.1,()),()),())) (fun y7 =>
      zjw (ysN ((((),()),(y7.2.1.1.2.2.2.1,()),((y7.2.1.1.2.2.2.1.length:Int),()),((),()),()),((y7.2.1.1.1,y7.2.1.1.2.1,y7.2.1.1.2.2.1,y7.2.1.1.2.2.2.1,()),()),())) (fun y10 =>
        let r12:=yi (y10.2.1.1.1.length:Int) 1 20
        bif r12 then
          some (((leb (y10.2.1.1.2.1.length:Int) 60),()),())
        else
          some ((false,()),())) (fun y10 =>
        some ((y10.1.1.1,()),()))) (fun y7 =>
      some ((y7.1.1.1,()),()))) (fun y2 =>
    some ((y2.1.1.1,()),()))
theorem yWZ (x:InD yi6):zjH ⟨ydU,76,yC4⟩ Tryz.f133.results.toList yaT yi6 ys4 x=yo1 x.1:=by kernel_rfl
theorem yTO:ConOk Tryz.prog 133 ⟨yi6,ys4,fun x=>yo1 x.1⟩:=zkh (yPr) Tryz.func133 (by kernel_rfl) (by kernel_rfl) Tryz.ntmps133.symm (by decide) (fun x r h=>(yWZ x).trans h)
def ygo (a0:dM):Bool:=ym a0
theorem yV4 (a0:dM) (hk:zi9 yi6 (a0,())):yo1 a0=(fun n=>some ((n,()),())) (ygo a0):=by
  have hb1:a0.1.length * 24≤2 ^ 47:=hk.1.1.1
  have hb2:a0.2.1.length * 32≤2 ^ 47:=hk.1.2.1.1
  have hb3:a0.2.2.2.length * 8≤2 ^ 47:=hk.1.2.2.2.1
  have h1:ysL (yMz a0.1 a0.1.length a0)=some (bif a0.1.all yV then .inl (yMq a0) else .inr (yMP false)) :=
    zjS (step:=ycS) a0.1 [] (fun i=>yrC a0.1 a0.1.length i a0) yV _ _ (fun i hi=>by
      simp only [ycS,yrC,yrY,zjI (show (i:Int) < a0.1.length by omega),cond_true,wr (show -9223372036854775808≤(i:Int)+1 by omega) (by omega),Int.natCast_add,Int.natCast_one,Int.toNat_natCast,zkO hi,zjW,yKR]
      cases yV (a0.1.getD i [])<;>rfl) (by simp only [ycS,yrC,yrY,zkm (Int.le_refl _),cond_false]) _ (by show _ < 18446744073709551616; omega)
  have h2:ysM (yMA a0.2.1 a0.2.1.length a0)=some (bif a0.2.1.all (ysd a0.1.length) then .inl (yMr a0) else .inr (yMQ false)) :=
    zjS (step:=ycT) a0.2.1 (0,[]) (fun i=>yrD a0.2.1 a0.2.1.length i a0) (ysd a0.1.length) _ _ (fun i hi=>by
      simp only [ycT,yrD,yrZ,zjI (show (i:Int) < a0.2.1.length by omega),cond_true,wr (show -9223372036854775808≤(i:Int)+1 by omega) (by omega),Int.natCast_add,Int.natCast_one,Int.toNat_natCast,zkO hi,zjW,yKR,yda,yat,yp9 (show a0.1.length≤1152921504606846976 by omega),ysd]
      cases inb (a0.2.1.getD i (0,[])).1 a0.1.length<;>cases yV (a0.2.1.getD i (0,[])).2<;>rfl) (by simp only [ycT,yrD,yrZ,zkm (Int.le_refl _),cond_false]) _ (by show _ < 18446744073709551616; omega)
  have h3:ysN (yMB a0.2.2.2 a0.2.2.2.length a0)=some (bif (List.range a0.2.2.2.length).any (yBm a0.1.length a0.2.2.2) then .inr (yMR false) else .inl (yMs a0)) :=
    zf4 (step:=ycU) (fun i=>yrE a0.2.2.2 a0.2.2.2.length i a0) a0.2.2.2.length (yBm a0.1.length a0.2.2.2) _ _ (fun i hi=>by
      simp only [ycU,yrE,yr0,zjI (show (i:Int) < a0.2.2.2.length by omega),cond_true,wr (show -9223372036854775808≤(i:Int)+1 by omega) (by omega),Int.natCast_add,Int.natCast_one,Int.toNat_natCast,zkO hi,zjW,yda,yat,yp9 (show a0.1.length≤1152921504606846976 by omega),yBm]
      rcases Nat.eq_zero_or_pos i with rfl | h0
      · cases inb (a0.2.2.2.getD 0 0) a0.1.length<;>rfl
      · rw [show IntKind.i64.wrap ((i:Int) - 1)=((i - 1:Nat):Int) by rw [wr (by omega) (by omega)]; omega,zkO (show i - 1 < a0.2.2.2.length by omega),zjW,zjI (show (0:Int) < i by omega),decide_eq_true h0]
        cases inb (a0.2.2.2.getD i 0) a0.1.length<;>cases leb (a0.2.2.2.getD i 0) (a0.2.2.2.getD (i - 1) 0)<;>rfl) (by simp only [ycU,yrE,yr0,zkm (Int.le_refl _),cond_false]) _ (by show _ < 18446744073709551616; omega)
  unfold yo1 ygo ym
  rw [h1]
  cases a0.1.all yV
  · rfl
  simp only [cond_true,zkJ,h2]
  cases a0.2.1.all (ysd a0.1.length)
  · rfl
  simp only [cond_true,zkJ,h3,yUN,yat,ybC]
  cases yoP a0.1.length a0.2.2.2
  · rfl
  simp only [Bool.not_true,cond_false,zkJ]
  cases leb 1 (a0.1.length:Int)<;>cases leb (a0.1.length:Int) 20<;>rfl
def yuT:Con:=⟨yi6,ys4,fun x=>(fun n=>some ((n,()),())) (ygo x.1)⟩
theorem yGh:ConOk Tryz.prog 133 yuT:=(yTO).mono (fun x r hk h=>(yV4 x.1 hk).trans h)
end
section
def yni:Code:=(Tryz.f45.body).getD .skip
def ysx:Env:=zki TT [(100,yyT),(122,yjN),(126,yG),(131,yBL),(132,yyR),(133,yuT)] []
theorem yPl:FrOk Tryz.prog ⟨ysx,103,fun _=>none⟩ yni:=zkp yc yd ⟨yRA,yq6,yU,yUm,yRy,yGh,trivial⟩
def yC1:Nat→Option Seg:=fun _=>none
def ycl:Shape:=⟨[(1,false,[.ptr 0 0]),(41,false,[.br tM]),(42,false,[.int .i64]),(43,false,[.int .i64])],[(0,[.int .i64,.int .i64,.int .i64,.br tM,.int .i64,.int .i64,.int .i64,.int .i64,.int .i64,.br tW,.int .i64,.bool,.bool])],[]⟩
def yhu:Shape:=⟨[(1,false,[.ptr 0 0]),(41,false,[.br tM]),(42,false,[.int .i64]),(43,false,[.ci .i64 0])],[(0,[.int .i64,.int .i64,.int .i64,.br tM,.int .i64,.int .i64,.int .i64,.int .i64,.int .i64,.br tW,.int .i64,.bool,.bool])],[]⟩
def yhd:Shape:=⟨[(1,false,[.ptr 0 0])],[(0,[.int .i64,.int .i64,.int .i64,.br tM,.int .i64,.int .i64,.int .i64,.int .i64,.int .i64,.br tW,.int .i64,.bool,.bool])],[]⟩
def yhR:Shape:=⟨[(2,false,[.bool])],[],[]⟩
abbrev yrB (v0:List dM) (v1:Int) (v2:Int) (v3:dA):(ycl).X:=((((),()),(v0,()),(v1,()),(v2,()),()),((v3.1,v3.2.1.1,v3.2.1.2,v3.2.2.1,v3.2.2.2.1,v3.2.2.2.2.1,v3.2.2.2.2.2.1,v3.2.2.2.2.2.2.1,v3.2.2.2.2.2.2.2.1,v3.2.2.2.2.2.2.2.2.1,v3.2.2.2.2.2.2.2.2.2.1,v3.2.2.2.2.2.2.2.2.2.2.1,v3.2.2.2.2.2.2.2.2.2.2.2,()),()),())
abbrev yMy (v0:List dM) (v1:Int) (v2:dA):(yhu).X:=((((),()),(v0,()),(v1,()),((),()),()),((v2.1,v2.2.1.1,v2.2.1.2,v2.2.2.1,v2.2.2.2.1,v2.2.2.2.2.1,v2.2.2.2.2.2.1,v2.2.2.2.2.2.2.1,v2.2.2.2.2.2.2.2.1,v2.2.2.2.2.2.2.2.2.1,v2.2.2.2.2.2.2.2.2.2.1,v2.2.2.2.2.2.2.2.2.2.2.1,v2.2.2.2.2.2.2.2.2.2.2.2,()),()),())
abbrev yMp (v0:dA):(yhd).X:=((((),()),()),((v0.1,v0.2.1.1,v0.2.1.2,v0.2.2.1,v0.2.2.2.1,v0.2.2.2.2.1,v0.2.2.2.2.2.1,v0.2.2.2.2.2.2.1,v0.2.2.2.2.2.2.2.1,v0.2.2.2.2.2.2.2.2.1,v0.2.2.2.2.2.2.2.2.2.1,v0.2.2.2.2.2.2.2.2.2.2.1,v0.2.2.2.2.2.2.2.2.2.2.2,()),()),())
abbrev yMO (v0:Bool):(yhR).X:=(((v0,()),()),(),())
def yrX (v0:List dM) (v1:Int) (v2:Int) (v3:Int) (v4:Int) (v5:Int) (v6:List dM) (v7:Int) (v8:Int) (v9:Int) (v10:Int) (v11:Int) (v12:List dW) (v13:Int) (v14:Bool) (v15:Bool):Option ((ycl).X ⊕ ((yhd).X ⊕ (yhR).X)) :=
  bif (ltb v2 v1) then
    bif (inb v2 v0.length) then
      let r7:=ygo ((nth v0 v2 ([],[],false,[])).1,((nth v0 v2 ([],[],false,[])).2).1,(((nth v0 v2 ([],[],false,[])).2).2))
      bif (!(!r7)) then
        let r8:=yoS (v4,v5)
        bif (!((((nth v0 v2 ([],[],false,[])).1).length:Int) !=r8)) then
          bif (((nth v0 v2 ([],[],false,[])).2).2).1 then
            bif (v7 !=v2) then
              bif (!v15) then
                some (.inr (.inr (((false,()),()),(),())))
              else
                some (.inl ((((),()),(v0,()),(v1,()),((IntKind.i64.wrap (v2+1)),()),()),((v3,v4,v5,v6,v7,v8,v9,v10,v11,v12,v13,v14,v15,()),()),()))
            else
              some (.inl ((((),()),(v0,()),(v1,()),((IntKind.i64.wrap (v2+1)),()),()),((v3,v4,v5,v6,v7,v8,v9,v10,v11,v12,v13,v14,v15,()),()),()))
          else
            some (.inl ((((),()),(v0,()),(v1,()),((IntKind.i64.wrap (v2+1)),()),()),((v3,v4,v5,v6,v7,v8,v9,v10,v11,v12,v13,v14,v15,()),()),()))
        else
          some (.inr (.inr (((false,()),()),(),())))
      else
        some (.inr (.inr (((false,()),()),(),())))
    else none
  else
    some (.inr (.inl ((((),()),()),((v3,v4,v5,v6,v7,v8,v9,v10,v11,v12,v13,v14,v15,()),()),())))
def ycR (x:(ycl).X):=yrX x.1.2.1.1 x.1.2.2.1.1 x.1.2.2.2.1.1 x.2.1.1.1 x.2.1.1.2.1 x.2.1.1.2.2.1 x.2.1.1.2.2.2.1 x.2.1.1.2.2.2.2.1 x.2.1.1.2.2.2.2.2.1 x.2.1.1.2.2.2.2.2.2.1 x.2.1.1.2.2.2.2.2.2.2.1 x.2.1.1.2.2.2.2.2.2.2.2.1 x.2.1.1.2.2.2.2.2.2.2.2.2.1 x.2.1.1.2.2.2.2.2.2.2.2.2.2.1 x.2.1.1.2.2.2.2.2.2.2.2.2.2.2.1 x.2.1.1.2.2.2.2.2.2.2.2.2.2.2.2.1
def yy3 (x:(yhu).X):(ycl).X:=((((),()),(x.1.2.1.1,()),(x.1.2.2.1.1,()),(0,()),()),((x.2.1.1.1,x.2.1.1.2.1,x.2.1.1.2.2.1,x.2.1.1.2.2.2.1,x.2.1.1.2.2.2.2.1,x.2.1.1.2.2.2.2.2.1,x.2.1.1.2.2.2.2.2.2.1,x.2.1.1.2.2.2.2.2.2.2.1,x.2.1.1.2.2.2.2.2.2.2.2.1,x.2.1.1.2.2.2.2.2.2.2.2.2.1,x.2.1.1.2.2.2.2.2.2.2.2.2.2.1,x.2.1.1.2.2.2.2.2.2.2.2.2.2.2.1,x.2.1.1.2.2.2.2.2.2.2.2.2.2.2.2.1,()),()),())
def yBn:Code:=(zdI yni 64 116).getD .skip
theorem yOz:zdI yni 64 29=some (.block 0 (.loop yBn)):=by kernel_rfl
theorem yRO (x:(ycl).X):zg7 ⟨ysx,103,yC1⟩ 0 yBn 116 ycl yhd yhR x=ycR x:=by kernel_rfl
def yzl (x:(yhu).X):Nat:=(fun (u0:List dM) (u1:Int) (u2:Int) (u3:Int) (u4:Int) (u5:List dM) (u6:Int) (u7:Int) (u8:Int) (u9:Int) (u10:Int) (u11:List dW) (u12:Int) (u13:Bool) (u14:Bool)=>18446744073709551616) x.1.2.1.1 x.1.2.2.1.1 x.2.1.1.1 x.2.1.1.2.1 x.2.1.1.2.2.1 x.2.1.1.2.2.2.1 x.2.1.1.2.2.2.2.1 x.2.1.1.2.2.2.2.2.1 x.2.1.1.2.2.2.2.2.2.1 x.2.1.1.2.2.2.2.2.2.2.1 x.2.1.1.2.2.2.2.2.2.2.2.1 x.2.1.1.2.2.2.2.2.2.2.2.2.1 x.2.1.1.2.2.2.2.2.2.2.2.2.2.1 x.2.1.1.2.2.2.2.2.2.2.2.2.2.2.1 x.2.1.1.2.2.2.2.2.2.2.2.2.2.2.2.1
def ysK (x:(yhu).X):Option ((yhd).X ⊕ (yhR).X):=zr ycR (yzl x) (yy3 x)
def yz6:Seg:=⟨yhu,yhd,yhR,ysK⟩
def yC2:Nat→Option Seg:=fun q=>bif Nat.beq q 29 then some yz6 else yC1 q
theorem yPm:FrOk Tryz.prog ⟨ysx,103,yC2⟩ yni:=(yPl).loop (sg:=yz6) ycl yy3 (by decide) yOz ycR yzl (by decide) (fun _=>rfl) (fun x r _ h=>h) yRO
abbrev yi5:List Par:= [.rd tA]
abbrev ys2:List OT:= [⟨false,tB,.fz⟩]
def yo0 (a0:dA):Option (ResD ys2×MutD yi5) :=
  let r1:=ycE a0.2.1
  bif (!(!r1)) then
    bif (!((a0.2.2.1.length:Int) !=a0.2.1.1)) then
      let r2:=yi a0.1 1 60000
      bif (!(!r2)) then
        let r3:=yq1 a0.2.1 a0.2.2.2.1 a0.2.2.2.2.1
        bif (!(!r3)) then
          bnd (yoW a0) fun r4 =>
          bif (!r4.1.1) then
            some ((false,()),())
          else
            zjw (ysK ((((),()),(a0.2.2.1,()),((a0.2.2.1.length:Int),()),((),()),()),((a0.1,a0.2.1.1,a0.2.1.2,a0.2.2.1,a0.2.2.2.1,a0.2.2.2.2.1,a0.2.2.2.2.2.1,a0.2.2.2.2.2.2.1,a0.2.2.2.2.2.2.2.1,a0.2.2.2.2.2.2.2.2.1,a0.2.2.2.2.2.2.2.2.2.1,a0.2.2.2.2.2.2.2.2.2.2.1,a0.2.2.2.2.2.2.2.2.2.2.2,()),()),())) (fun y8 =>
              let r10:=yi y8.2.1.1.2.2.2.2.2.2.1 0 60000
              bif r10 then
                let r11:=yi y8.2.1.1.2.2.2.2.2.2.2.1 0 60000
                bif r11 then
                  let r12:=yi y8.2.1.1.2.2.2.2.2.2.2.2.1 0 60000
                  bif r12 then
                    let r13:=yi (IntKind.i64.wrap (y8.2.1.1.2.2.2.2.2.2.1 - y8.2.1.1.2.2.2.2.2.2.2.1)) 0 4
                    bif r13 then
                      let r14:=yi y8.2.1.1.2.2.2.2.2.2.2.2.2.2.1 (-1) 1000
                      some ((r14,()),())
                    else
                      some ((false,()),())
                  else
                    some ((false,()),())
                else
                  some ((false,()),())
              else
                some ((false,()),())) (fun y8 =>
              some ((y8.1.1.1,()),()))
        else
          some ((false,()),())
      else
        some ((false,()),())
    else
      some ((false,()),())
  else
    some ((false,()),())
theorem yWX (x:InD yi5):zjH ⟨ysx,103,yC2⟩ Tryz.f45.results.toList yni yi5 ys2 x=yo0 x.1:=by kernel_rfl
theorem yTM:ConOk Tryz.prog 45 ⟨yi5,ys2,fun x=>yo0 x.1⟩:=zkh (yPm) Tryz.func45 (by kernel_rfl) (by kernel_rfl) Tryz.ntmps45.symm (by decide) (fun x r h=>(yWX x).trans h)
theorem y0r {S T G F z TS le:Bool} (h1:T=true→TS=true→S=true) (h2:S=true→T=true→z=(TS&&le)) :
    (bif S then bif T then bif G then bif z then some ((F,()),()) else some ((false,()),()) else some ((false,()),()) else some ((false,()),()) else some ((false,()),()))=some (((T&&(TS&&(le&&(G&&F)))),()),()):=by
  cases S
  · cases T
    · rfl
    · cases TS
      · rfl
      · exact absurd (h1 rfl rfl) Bool.false_ne_true
  · cases T
    · cases G<;>rfl
    · rw [h2 rfl rfl]
      cases TS<;>cases le<;>cases G<;>rfl
def yav (a0:dA):Bool:=yo a0
theorem yV2 (a0:dA) (hk:zi9 yi5 (a0,())):yo0 a0=(fun n=>some ((n,()),())) (yav a0):=by
  have hb:a0.2.2.1.length * 80≤2 ^ 47:=hk.1.2.2.1.1
  unfold yo0 yav yo
  simp only [yH5,yat,ybC]
  cases hg:ye a0.2.1
  · rfl
  have hg2:=yg.1 hg
  have h1:ysK (yMy a0.2.2.1 a0.2.2.1.length a0)=some (bif (List.range a0.2.2.1.length).any (ygn a0) then .inr (yMO false) else .inl (yMp a0)) :=
    zf4 (step:=ycR) (fun i=>yrB a0.2.2.1 a0.2.2.1.length i a0) a0.2.2.1.length (ygn a0) _ _ (fun i hi=>by
      simp only [ycR,yrB,yrX,zjI (show (i:Int) < a0.2.2.1.length by omega),cond_true,wr (show -9223372036854775808≤(i:Int)+1 by omega) (by omega),Int.natCast_add,Int.natCast_one,Int.toNat_natCast,zkO hi,zkV,ygo,ygn,yoS,wr (show -9223372036854775808≤6+a0.2.1.2 by omega) (by omega),noMem]
      rw [show (a0.2.2.2.1 !=(i:Int))=((i:Int) !=a0.2.2.2.1) from bne_comm]
      cases ym (nth a0.2.2.1 i ([],[],false,[]))<;>cases (((nth a0.2.2.1 i ([],[],false,[])).1.length:Int) !=6+a0.2.1.2)<;>cases (nth a0.2.2.1 i ([],[],false,[])).2.2.1<;>cases ((i:Int) !=a0.2.2.2.1)<;>cases a0.2.2.2.2.2.2.2.2.2.2.2<;>rfl) (by simp only [ycR,yrB,yrX,zkm (Int.le_refl _),cond_false]) _ (by show _ < 18446744073709551616; omega)
  rw [yRJ a0 hg,h1]
  simp only [zky,yjW,yq1,yat,ybC,wr (show -9223372036854775808≤a0.2.1.1 - 1 by omega) (by omega),yly]
  have hw:(leb 0 a0.2.2.2.2.2.1&&leb a0.2.2.2.2.2.1 60000)=true→(leb 0 a0.2.2.2.2.2.2.1&&leb a0.2.2.2.2.2.2.1 60000)=true→IntKind.i64.wrap (a0.2.2.2.2.2.1 - a0.2.2.2.2.2.2.1)=a0.2.2.2.2.2.1 - a0.2.2.2.2.2.2.1:=fun h h'=>by
    rw [Bool.and_eq_true,zjQ,zjQ]at h h'
    exact wr (by omega) (by omega)
  simp only [bne,Bool.not_not,cond_true,Bool.true_and]
  have h2:(leb 0 a0.2.2.2.2.2.1&&leb a0.2.2.2.2.2.1 60000)=true→(leb 0 a0.2.2.2.2.2.2.1&&leb a0.2.2.2.2.2.2.1 60000)=true→(leb 0 (IntKind.i64.wrap (a0.2.2.2.2.2.1 - a0.2.2.2.2.2.2.1))&&leb (IntKind.i64.wrap (a0.2.2.2.2.2.1 - a0.2.2.2.2.2.2.1)) 4)=((leb a0.2.2.2.2.2.2.1 a0.2.2.2.2.2.1&&leb a0.2.2.2.2.2.1 60000)&&leb a0.2.2.2.2.2.1 (a0.2.2.2.2.2.2.1+4)):=fun h h'=>by
    rw [hw h h',Bool.eq_iff_iff]
    simp only [Bool.and_eq_true,zjQ]at h h' ⊢
    omega
  have h3:(leb 0 a0.2.2.2.2.2.2.1&&leb a0.2.2.2.2.2.2.1 60000)=true→(leb a0.2.2.2.2.2.2.1 a0.2.2.2.2.2.1&&leb a0.2.2.2.2.2.1 60000)=true→(leb 0 a0.2.2.2.2.2.1&&leb a0.2.2.2.2.2.1 60000)=true:=fun h h'=>by
    simp only [Bool.and_eq_true,zjQ]at h h' ⊢
    omega
  cases ((a0.2.2.1.length:Int)==a0.2.1.1)
  · cases (leb 1 a0.1&&leb a0.1 60000)<;>cases (List.range a0.2.2.1.length).any (ygn a0)<;>rfl
  cases (leb 1 a0.1&&leb a0.1 60000)
  · rfl
  cases (leb (-1) a0.2.2.2.1&&leb a0.2.2.2.1 (a0.2.1.1 - 1))
  · cases (List.range a0.2.2.1.length).any (ygn a0)<;>cases yaz a0.2.1 a0.2.2.2.2.2.2.2.2.1<;>rfl
  cases (leb 0 a0.2.2.2.2.1&&leb a0.2.2.2.2.1 a0.2.1.2)
  · cases (List.range a0.2.2.1.length).any (ygn a0)<;>cases yaz a0.2.1 a0.2.2.2.2.2.2.2.2.1<;>rfl
  cases yaz a0.2.1 a0.2.2.2.2.2.2.2.2.1
  · cases (List.range a0.2.2.1.length).any (ygn a0)<;>cases (a0.2.2.2.1== -1)<;>cases (a0.2.2.2.2.1==0)<;>rfl
  cases (List.range a0.2.2.1.length).any (ygn a0)
  · cases (a0.2.2.2.1== -1)<;>cases (a0.2.2.2.2.1==0)
    case true.false=>rfl
    all_goals exact y0r h3 h2
  · cases (a0.2.2.2.1== -1)<;>cases (a0.2.2.2.2.1==0)<;>rfl
def yjM:Con:=⟨yi5,ys2,fun x=>(fun n=>some ((n,()),())) (yav x.1)⟩
theorem yq5:ConOk Tryz.prog 45 yjM:=(yTM).mono (fun x r hk h=>(yV2 x.1 hk).trans h)
end
section
def yFe:Code:=(Tryz.f47.body).getD .skip
def yFP:Env:=zki TT [(126,yG)] []
theorem yLB:FrOk Tryz.prog ⟨yFP,34,fun _=>none⟩ yFe:=zkp yc yd ⟨yU,trivial⟩
def yOa:Nat→Option Seg:=fun _=>none
abbrev ygJ:List Par:= [.rd tA,.rd tI,.rd tI]
abbrev yqv:List OT:= [⟨false,tB,.fz⟩]
def ym1 (a0:dA) (a1:Int) (a2:Int):Option (ResD yqv×MutD ygJ) :=
  let r1:=yi a1 0 (IntKind.i64.wrap ((a0.2.2.1.length:Int) - 1))
  bif r1 then
    bif (inb a1 a0.2.2.1.length) then
      bif (!((((nth a0.2.2.1 a1 ([],[],false,[])).2).2).1)) then
        bif (!(a0.2.2.2.1 !=a1)) then
          some (((ltb a2 a0.2.2.2.2.1),()),())
        else
          some ((true,()),())
      else
        some ((false,()),())
    else none
  else
    some ((false,()),())
theorem yVr (x:InD ygJ):zjH ⟨yFP,34,yOa⟩ Tryz.f47.results.toList yFe ygJ yqv x=ym1 x.1 x.2.1 x.2.2.1:=by kernel_rfl
theorem yQV:ConOk Tryz.prog 47 ⟨ygJ,yqv,fun x=>ym1 x.1 x.2.1 x.2.2.1⟩:=zkh (yLB) Tryz.func47 (by kernel_rfl) (by kernel_rfl) Tryz.ntmps47.symm (by decide) (fun x r h=>(yVr x).trans h)
def ylB (a0:dA) (a1 a2:Int):Bool:=yby a0 a1 a2
theorem yTj (a0:dA) (a1 a2:Int) (hk:zi9 ygJ (a0,a1,a2,())):ym1 a0 a1 a2=(fun n=>some ((n,()),())) (ylB a0 a1 a2):=by
  have hb:a0.2.2.1.length * 80≤2 ^ 47:=hk.1.2.2.1.1
  unfold ym1 ylB yby noMem
  rw [yat,yp9 (show a0.2.2.1.length≤1152921504606846976 by omega),bne_comm]
  cases inb a1 a0.2.2.1.length
  · rfl
  · cases (nth a0.2.2.1 a1 ([],[],false,[])).2.2.1<;>cases (a1 !=a0.2.2.2.1)<;>rfl
def yBH:Con:=⟨ygJ,yqv,fun x=>(fun n=>some ((n,()),())) (ylB x.1 x.2.1 x.2.2.1)⟩
theorem yUi:ConOk Tryz.prog 47 yBH:=(yQV).mono (fun x r hk h=>(yTj x.1 x.2.1 x.2.2.1 hk).trans h)
end
section
def yFc:Code:=(Tryz.f108.body).getD .skip
def yFN:Env:=zki TT [(126,yG)] []
theorem yLx:FrOk Tryz.prog ⟨yFN,9,fun _=>none⟩ yFc:=zkp yc yd ⟨yU,trivial⟩
def yN8:Nat→Option Seg:=fun _=>none
abbrev yk8:List Par:= [.rd tI]
abbrev yqs:List OT:= [⟨false,tI,.fz⟩]
def ytZ (a0:Int):Option (ResD yqs×MutD yk8) :=
  let r1:=yi a0 0 1099511627776
  bif (!r1) then
    some (((-1),()),())
  else
    some (((IntKind.i64.wrap ((IntKind.i64.wrap (a0+2))+4)),()),())
theorem yVo (x:InD yk8):zjH ⟨yFN,9,yN8⟩ Tryz.f108.results.toList yFc yk8 yqs x=ytZ x.1:=by kernel_rfl
theorem yQS:ConOk Tryz.prog 108 ⟨yk8,yqs,fun x=>ytZ x.1⟩:=zkh (yLx) Tryz.func108 (by kernel_rfl) (by kernel_rfl) Tryz.ntmps108.symm (by decide) (fun x r h=>(yVo x).trans h)
def yq0 (a0:Int):Int :=
  let r1:=yi a0 0 1099511627776
  bif (!r1) then
    (-1)
  else
    (IntKind.i64.wrap ((IntKind.i64.wrap (a0+2))+4))
def yBF:Con:=⟨yk8,yqs,fun x=>(fun n=>some ((n,()),())) (yq0 x.1)⟩
theorem yTg (a0:Int):ytZ a0=(fun n=>some ((n,()),())) (yq0 a0):=zkS (p:=fun (n:Int)=>((n,()),())) (zkx (p:=fun (n:Int)=>((n,()),())) rfl rfl)
theorem yUg:ConOk Tryz.prog 108 yBF:=(yQS).mono (fun x r _ h=>(yTg x.1).trans h)
theorem yTc (s:Int):yq0 s=dataAt s:=ydG s
end
section
def yAx:Code:=(Tryz.f200.body).getD .skip
def yBa:Env:=zki TT [] []
theorem yHJ:FrOk Tryz.prog ⟨yBa,6,fun _=>none⟩ yAx:=zkp yc yd trivial
def yIW:Nat→Option Seg:=fun _=>none
abbrev yel:List Par:= [.rd tL]
abbrev yms:List OT:= [⟨false,tL,(.ow .fz)⟩]
def yiH (a0:List Int):Option (ResD yms×MutD yel) :=
  bif (zj4 ([]:List Int).length a0.length 8) then
    some (((([]:List Int)++a0),()),())
  else none
theorem yO2 (x:InD yel):zjH ⟨yBa,6,yIW⟩ Tryz.f200.results.toList yAx yel yms x=yiH x.1:=by kernel_rfl
theorem yKi:ConOk Tryz.prog 200 ⟨yel,yms,fun x=>yiH x.1⟩:=zkh (yHJ) Tryz.func200 (by kernel_rfl) (by kernel_rfl) Tryz.ntmps200.symm (by decide) (fun x r h=>(yO2 x).trans h)
def ycF (a0:List Int):List Int:=a0
theorem yM3 (a0:List Int) (hk:zi9 yel (a0,())):yiH a0=(fun n=>some ((n,()),())) (ycF a0):=by
  have hb:a0.length * 8≤2 ^ 47:=hk.1.1
  unfold yiH ycF
  rw [show zj4 ([]:List Int).length a0.length 8=true by rw [zkw,List.length_nil]; omega]
  rfl
def ypq:Con:=⟨yel,yms,fun x=>(fun n=>some ((n,()),())) (ycF x.1)⟩
theorem yzP:ConOk Tryz.prog 200 ypq:=(yKi).mono (fun x r hk h=>(yM3 x.1 hk).trans h)
end
end
end Go.Tf
