/- Functions of the program, and what they come to. -/
import Derived.Test.YtfpjmijaiekbgaaGreatExactReplayF3
namespace Go.Tf
noncomputable section
open Go.Proofs
set_option synthInstance.maxHeartbeats 400000
set_option synthInstance.maxSize 10000
set_option linter.unusedVariables false
set_option linter.unusedSimpArgs false
set_option maxRecDepth 100000
section
def ylu:Code:=(Tryz.f40.body).getD .skip
def yrh:Env:=zki TT [(115,yEz)] []
theorem yMz:FrOk Tryz.prog ⟨yrh,27,fun _=>none⟩ ylu:=zkp yb yc ⟨yWi,trivial⟩
def yCo:Nat→Option Seg:=fun _=>none
def ydr:Shape:=⟨[(0,false,[.br tM]),(1,false,[.br tM]),(5,false,[.int .i64])],[],[]⟩
def ykA:Shape:=⟨[(0,false,[.br tM]),(1,false,[.br tM]),(5,false,[.ci .i64 0])],[],[]⟩
def yks:Shape:=⟨[],[],[]⟩
def ykM:Shape:=⟨[(4,false,[.bool])],[],[]⟩
def yqO (v0:List dM) (v1:List dM) (v2:Int):Option ((ydr).X ⊕ ((yks).X ⊕ (ykM).X)) :=
  bif (ltb v2 (v0.length:Int)) then
    bif (inb v2 v0.length) then
      bif (inb v2 v1.length) then
        let r2:=ydZ ((nth v0 v2 ([],[],false,[])).1,((nth v0 v2 ([],[],false,[])).2).1,(((nth v0 v2 ([],[],false,[])).2).2)) ((nth v1 v2 ([],[],false,[])).1,((nth v1 v2 ([],[],false,[])).2).1,(((nth v1 v2 ([],[],false,[])).2).2))
        bif (!r2) then
          some (.inr (.inr (((false,()),()),(),())))
        else
          some (.inl (((v0,()),(v1,()),((IntKind.i64.wrap (v2+1)),()),()),(),()))
      else none
    else none
  else
    some (.inr (.inl ((),(),())))
def yb6 (x:(ydr).X):=yqO x.1.1.1 x.1.2.1.1 x.1.2.2.1.1
def yyZ (x:(ykA).X):(ydr).X:=(((x.1.1.1,()),(x.1.2.1.1,()),(0,()),()),(),())
def yAx:Code:=(zdI ylu 64 116).getD .skip
theorem yLX:zdI ylu 64 29=some (.block 0 (.loop yAx)):=by kernel_rfl
theorem yOF (x:(ydr).X):zg7 ⟨yrh,27,yCo⟩ 0 yAx 116 ydr yks ykM x=yb6 x:=by kernel_rfl
def yze (x:(ykA).X):Nat:=(fun (u0:List dM) (u1:List dM)=>18446744073709551616) x.1.1.1 x.1.2.1.1
def ysb (x:(ykA).X):Option ((yks).X ⊕ (ykM).X):=zr yb6 (yze x) (yyZ x)
def yzw:Seg:=⟨ykA,yks,ykM,ysb⟩
def yCp:Nat→Option Seg:=fun q=>bif Nat.beq q 29 then some yzw else yCo q
theorem yMA:FrOk Tryz.prog ⟨yrh,27,yCp⟩ ylu:=(yMz).loop (sg:=yzw) ydr yyZ (by decide) yLX yb6 yze (by decide) (fun _=>rfl) (fun x r _ h=>h) yOF
abbrev ygq:List Par:= [.rd tMs,.rd tMs]
abbrev yrG:List OT:= [⟨false,tB,.fz⟩]
def ynF (a0:List dM) (a1:List dM):Option (ResD yrG×MutD ygq) :=
  bif ((a0.length:Int) !=(a1.length:Int)) then
    some ((false,()),())
  else
    zjw (ysb (((a0,()),(a1,()),((),()),()),(),())) (fun y2 =>
      some ((true,()),())) (fun y2 =>
      some ((y2.1.1.1,()),()))
theorem yVg (x:InD ygq):zjH ⟨yrh,27,yCp⟩ Tryz.f40.results.toList ylu ygq yrG x=ynF x.1 x.2.1:=by kernel_rfl
theorem yRi:ConOk Tryz.prog 40 ⟨ygq,yrG,fun x=>ynF x.1 x.2.1⟩:=zkh (yMA) Tryz.func40 (by kernel_rfl) (by kernel_rfl) Tryz.ntmps40.symm (by decide) (fun x r h=>(yVg x).trans h)
def yev (a0 a1:List (dM)):Bool:=decide (a0=a1)
theorem yTq (a0 a1:List (dM)) (hk:zi9 ygq (a0,a1,())):ynF a0 a1=(fun n=>some ((n,()),())) (yev a0 a1):=by
  have hb:a0.length * 80≤2 ^ 47:=hk.1.1
  unfold ynF yev
  by_cases h:a0.length=a1.length
  · have hl:ysb (((a0,()),(a1,()),((),()),()),(),())=some (bif decide (a0=a1) then .inl ((),(),()) else .inr (((false,()),()),(),())) :=
      zkF (step:=yb6) a0 a1 (([],[],false,[]):dM) (fun i=>(((a0,()),(a1,()),((i:Int),()),()),(),())) ydZ yER _ _ h (fun i hi=>by
        simp only [yb6,yqO,zkO (h ▸ hi),zkO hi,zjW,Int.toNat_natCast,zjI (show (i:Int) < a0.length by omega),cond_true,wr (show -9223372036854775808≤(i:Int)+1 by omega) (by omega),Int.natCast_add,Int.natCast_one,zkV]
        cases ydZ (a0.getD i ([],[],false,[])) (a1.getD i ([],[],false,[]))<;>rfl) (by simp only [yb6,yqO,zkm (Int.le_refl _),cond_false]) _ (by show _ < 18446744073709551616; omega)
    rw [show ((a0.length:Int) !=(a1.length:Int))=false by simp [h],zkX,hl]
    cases decide (a0=a1)<;>rfl
  · rw [show ((a0.length:Int) !=(a1.length:Int))=true from bne_iff_ne.2 (by omega),zkY,decide_eq_false (fun e=>h (congrArg _ e))]
theorem yDB (a0 a1:List (dM)):yev a0 a1=decide (a0=a1):=rfl
def yDk:Con:=⟨ygq,yrG,fun x=>(fun n=>some ((n,()),())) (yev x.1 x.2.1)⟩
theorem yUo:ConOk Tryz.prog 40 yDk:=(yRi).mono (fun x r hk h=>(yTq x.1 x.2.1 hk).trans h)
theorem yYw (a:List dM):yev a a=true:=by rw [yDB]; exact decide_eq_true rfl
end
section
def yGW:Code:=(Tryz.f70.body).getD .skip
def yHi:Env:=zki TT [] []
theorem yP9:FrOk Tryz.prog ⟨yHi,15,fun _=>none⟩ yGW:=zkp yb yc trivial
def ySo:Nat→Option Seg:=fun _=>none
abbrev yon:List Par:= [.rd tG,.rd tG]
abbrev ytN:List OT:= [⟨false,tB,.fz⟩]
def yvQ (a0:dG) (a1:dG):Option (ResD ytN×MutD yon) :=
  bif (a0.1 !=a1.1) then
    some ((false,()),())
  else
    bif (a0.2 !=a1.2) then
      some ((false,()),())
    else
      some ((true,()),())
theorem yWL (x:InD yon):zjH ⟨yHi,15,ySo⟩ Tryz.f70.results.toList yGW yon ytN x=yvQ x.1 x.2.1:=by kernel_rfl
theorem yTU:ConOk Tryz.prog 70 ⟨yon,ytN,fun x=>yvQ x.1 x.2.1⟩:=zkh (yP9) Tryz.func70 (by kernel_rfl) (by kernel_rfl) Tryz.ntmps70.symm (by decide) (fun x r h=>(yWL x).trans h)
def yfX (a0:dG) (a1:dG):Bool :=
  bif (a0.1 !=a1.1) then
    false
  else
    bif (a0.2 !=a1.2) then
      false
    else
      true
def yEy:Con:=⟨yon,ytN,fun x=>(fun n=>some ((n,()),())) (yfX x.1 x.2.1)⟩
theorem yVN (a0:dG) (a1:dG):yvQ a0 a1=(fun n=>some ((n,()),())) (yfX a0 a1):=zkS (p:=fun (n:Bool)=>((n,()),())) (zkx (p:=fun (n:Bool)=>((n,()),())) rfl (zkx (p:=fun (n:Bool)=>((n,()),())) rfl rfl))
theorem yWh:ConOk Tryz.prog 70 yEy:=(yTU).mono (fun x r _ h=>(yVN x.1 x.2.1).trans h)
theorem yEQ (a b:dG):yfX a b=decide (a=b):=by
  unfold yfX
  simp only [zkz,zkA,zkB,zkC,zkD,Prod.ext_iff,Bool.decide_and,Bool.and_true]
theorem yYE (a:dG):yfX a a=true:=by rw [yEQ]; exact decide_eq_true rfl
end
section
def yGV:Code:=(Tryz.f146.body).getD .skip
def yHh:Env:=zki TT [(17,yhZ)] []
theorem yP8:FrOk Tryz.prog ⟨yHh,16,fun _=>none⟩ yGV:=zkp yb yc ⟨ypU,trivial⟩
def ySn:Nat→Option Seg:=fun _=>none
abbrev yom:List Par:= [.rd tW,.rd tW]
abbrev ytM:List OT:= [⟨false,tB,.fz⟩]
def yvP (a0:dW) (a1:dW):Option (ResD ytM×MutD yom) :=
  bif (a0.1 !=a1.1) then
    some ((false,()),())
  else
    let r1:=yA a0.2 a1.2
    bif (!r1) then
      some ((false,()),())
    else
      some ((true,()),())
theorem yWK (x:InD yom):zjH ⟨yHh,16,ySn⟩ Tryz.f146.results.toList yGV yom ytM x=yvP x.1 x.2.1:=by kernel_rfl
theorem yTT:ConOk Tryz.prog 146 ⟨yom,ytM,fun x=>yvP x.1 x.2.1⟩:=zkh (yP8) Tryz.func146 (by kernel_rfl) (by kernel_rfl) Tryz.ntmps146.symm (by decide) (fun x r h=>(yWK x).trans h)
def ydY (a0:dW) (a1:dW):Bool :=
  bif (a0.1 !=a1.1) then
    false
  else
    let r1:=yA a0.2 a1.2
    bif (!r1) then
      false
    else
      true
def yEx:Con:=⟨yom,ytM,fun x=>(fun n=>some ((n,()),())) (ydY x.1 x.2.1)⟩
theorem yVM (a0:dW) (a1:dW):yvP a0 a1=(fun n=>some ((n,()),())) (ydY a0 a1):=zkS (p:=fun (n:Bool)=>((n,()),())) (zkx (p:=fun (n:Bool)=>((n,()),())) rfl (zkx (p:=fun (n:Bool)=>((n,()),())) rfl rfl))
theorem yWg:ConOk Tryz.prog 146 yEx:=(yTT).mono (fun x r _ h=>(yVM x.1 x.2.1).trans h)
theorem yEP (a b:dW):ydY a b=decide (a=b):=by
  unfold ydY
  simp only [zkz,zkA,zkB,zkC,zkD,yh2,Prod.ext_iff,Bool.decide_and,Bool.and_true]
theorem yYD (a:dW):ydY a a=true:=by rw [yEP]; exact decide_eq_true rfl
end
section
def yls:Code:=(Tryz.f71.body).getD .skip
def yrf:Env:=zki TT [(146,yEx)] []
theorem yMv:FrOk Tryz.prog ⟨yrf,27,fun _=>none⟩ yls:=zkp yb yc ⟨yWg,trivial⟩
def yCk:Nat→Option Seg:=fun _=>none
def ydp:Shape:=⟨[(0,false,[.br tW]),(1,false,[.br tW]),(5,false,[.int .i64])],[],[]⟩
def yky:Shape:=⟨[(0,false,[.br tW]),(1,false,[.br tW]),(5,false,[.ci .i64 0])],[],[]⟩
def ykq:Shape:=⟨[],[],[]⟩
def ykK:Shape:=⟨[(4,false,[.bool])],[],[]⟩
def yqM (v0:List dW) (v1:List dW) (v2:Int):Option ((ydp).X ⊕ ((ykq).X ⊕ (ykK).X)) :=
  bif (ltb v2 (v0.length:Int)) then
    bif (inb v2 v0.length) then
      bif (inb v2 v1.length) then
        let r2:=ydY (nth v0 v2 (0,[])) (nth v1 v2 (0,[]))
        bif (!r2) then
          some (.inr (.inr (((false,()),()),(),())))
        else
          some (.inl (((v0,()),(v1,()),((IntKind.i64.wrap (v2+1)),()),()),(),()))
      else none
    else none
  else
    some (.inr (.inl ((),(),())))
def yb4 (x:(ydp).X):=yqM x.1.1.1 x.1.2.1.1 x.1.2.2.1.1
def yyX (x:(yky).X):(ydp).X:=(((x.1.1.1,()),(x.1.2.1.1,()),(0,()),()),(),())
def yAv:Code:=(zdI yls 64 116).getD .skip
theorem yLV:zdI yls 64 29=some (.block 0 (.loop yAv)):=by kernel_rfl
theorem yOD (x:(ydp).X):zg7 ⟨yrf,27,yCk⟩ 0 yAv 116 ydp ykq ykK x=yb4 x:=by kernel_rfl
def yzc (x:(yky).X):Nat:=(fun (u0:List dW) (u1:List dW)=>18446744073709551616) x.1.1.1 x.1.2.1.1
def yr9 (x:(yky).X):Option ((ykq).X ⊕ (ykK).X):=zr yb4 (yzc x) (yyX x)
def yzu:Seg:=⟨yky,ykq,ykK,yr9⟩
def yCl:Nat→Option Seg:=fun q=>bif Nat.beq q 29 then some yzu else yCk q
theorem yMw:FrOk Tryz.prog ⟨yrf,27,yCl⟩ yls:=(yMv).loop (sg:=yzu) ydp yyX (by decide) yLV yb4 yzc (by decide) (fun _=>rfl) (fun x r _ h=>h) yOD
abbrev ygo:List Par:= [.rd tWs,.rd tWs]
abbrev yrE:List OT:= [⟨false,tB,.fz⟩]
def ynD (a0:List dW) (a1:List dW):Option (ResD yrE×MutD ygo) :=
  bif ((a0.length:Int) !=(a1.length:Int)) then
    some ((false,()),())
  else
    zjw (yr9 (((a0,()),(a1,()),((),()),()),(),())) (fun y2 =>
      some ((true,()),())) (fun y2 =>
      some ((y2.1.1.1,()),()))
theorem yVe (x:InD ygo):zjH ⟨yrf,27,yCl⟩ Tryz.f71.results.toList yls ygo yrE x=ynD x.1 x.2.1:=by kernel_rfl
theorem yRg:ConOk Tryz.prog 71 ⟨ygo,yrE,fun x=>ynD x.1 x.2.1⟩:=zkh (yMw) Tryz.func71 (by kernel_rfl) (by kernel_rfl) Tryz.ntmps71.symm (by decide) (fun x r h=>(yVe x).trans h)
def yeu (a0 a1:List (dW)):Bool:=decide (a0=a1)
theorem yTo (a0 a1:List (dW)) (hk:zi9 ygo (a0,a1,())):ynD a0 a1=(fun n=>some ((n,()),())) (yeu a0 a1):=by
  have hb:a0.length * 32≤2 ^ 47:=hk.1.1
  unfold ynD yeu
  by_cases h:a0.length=a1.length
  · have hl:yr9 (((a0,()),(a1,()),((),()),()),(),())=some (bif decide (a0=a1) then .inl ((),(),()) else .inr (((false,()),()),(),())) :=
      zkF (step:=yb4) a0 a1 ((0,[]):dW) (fun i=>(((a0,()),(a1,()),((i:Int),()),()),(),())) ydY yEP _ _ h (fun i hi=>by
        simp only [yb4,yqM,zkO (h ▸ hi),zkO hi,zjW,Int.toNat_natCast,zjI (show (i:Int) < a0.length by omega),cond_true,wr (show -9223372036854775808≤(i:Int)+1 by omega) (by omega),Int.natCast_add,Int.natCast_one,zkV]
        cases ydY (a0.getD i (0,[])) (a1.getD i (0,[]))<;>rfl) (by simp only [yb4,yqM,zkm (Int.le_refl _),cond_false]) _ (by show _ < 18446744073709551616; omega)
    rw [show ((a0.length:Int) !=(a1.length:Int))=false by simp [h],zkX,hl]
    cases decide (a0=a1)<;>rfl
  · rw [show ((a0.length:Int) !=(a1.length:Int))=true from bne_iff_ne.2 (by omega),zkY,decide_eq_false (fun e=>h (congrArg _ e))]
theorem yDA (a0 a1:List (dW)):yeu a0 a1=decide (a0=a1):=rfl
def yDj:Con:=⟨ygo,yrE,fun x=>(fun n=>some ((n,()),())) (yeu x.1 x.2.1)⟩
theorem yUn:ConOk Tryz.prog 71 yDj:=(yRg).mono (fun x r hk h=>(yTo x.1 x.2.1 hk).trans h)
theorem yYu (a:List dW):yeu a a=true:=by rw [yDA]; exact decide_eq_true rfl
end
section
def yGU:Code:=(Tryz.f18.body).getD .skip
def yHg:Env:=zki TT [(40,yDk),(70,yEy),(71,yDj)] []
theorem yP7:FrOk Tryz.prog ⟨yHg,68,fun _=>none⟩ yGU:=zkp yb yc ⟨yUo,yWh,yUn,trivial⟩
def ySm:Nat→Option Seg:=fun _=>none
abbrev yol:List Par:= [.rd tA,.rd tA]
abbrev ytL:List OT:= [⟨false,tB,.fz⟩]
def yvO (a0:dA) (a1:dA):Option (ResD ytL×MutD yol) :=
  bif (a0.1 !=a1.1) then
    some ((false,()),())
  else
    let r1:=yfX a0.2.1 a1.2.1
    bif (!r1) then
      some ((false,()),())
    else
      let r2:=yev a0.2.2.1 a1.2.2.1
      bif (!r2) then
        some ((false,()),())
      else
        bif (a0.2.2.2.1 !=a1.2.2.2.1) then
          some ((false,()),())
        else
          bif (a0.2.2.2.2.1 !=a1.2.2.2.2.1) then
            some ((false,()),())
          else
            bif (a0.2.2.2.2.2.1 !=a1.2.2.2.2.2.1) then
              some ((false,()),())
            else
              bif (a0.2.2.2.2.2.2.1 !=a1.2.2.2.2.2.2.1) then
                some ((false,()),())
              else
                bif (a0.2.2.2.2.2.2.2.1 !=a1.2.2.2.2.2.2.2.1) then
                  some ((false,()),())
                else
                  let r3:=yeu a0.2.2.2.2.2.2.2.2.1 a1.2.2.2.2.2.2.2.2.1
                  bif (!r3) then
                    some ((false,()),())
                  else
                    bif (a0.2.2.2.2.2.2.2.2.2.1 !=a1.2.2.2.2.2.2.2.2.2.1) then
                      some ((false,()),())
                    else
                      bif (!(a0.2.2.2.2.2.2.2.2.2.2.1==a1.2.2.2.2.2.2.2.2.2.2.1)) then
                        some ((false,()),())
                      else
                        bif (!(a0.2.2.2.2.2.2.2.2.2.2.2==a1.2.2.2.2.2.2.2.2.2.2.2)) then
                          some ((false,()),())
                        else
                          some ((true,()),())
theorem yWJ (x:InD yol):zjH ⟨yHg,68,ySm⟩ Tryz.f18.results.toList yGU yol ytL x=yvO x.1 x.2.1:=by kernel_rfl
theorem yTS:ConOk Tryz.prog 18 ⟨yol,ytL,fun x=>yvO x.1 x.2.1⟩:=zkh (yP7) Tryz.func18 (by kernel_rfl) (by kernel_rfl) Tryz.ntmps18.symm (by decide) (fun x r h=>(yWJ x).trans h)
def ycH (a0:dA) (a1:dA):Bool :=
  bif (a0.1 !=a1.1) then
    false
  else
    let r1:=yfX a0.2.1 a1.2.1
    bif (!r1) then
      false
    else
      let r2:=yev a0.2.2.1 a1.2.2.1
      bif (!r2) then
        false
      else
        bif (a0.2.2.2.1 !=a1.2.2.2.1) then
          false
        else
          bif (a0.2.2.2.2.1 !=a1.2.2.2.2.1) then
            false
          else
            bif (a0.2.2.2.2.2.1 !=a1.2.2.2.2.2.1) then
              false
            else
              bif (a0.2.2.2.2.2.2.1 !=a1.2.2.2.2.2.2.1) then
                false
              else
                bif (a0.2.2.2.2.2.2.2.1 !=a1.2.2.2.2.2.2.2.1) then
                  false
                else
                  let r3:=yeu a0.2.2.2.2.2.2.2.2.1 a1.2.2.2.2.2.2.2.2.1
                  bif (!r3) then
                    false
                  else
                    bif (a0.2.2.2.2.2.2.2.2.2.1 !=a1.2.2.2.2.2.2.2.2.2.1) then
                      false
                    else
                      bif (!(a0.2.2.2.2.2.2.2.2.2.2.1==a1.2.2.2.2.2.2.2.2.2.2.1)) then
                        false
                      else
                        bif (!(a0.2.2.2.2.2.2.2.2.2.2.2==a1.2.2.2.2.2.2.2.2.2.2.2)) then
                          false
                        else
                          true
def yEw:Con:=⟨yol,ytL,fun x=>(fun n=>some ((n,()),())) (ycH x.1 x.2.1)⟩
theorem yVL (a0:dA) (a1:dA):yvO a0 a1=(fun n=>some ((n,()),())) (ycH a0 a1):=zkS (p:=fun (n:Bool)=>((n,()),())) (zkx (p:=fun (n:Bool)=>((n,()),())) rfl (zkx (p:=fun (n:Bool)=>((n,()),())) rfl (zkx (p:=fun (n:Bool)=>((n,()),())) rfl (zkx (p:=fun (n:Bool)=>((n,()),())) rfl (zkx (p:=fun (n:Bool)=>((n,()),())) rfl (zkx (p:=fun (n:Bool)=>((n,()),())) rfl (zkx (p:=fun (n:Bool)=>((n,()),())) rfl (zkx (p:=fun (n:Bool)=>((n,()),())) rfl (zkx (p:=fun (n:Bool)=>((n,()),())) rfl (zkx (p:=fun (n:Bool)=>((n,()),())) rfl (zkx (p:=fun (n:Bool)=>((n,()),())) rfl (zkx (p:=fun (n:Bool)=>((n,()),())) rfl rfl))))))))))))
theorem yWf:ConOk Tryz.prog 18 yEw:=(yTS).mono (fun x r _ h=>(yVL x.1 x.2.1).trans h)
theorem yS0 (a b:dA):ycH a b=decide (a=b):=by
  unfold ycH
  simp only [zkz,zkA,zkB,zkC,zkD,yDB,yEQ,yDA,Prod.ext_iff,Bool.decide_and,Bool.and_true]
theorem yS1 (a:dA):ycH a a=true:=by rw [yS0]; exact decide_eq_true rfl
end
section
def ygU:Code:=(Tryz.f20.body).getD .skip
def ymN:Env:=zki TT [] []
theorem yIb:FrOk Tryz.prog ⟨ymN,19,fun _=>none⟩ ygU:=zkp yb yc trivial
def yyd:Nat→Option Seg:=fun _=>none
def ybV:Shape:=⟨[(0,false,[.at 1000001000]),(1,false,[.int .i64]),(5,false,[.int .i64])],[],[(1000001000,tI,.fz)]⟩
def yhu:Shape:=⟨[(0,false,[.at 1000001000]),(1,false,[.int .i64]),(5,false,[.ci .i64 0])],[],[(1000001000,tI,.fz)]⟩
def yhc:Shape:=⟨[(1,false,[.int .i64])],[],[(1000001000,tI,.fz)]⟩
def yhR:Shape:=⟨[],[],[]⟩
def ymA (v0:Int) (v1:Int) (v2:List Int):Option ((ybV).X ⊕ ((yhc).X ⊕ (yhR).X)) :=
  bif (ltb v1 (v2.length:Int)) then
    bif (inb v1 v2.length) then
      some (.inl ((((),()),((IntKind.i64.wrap (v0+1)),()),((IntKind.i64.wrap (v1+1)),()),()),(),((v2.set (v1).toNat v0),())))
    else none
  else
    some (.inr (.inl (((v0,()),()),(),(v2,()))))
def yaR (x:(ybV).X):=ymA x.1.2.1.1 x.1.2.2.1.1 x.2.2.1
def yu5 (x:(yhu).X):(ybV).X:=((((),()),(x.1.2.1.1,()),(0,()),()),(),(x.2.2.1,()))
def ywu:Code:=(zdI ygU 64 52).getD .skip
theorem yHE:zdI ygU 64 13=some (.block 0 (.loop ywu)):=by kernel_rfl
theorem yJc (x:(ybV).X):zg7 ⟨ymN,19,yyd⟩ 0 ywu 52 ybV yhc yhR x=yaR x:=by kernel_rfl
def yvg (x:(yhu).X):Nat:=(fun (u0:Int) (u1:List Int)=>18446744073709551616) x.1.2.1.1 x.2.2.1
def yof (x:(yhu).X):Option ((yhc).X ⊕ (yhR).X):=zr yaR (yvg x) (yu5 x)
def yvt:Seg:=⟨yhu,yhc,yhR,yof⟩
def yye:Nat→Option Seg:=fun q=>bif Nat.beq q 13 then some yvt else yyd q
theorem yIc:FrOk Tryz.prog ⟨ymN,19,yye⟩ ygU:=(yIb).loop (sg:=yvt) ybV yu5 (by decide) yHE yaR yvg (by decide) (fun _=>rfl) (fun x r _ h=>h) yJc
abbrev yec:List Par:= [.mt tL (.ow .fz),.rd tI]
abbrev ym8:List OT:= [⟨false,tI,.fz⟩]
def yjb (a0:List Int) (a1:Int):Option (ResD ym8×MutD yec) :=
  zjw (yof ((((),()),(a1,()),((),()),()),(),(a0,()))) (fun y0 =>
    some ((y0.1.1.1,()),(y0.2.2.1,()))) (fun y0 =>
    none)
theorem yPM (x:InD yec):zjH ⟨ymN,19,yye⟩ Tryz.f20.results.toList ygU yec ym8 x=yjb x.1 x.2.1:=by kernel_rfl
theorem yK2:ConOk Tryz.prog 20 ⟨yec,ym8,fun x=>yjb x.1 x.2.1⟩:=zkh (yIc) Tryz.func20 (by kernel_rfl) (by kernel_rfl) Tryz.ntmps20.symm (by decide) (fun x r h=>(yPM x).trans h)
def yge (k:Int):Nat→List Int
  | 0=> []
  | n+1=>k::yge (IntKind.i64.wrap (k+1)) n
def yx (k:Int):Nat→Int
  | 0=>k
  | n+1=>yx (IntKind.i64.wrap (k+1)) n
theorem ys8: ∀ (n:Nat) (k:Int),(yge k n).length=n
  | 0,_=>rfl
  | n+1,k=>by simp [yge,ys8 n]
theorem yQF: ∀ (n:Nat) (k:Int),yge k (n+1)=yge k n++ [yx k n]
  | 0,_=>rfl
  | n+1,k=>by rw [yge,yQF n]; rfl
theorem yBA: ∀ (n:Nat) (k:Int),yx k (n+1)=IntKind.i64.wrap (yx k n+1)
  | 0,_=>rfl
  | n+1,k=>by rw [yx,yBA n]; rfl
def yG (a0:List Int) (a1:Int):Int×List Int:=(yx a1 a0.length,yge a1 a0.length)
theorem yNO (a0:List Int) (a1:Int) (hk:zi9 yec (a0,a1,())):yjb a0 a1=(fun n=>some ((n.1,()),(n.2,()))) (yG a0 a1):=by
  have hb:a0.length * 8≤2 ^ 47:=hk.1.1
  have hs: ∀ i,i < a0.length→(yge a1 i++a0.drop i).set i (yx a1 i)=yge a1 (i+1)++a0.drop (i+1):=fun i hi=>by
    rw [List.set_append_right _ _ (by rw [ys8]; exact Nat.le_refl _),ys8,Nat.sub_self,yQF,List.append_assoc,List.drop_eq_getElem_cons hi]; rfl
  have hl:yof ((((),()),(a1,()),((),()),()),(),(a0,()))=some (.inl (((yx a1 a0.length,()),()),(),(yge a1 a0.length++a0.drop a0.length,()))) :=
    zjs (step:=yaR) (fun i=>((((),()),(yx a1 i,()),((i:Int),()),()),(),(yge a1 i++a0.drop i,()))) a0.length _ (fun i hi=>by
      have hL:(yge a1 i++a0.drop i).length=a0.length:=by rw [List.length_append,ys8,List.length_drop]; omega
      simp only [yaR,ymA,hL,zkO hi,zjI (show (i:Int) < a0.length by omega),cond_true,wr (show -9223372036854775808≤(i:Int)+1 by omega) (by omega),Int.natCast_add,Int.natCast_one,yBA,Int.toNat_natCast,hs i hi]) (by
      have hL:(yge a1 a0.length++a0.drop a0.length).length=a0.length:=by rw [List.length_append,ys8,List.length_drop]; omega
      simp only [yaR,ymA,hL,zkm (Int.le_refl _),cond_false]) _ (by show _ < 18446744073709551616; omega)
  rw [List.drop_length,List.append_nil]at hl
  unfold yjb
  rw [hl]
  rfl
def ye4:Con:=⟨yec,ym8,fun x=>(fun n=>some ((n.1,()),(n.2,()))) (yG x.1 x.2.1)⟩
theorem yk6:ConOk Tryz.prog 20 ye4:=(yK2).mono (fun x r hk h=>(yNO x.1 x.2.1 hk).trans h)
theorem ypN: ∀ (n:Nat) (k:Int),0≤k→k+n≤9223372036854775807→yx k n=k+n
  | 0,k,_,_=>by simp [yx]
  | n+1,k,h,h2=>by
    rw [yx,wr (by omega) (by omega),ypN n (k+1) (by omega) (by omega)]; omega
theorem yXT {n:Nat} (h:n≤4611686018427387903): ¬ yx 1 n < 0:=by rw [ypN n 1 (by omega) (by omega)]; omega
theorem yZu {n:Nat} (h:n≤4611686018427387903):ltb (yx 1 n) 0=false:=zkm (Int.not_lt.1 (yXT h))
end
end
end Go.Tf
