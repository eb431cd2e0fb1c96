/- Functions of the program, and what they come to. -/
import Derived.Test.YtfpjmijaiekbgaaGreatExactBuildAllF3
namespace Go.Tf
noncomputable section
open Go.Proofs
set_option synthInstance.maxHeartbeats 400000
set_option synthInstance.maxSize 10000
set_option linter.unusedVariables false
set_option linter.unusedSimpArgs false
set_option maxRecDepth 100000
section
def ykY:Code:=(Tryz.f40.body).getD .skip
def yqt:Env:=zki TT [(115,yC0)] []
theorem yKI:FrOk Tryz.prog ⟨yqt,27,fun _=>none⟩ ykY:=zkp yb yc ⟨yTT,trivial⟩
def yA2:Nat→Option Seg:=fun _=>none
def ydh:Shape:=⟨[(0,false,[.br tM]),(1,false,[.br tM]),(5,false,[.int .i64])],[],[]⟩
def yj5:Shape:=⟨[(0,false,[.br tM]),(1,false,[.br tM]),(5,false,[.ci .i64 0])],[],[]⟩
def yjX:Shape:=⟨[],[],[]⟩
def ykj:Shape:=⟨[(4,false,[.bool])],[],[]⟩
def ypV (v0:List dM) (v1:List dM) (v2:Int):Option ((ydh).X ⊕ ((yjX).X ⊕ (ykj).X)) :=
  bif (ltb v2 (v0.length:Int)) then
    bif (inb v2 v0.length) then
      bif (inb v2 v1.length) then
        let r2:=ydW ((nth v0 v2 ([],[],false,[])).1,((nth v0 v2 ([],[],false,[])).2).1,(((nth v0 v2 ([],[],false,[])).2).2)) ((nth v1 v2 ([],[],false,[])).1,((nth v1 v2 ([],[],false,[])).2).1,(((nth v1 v2 ([],[],false,[])).2).2))
        bif (!r2) then
          some (.inr (.inr (((false,()),()),(),())))
        else
          some (.inl (((v0,()),(v1,()),((IntKind.i64.wrap (v2+1)),()),()),(),()))
      else none
    else none
  else
    some (.inr (.inl ((),(),())))
def yb8 (x:(ydh).X):=ypV x.1.1.1 x.1.2.1.1 x.1.2.2.1.1
def yxJ (x:(yj5).X):(ydh).X:=(((x.1.1.1,()),(x.1.2.1.1,()),(0,()),()),(),())
def yzp:Code:=(zdI ykY 64 116).getD .skip
theorem yJ8:zdI ykY 64 29=some (.block 0 (.loop yzp)):=by kernel_rfl
theorem yMD (x:(ydh).X):zg7 ⟨yqt,27,yA2⟩ 0 yzp 116 ydh yjX ykj x=yb8 x:=by kernel_rfl
def yxZ (x:(yj5).X):Nat:=(fun (u0:List dM) (u1:List dM)=>18446744073709551616) x.1.1.1 x.1.2.1.1
def yrf (x:(yj5).X):Option ((yjX).X ⊕ (ykj).X):=zr yb8 (yxZ x) (yxJ x)
def yyl:Seg:=⟨yj5,yjX,ykj,yrf⟩
def yA3:Nat→Option Seg:=fun q=>bif Nat.beq q 29 then some yyl else yA2 q
theorem yKJ:FrOk Tryz.prog ⟨yqt,27,yA3⟩ ykY:=(yKI).loop (sg:=yyl) ydh yxJ (by decide) yJ8 yb8 yxZ (by decide) (fun _=>rfl) (fun x r _ h=>h) yMD
abbrev ygk:List Par:= [.rd tMs,.rd tMs]
abbrev yqP:List OT:= [⟨false,tB,.fz⟩]
def ymV (a0:List dM) (a1:List dM):Option (ResD yqP×MutD ygk) :=
  bif ((a0.length:Int) !=(a1.length:Int)) then
    some ((false,()),())
  else
    zjw (yrf (((a0,()),(a1,()),((),()),()),(),())) (fun y2 =>
      some ((true,()),())) (fun y2 =>
      some ((y2.1.1.1,()),()))
theorem ySO (x:InD ygk):zjH ⟨yqt,27,yA3⟩ Tryz.f40.results.toList ykY ygk yqP x=ymV x.1 x.2.1:=by kernel_rfl
theorem yO9:ConOk Tryz.prog 40 ⟨ygk,yqP,fun x=>ymV x.1 x.2.1⟩:=zkh (yKJ) Tryz.func40 (by kernel_rfl) (by kernel_rfl) Tryz.ntmps40.symm (by decide) (fun x r h=>(ySO x).trans h)
def yex (a0 a1:List (dM)):Bool:=decide (a0=a1)
theorem yQ9 (a0 a1:List (dM)) (hk:zi9 ygk (a0,a1,())):ymV a0 a1=(fun n=>some ((n,()),())) (yex a0 a1):=by
  have hb:a0.length * 80≤2 ^ 47:=hk.1.1
  unfold ymV yex
  by_cases h:a0.length=a1.length
  · have hl:yrf (((a0,()),(a1,()),((),()),()),(),())=some (bif decide (a0=a1) then .inl ((),(),()) else .inr (((false,()),()),(),())) :=
      zkF (step:=yb8) a0 a1 (([],[],false,[]):dM) (fun i=>(((a0,()),(a1,()),((i:Int),()),()),(),())) ydW yDi _ _ h (fun i hi=>by
        simp only [yb8,ypV,zkO (h ▸ hi),zkO hi,zjW,Int.toNat_natCast,zjI (show (i:Int) < a0.length by omega),cond_true,wr (show -9223372036854775808≤(i:Int)+1 by omega) (by omega),Int.natCast_add,Int.natCast_one,zkV]
        cases ydW (a0.getD i ([],[],false,[])) (a1.getD i ([],[],false,[]))<;>rfl) (by simp only [yb8,ypV,zkm (Int.le_refl _),cond_false]) _ (by show _ < 18446744073709551616; omega)
    rw [show ((a0.length:Int) !=(a1.length:Int))=false by simp [h],zkX,hl]
    cases decide (a0=a1)<;>rfl
  · rw [show ((a0.length:Int) !=(a1.length:Int))=true from bne_iff_ne.2 (by omega),zkY,decide_eq_false (fun e=>h (congrArg _ e))]
theorem yB1 (a0 a1:List (dM)):yex a0 a1=decide (a0=a1):=rfl
def yBQ:Con:=⟨ygk,yqP,fun x=>(fun n=>some ((n,()),())) (yex x.1 x.2.1)⟩
theorem yR3:ConOk Tryz.prog 40 yBQ:=(yO9).mono (fun x r hk h=>(yQ9 x.1 x.2.1 hk).trans h)
theorem yWi (a:List dM):yex a a=true:=by rw [yB1]; exact decide_eq_true rfl
end
section
def yFi:Code:=(Tryz.f70.body).getD .skip
def yFJ:Env:=zki TT [] []
theorem yN2:FrOk Tryz.prog ⟨yFJ,15,fun _=>none⟩ yFi:=zkp yb yc trivial
def yP9:Nat→Option Seg:=fun _=>none
abbrev yny:List Par:= [.rd tG,.rd tG]
abbrev ysF:List OT:= [⟨false,tB,.fz⟩]
def yuL (a0:dG) (a1:dG):Option (ResD ysF×MutD yny) :=
  bif (a0.1 !=a1.1) then
    some ((false,()),())
  else
    bif (a0.2 !=a1.2) then
      some ((false,()),())
    else
      some ((true,()),())
theorem yUs (x:InD yny):zjH ⟨yFJ,15,yP9⟩ Tryz.f70.results.toList yFi yny ysF x=yuL x.1 x.2.1:=by kernel_rfl
theorem yRC:ConOk Tryz.prog 70 ⟨yny,ysF,fun x=>yuL x.1 x.2.1⟩:=zkh (yN2) Tryz.func70 (by kernel_rfl) (by kernel_rfl) Tryz.ntmps70.symm (by decide) (fun x r h=>(yUs x).trans h)
def yfU (a0:dG) (a1:dG):Bool :=
  bif (a0.1 !=a1.1) then
    false
  else
    bif (a0.2 !=a1.2) then
      false
    else
      true
def yCZ:Con:=⟨yny,ysF,fun x=>(fun n=>some ((n,()),())) (yfU x.1 x.2.1)⟩
theorem yTm (a0:dG) (a1:dG):yuL a0 a1=(fun n=>some ((n,()),())) (yfU a0 a1):=zkS (p:=fun (n:Bool)=>((n,()),())) (zkx (p:=fun (n:Bool)=>((n,()),())) rfl (zkx (p:=fun (n:Bool)=>((n,()),())) rfl rfl))
theorem yTS:ConOk Tryz.prog 70 yCZ:=(yRC).mono (fun x r _ h=>(yTm x.1 x.2.1).trans h)
theorem yDh (a b:dG):yfU a b=decide (a=b):=by
  unfold yfU
  simp only [zkz,zkA,zkB,zkC,zkD,Prod.ext_iff,Bool.decide_and,Bool.and_true]
theorem yWp (a:dG):yfU a a=true:=by rw [yDh]; exact decide_eq_true rfl
end
section
def yFh:Code:=(Tryz.f146.body).getD .skip
def yFI:Env:=zki TT [(17,yhM)] []
theorem yN1:FrOk Tryz.prog ⟨yFI,16,fun _=>none⟩ yFh:=zkp yb yc ⟨yo6,trivial⟩
def yP8:Nat→Option Seg:=fun _=>none
abbrev ynx:List Par:= [.rd tW,.rd tW]
abbrev ysE:List OT:= [⟨false,tB,.fz⟩]
def yuK (a0:dW) (a1:dW):Option (ResD ysE×MutD ynx) :=
  bif (a0.1 !=a1.1) then
    some ((false,()),())
  else
    let r1:=yA a0.2 a1.2
    bif (!r1) then
      some ((false,()),())
    else
      some ((true,()),())
theorem yUr (x:InD ynx):zjH ⟨yFI,16,yP8⟩ Tryz.f146.results.toList yFh ynx ysE x=yuK x.1 x.2.1:=by kernel_rfl
theorem yRB:ConOk Tryz.prog 146 ⟨ynx,ysE,fun x=>yuK x.1 x.2.1⟩:=zkh (yN1) Tryz.func146 (by kernel_rfl) (by kernel_rfl) Tryz.ntmps146.symm (by decide) (fun x r h=>(yUr x).trans h)
def ydV (a0:dW) (a1:dW):Bool :=
  bif (a0.1 !=a1.1) then
    false
  else
    let r1:=yA a0.2 a1.2
    bif (!r1) then
      false
    else
      true
def yCY:Con:=⟨ynx,ysE,fun x=>(fun n=>some ((n,()),())) (ydV x.1 x.2.1)⟩
theorem yTl (a0:dW) (a1:dW):yuK a0 a1=(fun n=>some ((n,()),())) (ydV a0 a1):=zkS (p:=fun (n:Bool)=>((n,()),())) (zkx (p:=fun (n:Bool)=>((n,()),())) rfl (zkx (p:=fun (n:Bool)=>((n,()),())) rfl rfl))
theorem yTR:ConOk Tryz.prog 146 yCY:=(yRB).mono (fun x r _ h=>(yTl x.1 x.2.1).trans h)
theorem yDg (a b:dW):ydV a b=decide (a=b):=by
  unfold ydV
  simp only [zkz,zkA,zkB,zkC,zkD,yhP,Prod.ext_iff,Bool.decide_and,Bool.and_true]
theorem yWo (a:dW):ydV a a=true:=by rw [yDg]; exact decide_eq_true rfl
end
section
def ykW:Code:=(Tryz.f71.body).getD .skip
def yqr:Env:=zki TT [(146,yCY)] []
theorem yKE:FrOk Tryz.prog ⟨yqr,27,fun _=>none⟩ ykW:=zkp yb yc ⟨yTR,trivial⟩
def yAY:Nat→Option Seg:=fun _=>none
def ydf:Shape:=⟨[(0,false,[.br tW]),(1,false,[.br tW]),(5,false,[.int .i64])],[],[]⟩
def yj3:Shape:=⟨[(0,false,[.br tW]),(1,false,[.br tW]),(5,false,[.ci .i64 0])],[],[]⟩
def yjV:Shape:=⟨[],[],[]⟩
def ykh:Shape:=⟨[(4,false,[.bool])],[],[]⟩
def ypT (v0:List dW) (v1:List dW) (v2:Int):Option ((ydf).X ⊕ ((yjV).X ⊕ (ykh).X)) :=
  bif (ltb v2 (v0.length:Int)) then
    bif (inb v2 v0.length) then
      bif (inb v2 v1.length) then
        let r2:=ydV (nth v0 v2 (0,[])) (nth v1 v2 (0,[]))
        bif (!r2) then
          some (.inr (.inr (((false,()),()),(),())))
        else
          some (.inl (((v0,()),(v1,()),((IntKind.i64.wrap (v2+1)),()),()),(),()))
      else none
    else none
  else
    some (.inr (.inl ((),(),())))
def yb6 (x:(ydf).X):=ypT x.1.1.1 x.1.2.1.1 x.1.2.2.1.1
def yxH (x:(yj3).X):(ydf).X:=(((x.1.1.1,()),(x.1.2.1.1,()),(0,()),()),(),())
def yzn:Code:=(zdI ykW 64 116).getD .skip
theorem yJ6:zdI ykW 64 29=some (.block 0 (.loop yzn)):=by kernel_rfl
theorem yMB (x:(ydf).X):zg7 ⟨yqr,27,yAY⟩ 0 yzn 116 ydf yjV ykh x=yb6 x:=by kernel_rfl
def yxX (x:(yj3).X):Nat:=(fun (u0:List dW) (u1:List dW)=>18446744073709551616) x.1.1.1 x.1.2.1.1
def yrd (x:(yj3).X):Option ((yjV).X ⊕ (ykh).X):=zr yb6 (yxX x) (yxH x)
def yyj:Seg:=⟨yj3,yjV,ykh,yrd⟩
def yAZ:Nat→Option Seg:=fun q=>bif Nat.beq q 29 then some yyj else yAY q
theorem yKF:FrOk Tryz.prog ⟨yqr,27,yAZ⟩ ykW:=(yKE).loop (sg:=yyj) ydf yxH (by decide) yJ6 yb6 yxX (by decide) (fun _=>rfl) (fun x r _ h=>h) yMB
abbrev ygi:List Par:= [.rd tWs,.rd tWs]
abbrev yqN:List OT:= [⟨false,tB,.fz⟩]
def ymT (a0:List dW) (a1:List dW):Option (ResD yqN×MutD ygi) :=
  bif ((a0.length:Int) !=(a1.length:Int)) then
    some ((false,()),())
  else
    zjw (yrd (((a0,()),(a1,()),((),()),()),(),())) (fun y2 =>
      some ((true,()),())) (fun y2 =>
      some ((y2.1.1.1,()),()))
theorem ySM (x:InD ygi):zjH ⟨yqr,27,yAZ⟩ Tryz.f71.results.toList ykW ygi yqN x=ymT x.1 x.2.1:=by kernel_rfl
theorem yO7:ConOk Tryz.prog 71 ⟨ygi,yqN,fun x=>ymT x.1 x.2.1⟩:=zkh (yKF) Tryz.func71 (by kernel_rfl) (by kernel_rfl) Tryz.ntmps71.symm (by decide) (fun x r h=>(ySM x).trans h)
def yew (a0 a1:List (dW)):Bool:=decide (a0=a1)
theorem yQ7 (a0 a1:List (dW)) (hk:zi9 ygi (a0,a1,())):ymT a0 a1=(fun n=>some ((n,()),())) (yew a0 a1):=by
  have hb:a0.length * 32≤2 ^ 47:=hk.1.1
  unfold ymT yew
  by_cases h:a0.length=a1.length
  · have hl:yrd (((a0,()),(a1,()),((),()),()),(),())=some (bif decide (a0=a1) then .inl ((),(),()) else .inr (((false,()),()),(),())) :=
      zkF (step:=yb6) a0 a1 ((0,[]):dW) (fun i=>(((a0,()),(a1,()),((i:Int),()),()),(),())) ydV yDg _ _ h (fun i hi=>by
        simp only [yb6,ypT,zkO (h ▸ hi),zkO hi,zjW,Int.toNat_natCast,zjI (show (i:Int) < a0.length by omega),cond_true,wr (show -9223372036854775808≤(i:Int)+1 by omega) (by omega),Int.natCast_add,Int.natCast_one,zkV]
        cases ydV (a0.getD i (0,[])) (a1.getD i (0,[]))<;>rfl) (by simp only [yb6,ypT,zkm (Int.le_refl _),cond_false]) _ (by show _ < 18446744073709551616; omega)
    rw [show ((a0.length:Int) !=(a1.length:Int))=false by simp [h],zkX,hl]
    cases decide (a0=a1)<;>rfl
  · rw [show ((a0.length:Int) !=(a1.length:Int))=true from bne_iff_ne.2 (by omega),zkY,decide_eq_false (fun e=>h (congrArg _ e))]
theorem yB0 (a0 a1:List (dW)):yew a0 a1=decide (a0=a1):=rfl
def yBP:Con:=⟨ygi,yqN,fun x=>(fun n=>some ((n,()),())) (yew x.1 x.2.1)⟩
theorem yR2:ConOk Tryz.prog 71 yBP:=(yO7).mono (fun x r hk h=>(yQ7 x.1 x.2.1 hk).trans h)
theorem yWg (a:List dW):yew a a=true:=by rw [yB0]; exact decide_eq_true rfl
end
section
def yFg:Code:=(Tryz.f18.body).getD .skip
def yFH:Env:=zki TT [(40,yBQ),(70,yCZ),(71,yBP)] []
theorem yN0:FrOk Tryz.prog ⟨yFH,68,fun _=>none⟩ yFg:=zkp yb yc ⟨yR3,yTS,yR2,trivial⟩
def yP7:Nat→Option Seg:=fun _=>none
abbrev ynw:List Par:= [.rd tA,.rd tA]
abbrev ysD:List OT:= [⟨false,tB,.fz⟩]
def yuJ (a0:dA) (a1:dA):Option (ResD ysD×MutD ynw) :=
  bif (a0.1 !=a1.1) then
    some ((false,()),())
  else
    let r1:=yfU a0.2.1 a1.2.1
    bif (!r1) then
      some ((false,()),())
    else
      let r2:=yex a0.2.2.1 a1.2.2.1
      bif (!r2) then
        some ((false,()),())
      else
        bif (a0.2.2.2.1 !=a1.2.2.2.1) then
          some ((false,()),())
        else
          bif (a0.2.2.2.2.1 !=a1.2.2.2.2.1) then
            some ((false,()),())
          else
            bif (a0.2.2.2.2.2.1 !=a1.2.2.2.2.2.1) then
              some ((false,()),())
            else
              bif (a0.2.2.2.2.2.2.1 !=a1.2.2.2.2.2.2.1) then
                some ((false,()),())
              else
                bif (a0.2.2.2.2.2.2.2.1 !=a1.2.2.2.2.2.2.2.1) then
                  some ((false,()),())
                else
                  let r3:=yew a0.2.2.2.2.2.2.2.2.1 a1.2.2.2.2.2.2.2.2.1
                  bif (!r3) then
                    some ((false,()),())
                  else
                    bif (a0.2.2.2.2.2.2.2.2.2.1 !=a1.2.2.2.2.2.2.2.2.2.1) then
                      some ((false,()),())
                    else
                      bif (!(a0.2.2.2.2.2.2.2.2.2.2.1==a1.2.2.2.2.2.2.2.2.2.2.1)) then
                        some ((false,()),())
                      else
                        bif (!(a0.2.2.2.2.2.2.2.2.2.2.2==a1.2.2.2.2.2.2.2.2.2.2.2)) then
                          some ((false,()),())
                        else
                          some ((true,()),())
theorem yUq (x:InD ynw):zjH ⟨yFH,68,yP7⟩ Tryz.f18.results.toList yFg ynw ysD x=yuJ x.1 x.2.1:=by kernel_rfl
theorem yRA:ConOk Tryz.prog 18 ⟨ynw,ysD,fun x=>yuJ x.1 x.2.1⟩:=zkh (yN0) Tryz.func18 (by kernel_rfl) (by kernel_rfl) Tryz.ntmps18.symm (by decide) (fun x r h=>(yUq x).trans h)
def ycy (a0:dA) (a1:dA):Bool :=
  bif (a0.1 !=a1.1) then
    false
  else
    let r1:=yfU a0.2.1 a1.2.1
    bif (!r1) then
      false
    else
      let r2:=yex a0.2.2.1 a1.2.2.1
      bif (!r2) then
        false
      else
        bif (a0.2.2.2.1 !=a1.2.2.2.1) then
          false
        else
          bif (a0.2.2.2.2.1 !=a1.2.2.2.2.1) then
            false
          else
            bif (a0.2.2.2.2.2.1 !=a1.2.2.2.2.2.1) then
              false
            else
              bif (a0.2.2.2.2.2.2.1 !=a1.2.2.2.2.2.2.1) then
                false
              else
                bif (a0.2.2.2.2.2.2.2.1 !=a1.2.2.2.2.2.2.2.1) then
                  false
                else
                  let r3:=yew a0.2.2.2.2.2.2.2.2.1 a1.2.2.2.2.2.2.2.2.1
                  bif (!r3) then
                    false
                  else
                    bif (a0.2.2.2.2.2.2.2.2.2.1 !=a1.2.2.2.2.2.2.2.2.2.1) then
                      false
                    else
                      bif (!(a0.2.2.2.2.2.2.2.2.2.2.1==a1.2.2.2.2.2.2.2.2.2.2.1)) then
                        false
                      else
                        bif (!(a0.2.2.2.2.2.2.2.2.2.2.2==a1.2.2.2.2.2.2.2.2.2.2.2)) then
                          false
                        else
                          true
def yCX:Con:=⟨ynw,ysD,fun x=>(fun n=>some ((n,()),())) (ycy x.1 x.2.1)⟩
theorem yTk (a0:dA) (a1:dA):yuJ a0 a1=(fun n=>some ((n,()),())) (ycy a0 a1):=zkS (p:=fun (n:Bool)=>((n,()),())) (zkx (p:=fun (n:Bool)=>((n,()),())) rfl (zkx (p:=fun (n:Bool)=>((n,()),())) rfl (zkx (p:=fun (n:Bool)=>((n,()),())) rfl (zkx (p:=fun (n:Bool)=>((n,()),())) rfl (zkx (p:=fun (n:Bool)=>((n,()),())) rfl (zkx (p:=fun (n:Bool)=>((n,()),())) rfl (zkx (p:=fun (n:Bool)=>((n,()),())) rfl (zkx (p:=fun (n:Bool)=>((n,()),())) rfl (zkx (p:=fun (n:Bool)=>((n,()),())) rfl (zkx (p:=fun (n:Bool)=>((n,()),())) rfl (zkx (p:=fun (n:Bool)=>((n,()),())) rfl (zkx (p:=fun (n:Bool)=>((n,()),())) rfl rfl))))))))))))
theorem yTQ:ConOk Tryz.prog 18 yCX:=(yRA).mono (fun x r _ h=>(yTk x.1 x.2.1).trans h)
theorem yQM (a b:dA):ycy a b=decide (a=b):=by
  unfold ycy
  simp only [zkz,zkA,zkB,zkC,zkD,yB1,yDh,yB0,Prod.ext_iff,Bool.decide_and,Bool.and_true]
theorem yQN (a:dA):ycy a a=true:=by rw [yQM]; exact decide_eq_true rfl
end
section
def ygL:Code:=(Tryz.f20.body).getD .skip
def yl9:Env:=zki TT [] []
theorem yGH:FrOk Tryz.prog ⟨yl9,19,fun _=>none⟩ ygL:=zkp yb yc trivial
def yw2:Nat→Option Seg:=fun _=>none
def ybU:Shape:=⟨[(0,false,[.at 1000001000]),(1,false,[.int .i64]),(5,false,[.int .i64])],[],[(1000001000,tI,.fz)]⟩
def yhj:Shape:=⟨[(0,false,[.at 1000001000]),(1,false,[.int .i64]),(5,false,[.ci .i64 0])],[],[(1000001000,tI,.fz)]⟩
def yg4:Shape:=⟨[(1,false,[.int .i64])],[],[(1000001000,tI,.fz)]⟩
def yhG:Shape:=⟨[],[],[]⟩
def ylV (v0:Int) (v1:Int) (v2:List Int):Option ((ybU).X ⊕ ((yg4).X ⊕ (yhG).X)) :=
  bif (ltb v1 (v2.length:Int)) then
    bif (inb v1 v2.length) then
      some (.inl ((((),()),((IntKind.i64.wrap (v0+1)),()),((IntKind.i64.wrap (v1+1)),()),()),(),((v2.set (v1).toNat v0),())))
    else none
  else
    some (.inr (.inl (((v0,()),()),(),(v2,()))))
def yaV (x:(ybU).X):=ylV x.1.2.1.1 x.1.2.2.1.1 x.2.2.1
def ytQ (x:(yhj).X):(ybU).X:=((((),()),(x.1.2.1.1,()),(0,()),()),(),(x.2.2.1,()))
def yvo:Code:=(zdI ygL 64 52).getD .skip
theorem yF8:zdI ygL 64 13=some (.block 0 (.loop yvo)):=by kernel_rfl
theorem yHv (x:(ybU).X):zg7 ⟨yl9,19,yw2⟩ 0 yvo 52 ybU yg4 yhG x=yaV x:=by kernel_rfl
def yt3 (x:(yhj).X):Nat:=(fun (u0:Int) (u1:List Int)=>18446744073709551616) x.1.2.1.1 x.2.2.1
def ynq (x:(yhj).X):Option ((yg4).X ⊕ (yhG).X):=zr yaV (yt3 x) (ytQ x)
def yuk:Seg:=⟨yhj,yg4,yhG,ynq⟩
def yw3:Nat→Option Seg:=fun q=>bif Nat.beq q 13 then some yuk else yw2 q
theorem yGI:FrOk Tryz.prog ⟨yl9,19,yw3⟩ ygL:=(yGH).loop (sg:=yuk) ybU ytQ (by decide) yF8 yaV yt3 (by decide) (fun _=>rfl) (fun x r _ h=>h) yHv
abbrev yec:List Par:= [.mt tL (.ow .fz),.rd tI]
abbrev ymt:List OT:= [⟨false,tI,.fz⟩]
def yiV (a0:List Int) (a1:Int):Option (ResD ymt×MutD yec) :=
  zjw (ynq ((((),()),(a1,()),((),()),()),(),(a0,()))) (fun y0 =>
    some ((y0.1.1.1,()),(y0.2.2.1,()))) (fun y0 =>
    none)
theorem yNC (x:InD yec):zjH ⟨yl9,19,yw3⟩ Tryz.f20.results.toList ygL yec ymt x=yiV x.1 x.2.1:=by kernel_rfl
theorem yJg:ConOk Tryz.prog 20 ⟨yec,ymt,fun x=>yiV x.1 x.2.1⟩:=zkh (yGI) Tryz.func20 (by kernel_rfl) (by kernel_rfl) Tryz.ntmps20.symm (by decide) (fun x r h=>(yNC x).trans h)
def yf9 (k:Int):Nat→List Int
  | 0=> []
  | n+1=>k::yf9 (IntKind.i64.wrap (k+1)) n
def yx (k:Int):Nat→Int
  | 0=>k
  | n+1=>yx (IntKind.i64.wrap (k+1)) n
theorem yr4: ∀ (n:Nat) (k:Int),(yf9 k n).length=n
  | 0,_=>rfl
  | n+1,k=>by simp [yf9,yr4 n]
theorem yOx: ∀ (n:Nat) (k:Int),yf9 k (n+1)=yf9 k n++ [yx k n]
  | 0,_=>rfl
  | n+1,k=>by rw [yf9,yOx n]; rfl
theorem yAl: ∀ (n:Nat) (k:Int),yx k (n+1)=IntKind.i64.wrap (yx k n+1)
  | 0,_=>rfl
  | n+1,k=>by rw [yx,yAl n]; rfl
def yH (a0:List Int) (a1:Int):Int×List Int:=(yx a1 a0.length,yf9 a1 a0.length)
theorem yLQ (a0:List Int) (a1:Int) (hk:zi9 yec (a0,a1,())):yiV a0 a1=(fun n=>some ((n.1,()),(n.2,()))) (yH a0 a1):=by
  have hb:a0.length * 8≤2 ^ 47:=hk.1.1
  have hs: ∀ i,i < a0.length→(yf9 a1 i++a0.drop i).set i (yx a1 i)=yf9 a1 (i+1)++a0.drop (i+1):=fun i hi=>by
    rw [List.set_append_right _ _ (by rw [yr4]; exact Nat.le_refl _),yr4,Nat.sub_self,yOx,List.append_assoc,List.drop_eq_getElem_cons hi]; rfl
  have hl:ynq ((((),()),(a1,()),((),()),()),(),(a0,()))=some (.inl (((yx a1 a0.length,()),()),(),(yf9 a1 a0.length++a0.drop a0.length,()))) :=
    zjs (step:=yaV) (fun i=>((((),()),(yx a1 i,()),((i:Int),()),()),(),(yf9 a1 i++a0.drop i,()))) a0.length _ (fun i hi=>by
      have hL:(yf9 a1 i++a0.drop i).length=a0.length:=by rw [List.length_append,yr4,List.length_drop]; omega
      simp only [yaV,ylV,hL,zkO hi,zjI (show (i:Int) < a0.length by omega),cond_true,wr (show -9223372036854775808≤(i:Int)+1 by omega) (by omega),Int.natCast_add,Int.natCast_one,yAl,Int.toNat_natCast,hs i hi]) (by
      have hL:(yf9 a1 a0.length++a0.drop a0.length).length=a0.length:=by rw [List.length_append,yr4,List.length_drop]; omega
      simp only [yaV,ylV,hL,zkm (Int.le_refl _),cond_false]) _ (by show _ < 18446744073709551616; omega)
  rw [List.drop_length,List.append_nil]at hl
  unfold yiV
  rw [hl]
  rfl
def yeX:Con:=⟨yec,ymt,fun x=>(fun n=>some ((n.1,()),(n.2,()))) (yH x.1 x.2.1)⟩
theorem ykC:ConOk Tryz.prog 20 yeX:=(yJg).mono (fun x r hk h=>(yLQ x.1 x.2.1 hk).trans h)
theorem yoZ: ∀ (n:Nat) (k:Int),0≤k→k+n≤9223372036854775807→yx k n=k+n
  | 0,k,_,_=>by simp [yx]
  | n+1,k,h,h2=>by
    rw [yx,wr (by omega) (by omega),yoZ n (k+1) (by omega) (by omega)]; omega
theorem yVy {n:Nat} (h:n≤4611686018427387903): ¬ yx 1 n < 0:=by rw [yoZ n 1 (by omega) (by omega)]; omega
theorem yXg {n:Nat} (h:n≤4611686018427387903):ltb (yx 1 n) 0=false:=zkm (Int.not_lt.1 (yVy h))
end
end
end Go.Tf
