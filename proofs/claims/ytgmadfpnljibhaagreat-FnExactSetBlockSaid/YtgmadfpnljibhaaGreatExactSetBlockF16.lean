/- Functions of the program, and what they come to. -/
import Derived.Test.YtgmadfpnljibhaaGreatExactSetBlockF15
namespace Go.Tf
noncomputable section
open Go.Proofs
set_option synthInstance.maxHeartbeats 400000
set_option synthInstance.maxSize 10000
set_option linter.unusedVariables false
set_option linter.unusedSimpArgs false
set_option maxRecDepth 100000
section
def yCH:Code:=(Tryz.f192.body).getD .skip
def yC2:Env:=zki TT [] []
theorem yKQ:FrOk Tryz.prog ⟨yC2,15,fun _=>none⟩ yCH:=zkp yb yc trivial
def yM4:Nat→Option Seg:=fun _=>none
abbrev ylI:List Par:= [.rd tG,.rd tG]
abbrev yqN:List OT:= [⟨false,tB,.fz⟩]
def ysr (a0 a1:dG):Option (ResD yqN×MutD ylI) :=
 bif (a0.1 !=a1.1) then
 some ((false,()),())
 else
 bif (a0.2 !=a1.2) then
 some ((false,()),())
 else
 some ((true,()),())
theorem yRs (x:InD ylI):zjH ⟨yC2,15,yM4⟩ Tryz.f192.results.toList yCH ylI yqN x=ysr x.1 x.2.1:=by kernel_rfl
theorem yOD:ConOk Tryz.prog 192 ⟨ylI,yqN,fun x=>ysr x.1 x.2.1⟩:=zkh (yKQ) Tryz.func192 (by kernel_rfl) (by kernel_rfl) Tryz.ntmps192.symm (by decide) (fun x r h=>(yRs x).trans h)
def yeY (a0 a1:dG):Bool :=
 bif (a0.1 !=a1.1) then
 false
 else
 bif (a0.2 !=a1.2) then
 false
 else
 true
def yAy:Con:=⟨ylI,yqN,fun x=>(fun n=>some ((n,()),())) (yeY x.1 x.2.1)⟩
theorem yQu (a0 a1:dG):ysr a0 a1=(fun n=>some ((n,()),())) (yeY a0 a1):=zkS (p:=fun (n:Bool)=>((n,()),())) (zkx (p:=fun (n:Bool)=>((n,()),())) rfl (zkx (p:=fun (n:Bool)=>((n,()),())) rfl rfl))
theorem yQZ:ConOk Tryz.prog 192 yAy:=(yOD).mono (fun x r _ h=>(yQu x.1 x.2.1).trans h)
theorem yAR (a b:dG):yeY a b=decide (a=b):=by
 unfold yeY
 simp only [zkz,zkA,zkB,zkC,zkD,Prod.ext_iff,Bool.decide_and,Bool.and_true]
theorem yTn (a:dG):yeY a a=true:=by rw [yAR]; exact decide_eq_true rfl
end
section
def yjt:Code:=(Tryz.f285.body).getD .skip
def yov:Env:=zki TT [] []
theorem yHs:FrOk Tryz.prog ⟨yov,26,fun _=>none⟩ yjt:=zkp yb yc trivial
def yyi:Nat→Option Seg:=fun _=>none
def ycB:Shape:=⟨[(0,false,[.br tI]),(1,false,[.br tI]),(5,false,[.int .i64])],[],[]⟩
def yiI:Shape:=⟨[(0,false,[.br tI]),(1,false,[.br tI]),(5,false,[.ci .i64 0])],[],[]⟩
def yiA:Shape:=⟨[],[],[]⟩
def yiU:Shape:=⟨[(4,false,[.bool])],[],[]⟩
def yn1 (v0 v1:List Int) (v2:Int):Option ((ycB).X ⊕ ((yiA).X ⊕ (yiU).X)) :=
 bif (ltb v2 (v0.length:Int)) then
 bif (inb v2 v0.length) then
 bif (inb v2 v1.length) then
 bif ((nth v0 v2 0) !=(nth v1 v2 0)) then
 some (.inr (.inr (((false,()),()),(),())))
 else
 some (.inl (((v0,()),(v1,()),((IntKind.i64.wrap (v2+1)),()),()),(),()))
 else none
 else none
 else
 some (.inr (.inl ((),(),())))
def ybC (x:(ycB).X):=yn1 x.1.1.1 x.1.2.1.1 x.1.2.2.1.1
def yu1 (x:(yiI).X):(ycB).X:=(((x.1.1.1,()),(x.1.2.1.1,()),(0,()),()),(),())
def ywy:Code:=(zdI yjt 64 116).getD .skip
theorem yGV:zdI yjt 64 29=some (.block 0 (.loop ywy)):=by kernel_rfl
theorem yJm (x:(ycB).X):zg7 ⟨yov,26,yyi⟩ 0 ywy 116 ycB yiA yiU x=ybC x:=by kernel_rfl
def yvg (x:(yiI).X):Nat:=18446744073709551616
def ypl (x:(yiI).X):Option ((yiA).X ⊕ (yiU).X):=zr ybC (yvg x) (yu1 x)
def yvy:Seg:=⟨yiI,yiA,yiU,ypl⟩
def yyj:Nat→Option Seg:=fun q=>bif Nat.beq q 29 then some yvy else yyi q
theorem yHt:FrOk Tryz.prog ⟨yov,26,yyj⟩ yjt:=(yHs).loop (sg:=yvy) ycB yu1 (by decide) yGV ybC yvg (by decide) (fun _=>rfl) (fun x r _ h=>h) yJm
abbrev yfi:List Par:= [.rd tL,.rd tL]
abbrev yoP:List OT:= [⟨false,tB,.fz⟩]
def yk9 (a0 a1:List Int):Option (ResD yoP×MutD yfi) :=
 bif ((a0.length:Int) !=(a1.length:Int)) then
 some ((false,()),())
 else
 zjw (ypl (((a0,()),(a1,()),((),()),()),(),())) (fun y0 =>
 some ((true,()),())) (fun y0 =>
 some ((y0.1.1.1,()),()))
theorem yPW (x:InD yfi):zjH ⟨yov,26,yyj⟩ Tryz.f285.results.toList yjt yfi yoP x=yk9 x.1 x.2.1:=by kernel_rfl
theorem yLX:ConOk Tryz.prog 285 ⟨yfi,yoP,fun x=>yk9 x.1 x.2.1⟩:=zkh (yHt) Tryz.func285 (by kernel_rfl) (by kernel_rfl) Tryz.ntmps285.symm (by decide) (fun x r h=>(yPW x).trans h)
def yz (a0 a1:List Int):Bool:=decide (a0=a1)
theorem yN7 (a0 a1:List Int) (hk:zi9 yfi (a0,a1,())):yk9 a0 a1=(fun n=>some ((n,()),())) (yz a0 a1):=by
 have hb:a0.length * 8≤2 ^ 47:=hk.1.1
 have hl:a0.length=a1.length→ypl (((a0,()),(a1,()),((),()),()),(),())=some (bif (List.range a0.length).any (fun i=>a0.getD i 0 !=a1.getD i 0) then .inr (((false,()),()),(),()) else .inl ((),(),())):=fun hL =>
  zf4 (step:=ybC) (fun i=>(((a0,()),(a1,()),((i:Int),()),()),(),())) a0.length (fun i=>a0.getD i 0 !=a1.getD i 0) _ _ (fun i hi=>by
   simp only [ybC,yn1,zkO hi,zkO (hL ▸ hi),zjW,zjI (show (i:Int) < a0.length by omega),cond_true,wr (show -9223372036854775808≤(i:Int)+1 by omega) (by omega),Int.natCast_add,Int.natCast_one]
   cases (a0.getD i 0 !=a1.getD i 0)<;>rfl) (by simp only [ybC,yn1,zkm (Int.le_refl _),cond_false]) _ (by show _ < 18446744073709551616; omega)
 unfold yk9 yz
 by_cases h:a0.length=a1.length
 ·rw [show ((a0.length:Int) !=(a1.length:Int))=false by simp [h],zkX,hl h]
  by_cases e:a0=a1
  ·subst e
   have:(List.range a0.length).any (fun i=>a0.getD i 0 !=a0.getD i 0)=false:=by simp
   rw [this,decide_eq_true rfl]
   rfl
  ·have:(List.range a0.length).any (fun i=>a0.getD i 0 !=a1.getD i 0)=true:=by
    rcases Bool.eq_false_or_eq_true ((List.range a0.length).any (fun i=>a0.getD i 0 !=a1.getD i 0)) with h2 | h2
    ·exact h2
    ·refine absurd (List.ext_getElem h fun i h3 h4=> ?_) e
     rw [List.any_eq_false]at h2
     have:=h2 i (List.mem_range.2 h3)
     simpa [h3,h4] using this
   rw [this,decide_eq_false e]
   rfl
 ·rw [show ((a0.length:Int) !=(a1.length:Int))=true from bne_iff_ne.2 (by omega),zkY,decide_eq_false (fun e=>h (congrArg _ e))]
theorem ygB (a b:List Int):yz a b=decide (a=b):=rfl
def ygy:Con:=⟨yfi,yoP,fun x=>(fun n=>some ((n,()),())) (yz x.1 x.2.1)⟩
theorem ynf:ConOk Tryz.prog 285 ygy:=(yLX).mono (fun x r hk h=>(yN7 x.1 x.2.1 hk).trans h)
theorem yTe (a:List Int):yz a a=true:=by rw [ygB]; exact decide_eq_true rfl
end
section
def yhI:Code:=(Tryz.f283.body).getD .skip
def ymF:Env:=zki TT [(285,ygy)] []
theorem yFh:FrOk Tryz.prog ⟨ymF,27,fun _=>none⟩ yhI:=zkp yb yc ⟨ynf,trivial⟩
def ywa:Nat→Option Seg:=fun _=>none
def yb7:Shape:=⟨[(0,false,[.br tL]),(1,false,[.br tL]),(5,false,[.int .i64])],[],[]⟩
def yg0:Shape:=⟨[(0,false,[.br tL]),(1,false,[.br tL]),(5,false,[.ci .i64 0])],[],[]⟩
def ygT:Shape:=⟨[],[],[]⟩
def yhc:Shape:=⟨[(4,false,[.bool])],[],[]⟩
def ymq (v0 v1:List (List Int)) (v2:Int):Option ((yb7).X ⊕ ((ygT).X ⊕ (yhc).X)) :=
 bif (ltb v2 (v0.length:Int)) then
 bif (inb v2 v0.length) then
 bif (inb v2 v1.length) then
 let r2:=yz (nth v0 v2 []) (nth v1 v2 [])
 bif (!r2) then
 some (.inr (.inr (((false,()),()),(),())))
 else
 some (.inl (((v0,()),(v1,()),((IntKind.i64.wrap (v2+1)),()),()),(),()))
 else none
 else none
 else
 some (.inr (.inl ((),(),())))
def yaY (x:(yb7).X):=ymq x.1.1.1 x.1.2.1.1 x.1.2.2.1.1
def ytd (x:(yg0).X):(yb7).X:=(((x.1.1.1,()),(x.1.2.1.1,()),(0,()),()),(),())
def yuD:Code:=(zdI yhI 64 116).getD .skip
theorem yER:zdI yhI 64 29=some (.block 0 (.loop yuD)):=by kernel_rfl
theorem yGm (x:(yb7).X):zg7 ⟨ymF,27,ywa⟩ 0 yuD 116 yb7 ygT yhc x=yaY x:=by kernel_rfl
def ytv (x:(yg0).X):Nat:=18446744073709551616
def ynC (x:(yg0).X):Option ((ygT).X ⊕ (yhc).X):=zr yaY (ytv x) (ytd x)
def ytT:Seg:=⟨yg0,ygT,yhc,ynC⟩
def ywb:Nat→Option Seg:=fun q=>bif Nat.beq q 29 then some ytT else ywa q
theorem yFi:FrOk Tryz.prog ⟨ymF,27,ywb⟩ yhI:=(yFh).loop (sg:=ytT) yb7 ytd (by decide) yER yaY ytv (by decide) (fun _=>rfl) (fun x r _ h=>h) yGm
abbrev yel:List Par:= [.rd tLL,.rd tLL]
abbrev ymW:List OT:= [⟨false,tB,.fz⟩]
def yjf (a0 a1:List (List Int)):Option (ResD ymW×MutD yel) :=
 bif ((a0.length:Int) !=(a1.length:Int)) then
 some ((false,()),())
 else
 zjw (ynC (((a0,()),(a1,()),((),()),()),(),())) (fun y2 =>
 some ((true,()),())) (fun y2 =>
 some ((y2.1.1.1,()),()))
theorem yNv (x:InD yel):zjH ⟨ymF,27,ywb⟩ Tryz.f283.results.toList yhI yel ymW x=yjf x.1 x.2.1:=by kernel_rfl
theorem yIT:ConOk Tryz.prog 283 ⟨yel,ymW,fun x=>yjf x.1 x.2.1⟩:=zkh (yFi) Tryz.func283 (by kernel_rfl) (by kernel_rfl) Tryz.ntmps283.symm (by decide) (fun x r h=>(yNv x).trans h)
def ycK (a0 a1:List (List Int)):Bool:=decide (a0=a1)
theorem yLy (a0 a1:List (List Int)) (hk:zi9 yel (a0,a1,())):yjf a0 a1=(fun n=>some ((n,()),())) (ycK a0 a1):=by
 have hb:a0.length * 24≤2 ^ 47:=hk.1.1
 unfold yjf ycK
 by_cases h:a0.length=a1.length
 ·have hl:ynC (((a0,()),(a1,()),((),()),()),(),())=some (bif decide (a0=a1) then .inl ((),(),()) else .inr (((false,()),()),(),())) :=
   zkF (step:=yaY) a0 a1 ([]:List Int) (fun i=>(((a0,()),(a1,()),((i:Int),()),()),(),())) yz ygB _ _ h (fun i hi=>by
    simp only [yaY,ymq,zkO (h ▸ hi),zkO hi,zjW,Int.toNat_natCast,zjI (show (i:Int) < a0.length by omega),cond_true,wr (show -9223372036854775808≤(i:Int)+1 by omega) (by omega),Int.natCast_add,Int.natCast_one,zkV]
    cases yz (a0.getD i []) (a1.getD i [])<;>rfl) (by simp only [yaY,ymq,zkm (Int.le_refl _),cond_false]) _ (by show _ < 18446744073709551616; omega)
  rw [show ((a0.length:Int) !=(a1.length:Int))=false by simp [h],zkX,hl]
  cases decide (a0=a1)<;>rfl
 ·rw [show ((a0.length:Int) !=(a1.length:Int))=true from bne_iff_ne.2 (by omega),zkY,decide_eq_false (fun e=>h (congrArg _ e))]
theorem yxj (a0 a1:List (List Int)):ycK a0 a1=decide (a0=a1):=rfl
def ywU:Con:=⟨yel,ymW,fun x=>(fun n=>some ((n,()),())) (ycK x.1 x.2.1)⟩
theorem yMs:ConOk Tryz.prog 283 ywU:=(yIT).mono (fun x r hk h=>(yLy x.1 x.2.1 hk).trans h)
theorem ySZ (a:List (List Int)):ycK a a=true:=by rw [yxj]; exact decide_eq_true rfl
end
section
def yGw:Code:=(Tryz.f293.body).getD .skip
def yGA:Env:=zki TT [(285,ygy)] []
theorem yNK:FrOk Tryz.prog ⟨yGA,16,fun _=>none⟩ yGw:=zkp yb yc ⟨ynf,trivial⟩
def yPG:Nat→Option Seg:=fun _=>none
abbrev yog:List Par:= [.rd tW,.rd tW]
abbrev ysH:List OT:= [⟨false,tB,.fz⟩]
def yua (a0 a1:dW):Option (ResD ysH×MutD yog) :=
 bif (a0.1 !=a1.1) then
 some ((false,()),())
 else
 let r1:=yz a0.2 a1.2
 bif (!r1) then
 some ((false,()),())
 else
 some ((true,()),())
theorem ySd (x:InD yog):zjH ⟨yGA,16,yPG⟩ Tryz.f293.results.toList yGw yog ysH x=yua x.1 x.2.1:=by kernel_rfl
theorem yQO:ConOk Tryz.prog 293 ⟨yog,ysH,fun x=>yua x.1 x.2.1⟩:=zkh (yNK) Tryz.func293 (by kernel_rfl) (by kernel_rfl) Tryz.ntmps293.symm (by decide) (fun x r h=>(ySd x).trans h)
def yed (a0 a1:dW):Bool :=
 bif (a0.1 !=a1.1) then
 false
 else
 let r1:=yz a0.2 a1.2
 bif (!r1) then
 false
 else
 true
def yCa:Con:=⟨yog,ysH,fun x=>(fun n=>some ((n,()),())) (yed x.1 x.2.1)⟩
theorem yRR (a0 a1:dW):yua a0 a1=(fun n=>some ((n,()),())) (yed a0 a1):=zkS (p:=fun (n:Bool)=>((n,()),())) (zkx (p:=fun (n:Bool)=>((n,()),())) rfl (zkx (p:=fun (n:Bool)=>((n,()),())) rfl rfl))
theorem yRW:ConOk Tryz.prog 293 yCa:=(yQO).mono (fun x r _ h=>(yRR x.1 x.2.1).trans h)
theorem yCe (a b:dW):yed a b=decide (a=b):=by
 unfold yed
 simp only [zkz,zkA,zkB,zkC,zkD,ygB,Prod.ext_iff,Bool.decide_and,Bool.and_true]
theorem yTB (a:dW):yed a a=true:=by rw [yCe]; exact decide_eq_true rfl
end
section
def ylq:Code:=(Tryz.f284.body).getD .skip
def yqn:Env:=zki TT [(293,yCa)] []
theorem yKS:FrOk Tryz.prog ⟨yqn,27,fun _=>none⟩ ylq:=zkp yb yc ⟨yRW,trivial⟩
def yz5:Nat→Option Seg:=fun _=>none
def ydm:Shape:=⟨[(0,false,[.br tW]),(1,false,[.br tW]),(5,false,[.int .i64])],[],[]⟩
def ykz:Shape:=⟨[(0,false,[.br tW]),(1,false,[.br tW]),(5,false,[.ci .i64 0])],[],[]⟩
def ykw:Shape:=⟨[],[],[]⟩
def ykU:Shape:=⟨[(4,false,[.bool])],[],[]⟩
def ypV (v0 v1:List dW) (v2:Int):Option ((ydm).X ⊕ ((ykw).X ⊕ (ykU).X)) :=
 bif (ltb v2 (v0.length:Int)) then
 bif (inb v2 v0.length) then
 bif (inb v2 v1.length) then
 let r2:=yed (nth v0 v2 (0,[])) (nth v1 v2 (0,[]))
 bif (!r2) then
 some (.inr (.inr (((false,()),()),(),())))
 else
 some (.inl (((v0,()),(v1,()),((IntKind.i64.wrap (v2+1)),()),()),(),()))
 else none
 else none
 else
 some (.inr (.inl ((),(),())))
def ycj (x:(ydm).X):=ypV x.1.1.1 x.1.2.1.1 x.1.2.2.1.1
def yxc (x:(ykz).X):(ydm).X:=(((x.1.1.1,()),(x.1.2.1.1,()),(0,()),()),(),())
def yyV:Code:=(zdI ylq 64 116).getD .skip
theorem yJ2:zdI ylq 64 29=some (.block 0 (.loop yyV)):=by kernel_rfl
theorem yMM (x:(ydm).X):zg7 ⟨yqn,27,yz5⟩ 0 yyV 116 ydm ykw ykU x=ycj x:=by kernel_rfl
def yxq (x:(ykz).X):Nat:=18446744073709551616
def yqx (x:(ykz).X):Option ((ykw).X ⊕ (ykU).X):=zr ycj (yxq x) (yxc x)
def yxO:Seg:=⟨ykz,ykw,ykU,yqx⟩
def yz6:Nat→Option Seg:=fun q=>bif Nat.beq q 29 then some yxO else yz5 q
theorem yKT:FrOk Tryz.prog ⟨yqn,27,yz6⟩ ylq:=(yKS).loop (sg:=yxO) ydm yxc (by decide) yJ2 ycj yxq (by decide) (fun _=>rfl) (fun x r _ h=>h) yMM
abbrev yh0:List Par:= [.rd tWs,.rd tWs]
abbrev yqP:List OT:= [⟨false,tB,.fz⟩]
def ynm (a0 a1:List dW):Option (ResD yqP×MutD yh0) :=
 bif ((a0.length:Int) !=(a1.length:Int)) then
 some ((false,()),())
 else
 zjw (yqx (((a0,()),(a1,()),((),()),()),(),())) (fun y2 =>
 some ((true,()),())) (fun y2 =>
 some ((y2.1.1.1,()),()))
theorem yRu (x:InD yh0):zjH ⟨yqn,27,yz6⟩ Tryz.f284.results.toList ylq yh0 yqP x=ynm x.1 x.2.1:=by kernel_rfl
theorem yOF:ConOk Tryz.prog 284 ⟨yh0,yqP,fun x=>ynm x.1 x.2.1⟩:=zkh (yKT) Tryz.func284 (by kernel_rfl) (by kernel_rfl) Tryz.ntmps284.symm (by decide) (fun x r h=>(yRu x).trans h)
def yeZ (a0 a1:List (dW)):Bool:=decide (a0=a1)
theorem yQw (a0 a1:List (dW)) (hk:zi9 yh0 (a0,a1,())):ynm a0 a1=(fun n=>some ((n,()),())) (yeZ a0 a1):=by
 have hb:a0.length * 32≤2 ^ 47:=hk.1.1
 unfold ynm yeZ
 by_cases h:a0.length=a1.length
 ·have hl:yqx (((a0,()),(a1,()),((),()),()),(),())=some (bif decide (a0=a1) then .inl ((),(),()) else .inr (((false,()),()),(),())) :=
   zkF (step:=ycj) a0 a1 ((0,[]):dW) (fun i=>(((a0,()),(a1,()),((i:Int),()),()),(),())) yed yCe _ _ h (fun i hi=>by
    simp only [ycj,ypV,zkO (h ▸ hi),zkO hi,zjW,Int.toNat_natCast,zjI (show (i:Int) < a0.length by omega),cond_true,wr (show -9223372036854775808≤(i:Int)+1 by omega) (by omega),Int.natCast_add,Int.natCast_one,zkV]
    cases yed (a0.getD i (0,[])) (a1.getD i (0,[]))<;>rfl) (by simp only [ycj,ypV,zkm (Int.le_refl _),cond_false]) _ (by show _ < 18446744073709551616; omega)
  rw [show ((a0.length:Int) !=(a1.length:Int))=false by simp [h],zkX,hl]
  cases decide (a0=a1)<;>rfl
 ·rw [show ((a0.length:Int) !=(a1.length:Int))=true from bne_iff_ne.2 (by omega),zkY,decide_eq_false (fun e=>h (congrArg _ e))]
theorem yAT (a0 a1:List (dW)):yeZ a0 a1=decide (a0=a1):=rfl
def yAA:Con:=⟨yh0,yqP,fun x=>(fun n=>some ((n,()),())) (yeZ x.1 x.2.1)⟩
theorem yQ1:ConOk Tryz.prog 284 yAA:=(yOF).mono (fun x r hk h=>(yQw x.1 x.2.1 hk).trans h)
theorem yTp (a:List dW):yeZ a a=true:=by rw [yAT]; exact decide_eq_true rfl
end
section
def yCI:Code:=(Tryz.f253.body).getD .skip
def yC3:Env:=zki TT [(283,ywU),(284,yAA),(285,ygy)] []
theorem yKR:FrOk Tryz.prog ⟨yC3,28,fun _=>none⟩ yCI:=zkp yb yc ⟨yMs,yQ1,ynf,trivial⟩
def yM5:Nat→Option Seg:=fun _=>none
abbrev ylJ:List Par:= [.rd tM,.rd tM]
abbrev yqO:List OT:= [⟨false,tB,.fz⟩]
def yss (a0 a1:dM):Option (ResD yqO×MutD ylJ) :=
 let r1:=ycK a0.1 a1.1
 bif (!r1) then
 some ((false,()),())
 else
 let r2:=yeZ a0.2.1 a1.2.1
 bif (!r2) then
 some ((false,()),())
 else
 bif (!(a0.2.2.1==a1.2.2.1)) then
 some ((false,()),())
 else
 let r3:=yz a0.2.2.2 a1.2.2.2
 bif (!r3) then
 some ((false,()),())
 else
 some ((true,()),())
theorem yRt (x:InD ylJ):zjH ⟨yC3,28,yM5⟩ Tryz.f253.results.toList yCI ylJ yqO x=yss x.1 x.2.1:=by kernel_rfl
theorem yOE:ConOk Tryz.prog 253 ⟨ylJ,yqO,fun x=>yss x.1 x.2.1⟩:=zkh (yKR) Tryz.func253 (by kernel_rfl) (by kernel_rfl) Tryz.ntmps253.symm (by decide) (fun x r h=>(yRt x).trans h)
def yc4 (a0 a1:dM):Bool :=
 let r1:=ycK a0.1 a1.1
 bif (!r1) then
 false
 else
 let r2:=yeZ a0.2.1 a1.2.1
 bif (!r2) then
 false
 else
 bif (!(a0.2.2.1==a1.2.2.1)) then
 false
 else
 let r3:=yz a0.2.2.2 a1.2.2.2
 bif (!r3) then
 false
 else
 true
def yAz:Con:=⟨ylJ,yqO,fun x=>(fun n=>some ((n,()),())) (yc4 x.1 x.2.1)⟩
theorem yQv (a0 a1:dM):yss a0 a1=(fun n=>some ((n,()),())) (yc4 a0 a1):=zkS (p:=fun (n:Bool)=>((n,()),())) (zkx (p:=fun (n:Bool)=>((n,()),())) rfl (zkx (p:=fun (n:Bool)=>((n,()),())) rfl (zkx (p:=fun (n:Bool)=>((n,()),())) rfl (zkx (p:=fun (n:Bool)=>((n,()),())) rfl rfl))))
theorem yQ0:ConOk Tryz.prog 253 yAz:=(yOE).mono (fun x r _ h=>(yQv x.1 x.2.1).trans h)
theorem yAS (a b:dM):yc4 a b=decide (a=b):=by
 unfold yc4
 simp only [zkz,zkA,zkB,zkC,zkD,yxj,yAT,ygB,Prod.ext_iff,Bool.decide_and,Bool.and_true]
theorem yTo (a:dM):yc4 a a=true:=by rw [yAS]; exact decide_eq_true rfl
end
end
end Go.Tf
