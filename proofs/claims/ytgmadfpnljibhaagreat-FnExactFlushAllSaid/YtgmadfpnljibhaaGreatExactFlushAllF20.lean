/- Functions of the program, and what they come to. -/
import Derived.Test.YtgmadfpnljibhaaGreatExactFlushAllF19
namespace Go.Tf
noncomputable section
open Go.Proofs
set_option synthInstance.maxHeartbeats 400000
set_option synthInstance.maxSize 10000
set_option linter.unusedVariables false
set_option linter.unusedSimpArgs false
set_option maxRecDepth 100000
section
def yKX:Code:=(Tryz.f90.body).getD .skip
def yLm:Env:=zki TT [(189,yHZ),(190,yGp),(191,yGo)] []
theorem yUI:FrOk Tryz.prog ⟨yLm,44,fun _=>none⟩ yKX:=zkp yb yc ⟨y1H,yZu,yZt,trivial⟩
def yXe:Nat→Option Seg:=fun _=>none
abbrev yqa:List Par:= [.rd tA]
abbrev yvL:List OT:= [⟨false,tA,(.pr .fz (.pr (.pr .fz .fz) (.pr (.ow (.pr (.ow (.ow .fz)) (.pr (.ow (.pr .fz (.ow .fz))) (.pr .fz (.ow .fz))))) (.pr .fz (.pr .fz (.pr .fz (.pr .fz (.pr .fz (.pr (.ow (.pr .fz (.ow .fz))) (.pr .fz (.pr .fz .fz)))))))))))⟩]
def yyr (a0:dA):Option (ResD yvL×MutD yqa) :=
 let r1:=yqy a0.2.1
 let r2:=yhV a0.2.2.1
 let r3:=yhU a0.2.2.2.2.2.2.2.2.1
 some (((a0.1,r1,r2,a0.2.2.2.1,a0.2.2.2.2.1,a0.2.2.2.2.2.1,a0.2.2.2.2.2.2.1,a0.2.2.2.2.2.2.2.1,r3,a0.2.2.2.2.2.2.2.2.2),()),())
theorem y2m (x:InD yqa):zjH ⟨yLm,44,yXe⟩ Tryz.f90.results.toList yKX yqa yvL x=yyr x.1:=by kernel_rfl
theorem yY0:ConOk Tryz.prog 90 ⟨yqa,yvL,fun x=>yyr x.1⟩:=zkh (yUI) Tryz.func90 (by kernel_rfl) (by kernel_rfl) Tryz.ntmps90.symm (by decide) (fun x r h=>(y2m x).trans h)
def ya1 (a0:dA):dA :=
 let r1:=yqy a0.2.1
 let r2:=yhV a0.2.2.1
 let r3:=yhU a0.2.2.2.2.2.2.2.2.1
 (a0.1,r1,r2,a0.2.2.2.1,a0.2.2.2.2.1,a0.2.2.2.2.2.1,a0.2.2.2.2.2.2.1,a0.2.2.2.2.2.2.2.1,r3,a0.2.2.2.2.2.2.2.2.2)
def yx1:Con:=⟨yqa,yvL,fun x=>(fun n=>some ((n,()),())) (ya1 x.1)⟩
theorem y07 (a0:dA):yyr a0=(fun n=>some ((n,()),())) (ya1 a0):=zkS (p:=fun (n:dA)=>((n,()),())) rfl
theorem yJ1:ConOk Tryz.prog 90 yx1:=(yY0).mono (fun x r _ h=>(y07 x.1).trans h)
theorem yJX (a:dA):ya1 a=a:=by kernel_rfl
end
section
def yKS:Code:=(Tryz.f192.body).getD .skip
def yLh:Env:=zki TT [] []
theorem yUz:FrOk Tryz.prog ⟨yLh,15,fun _=>none⟩ yKS:=zkp yb yc trivial
def yW9:Nat→Option Seg:=fun _=>none
abbrev yp5:List Par:= [.rd tG,.rd tG]
abbrev yvE:List OT:= [⟨false,tB,.fz⟩]
def yym (a0 a1:dG):Option (ResD yvE×MutD yp5) :=
 bif (a0.1 !=a1.1) then
 some ((false,()),())
 else
 bif (a0.2 !=a1.2) then
 some ((false,()),())
 else
 some ((true,()),())
theorem y2f (x:InD yp5):zjH ⟨yLh,15,yW9⟩ Tryz.f192.results.toList yKS yp5 yvE x=yym x.1 x.2.1:=by kernel_rfl
theorem yYT:ConOk Tryz.prog 192 ⟨yp5,yvE,fun x=>yym x.1 x.2.1⟩:=zkh (yUz) Tryz.func192 (by kernel_rfl) (by kernel_rfl) Tryz.ntmps192.symm (by decide) (fun x r h=>(y2f x).trans h)
def yg5 (a0 a1:dG):Bool :=
 bif (a0.1 !=a1.1) then
 false
 else
 bif (a0.2 !=a1.2) then
 false
 else
 true
def yHS:Con:=⟨yp5,yvE,fun x=>(fun n=>some ((n,()),())) (yg5 x.1 x.2.1)⟩
theorem y00 (a0 a1:dG):yym a0 a1=(fun n=>some ((n,()),())) (yg5 a0 a1):=zkS (p:=fun (n:Bool)=>((n,()),())) (zkx (p:=fun (n:Bool)=>((n,()),())) rfl (zkx (p:=fun (n:Bool)=>((n,()),())) rfl rfl))
theorem y1A:ConOk Tryz.prog 192 yHS:=(yYT).mono (fun x r _ h=>(y00 x.1 x.2.1).trans h)
theorem yIb (a b:dG):yg5 a b=decide (a=b):=by
 unfold yg5
 simp only [zkz,zkA,zkB,zkC,zkD,Prod.ext_iff,Bool.decide_and,Bool.and_true]
theorem y4K (a:dG):yg5 a a=true:=by rw [yIb]; exact decide_eq_true rfl
end
section
def ymT:Code:=(Tryz.f285.body).getD .skip
def ysR:Env:=zki TT [] []
theorem yQG:FrOk Tryz.prog ⟨ysR,26,fun _=>none⟩ ymT:=zkp yb yc trivial
def yFi:Nat→Option Seg:=fun _=>none
def yd7:Shape:=⟨[(0,false,[.br tI]),(1,false,[.br tI]),(5,false,[.int .i64])],[],[]⟩
def ylY:Shape:=⟨[(0,false,[.br tI]),(1,false,[.br tI]),(5,false,[.ci .i64 0])],[],[]⟩
def ylQ:Shape:=⟨[],[],[]⟩
def yma:Shape:=⟨[(4,false,[.bool])],[],[]⟩
def ysn (v0 v1:List Int) (v2:Int):Option ((yd7).X ⊕ ((ylQ).X ⊕ (yma).X)) :=
 bif (ltb v2 (v0.length:Int)) then
 bif (inb v2 v0.length) then
 bif (inb v2 v1.length) then
 bif ((nth v0 v2 0) !=(nth v1 v2 0)) then
 some (.inr (.inr (((false,()),()),(),())))
 else
 some (.inl (((v0,()),(v1,()),((IntKind.i64.wrap (v2+1)),()),()),(),()))
 else none
 else none
 else
 some (.inr (.inl ((),(),())))
def ycx (x:(yd7).X):=ysn x.1.1.1 x.1.2.1.1 x.1.2.2.1.1
def yBG (x:(ylY).X):(yd7).X:=(((x.1.1.1,()),(x.1.2.1.1,()),(0,()),()),(),())
def yDi:Code:=(zdI ymT 64 116).getD .skip
theorem yP5:zdI ymT 64 29=some (.block 0 (.loop yDi)):=by kernel_rfl
theorem ySV (x:(yd7).X):zg7 ⟨ysR,26,yFi⟩ 0 yDi 116 yd7 ylQ yma x=ycx x:=by kernel_rfl
def yBV (x:(ylY).X):Nat:=18446744073709551616
def ytR (x:(ylY).X):Option ((ylQ).X ⊕ (yma).X):=zr ycx (yBV x) (yBG x)
def yCe:Seg:=⟨ylY,ylQ,yma,ytR⟩
def yFj:Nat→Option Seg:=fun q=>bif Nat.beq q 29 then some yCe else yFi q
theorem yQH:FrOk Tryz.prog ⟨ysR,26,yFj⟩ ymT:=(yQG).loop (sg:=yCe) yd7 yBG (by decide) yP5 ycx yBV (by decide) (fun _=>rfl) (fun x r _ h=>h) ySV
abbrev yhD:List Par:= [.rd tL,.rd tL]
abbrev ytg:List OT:= [⟨false,tB,.fz⟩]
def yph (a0 a1:List Int):Option (ResD ytg×MutD yhD) :=
 bif ((a0.length:Int) !=(a1.length:Int)) then
 some ((false,()),())
 else
 zjw (ytR (((a0,()),(a1,()),((),()),()),(),())) (fun y0 =>
 some ((true,()),())) (fun y0 =>
 some ((y0.1.1.1,()),()))
theorem y0p (x:InD yhD):zjH ⟨ysR,26,yFj⟩ Tryz.f285.results.toList ymT yhD ytg x=yph x.1 x.2.1:=by kernel_rfl
theorem yVX:ConOk Tryz.prog 285 ⟨yhD,ytg,fun x=>yph x.1 x.2.1⟩:=zkh (yQH) Tryz.func285 (by kernel_rfl) (by kernel_rfl) Tryz.ntmps285.symm (by decide) (fun x r h=>(y0p x).trans h)
def yJ (a0 a1:List Int):Bool:=decide (a0=a1)
theorem yYj (a0 a1:List Int) (hk:zi9 yhD (a0,a1,())):yph a0 a1=(fun n=>some ((n,()),())) (yJ a0 a1):=by
 have hb:a0.length * 8≤2 ^ 47:=hk.1.1
 have hl:a0.length=a1.length→ytR (((a0,()),(a1,()),((),()),()),(),())=some (bif (List.range a0.length).any (fun i=>a0.getD i 0 !=a1.getD i 0) then .inr (((false,()),()),(),()) else .inl ((),(),())):=fun hL =>
  zf4 (step:=ycx) (fun i=>(((a0,()),(a1,()),((i:Int),()),()),(),())) a0.length (fun i=>a0.getD i 0 !=a1.getD i 0) _ _ (fun i hi=>by
   simp only [ycx,ysn,zkO hi,zkO (hL ▸ hi),zjW,zjI (show (i:Int) < a0.length by omega),cond_true,wr (show -9223372036854775808≤(i:Int)+1 by omega) (by omega),Int.natCast_add,Int.natCast_one]
   cases (a0.getD i 0 !=a1.getD i 0)<;>rfl) (by simp only [ycx,ysn,zkm (Int.le_refl _),cond_false]) _ (by show _ < 18446744073709551616; omega)
 unfold yph yJ
 by_cases h:a0.length=a1.length
 ·rw [show ((a0.length:Int) !=(a1.length:Int))=false by simp [h],zkX,hl h]
  by_cases e:a0=a1
  ·subst e
   have:(List.range a0.length).any (fun i=>a0.getD i 0 !=a0.getD i 0)=false:=by simp
   rw [this,decide_eq_true rfl]
   rfl
  ·have:(List.range a0.length).any (fun i=>a0.getD i 0 !=a1.getD i 0)=true:=by
    rcases Bool.eq_false_or_eq_true ((List.range a0.length).any (fun i=>a0.getD i 0 !=a1.getD i 0)) with h2 | h2
    ·exact h2
    ·refine absurd (List.ext_getElem h fun i h3 h4=> ?_) e
     rw [List.any_eq_false]at h2
     have:=h2 i (List.mem_range.2 h3)
     simpa [h3,h4] using this
   rw [this,decide_eq_false e]
   rfl
 ·rw [show ((a0.length:Int) !=(a1.length:Int))=true from bne_iff_ne.2 (by omega),zkY,decide_eq_false (fun e=>h (congrArg _ e))]
theorem yjj (a b:List Int):yJ a b=decide (a=b):=rfl
def yjg:Con:=⟨yhD,ytg,fun x=>(fun n=>some ((n,()),())) (yJ x.1 x.2.1)⟩
theorem yry:ConOk Tryz.prog 285 yjg:=(yVX).mono (fun x r hk h=>(yYj x.1 x.2.1 hk).trans h)
theorem y4z (a:List Int):yJ a a=true:=by rw [yjj]; exact decide_eq_true rfl
end
section
def ykB:Code:=(Tryz.f283.body).getD .skip
def yqU:Env:=zki TT [(285,yjg)] []
theorem yOc:FrOk Tryz.prog ⟨yqU,27,fun _=>none⟩ ykB:=zkp yb yc ⟨yry,trivial⟩
def yCU:Nat→Option Seg:=fun _=>none
def ydi:Shape:=⟨[(0,false,[.br tL]),(1,false,[.br tL]),(5,false,[.int .i64])],[],[]⟩
def yjO:Shape:=⟨[(0,false,[.br tL]),(1,false,[.br tL]),(5,false,[.ci .i64 0])],[],[]⟩
def yjH:Shape:=⟨[],[],[]⟩
def yj1:Shape:=⟨[(4,false,[.bool])],[],[]⟩
def yqH (v0 v1:List (List Int)) (v2:Int):Option ((ydi).X ⊕ ((yjH).X ⊕ (yj1).X)) :=
 bif (ltb v2 (v0.length:Int)) then
 bif (inb v2 v0.length) then
 bif (inb v2 v1.length) then
 let r2:=yJ (nth v0 v2 []) (nth v1 v2 [])
 bif (!r2) then
 some (.inr (.inr (((false,()),()),(),())))
 else
 some (.inl (((v0,()),(v1,()),((IntKind.i64.wrap (v2+1)),()),()),(),()))
 else none
 else none
 else
 some (.inr (.inl ((),(),())))
def ybJ (x:(ydi).X):=yqH x.1.1.1 x.1.2.1.1 x.1.2.2.1.1
def yzt (x:(yjO).X):(ydi).X:=(((x.1.1.1,()),(x.1.2.1.1,()),(0,()),()),(),())
def yBf:Code:=(zdI ykB 64 116).getD .skip
theorem yNK:zdI ykB 64 29=some (.block 0 (.loop yBf)):=by kernel_rfl
theorem yPs (x:(ydi).X):zg7 ⟨yqU,27,yCU⟩ 0 yBf 116 ydi yjH yj1 x=ybJ x:=by kernel_rfl
def yzJ (x:(yjO).X):Nat:=18446744073709551616
def yrW (x:(yjO).X):Option ((yjH).X ⊕ (yj1).X):=zr ybJ (yzJ x) (yzt x)
def yz8:Seg:=⟨yjO,yjH,yj1,yrW⟩
def yCV:Nat→Option Seg:=fun q=>bif Nat.beq q 29 then some yz8 else yCU q
theorem yOd:FrOk Tryz.prog ⟨yqU,27,yCV⟩ ykB:=(yOc).loop (sg:=yz8) ydi yzt (by decide) yNK ybJ yzJ (by decide) (fun _=>rfl) (fun x r _ h=>h) yPs
abbrev ygp:List Par:= [.rd tLL,.rd tLL]
abbrev yra:List OT:= [⟨false,tB,.fz⟩]
def ymC (a0 a1:List (List Int)):Option (ResD yra×MutD ygp) :=
 bif ((a0.length:Int) !=(a1.length:Int)) then
 some ((false,()),())
 else
 zjw (yrW (((a0,()),(a1,()),((),()),()),(),())) (fun y2 =>
 some ((true,()),())) (fun y2 =>
 some ((y2.1.1.1,()),()))
theorem yXE (x:InD ygp):zjH ⟨yqU,27,yCV⟩ Tryz.f283.results.toList ykB ygp yra x=ymC x.1 x.2.1:=by kernel_rfl
theorem ySk:ConOk Tryz.prog 283 ⟨ygp,yra,fun x=>ymC x.1 x.2.1⟩:=zkh (yOd) Tryz.func283 (by kernel_rfl) (by kernel_rfl) Tryz.ntmps283.symm (by decide) (fun x r h=>(yXE x).trans h)
def yei (a0 a1:List (List Int)):Bool:=decide (a0=a1)
theorem yVu (a0 a1:List (List Int)) (hk:zi9 ygp (a0,a1,())):ymC a0 a1=(fun n=>some ((n,()),())) (yei a0 a1):=by
 have hb:a0.length * 24≤2 ^ 47:=hk.1.1
 unfold ymC yei
 by_cases h:a0.length=a1.length
 ·have hl:yrW (((a0,()),(a1,()),((),()),()),(),())=some (bif decide (a0=a1) then .inl ((),(),()) else .inr (((false,()),()),(),())) :=
   zkF (step:=ybJ) a0 a1 ([]:List Int) (fun i=>(((a0,()),(a1,()),((i:Int),()),()),(),())) yJ yjj _ _ h (fun i hi=>by
    simp only [ybJ,yqH,zkO (h ▸ hi),zkO hi,zjW,Int.toNat_natCast,zjI (show (i:Int) < a0.length by omega),cond_true,wr (show -9223372036854775808≤(i:Int)+1 by omega) (by omega),Int.natCast_add,Int.natCast_one,zkV]
    cases yJ (a0.getD i []) (a1.getD i [])<;>rfl) (by simp only [ybJ,yqH,zkm (Int.le_refl _),cond_false]) _ (by show _ < 18446744073709551616; omega)
  rw [show ((a0.length:Int) !=(a1.length:Int))=false by simp [h],zkX,hl]
  cases decide (a0=a1)<;>rfl
 ·rw [show ((a0.length:Int) !=(a1.length:Int))=true from bne_iff_ne.2 (by omega),zkY,decide_eq_false (fun e=>h (congrArg _ e))]
theorem yD4 (a0 a1:List (List Int)):yei a0 a1=decide (a0=a1):=rfl
def yDC:Con:=⟨ygp,yra,fun x=>(fun n=>some ((n,()),())) (yei x.1 x.2.1)⟩
theorem yWs:ConOk Tryz.prog 283 yDC:=(ySk).mono (fun x r hk h=>(yVu x.1 x.2.1 hk).trans h)
theorem y4l (a:List (List Int)):yei a a=true:=by rw [yD4]; exact decide_eq_true rfl
end
section
def yPC:Code:=(Tryz.f293.body).getD .skip
def yPH:Env:=zki TT [(285,yjg)] []
theorem yXW:FrOk Tryz.prog ⟨yPH,16,fun _=>none⟩ yPC:=zkp yb yc ⟨yry,trivial⟩
def yZ7:Nat→Option Seg:=fun _=>none
abbrev ysD:List Par:= [.rd tW,.rd tW]
abbrev yyC:List OT:= [⟨false,tB,.fz⟩]
def yAz (a0 a1:dW):Option (ResD yyC×MutD ysD) :=
 bif (a0.1 !=a1.1) then
 some ((false,()),())
 else
 let r1:=yJ a0.2 a1.2
 bif (!r1) then
 some ((false,()),())
 else
 some ((true,()),())
theorem y29 (x:InD ysD):zjH ⟨yPH,16,yZ7⟩ Tryz.f293.results.toList yPC ysD yyC x=yAz x.1 x.2.1:=by kernel_rfl
theorem y1p:ConOk Tryz.prog 293 ⟨ysD,yyC,fun x=>yAz x.1 x.2.1⟩:=zkh (yXW) Tryz.func293 (by kernel_rfl) (by kernel_rfl) Tryz.ntmps293.symm (by decide) (fun x r h=>(y29 x).trans h)
def ygk (a0 a1:dW):Bool :=
 bif (a0.1 !=a1.1) then
 false
 else
 let r1:=yJ a0.2 a1.2
 bif (!r1) then
 false
 else
 true
def yJT:Con:=⟨ysD,yyC,fun x=>(fun n=>some ((n,()),())) (ygk x.1 x.2.1)⟩
theorem y2Q (a0 a1:dW):yAz a0 a1=(fun n=>some ((n,()),())) (ygk a0 a1):=zkS (p:=fun (n:Bool)=>((n,()),())) (zkx (p:=fun (n:Bool)=>((n,()),())) rfl (zkx (p:=fun (n:Bool)=>((n,()),())) rfl rfl))
theorem y2W:ConOk Tryz.prog 293 yJT:=(y1p).mono (fun x r _ h=>(y2Q x.1 x.2.1).trans h)
theorem yJW (a b:dW):ygk a b=decide (a=b):=by
 unfold ygk
 simp only [zkz,zkA,zkB,zkC,zkD,yjj,Prod.ext_iff,Bool.decide_and,Bool.and_true]
theorem y4X (a:dW):ygk a a=true:=by rw [yJW]; exact decide_eq_true rfl
end
section
def ypB:Code:=(Tryz.f284.body).getD .skip
def yu7:Env:=zki TT [(293,yJT)] []
theorem yUB:FrOk Tryz.prog ⟨yu7,27,fun _=>none⟩ ypB:=zkp yb yc ⟨y2W,trivial⟩
def yHi:Nat→Option Seg:=fun _=>none
def yfb:Shape:=⟨[(0,false,[.br tW]),(1,false,[.br tW]),(5,false,[.int .i64])],[],[]⟩
def yow:Shape:=⟨[(0,false,[.br tW]),(1,false,[.br tW]),(5,false,[.ci .i64 0])],[],[]⟩
def yot:Shape:=⟨[],[],[]⟩
def yoU:Shape:=⟨[(4,false,[.bool])],[],[]⟩
def yuD (v0 v1:List dW) (v2:Int):Option ((yfb).X ⊕ ((yot).X ⊕ (yoU).X)) :=
 bif (ltb v2 (v0.length:Int)) then
 bif (inb v2 v0.length) then
 bif (inb v2 v1.length) then
 let r2:=ygk (nth v0 v2 (0,[])) (nth v1 v2 (0,[]))
 bif (!r2) then
 some (.inr (.inr (((false,()),()),(),())))
 else
 some (.inl (((v0,()),(v1,()),((IntKind.i64.wrap (v2+1)),()),()),(),()))
 else none
 else none
 else
 some (.inr (.inl ((),(),())))
def ydx (x:(yfb).X):=yuD x.1.1.1 x.1.2.1.1 x.1.2.2.1.1
def yDT (x:(yow).X):(yfb).X:=(((x.1.1.1,()),(x.1.2.1.1,()),(0,()),()),(),())
def yF2:Code:=(zdI ypB 64 116).getD .skip
theorem yTF:zdI ypB 64 29=some (.block 0 (.loop yF2)):=by kernel_rfl
theorem yWN (x:(yfb).X):zg7 ⟨yu7,27,yHi⟩ 0 yF2 116 yfb yot yoU x=ydx x:=by kernel_rfl
def yEa (x:(yow).X):Nat:=18446744073709551616
def yvk (x:(yow).X):Option ((yot).X ⊕ (yoU).X):=zr ydx (yEa x) (yDT x)
def yEL:Seg:=⟨yow,yot,yoU,yvk⟩
def yHj:Nat→Option Seg:=fun q=>bif Nat.beq q 29 then some yEL else yHi q
theorem yUC:FrOk Tryz.prog ⟨yu7,27,yHj⟩ ypB:=(yUB).loop (sg:=yEL) yfb yDT (by decide) yTF ydx yEa (by decide) (fun _=>rfl) (fun x r _ h=>h) yWN
abbrev ykT:List Par:= [.rd tWs,.rd tWs]
abbrev yvG:List OT:= [⟨false,tB,.fz⟩]
def yrE (a0 a1:List dW):Option (ResD yvG×MutD ykT) :=
 bif ((a0.length:Int) !=(a1.length:Int)) then
 some ((false,()),())
 else
 zjw (yvk (((a0,()),(a1,()),((),()),()),(),())) (fun y2 =>
 some ((true,()),())) (fun y2 =>
 some ((y2.1.1.1,()),()))
theorem y2h (x:InD ykT):zjH ⟨yu7,27,yHj⟩ Tryz.f284.results.toList ypB ykT yvG x=yrE x.1 x.2.1:=by kernel_rfl
theorem yYV:ConOk Tryz.prog 284 ⟨ykT,yvG,fun x=>yrE x.1 x.2.1⟩:=zkh (yUC) Tryz.func284 (by kernel_rfl) (by kernel_rfl) Tryz.ntmps284.symm (by decide) (fun x r h=>(y2h x).trans h)
def yg6 (a0 a1:List (dW)):Bool:=decide (a0=a1)
theorem y02 (a0 a1:List (dW)) (hk:zi9 ykT (a0,a1,())):yrE a0 a1=(fun n=>some ((n,()),())) (yg6 a0 a1):=by
 have hb:a0.length * 32≤2 ^ 47:=hk.1.1
 unfold yrE yg6
 by_cases h:a0.length=a1.length
 ·have hl:yvk (((a0,()),(a1,()),((),()),()),(),())=some (bif decide (a0=a1) then .inl ((),(),()) else .inr (((false,()),()),(),())) :=
   zkF (step:=ydx) a0 a1 ((0,[]):dW) (fun i=>(((a0,()),(a1,()),((i:Int),()),()),(),())) ygk yJW _ _ h (fun i hi=>by
    simp only [ydx,yuD,zkO (h ▸ hi),zkO hi,zjW,Int.toNat_natCast,zjI (show (i:Int) < a0.length by omega),cond_true,wr (show -9223372036854775808≤(i:Int)+1 by omega) (by omega),Int.natCast_add,Int.natCast_one,zkV]
    cases ygk (a0.getD i (0,[])) (a1.getD i (0,[]))<;>rfl) (by simp only [ydx,yuD,zkm (Int.le_refl _),cond_false]) _ (by show _ < 18446744073709551616; omega)
  rw [show ((a0.length:Int) !=(a1.length:Int))=false by simp [h],zkX,hl]
  cases decide (a0=a1)<;>rfl
 ·rw [show ((a0.length:Int) !=(a1.length:Int))=true from bne_iff_ne.2 (by omega),zkY,decide_eq_false (fun e=>h (congrArg _ e))]
theorem yId (a0 a1:List (dW)):yg6 a0 a1=decide (a0=a1):=rfl
def yHU:Con:=⟨ykT,yvG,fun x=>(fun n=>some ((n,()),())) (yg6 x.1 x.2.1)⟩
theorem y1C:ConOk Tryz.prog 284 yHU:=(yYV).mono (fun x r hk h=>(y02 x.1 x.2.1 hk).trans h)
theorem y4M (a:List dW):yg6 a a=true:=by rw [yId]; exact decide_eq_true rfl
end
end
end Go.Tf
