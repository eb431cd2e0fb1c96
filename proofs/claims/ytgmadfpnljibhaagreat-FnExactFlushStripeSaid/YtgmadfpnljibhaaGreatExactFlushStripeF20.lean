/- Functions of the program, and what they come to. -/
import Derived.Test.YtgmadfpnljibhaaGreatExactFlushStripeF19
namespace Go.Tf
noncomputable section
open Go.Proofs
set_option synthInstance.maxHeartbeats 400000
set_option synthInstance.maxSize 10000
set_option linter.unusedVariables false
set_option linter.unusedSimpArgs false
set_option maxRecDepth 100000
section
def yJE:Code:=(Tryz.f90.body).getD .skip
def yJ3:Env:=zki TT [(189,yGN),(190,yFk),(191,yFj)] []
theorem yS8:FrOk Tryz.prog ⟨yJ3,44,fun _=>none⟩ yJE:=zkp yb yc ⟨yZ4,yXO,yXN,trivial⟩
def yVB:Nat→Option Seg:=fun _=>none
abbrev ypB:List Par:= [.rd tA]
abbrev yu3:List OT:= [⟨false,tA,(.pr .fz (.pr (.pr .fz .fz) (.pr (.ow (.pr (.ow (.ow .fz)) (.pr (.ow (.pr .fz (.ow .fz))) (.pr .fz (.ow .fz))))) (.pr .fz (.pr .fz (.pr .fz (.pr .fz (.pr .fz (.pr (.ow (.pr .fz (.ow .fz))) (.pr .fz (.pr .fz .fz)))))))))))⟩]
def yxw (a0:dA):Option (ResD yu3×MutD ypB) :=
 let r1:=ypY a0.2.1
 let r2:=yhF a0.2.2.1
 let r3:=yhE a0.2.2.2.2.2.2.2.2.1
 some (((a0.1,r1,r2,a0.2.2.2.1,a0.2.2.2.2.1,a0.2.2.2.2.2.1,a0.2.2.2.2.2.2.1,a0.2.2.2.2.2.2.2.1,r3,a0.2.2.2.2.2.2.2.2.2),()),())
theorem y0F (x:InD ypB):zjH ⟨yJ3,44,yVB⟩ Tryz.f90.results.toList yJE ypB yu3 x=yxw x.1:=by kernel_rfl
theorem yXl:ConOk Tryz.prog 90 ⟨ypB,yu3,fun x=>yxw x.1⟩:=zkh (yS8) Tryz.func90 (by kernel_rfl) (by kernel_rfl) Tryz.ntmps90.symm (by decide) (fun x r h=>(y0F x).trans h)
def ygQ (a0:dA):dA :=
 let r1:=ypY a0.2.1
 let r2:=yhF a0.2.2.1
 let r3:=yhE a0.2.2.2.2.2.2.2.2.1
 (a0.1,r1,r2,a0.2.2.2.1,a0.2.2.2.2.1,a0.2.2.2.2.2.1,a0.2.2.2.2.2.2.1,a0.2.2.2.2.2.2.2.1,r3,a0.2.2.2.2.2.2.2.2.2)
def yGL:Con:=⟨ypB,yu3,fun x=>(fun n=>some ((n,()),())) (ygQ x.1)⟩
theorem yZt (a0:dA):yxw a0=(fun n=>some ((n,()),())) (ygQ a0):=zkS (p:=fun (n:dA)=>((n,()),())) rfl
theorem yZ2:ConOk Tryz.prog 90 yGL:=(yXl).mono (fun x r _ h=>(yZt x.1).trans h)
theorem yY9 (a:dA):ygQ a=a:=by kernel_rfl
end
section
def yJz:Code:=(Tryz.f192.body).getD .skip
def yJY:Env:=zki TT [] []
theorem ySZ:FrOk Tryz.prog ⟨yJY,15,fun _=>none⟩ yJz:=zkp yb yc trivial
def yVw:Nat→Option Seg:=fun _=>none
abbrev ypw:List Par:= [.rd tG,.rd tG]
abbrev yuW:List OT:= [⟨false,tB,.fz⟩]
def yxr (a0 a1:dG):Option (ResD yuW×MutD ypw) :=
 bif (a0.1 !=a1.1) then
 some ((false,()),())
 else
 bif (a0.2 !=a1.2) then
 some ((false,()),())
 else
 some ((true,()),())
theorem y0y (x:InD ypw):zjH ⟨yJY,15,yVw⟩ Tryz.f192.results.toList yJz ypw yuW x=yxr x.1 x.2.1:=by kernel_rfl
theorem yXe:ConOk Tryz.prog 192 ⟨ypw,yuW,fun x=>yxr x.1 x.2.1⟩:=zkh (ySZ) Tryz.func192 (by kernel_rfl) (by kernel_rfl) Tryz.ntmps192.symm (by decide) (fun x r h=>(y0y x).trans h)
def ygO (a0 a1:dG):Bool :=
 bif (a0.1 !=a1.1) then
 false
 else
 bif (a0.2 !=a1.2) then
 false
 else
 true
def yGE:Con:=⟨ypw,yuW,fun x=>(fun n=>some ((n,()),())) (ygO x.1 x.2.1)⟩
theorem yZm (a0 a1:dG):yxr a0 a1=(fun n=>some ((n,()),())) (ygO a0 a1):=zkS (p:=fun (n:Bool)=>((n,()),())) (zkx (p:=fun (n:Bool)=>((n,()),())) rfl (zkx (p:=fun (n:Bool)=>((n,()),())) rfl rfl))
theorem yZV:ConOk Tryz.prog 192 yGE:=(yXe).mono (fun x r _ h=>(yZm x.1 x.2.1).trans h)
theorem yGZ (a b:dG):ygO a b=decide (a=b):=by
 unfold ygO
 simp only [zkz,zkA,zkB,zkC,zkD,Prod.ext_iff,Bool.decide_and,Bool.and_true]
theorem y25 (a:dG):ygO a a=true:=by rw [yGZ]; exact decide_eq_true rfl
end
section
def ymq:Code:=(Tryz.f285.body).getD .skip
def ysf:Env:=zki TT [] []
theorem yPe:FrOk Tryz.prog ⟨ysf,26,fun _=>none⟩ ymq:=zkp yb yc trivial
def yEe:Nat→Option Seg:=fun _=>none
def ydY:Shape:=⟨[(0,false,[.br tI]),(1,false,[.br tI]),(5,false,[.int .i64])],[],[]⟩
def ylx:Shape:=⟨[(0,false,[.br tI]),(1,false,[.br tI]),(5,false,[.ci .i64 0])],[],[]⟩
def ylp:Shape:=⟨[],[],[]⟩
def ylJ:Shape:=⟨[(4,false,[.bool])],[],[]⟩
def yrN (v0 v1:List Int) (v2:Int):Option ((ydY).X ⊕ ((ylp).X ⊕ (ylJ).X)) :=
 bif (ltb v2 (v0.length:Int)) then
 bif (inb v2 v0.length) then
 bif (inb v2 v1.length) then
 bif ((nth v0 v2 0) !=(nth v1 v2 0)) then
 some (.inr (.inr (((false,()),()),(),())))
 else
 some (.inl (((v0,()),(v1,()),((IntKind.i64.wrap (v2+1)),()),()),(),()))
 else none
 else none
 else
 some (.inr (.inl ((),(),())))
def ycn (x:(ydY).X):=yrN x.1.1.1 x.1.2.1.1 x.1.2.2.1.1
def yAG (x:(ylx).X):(ydY).X:=(((x.1.1.1,()),(x.1.2.1.1,()),(0,()),()),(),())
def yCg:Code:=(zdI ymq 64 116).getD .skip
theorem yOD:zdI ymq 64 29=some (.block 0 (.loop yCg)):=by kernel_rfl
theorem yRp (x:(ydY).X):zg7 ⟨ysf,26,yEe⟩ 0 yCg 116 ydY ylp ylJ x=ycn x:=by kernel_rfl
def yAV (x:(ylx).X):Nat:=18446744073709551616
def ytf (x:(ylx).X):Option ((ylp).X ⊕ (ylJ).X):=zr ycn (yAV x) (yAG x)
def yBe:Seg:=⟨ylx,ylp,ylJ,ytf⟩
def yEf:Nat→Option Seg:=fun q=>bif Nat.beq q 29 then some yBe else yEe q
theorem yPf:FrOk Tryz.prog ⟨ysf,26,yEf⟩ ymq:=(yPe).loop (sg:=yBe) ydY yAG (by decide) yOD ycn yAV (by decide) (fun _=>rfl) (fun x r _ h=>h) yRp
abbrev yhn:List Par:= [.rd tL,.rd tL]
abbrev ysE:List OT:= [⟨false,tB,.fz⟩]
def yoK (a0 a1:List Int):Option (ResD ysE×MutD yhn) :=
 bif ((a0.length:Int) !=(a1.length:Int)) then
 some ((false,()),())
 else
 zjw (ytf (((a0,()),(a1,()),((),()),()),(),())) (fun y0 =>
 some ((true,()),())) (fun y0 =>
 some ((y0.1.1.1,()),()))
theorem yYK (x:InD yhn):zjH ⟨ysf,26,yEf⟩ Tryz.f285.results.toList ymq yhn ysE x=yoK x.1 x.2.1:=by kernel_rfl
theorem yUg:ConOk Tryz.prog 285 ⟨yhn,ysE,fun x=>yoK x.1 x.2.1⟩:=zkh (yPf) Tryz.func285 (by kernel_rfl) (by kernel_rfl) Tryz.ntmps285.symm (by decide) (fun x r h=>(yYK x).trans h)
def yH (a0 a1:List Int):Bool:=decide (a0=a1)
theorem yWE (a0 a1:List Int) (hk:zi9 yhn (a0,a1,())):yoK a0 a1=(fun n=>some ((n,()),())) (yH a0 a1):=by
 have hb:a0.length * 8≤2 ^ 47:=hk.1.1
 have hl:a0.length=a1.length→ytf (((a0,()),(a1,()),((),()),()),(),())=some (bif (List.range a0.length).any (fun i=>a0.getD i 0 !=a1.getD i 0) then .inr (((false,()),()),(),()) else .inl ((),(),())):=fun hL =>
  zf4 (step:=ycn) (fun i=>(((a0,()),(a1,()),((i:Int),()),()),(),())) a0.length (fun i=>a0.getD i 0 !=a1.getD i 0) _ _ (fun i hi=>by
   simp only [ycn,yrN,zkO hi,zkO (hL ▸ hi),zjW,zjI (show (i:Int) < a0.length by omega),cond_true,wr (show -9223372036854775808≤(i:Int)+1 by omega) (by omega),Int.natCast_add,Int.natCast_one]
   cases (a0.getD i 0 !=a1.getD i 0)<;>rfl) (by simp only [ycn,yrN,zkm (Int.le_refl _),cond_false]) _ (by show _ < 18446744073709551616; omega)
 unfold yoK yH
 by_cases h:a0.length=a1.length
 ·rw [show ((a0.length:Int) !=(a1.length:Int))=false by simp [h],zkX,hl h]
  by_cases e:a0=a1
  ·subst e
   have:(List.range a0.length).any (fun i=>a0.getD i 0 !=a0.getD i 0)=false:=by simp
   rw [this,decide_eq_true rfl]
   rfl
  ·have:(List.range a0.length).any (fun i=>a0.getD i 0 !=a1.getD i 0)=true:=by
    rcases Bool.eq_false_or_eq_true ((List.range a0.length).any (fun i=>a0.getD i 0 !=a1.getD i 0)) with h2 | h2
    ·exact h2
    ·refine absurd (List.ext_getElem h fun i h3 h4=> ?_) e
     rw [List.any_eq_false]at h2
     have:=h2 i (List.mem_range.2 h3)
     simpa [h3,h4] using this
   rw [this,decide_eq_false e]
   rfl
 ·rw [show ((a0.length:Int) !=(a1.length:Int))=true from bne_iff_ne.2 (by omega),zkY,decide_eq_false (fun e=>h (congrArg _ e))]
theorem yi0 (a b:List Int):yH a b=decide (a=b):=rfl
def yiX:Con:=⟨yhn,ysE,fun x=>(fun n=>some ((n,()),())) (yH x.1 x.2.1)⟩
theorem yqZ:ConOk Tryz.prog 285 yiX:=(yUg).mono (fun x r hk h=>(yWE x.1 x.2.1 hk).trans h)
theorem y2U (a:List Int):yH a a=true:=by rw [yi0]; exact decide_eq_true rfl
end
section
def ykf:Code:=(Tryz.f283.body).getD .skip
def yql:Env:=zki TT [(285,yiX)] []
theorem yMN:FrOk Tryz.prog ⟨yql,27,fun _=>none⟩ ykf:=zkp yb yc ⟨yqZ,trivial⟩
def yBS:Nat→Option Seg:=fun _=>none
def yc7:Shape:=⟨[(0,false,[.br tL]),(1,false,[.br tL]),(5,false,[.int .i64])],[],[]⟩
def yju:Shape:=⟨[(0,false,[.br tL]),(1,false,[.br tL]),(5,false,[.ci .i64 0])],[],[]⟩
def yjn:Shape:=⟨[],[],[]⟩
def yjH:Shape:=⟨[(4,false,[.bool])],[],[]⟩
def yp8 (v0 v1:List (List Int)) (v2:Int):Option ((yc7).X ⊕ ((yjn).X ⊕ (yjH).X)) :=
 bif (ltb v2 (v0.length:Int)) then
 bif (inb v2 v0.length) then
 bif (inb v2 v1.length) then
 let r2:=yH (nth v0 v2 []) (nth v1 v2 [])
 bif (!r2) then
 some (.inr (.inr (((false,()),()),(),())))
 else
 some (.inl (((v0,()),(v1,()),((IntKind.i64.wrap (v2+1)),()),()),(),()))
 else none
 else none
 else
 some (.inr (.inl ((),(),())))
def yby (x:(yc7).X):=yp8 x.1.1.1 x.1.2.1.1 x.1.2.2.1.1
def yyx (x:(yju).X):(yc7).X:=(((x.1.1.1,()),(x.1.2.1.1,()),(0,()),()),(),())
def yAh:Code:=(zdI ykf 64 116).getD .skip
theorem yMl:zdI ykf 64 29=some (.block 0 (.loop yAh)):=by kernel_rfl
theorem yN1 (x:(yc7).X):zg7 ⟨yql,27,yBS⟩ 0 yAh 116 yc7 yjn yjH x=yby x:=by kernel_rfl
def yyN (x:(yju).X):Nat:=18446744073709551616
def yrm (x:(yju).X):Option ((yjn).X ⊕ (yjH).X):=zr yby (yyN x) (yyx x)
def yzc:Seg:=⟨yju,yjn,yjH,yrm⟩
def yBT:Nat→Option Seg:=fun q=>bif Nat.beq q 29 then some yzc else yBS q
theorem yMO:FrOk Tryz.prog ⟨yql,27,yBT⟩ ykf:=(yMN).loop (sg:=yzc) yc7 yyx (by decide) yMl yby yyN (by decide) (fun _=>rfl) (fun x r _ h=>h) yN1
abbrev yf9:List Par:= [.rd tLL,.rd tLL]
abbrev yqB:List OT:= [⟨false,tB,.fz⟩]
def yl9 (a0 a1:List (List Int)):Option (ResD yqB×MutD yf9) :=
 bif ((a0.length:Int) !=(a1.length:Int)) then
 some ((false,()),())
 else
 zjw (yrm (((a0,()),(a1,()),((),()),()),(),())) (fun y2 =>
 some ((true,()),())) (fun y2 =>
 some ((y2.1.1.1,()),()))
theorem yVZ (x:InD yf9):zjH ⟨yql,27,yBT⟩ Tryz.f283.results.toList ykf yf9 yqB x=yl9 x.1 x.2.1:=by kernel_rfl
theorem yQQ:ConOk Tryz.prog 283 ⟨yf9,yqB,fun x=>yl9 x.1 x.2.1⟩:=zkh (yMO) Tryz.func283 (by kernel_rfl) (by kernel_rfl) Tryz.ntmps283.symm (by decide) (fun x r h=>(yVZ x).trans h)
def yd8 (a0 a1:List (List Int)):Bool:=decide (a0=a1)
theorem yTN (a0 a1:List (List Int)) (hk:zi9 yf9 (a0,a1,())):yl9 a0 a1=(fun n=>some ((n,()),())) (yd8 a0 a1):=by
 have hb:a0.length * 24≤2 ^ 47:=hk.1.1
 unfold yl9 yd8
 by_cases h:a0.length=a1.length
 ·have hl:yrm (((a0,()),(a1,()),((),()),()),(),())=some (bif decide (a0=a1) then .inl ((),(),()) else .inr (((false,()),()),(),())) :=
   zkF (step:=yby) a0 a1 ([]:List Int) (fun i=>(((a0,()),(a1,()),((i:Int),()),()),(),())) yH yi0 _ _ h (fun i hi=>by
    simp only [yby,yp8,zkO (h ▸ hi),zkO hi,zjW,Int.toNat_natCast,zjI (show (i:Int) < a0.length by omega),cond_true,wr (show -9223372036854775808≤(i:Int)+1 by omega) (by omega),Int.natCast_add,Int.natCast_one,zkV]
    cases yH (a0.getD i []) (a1.getD i [])<;>rfl) (by simp only [yby,yp8,zkm (Int.le_refl _),cond_false]) _ (by show _ < 18446744073709551616; omega)
  rw [show ((a0.length:Int) !=(a1.length:Int))=false by simp [h],zkX,hl]
  cases decide (a0=a1)<;>rfl
 ·rw [show ((a0.length:Int) !=(a1.length:Int))=true from bne_iff_ne.2 (by omega),zkY,decide_eq_false (fun e=>h (congrArg _ e))]
theorem yC4 (a0 a1:List (List Int)):yd8 a0 a1=decide (a0=a1):=rfl
def yCz:Con:=⟨yf9,yqB,fun x=>(fun n=>some ((n,()),())) (yd8 x.1 x.2.1)⟩
theorem yUL:ConOk Tryz.prog 283 yCz:=(yQQ).mono (fun x r hk h=>(yTN x.1 x.2.1 hk).trans h)
theorem y2E (a:List (List Int)):yd8 a a=true:=by rw [yC4]; exact decide_eq_true rfl
end
section
def yOb:Code:=(Tryz.f293.body).getD .skip
def yOg:Env:=zki TT [(285,yiX)] []
theorem yWh:FrOk Tryz.prog ⟨yOg,16,fun _=>none⟩ yOb:=zkp yb yc ⟨yqZ,trivial⟩
def yYs:Nat→Option Seg:=fun _=>none
abbrev yr1:List Par:= [.rd tW,.rd tW]
abbrev yxH:List OT:= [⟨false,tB,.fz⟩]
def yzD (a0 a1:dW):Option (ResD yxH×MutD yr1) :=
 bif (a0.1 !=a1.1) then
 some ((false,()),())
 else
 let r1:=yH a0.2 a1.2
 bif (!r1) then
 some ((false,()),())
 else
 some ((true,()),())
theorem y1o (x:InD yr1):zjH ⟨yOg,16,yYs⟩ Tryz.f293.results.toList yOb yr1 yxH x=yzD x.1 x.2.1:=by kernel_rfl
theorem yZK:ConOk Tryz.prog 293 ⟨yr1,yxH,fun x=>yzD x.1 x.2.1⟩:=zkh (yWh) Tryz.func293 (by kernel_rfl) (by kernel_rfl) Tryz.ntmps293.symm (by decide) (fun x r h=>(y1o x).trans h)
def yf4 (a0 a1:dW):Bool :=
 bif (a0.1 !=a1.1) then
 false
 else
 let r1:=yH a0.2 a1.2
 bif (!r1) then
 false
 else
 true
def yIE:Con:=⟨yr1,yxH,fun x=>(fun n=>some ((n,()),())) (yf4 x.1 x.2.1)⟩
theorem y06 (a0 a1:dW):yzD a0 a1=(fun n=>some ((n,()),())) (yf4 a0 a1):=zkS (p:=fun (n:Bool)=>((n,()),())) (zkx (p:=fun (n:Bool)=>((n,()),())) rfl (zkx (p:=fun (n:Bool)=>((n,()),())) rfl rfl))
theorem y1c:ConOk Tryz.prog 293 yIE:=(yZK).mono (fun x r _ h=>(y06 x.1 x.2.1).trans h)
theorem yIH (a b:dW):yf4 a b=decide (a=b):=by
 unfold yf4
 simp only [zkz,zkA,zkB,zkC,zkD,yi0,Prod.ext_iff,Bool.decide_and,Bool.and_true]
theorem y3i (a:dW):yf4 a a=true:=by rw [yIH]; exact decide_eq_true rfl
end
section
def yo4:Code:=(Tryz.f284.body).getD .skip
def yuq:Env:=zki TT [(293,yIE)] []
theorem yS1:FrOk Tryz.prog ⟨yuq,27,fun _=>none⟩ yo4:=zkp yb yc ⟨y1c,trivial⟩
def yF6:Nat→Option Seg:=fun _=>none
def yeX:Shape:=⟨[(0,false,[.br tW]),(1,false,[.br tW]),(5,false,[.int .i64])],[],[]⟩
def yn2:Shape:=⟨[(0,false,[.br tW]),(1,false,[.br tW]),(5,false,[.ci .i64 0])],[],[]⟩
def ynZ:Shape:=⟨[],[],[]⟩
def yoo:Shape:=⟨[(4,false,[.bool])],[],[]⟩
def ytX (v0 v1:List dW) (v2:Int):Option ((yeX).X ⊕ ((ynZ).X ⊕ (yoo).X)) :=
 bif (ltb v2 (v0.length:Int)) then
 bif (inb v2 v0.length) then
 bif (inb v2 v1.length) then
 let r2:=yf4 (nth v0 v2 (0,[])) (nth v1 v2 (0,[]))
 bif (!r2) then
 some (.inr (.inr (((false,()),()),(),())))
 else
 some (.inl (((v0,()),(v1,()),((IntKind.i64.wrap (v2+1)),()),()),(),()))
 else none
 else none
 else
 some (.inr (.inl ((),(),())))
def ydm (x:(yeX).X):=ytX x.1.1.1 x.1.2.1.1 x.1.2.2.1.1
def yCT (x:(yn2).X):(yeX).X:=(((x.1.1.1,()),(x.1.2.1.1,()),(0,()),()),(),())
def yEX:Code:=(zdI yo4 64 116).getD .skip
theorem yR9:zdI yo4 64 29=some (.block 0 (.loop yEX)):=by kernel_rfl
theorem yVa (x:(yeX).X):zg7 ⟨yuq,27,yF6⟩ 0 yEX 116 yeX ynZ yoo x=ydm x:=by kernel_rfl
def yDb (x:(yn2).X):Nat:=18446744073709551616
def yuC (x:(yn2).X):Option ((ynZ).X ⊕ (yoo).X):=zr ydm (yDb x) (yCT x)
def yDK:Seg:=⟨yn2,ynZ,yoo,yuC⟩
def yF7:Nat→Option Seg:=fun q=>bif Nat.beq q 29 then some yDK else yF6 q
theorem yS2:FrOk Tryz.prog ⟨yuq,27,yF7⟩ yo4:=(yS1).loop (sg:=yDK) yeX yCT (by decide) yR9 ydm yDb (by decide) (fun _=>rfl) (fun x r _ h=>h) yVa
abbrev ykx:List Par:= [.rd tWs,.rd tWs]
abbrev yuY:List OT:= [⟨false,tB,.fz⟩]
def yq5 (a0 a1:List dW):Option (ResD yuY×MutD ykx) :=
 bif ((a0.length:Int) !=(a1.length:Int)) then
 some ((false,()),())
 else
 zjw (yuC (((a0,()),(a1,()),((),()),()),(),())) (fun y2 =>
 some ((true,()),())) (fun y2 =>
 some ((y2.1.1.1,()),()))
theorem y0A (x:InD ykx):zjH ⟨yuq,27,yF7⟩ Tryz.f284.results.toList yo4 ykx yuY x=yq5 x.1 x.2.1:=by kernel_rfl
theorem yXg:ConOk Tryz.prog 284 ⟨ykx,yuY,fun x=>yq5 x.1 x.2.1⟩:=zkh (yS2) Tryz.func284 (by kernel_rfl) (by kernel_rfl) Tryz.ntmps284.symm (by decide) (fun x r h=>(y0A x).trans h)
def ygP (a0 a1:List (dW)):Bool:=decide (a0=a1)
theorem yZo (a0 a1:List (dW)) (hk:zi9 ykx (a0,a1,())):yq5 a0 a1=(fun n=>some ((n,()),())) (ygP a0 a1):=by
 have hb:a0.length * 32≤2 ^ 47:=hk.1.1
 unfold yq5 ygP
 by_cases h:a0.length=a1.length
 ·have hl:yuC (((a0,()),(a1,()),((),()),()),(),())=some (bif decide (a0=a1) then .inl ((),(),()) else .inr (((false,()),()),(),())) :=
   zkF (step:=ydm) a0 a1 ((0,[]):dW) (fun i=>(((a0,()),(a1,()),((i:Int),()),()),(),())) yf4 yIH _ _ h (fun i hi=>by
    simp only [ydm,ytX,zkO (h ▸ hi),zkO hi,zjW,Int.toNat_natCast,zjI (show (i:Int) < a0.length by omega),cond_true,wr (show -9223372036854775808≤(i:Int)+1 by omega) (by omega),Int.natCast_add,Int.natCast_one,zkV]
    cases yf4 (a0.getD i (0,[])) (a1.getD i (0,[]))<;>rfl) (by simp only [ydm,ytX,zkm (Int.le_refl _),cond_false]) _ (by show _ < 18446744073709551616; omega)
  rw [show ((a0.length:Int) !=(a1.length:Int))=false by simp [h],zkX,hl]
  cases decide (a0=a1)<;>rfl
 ·rw [show ((a0.length:Int) !=(a1.length:Int))=true from bne_iff_ne.2 (by omega),zkY,decide_eq_false (fun e=>h (congrArg _ e))]
theorem yG1 (a0 a1:List (dW)):ygP a0 a1=decide (a0=a1):=rfl
def yGG:Con:=⟨ykx,yuY,fun x=>(fun n=>some ((n,()),())) (ygP x.1 x.2.1)⟩
theorem yZX:ConOk Tryz.prog 284 yGG:=(yXg).mono (fun x r hk h=>(yZo x.1 x.2.1 hk).trans h)
theorem y27 (a:List dW):ygP a a=true:=by rw [yG1]; exact decide_eq_true rfl
end
end
end Go.Tf
