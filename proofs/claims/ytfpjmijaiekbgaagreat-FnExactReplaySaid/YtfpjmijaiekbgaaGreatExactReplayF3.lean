/- Functions of the program, and what they come to. -/
import Derived.Test.YtfpjmijaiekbgaaGreatExactReplayF2
namespace Go.Tf
noncomputable section
open Go.Proofs
set_option synthInstance.maxHeartbeats 400000
set_option synthInstance.maxSize 10000
set_option linter.unusedVariables false
set_option linter.unusedSimpArgs false
set_option maxRecDepth 100000
section
def yG1:Code:=(Tryz.f15.body).getD .skip
def yHn:Env:=zki TT [(37,yDo),(66,yEH),(67,yDn)] []
theorem yQi:FrOk Tryz.prog ⟨yHn,44,fun _=>none⟩ yG1:=zkp yb yc ⟨yUs,yWq,yUr,trivial⟩
def ySt:Nat→Option Seg:=fun _=>none
abbrev yos:List Par:= [.rd tA]
abbrev ytU:List OT:= [⟨false,tA,(.pr .fz (.pr (.pr .fz .fz) (.pr (.ow (.pr (.ow (.ow .fz)) (.pr (.ow (.pr .fz (.ow .fz))) (.pr .fz (.ow .fz))))) (.pr .fz (.pr .fz (.pr .fz (.pr .fz (.pr .fz (.pr (.ow (.pr .fz (.ow .fz))) (.pr .fz (.pr .fz .fz)))))))))))⟩]
def yvV (a0:dA):Option (ResD ytU×MutD yos) :=
  let r1:=yoM a0.2.1
  let r2:=ygI a0.2.2.1
  let r3:=ygH a0.2.2.2.2.2.2.2.2.1
  some (((a0.1,r1,r2,a0.2.2.2.1,a0.2.2.2.2.1,a0.2.2.2.2.2.1,a0.2.2.2.2.2.2.1,a0.2.2.2.2.2.2.2.1,r3,a0.2.2.2.2.2.2.2.2.2),()),())
theorem yWS (x:InD yos):zjH ⟨yHn,44,ySt⟩ Tryz.f15.results.toList yG1 yos ytU x=yvV x.1:=by kernel_rfl
theorem yT1:ConOk Tryz.prog 15 ⟨yos,ytU,fun x=>yvV x.1⟩:=zkh (yQi) Tryz.func15 (by kernel_rfl) (by kernel_rfl) Tryz.ntmps15.symm (by decide) (fun x r h=>(yWS x).trans h)
def yfZ (a0:dA):dA :=
  let r1:=yoM a0.2.1
  let r2:=ygI a0.2.2.1
  let r3:=ygH a0.2.2.2.2.2.2.2.2.1
  (a0.1,r1,r2,a0.2.2.2.1,a0.2.2.2.2.1,a0.2.2.2.2.2.1,a0.2.2.2.2.2.2.1,a0.2.2.2.2.2.2.2.1,r3,a0.2.2.2.2.2.2.2.2.2)
def yEF:Con:=⟨yos,ytU,fun x=>(fun n=>some ((n,()),())) (yfZ x.1)⟩
theorem yVU (a0:dA):yvV a0=(fun n=>some ((n,()),())) (yfZ a0):=zkS (p:=fun (n:dA)=>((n,()),())) rfl
theorem yWo:ConOk Tryz.prog 15 yEF:=(yT1).mono (fun x r _ h=>(yVU x.1).trans h)
theorem yVB (a:dA):yfZ a=a:=by kernel_rfl
end
section
def ylt:Code:=(Tryz.f17.body).getD .skip
def yrg:Env:=zki TT [] []
theorem yMx:FrOk Tryz.prog ⟨yrg,26,fun _=>none⟩ ylt:=zkp yb yc trivial
def yCm:Nat→Option Seg:=fun _=>none
def ydq:Shape:=⟨[(0,false,[.br tI]),(1,false,[.br tI]),(5,false,[.int .i64])],[],[]⟩
def ykz:Shape:=⟨[(0,false,[.br tI]),(1,false,[.br tI]),(5,false,[.ci .i64 0])],[],[]⟩
def ykr:Shape:=⟨[],[],[]⟩
def ykL:Shape:=⟨[(4,false,[.bool])],[],[]⟩
def yqN (v0:List Int) (v1:List Int) (v2:Int):Option ((ydq).X ⊕ ((ykr).X ⊕ (ykL).X)) :=
  bif (ltb v2 (v0.length:Int)) then
    bif (inb v2 v0.length) then
      bif (inb v2 v1.length) then
        bif ((nth v0 v2 0) !=(nth v1 v2 0)) then
          some (.inr (.inr (((false,()),()),(),())))
        else
          some (.inl (((v0,()),(v1,()),((IntKind.i64.wrap (v2+1)),()),()),(),()))
      else none
    else none
  else
    some (.inr (.inl ((),(),())))
def yb5 (x:(ydq).X):=yqN x.1.1.1 x.1.2.1.1 x.1.2.2.1.1
def yyY (x:(ykz).X):(ydq).X:=(((x.1.1.1,()),(x.1.2.1.1,()),(0,()),()),(),())
def yAw:Code:=(zdI ylt 64 116).getD .skip
theorem yLW:zdI ylt 64 29=some (.block 0 (.loop yAw)):=by kernel_rfl
theorem yOE (x:(ydq).X):zg7 ⟨yrg,26,yCm⟩ 0 yAw 116 ydq ykr ykL x=yb5 x:=by kernel_rfl
def yzd (x:(ykz).X):Nat:=(fun (u0:List Int) (u1:List Int)=>18446744073709551616) x.1.1.1 x.1.2.1.1
def ysa (x:(ykz).X):Option ((ykr).X ⊕ (ykL).X):=zr yb5 (yzd x) (yyY x)
def yzv:Seg:=⟨ykz,ykr,ykL,ysa⟩
def yCn:Nat→Option Seg:=fun q=>bif Nat.beq q 29 then some yzv else yCm q
theorem yMy:FrOk Tryz.prog ⟨yrg,26,yCn⟩ ylt:=(yMx).loop (sg:=yzv) ydq yyY (by decide) yLW yb5 yzd (by decide) (fun _=>rfl) (fun x r _ h=>h) yOE
abbrev ygp:List Par:= [.rd tL,.rd tL]
abbrev yrF:List OT:= [⟨false,tB,.fz⟩]
def ynE (a0:List Int) (a1:List Int):Option (ResD yrF×MutD ygp) :=
  bif ((a0.length:Int) !=(a1.length:Int)) then
    some ((false,()),())
  else
    zjw (ysa (((a0,()),(a1,()),((),()),()),(),())) (fun y0 =>
      some ((true,()),())) (fun y0 =>
      some ((y0.1.1.1,()),()))
theorem yVf (x:InD ygp):zjH ⟨yrg,26,yCn⟩ Tryz.f17.results.toList ylt ygp yrF x=ynE x.1 x.2.1:=by kernel_rfl
theorem yRh:ConOk Tryz.prog 17 ⟨ygp,yrF,fun x=>ynE x.1 x.2.1⟩:=zkh (yMy) Tryz.func17 (by kernel_rfl) (by kernel_rfl) Tryz.ntmps17.symm (by decide) (fun x r h=>(yVf x).trans h)
def yA (a0 a1:List Int):Bool:=decide (a0=a1)
theorem yTp (a0 a1:List Int) (hk:zi9 ygp (a0,a1,())):ynE a0 a1=(fun n=>some ((n,()),())) (yA a0 a1):=by
  have hb:a0.length * 8≤2 ^ 47:=hk.1.1
  have hl:a0.length=a1.length→ysa (((a0,()),(a1,()),((),()),()),(),())=some (bif (List.range a0.length).any (fun i=>a0.getD i 0 !=a1.getD i 0) then .inr (((false,()),()),(),()) else .inl ((),(),())):=fun hL =>
    zf4 (step:=yb5) (fun i=>(((a0,()),(a1,()),((i:Int),()),()),(),())) a0.length (fun i=>a0.getD i 0 !=a1.getD i 0) _ _ (fun i hi=>by
      simp only [yb5,yqN,zkO hi,zkO (hL ▸ hi),zjW,zjI (show (i:Int) < a0.length by omega),cond_true,wr (show -9223372036854775808≤(i:Int)+1 by omega) (by omega),Int.natCast_add,Int.natCast_one]
      cases (a0.getD i 0 !=a1.getD i 0)<;>rfl) (by simp only [yb5,yqN,zkm (Int.le_refl _),cond_false]) _ (by show _ < 18446744073709551616; omega)
  unfold ynE yA
  by_cases h:a0.length=a1.length
  · rw [show ((a0.length:Int) !=(a1.length:Int))=false by simp [h],zkX,hl h]
    by_cases e:a0=a1
    · subst e
      have:(List.range a0.length).any (fun i=>a0.getD i 0 !=a0.getD i 0)=false:=by simp
      rw [this,decide_eq_true rfl]
      rfl
    · have:(List.range a0.length).any (fun i=>a0.getD i 0 !=a1.getD i 0)=true:=by
        rcases Bool.eq_false_or_eq_true ((List.range a0.length).any (fun i=>a0.getD i 0 !=a1.getD i 0)) with h2 | h2
        · exact h2
        · refine absurd (List.ext_getElem h fun i h3 h4=> ?_) e
          rw [List.any_eq_false]at h2
          have:=h2 i (List.mem_range.2 h3)
          simpa [h3,h4] using this
      rw [this,decide_eq_false e]
      rfl
  · rw [show ((a0.length:Int) !=(a1.length:Int))=true from bne_iff_ne.2 (by omega),zkY,decide_eq_false (fun e=>h (congrArg _ e))]
theorem yh2 (a b:List Int):yA a b=decide (a=b):=rfl
def yhZ:Con:=⟨ygp,yrF,fun x=>(fun n=>some ((n,()),())) (yA x.1 x.2.1)⟩
theorem ypU:ConOk Tryz.prog 17 yhZ:=(yRh).mono (fun x r hk h=>(yTp x.1 x.2.1 hk).trans h)
theorem yYv (a:List Int):yA a a=true:=by rw [yh2]; exact decide_eq_true rfl
end
section
def yjn:Code:=(Tryz.f193.body).getD .skip
def ypg:Env:=zki TT [(17,yhZ)] []
theorem yJ9:FrOk Tryz.prog ⟨ypg,27,fun _=>none⟩ yjn:=zkp yb yc ⟨ypU,trivial⟩
def yz8:Nat→Option Seg:=fun _=>none
def ycL:Shape:=⟨[(0,false,[.br tL]),(1,false,[.br tL]),(5,false,[.int .i64])],[],[]⟩
def yiz:Shape:=⟨[(0,false,[.br tL]),(1,false,[.br tL]),(5,false,[.ci .i64 0])],[],[]⟩
def yis:Shape:=⟨[],[],[]⟩
def yiN:Shape:=⟨[(4,false,[.bool])],[],[]⟩
def yo0 (v0:List (List Int)) (v1:List (List Int)) (v2:Int):Option ((ycL).X ⊕ ((yis).X ⊕ (yiN).X)) :=
  bif (ltb v2 (v0.length:Int)) then
    bif (inb v2 v0.length) then
      bif (inb v2 v1.length) then
        let r2:=yA (nth v0 v2 []) (nth v1 v2 [])
        bif (!r2) then
          some (.inr (.inr (((false,()),()),(),())))
        else
          some (.inl (((v0,()),(v1,()),((IntKind.i64.wrap (v2+1)),()),()),(),()))
      else none
    else none
  else
    some (.inr (.inl ((),(),())))
def ybm (x:(ycL).X):=yo0 x.1.1.1 x.1.2.1.1 x.1.2.2.1.1
def ywJ (x:(yiz).X):(ycL).X:=(((x.1.1.1,()),(x.1.2.1.1,()),(0,()),()),(),())
def yyv:Code:=(zdI yjn 64 116).getD .skip
theorem yJE:zdI yjn 64 29=some (.block 0 (.loop yyv)):=by kernel_rfl
theorem yLo (x:(ycL).X):zg7 ⟨ypg,27,yz8⟩ 0 yyv 116 ycL yis yiN x=ybm x:=by kernel_rfl
def yw2 (x:(yiz).X):Nat:=(fun (u0:List (List Int)) (u1:List (List Int))=>18446744073709551616) x.1.1.1 x.1.2.1.1
def yqj (x:(yiz).X):Option ((yis).X ⊕ (yiN).X):=zr ybm (yw2 x) (ywJ x)
def yxs:Seg:=⟨yiz,yis,yiN,yqj⟩
def yz9:Nat→Option Seg:=fun q=>bif Nat.beq q 29 then some yxs else yz8 q
theorem yKa:FrOk Tryz.prog ⟨ypg,27,yz9⟩ yjn:=(yJ9).loop (sg:=yxs) ycL ywJ (by decide) yJE ybm yw2 (by decide) (fun _=>rfl) (fun x r _ h=>h) yLo
abbrev yfl:List Par:= [.rd tLL,.rd tLL]
abbrev ypw:List OT:= [⟨false,tB,.fz⟩]
def yle (a0:List (List Int)) (a1:List (List Int)):Option (ResD ypw×MutD yfl) :=
  bif ((a0.length:Int) !=(a1.length:Int)) then
    some ((false,()),())
  else
    zjw (yqj (((a0,()),(a1,()),((),()),()),(),())) (fun y2 =>
      some ((true,()),())) (fun y2 =>
      some ((y2.1.1.1,()),()))
theorem ySN (x:InD yfl):zjH ⟨ypg,27,yz9⟩ Tryz.f193.results.toList yjn yfl ypw x=yle x.1 x.2.1:=by kernel_rfl
theorem yN5:ConOk Tryz.prog 193 ⟨yfl,ypw,fun x=>yle x.1 x.2.1⟩:=zkh (yKa) Tryz.func193 (by kernel_rfl) (by kernel_rfl) Tryz.ntmps193.symm (by decide) (fun x r h=>(ySN x).trans h)
def ydA (a0 a1:List (List Int)):Bool:=decide (a0=a1)
theorem yQQ (a0 a1:List (List Int)) (hk:zi9 yfl (a0,a1,())):yle a0 a1=(fun n=>some ((n,()),())) (ydA a0 a1):=by
  have hb:a0.length * 24≤2 ^ 47:=hk.1.1
  unfold yle ydA
  by_cases h:a0.length=a1.length
  · have hl:yqj (((a0,()),(a1,()),((),()),()),(),())=some (bif decide (a0=a1) then .inl ((),(),()) else .inr (((false,()),()),(),())) :=
      zkF (step:=ybm) a0 a1 ([]:List Int) (fun i=>(((a0,()),(a1,()),((i:Int),()),()),(),())) yA yh2 _ _ h (fun i hi=>by
        simp only [ybm,yo0,zkO (h ▸ hi),zkO hi,zjW,Int.toNat_natCast,zjI (show (i:Int) < a0.length by omega),cond_true,wr (show -9223372036854775808≤(i:Int)+1 by omega) (by omega),Int.natCast_add,Int.natCast_one,zkV]
        cases yA (a0.getD i []) (a1.getD i [])<;>rfl) (by simp only [ybm,yo0,zkm (Int.le_refl _),cond_false]) _ (by show _ < 18446744073709551616; omega)
    rw [show ((a0.length:Int) !=(a1.length:Int))=false by simp [h],zkX,hl]
    cases decide (a0=a1)<;>rfl
  · rw [show ((a0.length:Int) !=(a1.length:Int))=true from bne_iff_ne.2 (by omega),zkY,decide_eq_false (fun e=>h (congrArg _ e))]
theorem yBh (a0 a1:List (List Int)):ydA a0 a1=decide (a0=a1):=rfl
def yAQ:Con:=⟨yfl,ypw,fun x=>(fun n=>some ((n,()),())) (ydA x.1 x.2.1)⟩
theorem yRL:ConOk Tryz.prog 193 yAQ:=(yN5).mono (fun x r hk h=>(yQQ x.1 x.2.1 hk).trans h)
theorem yYe (a:List (List Int)):ydA a a=true:=by rw [yBh]; exact decide_eq_true rfl
end
section
def yLz:Code:=(Tryz.f240.body).getD .skip
def yLE:Env:=zki TT [(17,yhZ)] []
theorem yS2:FrOk Tryz.prog ⟨yLE,16,fun _=>none⟩ yLz:=zkp yb yc ⟨ypU,trivial⟩
def yUW:Nat→Option Seg:=fun _=>none
abbrev yq0:List Par:= [.rd tW,.rd tW]
abbrev yv3:List OT:= [⟨false,tB,.fz⟩]
def yxO (a0:dW) (a1:dW):Option (ResD yv3×MutD yq0) :=
  bif (a0.1 !=a1.1) then
    some ((false,()),())
  else
    let r1:=yA a0.2 a1.2
    bif (!r1) then
      some ((false,()),())
    else
      some ((true,()),())
theorem yXw (x:InD yq0):zjH ⟨yLE,16,yUW⟩ Tryz.f240.results.toList yLz yq0 yv3 x=yxO x.1 x.2.1:=by kernel_rfl
theorem yV8:ConOk Tryz.prog 240 ⟨yq0,yv3,fun x=>yxO x.1 x.2.1⟩:=zkh (yS2) Tryz.func240 (by kernel_rfl) (by kernel_rfl) Tryz.ntmps240.symm (by decide) (fun x r h=>(yXw x).trans h)
def yff (a0:dW) (a1:dW):Bool :=
  bif (a0.1 !=a1.1) then
    false
  else
    let r1:=yA a0.2 a1.2
    bif (!r1) then
      false
    else
      true
def yGa:Con:=⟨yq0,yv3,fun x=>(fun n=>some ((n,()),())) (yff x.1 x.2.1)⟩
theorem yXe (a0:dW) (a1:dW):yxO a0 a1=(fun n=>some ((n,()),())) (yff a0 a1):=zkS (p:=fun (n:Bool)=>((n,()),())) (zkx (p:=fun (n:Bool)=>((n,()),())) rfl (zkx (p:=fun (n:Bool)=>((n,()),())) rfl rfl))
theorem yXj:ConOk Tryz.prog 240 yGa:=(yV8).mono (fun x r _ h=>(yXe x.1 x.2.1).trans h)
theorem yGd (a b:dW):yff a b=decide (a=b):=by
  unfold yff
  simp only [zkz,zkA,zkB,zkC,zkD,yh2,Prod.ext_iff,Bool.decide_and,Bool.and_true]
theorem yYN (a:dW):yff a a=true:=by rw [yGd]; exact decide_eq_true rfl
end
section
def ynY:Code:=(Tryz.f194.body).getD .skip
def ytk:Env:=zki TT [(240,yGa)] []
theorem yQb:FrOk Tryz.prog ⟨ytk,27,fun _=>none⟩ ynY:=zkp yb yc ⟨yXj,trivial⟩
def yD8:Nat→Option Seg:=fun _=>none
def yeh:Shape:=⟨[(0,false,[.br tW]),(1,false,[.br tW]),(5,false,[.int .i64])],[],[]⟩
def ymU:Shape:=⟨[(0,false,[.br tW]),(1,false,[.br tW]),(5,false,[.ci .i64 0])],[],[]⟩
def ymR:Shape:=⟨[],[],[]⟩
def yng:Shape:=⟨[(4,false,[.bool])],[],[]⟩
def ysR (v0:List dW) (v1:List dW) (v2:Int):Option ((yeh).X ⊕ ((ymR).X ⊕ (yng).X)) :=
  bif (ltb v2 (v0.length:Int)) then
    bif (inb v2 v0.length) then
      bif (inb v2 v1.length) then
        let r2:=yff (nth v0 v2 (0,[])) (nth v1 v2 (0,[]))
        bif (!r2) then
          some (.inr (.inr (((false,()),()),(),())))
        else
          some (.inl (((v0,()),(v1,()),((IntKind.i64.wrap (v2+1)),()),()),(),()))
      else none
    else none
  else
    some (.inr (.inl ((),(),())))
def ycX (x:(yeh).X):=ysR x.1.1.1 x.1.2.1.1 x.1.2.2.1.1
def yA7 (x:(ymU).X):(yeh).X:=(((x.1.1.1,()),(x.1.2.1.1,()),(0,()),()),(),())
def yC1:Code:=(zdI ynY 64 116).getD .skip
theorem yPk:zdI ynY 64 29=some (.block 0 (.loop yC1)):=by kernel_rfl
theorem yR6 (x:(yeh).X):zg7 ⟨ytk,27,yD8⟩ 0 yC1 116 yeh ymR yng x=ycX x:=by kernel_rfl
def yBo (x:(ymU).X):Nat:=(fun (u0:List dW) (u1:List dW)=>18446744073709551616) x.1.1.1 x.1.2.1.1
def ytv (x:(ymU).X):Option ((ymR).X ⊕ (yng).X):=zr ycX (yBo x) (yA7 x)
def yBR:Seg:=⟨ymU,ymR,yng,ytv⟩
def yD9:Nat→Option Seg:=fun q=>bif Nat.beq q 29 then some yBR else yD8 q
theorem yQc:FrOk Tryz.prog ⟨ytk,27,yD9⟩ ynY:=(yQb).loop (sg:=yBR) yeh yA7 (by decide) yPk ycX yBo (by decide) (fun _=>rfl) (fun x r _ h=>h) yR6
abbrev yjD:List Par:= [.rd tWs,.rd tWs]
abbrev ytP:List OT:= [⟨false,tB,.fz⟩]
def yp2 (a0:List dW) (a1:List dW):Option (ResD ytP×MutD yjD) :=
  bif ((a0.length:Int) !=(a1.length:Int)) then
    some ((false,()),())
  else
    zjw (ytv (((a0,()),(a1,()),((),()),()),(),())) (fun y2 =>
      some ((true,()),())) (fun y2 =>
      some ((y2.1.1.1,()),()))
theorem yWN (x:InD yjD):zjH ⟨ytk,27,yD9⟩ Tryz.f194.results.toList ynY yjD ytP x=yp2 x.1 x.2.1:=by kernel_rfl
theorem yTW:ConOk Tryz.prog 194 ⟨yjD,ytP,fun x=>yp2 x.1 x.2.1⟩:=zkh (yQc) Tryz.func194 (by kernel_rfl) (by kernel_rfl) Tryz.ntmps194.symm (by decide) (fun x r h=>(yWN x).trans h)
def yfY (a0 a1:List (dW)):Bool:=decide (a0=a1)
theorem yVP (a0 a1:List (dW)) (hk:zi9 yjD (a0,a1,())):yp2 a0 a1=(fun n=>some ((n,()),())) (yfY a0 a1):=by
  have hb:a0.length * 32≤2 ^ 47:=hk.1.1
  unfold yp2 yfY
  by_cases h:a0.length=a1.length
  · have hl:ytv (((a0,()),(a1,()),((),()),()),(),())=some (bif decide (a0=a1) then .inl ((),(),()) else .inr (((false,()),()),(),())) :=
      zkF (step:=ycX) a0 a1 ((0,[]):dW) (fun i=>(((a0,()),(a1,()),((i:Int),()),()),(),())) yff yGd _ _ h (fun i hi=>by
        simp only [ycX,ysR,zkO (h ▸ hi),zkO hi,zjW,Int.toNat_natCast,zjI (show (i:Int) < a0.length by omega),cond_true,wr (show -9223372036854775808≤(i:Int)+1 by omega) (by omega),Int.natCast_add,Int.natCast_one,zkV]
        cases yff (a0.getD i (0,[])) (a1.getD i (0,[]))<;>rfl) (by simp only [ycX,ysR,zkm (Int.le_refl _),cond_false]) _ (by show _ < 18446744073709551616; omega)
    rw [show ((a0.length:Int) !=(a1.length:Int))=false by simp [h],zkX,hl]
    cases decide (a0=a1)<;>rfl
  · rw [show ((a0.length:Int) !=(a1.length:Int))=true from bne_iff_ne.2 (by omega),zkY,decide_eq_false (fun e=>h (congrArg _ e))]
theorem yES (a0 a1:List (dW)):yfY a0 a1=decide (a0=a1):=rfl
def yEA:Con:=⟨yjD,ytP,fun x=>(fun n=>some ((n,()),())) (yfY x.1 x.2.1)⟩
theorem yWj:ConOk Tryz.prog 194 yEA:=(yTW).mono (fun x r hk h=>(yVP x.1 x.2.1 hk).trans h)
theorem yYG (a:List dW):yfY a a=true:=by rw [yES]; exact decide_eq_true rfl
end
section
def yGX:Code:=(Tryz.f115.body).getD .skip
def yHj:Env:=zki TT [(17,yhZ),(193,yAQ),(194,yEA)] []
theorem yQa:FrOk Tryz.prog ⟨yHj,28,fun _=>none⟩ yGX:=zkp yb yc ⟨ypU,yRL,yWj,trivial⟩
def ySp:Nat→Option Seg:=fun _=>none
abbrev yoo:List Par:= [.rd tM,.rd tM]
abbrev ytO:List OT:= [⟨false,tB,.fz⟩]
def yvR (a0:dM) (a1:dM):Option (ResD ytO×MutD yoo) :=
  let r1:=ydA a0.1 a1.1
  bif (!r1) then
    some ((false,()),())
  else
    let r2:=yfY a0.2.1 a1.2.1
    bif (!r2) then
      some ((false,()),())
    else
      bif (!(a0.2.2.1==a1.2.2.1)) then
        some ((false,()),())
      else
        let r3:=yA a0.2.2.2 a1.2.2.2
        bif (!r3) then
          some ((false,()),())
        else
          some ((true,()),())
theorem yWM (x:InD yoo):zjH ⟨yHj,28,ySp⟩ Tryz.f115.results.toList yGX yoo ytO x=yvR x.1 x.2.1:=by kernel_rfl
theorem yTV:ConOk Tryz.prog 115 ⟨yoo,ytO,fun x=>yvR x.1 x.2.1⟩:=zkh (yQa) Tryz.func115 (by kernel_rfl) (by kernel_rfl) Tryz.ntmps115.symm (by decide) (fun x r h=>(yWM x).trans h)
def ydZ (a0:dM) (a1:dM):Bool :=
  let r1:=ydA a0.1 a1.1
  bif (!r1) then
    false
  else
    let r2:=yfY a0.2.1 a1.2.1
    bif (!r2) then
      false
    else
      bif (!(a0.2.2.1==a1.2.2.1)) then
        false
      else
        let r3:=yA a0.2.2.2 a1.2.2.2
        bif (!r3) then
          false
        else
          true
def yEz:Con:=⟨yoo,ytO,fun x=>(fun n=>some ((n,()),())) (ydZ x.1 x.2.1)⟩
theorem yVO (a0:dM) (a1:dM):yvR a0 a1=(fun n=>some ((n,()),())) (ydZ a0 a1):=zkS (p:=fun (n:Bool)=>((n,()),())) (zkx (p:=fun (n:Bool)=>((n,()),())) rfl (zkx (p:=fun (n:Bool)=>((n,()),())) rfl (zkx (p:=fun (n:Bool)=>((n,()),())) rfl (zkx (p:=fun (n:Bool)=>((n,()),())) rfl rfl))))
theorem yWi:ConOk Tryz.prog 115 yEz:=(yTV).mono (fun x r _ h=>(yVO x.1 x.2.1).trans h)
theorem yER (a b:dM):ydZ a b=decide (a=b):=by
  unfold ydZ
  simp only [zkz,zkA,zkB,zkC,zkD,yh2,yBh,yES,Prod.ext_iff,Bool.decide_and,Bool.and_true]
theorem yYF (a:dM):ydZ a a=true:=by rw [yER]; exact decide_eq_true rfl
end
end
end Go.Tf
