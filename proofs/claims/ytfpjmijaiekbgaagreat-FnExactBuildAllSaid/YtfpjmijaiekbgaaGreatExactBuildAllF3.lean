/- Functions of the program, and what they come to. -/
import Derived.Test.YtfpjmijaiekbgaaGreatExactBuildAllF2
namespace Go.Tf
noncomputable section
open Go.Proofs
set_option synthInstance.maxHeartbeats 400000
set_option synthInstance.maxSize 10000
set_option linter.unusedVariables false
set_option linter.unusedSimpArgs false
set_option maxRecDepth 100000
section
def yFn:Code:=(Tryz.f15.body).getD .skip
def yFO:Env:=zki TT [(37,yBU),(66,yC8),(67,yBT)] []
theorem yOb:FrOk Tryz.prog ⟨yFO,44,fun _=>none⟩ yFn:=zkp yb yc ⟨yR7,yT1,yR6,trivial⟩
def yQe:Nat→Option Seg:=fun _=>none
abbrev ynD:List Par:= [.rd tA]
abbrev ysM:List OT:= [⟨false,tA,(.pr .fz (.pr (.pr .fz .fz) (.pr (.ow (.pr (.ow (.ow .fz)) (.pr (.ow (.pr .fz (.ow .fz))) (.pr .fz (.ow .fz))))) (.pr .fz (.pr .fz (.pr .fz (.pr .fz (.pr .fz (.pr (.ow (.pr .fz (.ow .fz))) (.pr .fz (.pr .fz .fz)))))))))))⟩]
def yuQ (a0:dA):Option (ResD ysM×MutD ynD) :=
  let r1:=yn3 a0.2.1
  let r2:=ygz a0.2.2.1
  let r3:=ygy a0.2.2.2.2.2.2.2.2.1
  some (((a0.1,r1,r2,a0.2.2.2.1,a0.2.2.2.2.1,a0.2.2.2.2.2.1,a0.2.2.2.2.2.2.1,a0.2.2.2.2.2.2.2.1,r3,a0.2.2.2.2.2.2.2.2.2),()),())
theorem yUz (x:InD ynD):zjH ⟨yFO,44,yQe⟩ Tryz.f15.results.toList yFn ynD ysM x=yuQ x.1:=by kernel_rfl
theorem yRJ:ConOk Tryz.prog 15 ⟨ynD,ysM,fun x=>yuQ x.1⟩:=zkh (yOb) Tryz.func15 (by kernel_rfl) (by kernel_rfl) Tryz.ntmps15.symm (by decide) (fun x r h=>(yUz x).trans h)
def yfW (a0:dA):dA :=
  let r1:=yn3 a0.2.1
  let r2:=ygz a0.2.2.1
  let r3:=ygy a0.2.2.2.2.2.2.2.2.1
  (a0.1,r1,r2,a0.2.2.2.1,a0.2.2.2.2.1,a0.2.2.2.2.2.1,a0.2.2.2.2.2.2.1,a0.2.2.2.2.2.2.2.1,r3,a0.2.2.2.2.2.2.2.2.2)
def yC6:Con:=⟨ynD,ysM,fun x=>(fun n=>some ((n,()),())) (yfW x.1)⟩
theorem yTt (a0:dA):yuQ a0=(fun n=>some ((n,()),())) (yfW a0):=zkS (p:=fun (n:dA)=>((n,()),())) rfl
theorem yTZ:ConOk Tryz.prog 15 yC6:=(yRJ).mono (fun x r _ h=>(yTt x.1).trans h)
theorem yS6 (a:dA):yfW a=a:=by kernel_rfl
end
section
def ykX:Code:=(Tryz.f17.body).getD .skip
def yqs:Env:=zki TT [] []
theorem yKG:FrOk Tryz.prog ⟨yqs,26,fun _=>none⟩ ykX:=zkp yb yc trivial
def yA0:Nat→Option Seg:=fun _=>none
def ydg:Shape:=⟨[(0,false,[.br tI]),(1,false,[.br tI]),(5,false,[.int .i64])],[],[]⟩
def yj4:Shape:=⟨[(0,false,[.br tI]),(1,false,[.br tI]),(5,false,[.ci .i64 0])],[],[]⟩
def yjW:Shape:=⟨[],[],[]⟩
def yki:Shape:=⟨[(4,false,[.bool])],[],[]⟩
def ypU (v0:List Int) (v1:List Int) (v2:Int):Option ((ydg).X ⊕ ((yjW).X ⊕ (yki).X)) :=
  bif (ltb v2 (v0.length:Int)) then
    bif (inb v2 v0.length) then
      bif (inb v2 v1.length) then
        bif ((nth v0 v2 0) !=(nth v1 v2 0)) then
          some (.inr (.inr (((false,()),()),(),())))
        else
          some (.inl (((v0,()),(v1,()),((IntKind.i64.wrap (v2+1)),()),()),(),()))
      else none
    else none
  else
    some (.inr (.inl ((),(),())))
def yb7 (x:(ydg).X):=ypU x.1.1.1 x.1.2.1.1 x.1.2.2.1.1
def yxI (x:(yj4).X):(ydg).X:=(((x.1.1.1,()),(x.1.2.1.1,()),(0,()),()),(),())
def yzo:Code:=(zdI ykX 64 116).getD .skip
theorem yJ7:zdI ykX 64 29=some (.block 0 (.loop yzo)):=by kernel_rfl
theorem yMC (x:(ydg).X):zg7 ⟨yqs,26,yA0⟩ 0 yzo 116 ydg yjW yki x=yb7 x:=by kernel_rfl
def yxY (x:(yj4).X):Nat:=(fun (u0:List Int) (u1:List Int)=>18446744073709551616) x.1.1.1 x.1.2.1.1
def yre (x:(yj4).X):Option ((yjW).X ⊕ (yki).X):=zr yb7 (yxY x) (yxI x)
def yyk:Seg:=⟨yj4,yjW,yki,yre⟩
def yA1:Nat→Option Seg:=fun q=>bif Nat.beq q 29 then some yyk else yA0 q
theorem yKH:FrOk Tryz.prog ⟨yqs,26,yA1⟩ ykX:=(yKG).loop (sg:=yyk) ydg yxI (by decide) yJ7 yb7 yxY (by decide) (fun _=>rfl) (fun x r _ h=>h) yMC
abbrev ygj:List Par:= [.rd tL,.rd tL]
abbrev yqO:List OT:= [⟨false,tB,.fz⟩]
def ymU (a0:List Int) (a1:List Int):Option (ResD yqO×MutD ygj) :=
  bif ((a0.length:Int) !=(a1.length:Int)) then
    some ((false,()),())
  else
    zjw (yre (((a0,()),(a1,()),((),()),()),(),())) (fun y0 =>
      some ((true,()),())) (fun y0 =>
      some ((y0.1.1.1,()),()))
theorem ySN (x:InD ygj):zjH ⟨yqs,26,yA1⟩ Tryz.f17.results.toList ykX ygj yqO x=ymU x.1 x.2.1:=by kernel_rfl
theorem yO8:ConOk Tryz.prog 17 ⟨ygj,yqO,fun x=>ymU x.1 x.2.1⟩:=zkh (yKH) Tryz.func17 (by kernel_rfl) (by kernel_rfl) Tryz.ntmps17.symm (by decide) (fun x r h=>(ySN x).trans h)
def yA (a0 a1:List Int):Bool:=decide (a0=a1)
theorem yQ8 (a0 a1:List Int) (hk:zi9 ygj (a0,a1,())):ymU a0 a1=(fun n=>some ((n,()),())) (yA a0 a1):=by
  have hb:a0.length * 8≤2 ^ 47:=hk.1.1
  have hl:a0.length=a1.length→yre (((a0,()),(a1,()),((),()),()),(),())=some (bif (List.range a0.length).any (fun i=>a0.getD i 0 !=a1.getD i 0) then .inr (((false,()),()),(),()) else .inl ((),(),())):=fun hL =>
    zf4 (step:=yb7) (fun i=>(((a0,()),(a1,()),((i:Int),()),()),(),())) a0.length (fun i=>a0.getD i 0 !=a1.getD i 0) _ _ (fun i hi=>by
      simp only [yb7,ypU,zkO hi,zkO (hL ▸ hi),zjW,zjI (show (i:Int) < a0.length by omega),cond_true,wr (show -9223372036854775808≤(i:Int)+1 by omega) (by omega),Int.natCast_add,Int.natCast_one]
      cases (a0.getD i 0 !=a1.getD i 0)<;>rfl) (by simp only [yb7,ypU,zkm (Int.le_refl _),cond_false]) _ (by show _ < 18446744073709551616; omega)
  unfold ymU yA
  by_cases h:a0.length=a1.length
  · rw [show ((a0.length:Int) !=(a1.length:Int))=false by simp [h],zkX,hl h]
    by_cases e:a0=a1
    · subst e
      have:(List.range a0.length).any (fun i=>a0.getD i 0 !=a0.getD i 0)=false:=by simp
      rw [this,decide_eq_true rfl]
      rfl
    · have:(List.range a0.length).any (fun i=>a0.getD i 0 !=a1.getD i 0)=true:=by
        rcases Bool.eq_false_or_eq_true ((List.range a0.length).any (fun i=>a0.getD i 0 !=a1.getD i 0)) with h2 | h2
        · exact h2
        · refine absurd (List.ext_getElem h fun i h3 h4=> ?_) e
          rw [List.any_eq_false]at h2
          have:=h2 i (List.mem_range.2 h3)
          simpa [h3,h4] using this
      rw [this,decide_eq_false e]
      rfl
  · rw [show ((a0.length:Int) !=(a1.length:Int))=true from bne_iff_ne.2 (by omega),zkY,decide_eq_false (fun e=>h (congrArg _ e))]
theorem yhP (a b:List Int):yA a b=decide (a=b):=rfl
def yhM:Con:=⟨ygj,yqO,fun x=>(fun n=>some ((n,()),())) (yA x.1 x.2.1)⟩
theorem yo6:ConOk Tryz.prog 17 yhM:=(yO8).mono (fun x r hk h=>(yQ8 x.1 x.2.1 hk).trans h)
theorem yWh (a:List Int):yA a a=true:=by rw [yhP]; exact decide_eq_true rfl
end
section
def yi5:Code:=(Tryz.f193.body).getD .skip
def you:Env:=zki TT [(17,yhM)] []
theorem yIj:FrOk Tryz.prog ⟨you,27,fun _=>none⟩ yi5:=zkp yb yc ⟨yo6,trivial⟩
def yyY:Nat→Option Seg:=fun _=>none
def ycE:Shape:=⟨[(0,false,[.br tL]),(1,false,[.br tL]),(5,false,[.int .i64])],[],[]⟩
def yio:Shape:=⟨[(0,false,[.br tL]),(1,false,[.br tL]),(5,false,[.ci .i64 0])],[],[]⟩
def yih:Shape:=⟨[],[],[]⟩
def yiA:Shape:=⟨[(4,false,[.bool])],[],[]⟩
def yof (v0:List (List Int)) (v1:List (List Int)) (v2:Int):Option ((ycE).X ⊕ ((yih).X ⊕ (yiA).X)) :=
  bif (ltb v2 (v0.length:Int)) then
    bif (inb v2 v0.length) then
      bif (inb v2 v1.length) then
        let r2:=yA (nth v0 v2 []) (nth v1 v2 [])
        bif (!r2) then
          some (.inr (.inr (((false,()),()),(),())))
        else
          some (.inl (((v0,()),(v1,()),((IntKind.i64.wrap (v2+1)),()),()),(),()))
      else none
    else none
  else
    some (.inr (.inl ((),(),())))
def ybk (x:(ycE).X):=yof x.1.1.1 x.1.2.1.1 x.1.2.2.1.1
def yvE (x:(yio).X):(ycE).X:=(((x.1.1.1,()),(x.1.2.1.1,()),(0,()),()),(),())
def yxh:Code:=(zdI yi5 64 116).getD .skip
theorem yHU:zdI yi5 64 29=some (.block 0 (.loop yxh)):=by kernel_rfl
theorem yJB (x:(ycE).X):zg7 ⟨you,27,yyY⟩ 0 yxh 116 ycE yih yiA x=ybk x:=by kernel_rfl
def yvU (x:(yio).X):Nat:=(fun (u0:List (List Int)) (u1:List (List Int))=>18446744073709551616) x.1.1.1 x.1.2.1.1
def ypv (x:(yio).X):Option ((yih).X ⊕ (yiA).X):=zr ybk (yvU x) (yvE x)
def ywj:Seg:=⟨yio,yih,yiA,ypv⟩
def yyZ:Nat→Option Seg:=fun q=>bif Nat.beq q 29 then some ywj else yyY q
theorem yIk:FrOk Tryz.prog ⟨you,27,yyZ⟩ yi5:=(yIj).loop (sg:=ywj) ycE yvE (by decide) yHU ybk yvU (by decide) (fun _=>rfl) (fun x r _ h=>h) yJB
abbrev yfe:List Par:= [.rd tLL,.rd tLL]
abbrev yoK:List OT:= [⟨false,tB,.fz⟩]
def ykJ (a0:List (List Int)) (a1:List (List Int)):Option (ResD yoK×MutD yfe) :=
  bif ((a0.length:Int) !=(a1.length:Int)) then
    some ((false,()),())
  else
    zjw (ypv (((a0,()),(a1,()),((),()),()),(),())) (fun y2 =>
      some ((true,()),())) (fun y2 =>
      some ((y2.1.1.1,()),()))
theorem yQy (x:InD yfe):zjH ⟨you,27,yyZ⟩ Tryz.f193.results.toList yi5 yfe yoK x=ykJ x.1 x.2.1:=by kernel_rfl
theorem yL6:ConOk Tryz.prog 193 ⟨yfe,yoK,fun x=>ykJ x.1 x.2.1⟩:=zkh (yIk) Tryz.func193 (by kernel_rfl) (by kernel_rfl) Tryz.ntmps193.symm (by decide) (fun x r h=>(yQy x).trans h)
def ydp (a0 a1:List (List Int)):Bool:=decide (a0=a1)
theorem yOI (a0 a1:List (List Int)) (hk:zi9 yfe (a0,a1,())):ykJ a0 a1=(fun n=>some ((n,()),())) (ydp a0 a1):=by
  have hb:a0.length * 24≤2 ^ 47:=hk.1.1
  unfold ykJ ydp
  by_cases h:a0.length=a1.length
  · have hl:ypv (((a0,()),(a1,()),((),()),()),(),())=some (bif decide (a0=a1) then .inl ((),(),()) else .inr (((false,()),()),(),())) :=
      zkF (step:=ybk) a0 a1 ([]:List Int) (fun i=>(((a0,()),(a1,()),((i:Int),()),()),(),())) yA yhP _ _ h (fun i hi=>by
        simp only [ybk,yof,zkO (h ▸ hi),zkO hi,zjW,Int.toNat_natCast,zjI (show (i:Int) < a0.length by omega),cond_true,wr (show -9223372036854775808≤(i:Int)+1 by omega) (by omega),Int.natCast_add,Int.natCast_one,zkV]
        cases yA (a0.getD i []) (a1.getD i [])<;>rfl) (by simp only [ybk,yof,zkm (Int.le_refl _),cond_false]) _ (by show _ < 18446744073709551616; omega)
    rw [show ((a0.length:Int) !=(a1.length:Int))=false by simp [h],zkX,hl]
    cases decide (a0=a1)<;>rfl
  · rw [show ((a0.length:Int) !=(a1.length:Int))=true from bne_iff_ne.2 (by omega),zkY,decide_eq_false (fun e=>h (congrArg _ e))]
theorem yz6 (a0 a1:List (List Int)):ydp a0 a1=decide (a0=a1):=rfl
def yzH:Con:=⟨yfe,yoK,fun x=>(fun n=>some ((n,()),())) (ydp x.1 x.2.1)⟩
theorem yPv:ConOk Tryz.prog 193 yzH:=(yL6).mono (fun x r hk h=>(yOI x.1 x.2.1 hk).trans h)
theorem yV1 (a:List (List Int)):ydp a a=true:=by rw [yz6]; exact decide_eq_true rfl
end
section
def yJL:Code:=(Tryz.f240.body).getD .skip
def yJQ:Env:=zki TT [(17,yhM)] []
theorem yQO:FrOk Tryz.prog ⟨yJQ,16,fun _=>none⟩ yJL:=zkp yb yc ⟨yo6,trivial⟩
def ySw:Nat→Option Seg:=fun _=>none
abbrev yqa:List Par:= [.rd tW,.rd tW]
abbrev yuZ:List OT:= [⟨false,tB,.fz⟩]
def ywE (a0:dW) (a1:dW):Option (ResD yuZ×MutD yqa) :=
  bif (a0.1 !=a1.1) then
    some ((false,()),())
  else
    let r1:=yA a0.2 a1.2
    bif (!r1) then
      some ((false,()),())
    else
      some ((true,()),())
theorem yU9 (x:InD yqa):zjH ⟨yJQ,16,ySw⟩ Tryz.f240.results.toList yJL yqa yuZ x=ywE x.1 x.2.1:=by kernel_rfl
theorem yTH:ConOk Tryz.prog 240 ⟨yqa,yuZ,fun x=>ywE x.1 x.2.1⟩:=zkh (yQO) Tryz.func240 (by kernel_rfl) (by kernel_rfl) Tryz.ntmps240.symm (by decide) (fun x r h=>(yU9 x).trans h)
def ye8 (a0:dW) (a1:dW):Bool :=
  bif (a0.1 !=a1.1) then
    false
  else
    let r1:=yA a0.2 a1.2
    bif (!r1) then
      false
    else
      true
def yEt:Con:=⟨yqa,yuZ,fun x=>(fun n=>some ((n,()),())) (ye8 x.1 x.2.1)⟩
theorem yUU (a0:dW) (a1:dW):ywE a0 a1=(fun n=>some ((n,()),())) (ye8 a0 a1):=zkS (p:=fun (n:Bool)=>((n,()),())) (zkx (p:=fun (n:Bool)=>((n,()),())) rfl (zkx (p:=fun (n:Bool)=>((n,()),())) rfl rfl))
theorem yUZ:ConOk Tryz.prog 240 yEt:=(yTH).mono (fun x r _ h=>(yUU x.1 x.2.1).trans h)
theorem yEw (a b:dW):ye8 a b=decide (a=b):=by
  unfold ye8
  simp only [zkz,zkA,zkB,zkC,zkD,yhP,Prod.ext_iff,Bool.decide_and,Bool.and_true]
theorem yWz (a:dW):ye8 a a=true:=by rw [yEw]; exact decide_eq_true rfl
end
section
def ync:Code:=(Tryz.f194.body).getD .skip
def ysf:Env:=zki TT [(240,yEt)] []
theorem yN4:FrOk Tryz.prog ⟨ysf,27,fun _=>none⟩ ync:=zkp yb yc ⟨yUZ,trivial⟩
def yCz:Nat→Option Seg:=fun _=>none
def yeh:Shape:=⟨[(0,false,[.br tW]),(1,false,[.br tW]),(5,false,[.int .i64])],[],[]⟩
def ymg:Shape:=⟨[(0,false,[.br tW]),(1,false,[.br tW]),(5,false,[.ci .i64 0])],[],[]⟩
def ymd:Shape:=⟨[],[],[]⟩
def ymB:Shape:=⟨[(4,false,[.bool])],[],[]⟩
def yrT (v0:List dW) (v1:List dW) (v2:Int):Option ((yeh).X ⊕ ((ymd).X ⊕ (ymB).X)) :=
  bif (ltb v2 (v0.length:Int)) then
    bif (inb v2 v0.length) then
      bif (inb v2 v1.length) then
        let r2:=ye8 (nth v0 v2 (0,[])) (nth v1 v2 (0,[]))
        bif (!r2) then
          some (.inr (.inr (((false,()),()),(),())))
        else
          some (.inl (((v0,()),(v1,()),((IntKind.i64.wrap (v2+1)),()),()),(),()))
      else none
    else none
  else
    some (.inr (.inl ((),(),())))
def ycR (x:(yeh).X):=yrT x.1.1.1 x.1.2.1.1 x.1.2.2.1.1
def yzZ (x:(ymg).X):(yeh).X:=(((x.1.1.1,()),(x.1.2.1.1,()),(0,()),()),(),())
def yBD:Code:=(zdI ync 64 116).getD .skip
theorem yNe:zdI ync 64 29=some (.block 0 (.loop yBD)):=by kernel_rfl
theorem yPR (x:(yeh).X):zg7 ⟨ysf,27,yCz⟩ 0 yBD 116 yeh ymd ymB x=ycR x:=by kernel_rfl
def yAd (x:(ymg).X):Nat:=(fun (u0:List dW) (u1:List dW)=>18446744073709551616) x.1.1.1 x.1.2.1.1
def yso (x:(ymg).X):Option ((ymd).X ⊕ (ymB).X):=zr ycR (yAd x) (yzZ x)
def yAB:Seg:=⟨ymg,ymd,ymB,yso⟩
def yCA:Nat→Option Seg:=fun q=>bif Nat.beq q 29 then some yAB else yCz q
theorem yN5:FrOk Tryz.prog ⟨ysf,27,yCA⟩ ync:=(yN4).loop (sg:=yAB) yeh yzZ (by decide) yNe ycR yAd (by decide) (fun _=>rfl) (fun x r _ h=>h) yPR
abbrev yjp:List Par:= [.rd tWs,.rd tWs]
abbrev ysH:List OT:= [⟨false,tB,.fz⟩]
def ypf (a0:List dW) (a1:List dW):Option (ResD ysH×MutD yjp) :=
  bif ((a0.length:Int) !=(a1.length:Int)) then
    some ((false,()),())
  else
    zjw (yso (((a0,()),(a1,()),((),()),()),(),())) (fun y2 =>
      some ((true,()),())) (fun y2 =>
      some ((y2.1.1.1,()),()))
theorem yUu (x:InD yjp):zjH ⟨ysf,27,yCA⟩ Tryz.f194.results.toList ync yjp ysH x=ypf x.1 x.2.1:=by kernel_rfl
theorem yRE:ConOk Tryz.prog 194 ⟨yjp,ysH,fun x=>ypf x.1 x.2.1⟩:=zkh (yN5) Tryz.func194 (by kernel_rfl) (by kernel_rfl) Tryz.ntmps194.symm (by decide) (fun x r h=>(yUu x).trans h)
def yfV (a0 a1:List (dW)):Bool:=decide (a0=a1)
theorem yTo (a0 a1:List (dW)) (hk:zi9 yjp (a0,a1,())):ypf a0 a1=(fun n=>some ((n,()),())) (yfV a0 a1):=by
  have hb:a0.length * 32≤2 ^ 47:=hk.1.1
  unfold ypf yfV
  by_cases h:a0.length=a1.length
  · have hl:yso (((a0,()),(a1,()),((),()),()),(),())=some (bif decide (a0=a1) then .inl ((),(),()) else .inr (((false,()),()),(),())) :=
      zkF (step:=ycR) a0 a1 ((0,[]):dW) (fun i=>(((a0,()),(a1,()),((i:Int),()),()),(),())) ye8 yEw _ _ h (fun i hi=>by
        simp only [ycR,yrT,zkO (h ▸ hi),zkO hi,zjW,Int.toNat_natCast,zjI (show (i:Int) < a0.length by omega),cond_true,wr (show -9223372036854775808≤(i:Int)+1 by omega) (by omega),Int.natCast_add,Int.natCast_one,zkV]
        cases ye8 (a0.getD i (0,[])) (a1.getD i (0,[]))<;>rfl) (by simp only [ycR,yrT,zkm (Int.le_refl _),cond_false]) _ (by show _ < 18446744073709551616; omega)
    rw [show ((a0.length:Int) !=(a1.length:Int))=false by simp [h],zkX,hl]
    cases decide (a0=a1)<;>rfl
  · rw [show ((a0.length:Int) !=(a1.length:Int))=true from bne_iff_ne.2 (by omega),zkY,decide_eq_false (fun e=>h (congrArg _ e))]
theorem yDj (a0 a1:List (dW)):yfV a0 a1=decide (a0=a1):=rfl
def yC1:Con:=⟨yjp,ysH,fun x=>(fun n=>some ((n,()),())) (yfV x.1 x.2.1)⟩
theorem yTU:ConOk Tryz.prog 194 yC1:=(yRE).mono (fun x r hk h=>(yTo x.1 x.2.1 hk).trans h)
theorem yWr (a:List dW):yfV a a=true:=by rw [yDj]; exact decide_eq_true rfl
end
section
def yFj:Code:=(Tryz.f115.body).getD .skip
def yFK:Env:=zki TT [(17,yhM),(193,yzH),(194,yC1)] []
theorem yN3:FrOk Tryz.prog ⟨yFK,28,fun _=>none⟩ yFj:=zkp yb yc ⟨yo6,yPv,yTU,trivial⟩
def yQa:Nat→Option Seg:=fun _=>none
abbrev ynz:List Par:= [.rd tM,.rd tM]
abbrev ysG:List OT:= [⟨false,tB,.fz⟩]
def yuM (a0:dM) (a1:dM):Option (ResD ysG×MutD ynz) :=
  let r1:=ydp a0.1 a1.1
  bif (!r1) then
    some ((false,()),())
  else
    let r2:=yfV a0.2.1 a1.2.1
    bif (!r2) then
      some ((false,()),())
    else
      bif (!(a0.2.2.1==a1.2.2.1)) then
        some ((false,()),())
      else
        let r3:=yA a0.2.2.2 a1.2.2.2
        bif (!r3) then
          some ((false,()),())
        else
          some ((true,()),())
theorem yUt (x:InD ynz):zjH ⟨yFK,28,yQa⟩ Tryz.f115.results.toList yFj ynz ysG x=yuM x.1 x.2.1:=by kernel_rfl
theorem yRD:ConOk Tryz.prog 115 ⟨ynz,ysG,fun x=>yuM x.1 x.2.1⟩:=zkh (yN3) Tryz.func115 (by kernel_rfl) (by kernel_rfl) Tryz.ntmps115.symm (by decide) (fun x r h=>(yUt x).trans h)
def ydW (a0:dM) (a1:dM):Bool :=
  let r1:=ydp a0.1 a1.1
  bif (!r1) then
    false
  else
    let r2:=yfV a0.2.1 a1.2.1
    bif (!r2) then
      false
    else
      bif (!(a0.2.2.1==a1.2.2.1)) then
        false
      else
        let r3:=yA a0.2.2.2 a1.2.2.2
        bif (!r3) then
          false
        else
          true
def yC0:Con:=⟨ynz,ysG,fun x=>(fun n=>some ((n,()),())) (ydW x.1 x.2.1)⟩
theorem yTn (a0:dM) (a1:dM):yuM a0 a1=(fun n=>some ((n,()),())) (ydW a0 a1):=zkS (p:=fun (n:Bool)=>((n,()),())) (zkx (p:=fun (n:Bool)=>((n,()),())) rfl (zkx (p:=fun (n:Bool)=>((n,()),())) rfl (zkx (p:=fun (n:Bool)=>((n,()),())) rfl (zkx (p:=fun (n:Bool)=>((n,()),())) rfl rfl))))
theorem yTT:ConOk Tryz.prog 115 yC0:=(yRD).mono (fun x r _ h=>(yTn x.1 x.2.1).trans h)
theorem yDi (a b:dM):ydW a b=decide (a=b):=by
  unfold ydW
  simp only [zkz,zkA,zkB,zkC,zkD,yhP,yz6,yDj,Prod.ext_iff,Bool.decide_and,Bool.and_true]
theorem yWq (a:dM):ydW a a=true:=by rw [yDi]; exact decide_eq_true rfl
end
end
end Go.Tf
