/- Functions of the program, and what they come to. -/
import Derived.Test.YtgmadfpnljibhaaGreatBuiltBentF4
namespace Go.Tf
noncomputable section
open Go.Proofs
set_option synthInstance.maxHeartbeats 400000
set_option synthInstance.maxSize 10000
set_option linter.unusedVariables false
set_option linter.unusedSimpArgs false
set_option maxRecDepth 100000
section
def ykr:Code:=(Tryz.f206.body).getD .skip
def yqf:Env:=zki TT [(215,yEp),(262,yvb)] []
theorem yMw:FrOk Tryz.prog ⟨yqf,45,fun _=>none⟩ ykr:=zkp yc yd ⟨yWQ,yIX,trivial⟩
def yBi:Nat→Option Seg:=fun _=>none
def ybH:Shape:=⟨[(1,false,[.int .i64]),(2,false,[.ptr 0 0]),(6,false,[.at 800000000]),(7,false,[.int .i64]),(8,false,[.int .i64])],[(0,[.int .i64,.int .i64,.int .i64,.br tM,.int .i64,.int .i64,.int .i64,.int .i64,.int .i64,.br tW,.int .i64,.bool,.bool])],[(800000000,tI,.fz)]⟩
def yf5:Shape:=⟨[(1,false,[.int .i64]),(2,false,[.ptr 0 0]),(6,false,[.at 800000000]),(7,false,[.ci .i64 (-1)]),(8,false,[.ci .i64 0])],[(0,[.int .i64,.int .i64,.int .i64,.br tM,.int .i64,.int .i64,.int .i64,.int .i64,.int .i64,.br tW,.int .i64,.bool,.bool])],[(800000000,tI,.fz)]⟩
def yfU:Shape:=⟨[(6,false,[.at 800000000]),(7,false,[.int .i64])],[],[(800000000,tI,.fz)]⟩
def yf8:Shape:=⟨[(4,false,[.at 800000000]),(5,false,[.bool])],[],[(800000000,tI,.fz)]⟩
abbrev ypL (v0:Int) (v1:Int) (v2:Int) (v3:dA) (v4:List Int):(ybH).X:=(((v0,()),((),()),((),()),(v1,()),(v2,()),()),((v3.1,v3.2.1.1,v3.2.1.2,v3.2.2.1,v3.2.2.2.1,v3.2.2.2.2.1,v3.2.2.2.2.2.1,v3.2.2.2.2.2.2.1,v3.2.2.2.2.2.2.2.1,v3.2.2.2.2.2.2.2.2.1,v3.2.2.2.2.2.2.2.2.2.1,v3.2.2.2.2.2.2.2.2.2.2.1,v3.2.2.2.2.2.2.2.2.2.2.2,()),()),(v4,()))
abbrev yKT (v0:Int) (v1:dA) (v2:List Int):(yf5).X:=(((v0,()),((),()),((),()),((),()),((),()),()),((v1.1,v1.2.1.1,v1.2.1.2,v1.2.2.1,v1.2.2.2.1,v1.2.2.2.2.1,v1.2.2.2.2.2.1,v1.2.2.2.2.2.2.1,v1.2.2.2.2.2.2.2.1,v1.2.2.2.2.2.2.2.2.1,v1.2.2.2.2.2.2.2.2.2.1,v1.2.2.2.2.2.2.2.2.2.2.1,v1.2.2.2.2.2.2.2.2.2.2.2,()),()),(v2,()))
abbrev yKI (v0:Int) (v1:List Int):(yfU).X:=((((),()),(v0,()),()),(),(v1,()))
abbrev yKW (v0:Bool) (v1:List Int):(yf8).X:=((((),()),(v0,()),()),(),(v1,()))
def yp5 (v0:Int) (v1:Int) (v2:Int) (v3:Int) (v4:Int) (v5:Int) (v6:List dM) (v7:Int) (v8:Int) (v9:Int) (v10:Int) (v11:Int) (v12:List dW) (v13:Int) (v14:Bool) (v15:Bool) (v16:List Int):Option ((ybH).X ⊕ ((yfU).X ⊕ (yf8).X)) :=
  bif (ltb v2 v4) then
    let r2:=ym6 (v3,(v4,v5),v6,v7,v8,v9,v10,v11,v12,v13,v14,v15) v2 v0
    bif (!r2.2) then
      bif (leb 0 v1) then
        some (.inr (.inr ((((),()),(false,()),()),(),(([]:List Int),()))))
      else
        bif (zj4 v16.length ([r2.1]:List Int).length 8) then
          some (.inl (((v0,()),((),()),((),()),(v2,()),((IntKind.i64.wrap (v2+1)),()),()),((v3,v4,v5,v6,v7,v8,v9,v10,v11,v12,v13,v14,v15,()),()),((v16++([r2.1]:List Int)),())))
        else none
    else
      bif (zj4 v16.length ([r2.1]:List Int).length 8) then
        some (.inl (((v0,()),((),()),((),()),(v1,()),((IntKind.i64.wrap (v2+1)),()),()),((v3,v4,v5,v6,v7,v8,v9,v10,v11,v12,v13,v14,v15,()),()),((v16++([r2.1]:List Int)),())))
      else none
  else
    some (.inr (.inl ((((),()),(v1,()),()),(),(v16,()))))
def ybX (x:(ybH).X):=yp5 x.1.1.1 x.1.2.2.2.1.1 x.1.2.2.2.2.1.1 x.2.1.1.1 x.2.1.1.2.1 x.2.1.1.2.2.1 x.2.1.1.2.2.2.1 x.2.1.1.2.2.2.2.1 x.2.1.1.2.2.2.2.2.1 x.2.1.1.2.2.2.2.2.2.1 x.2.1.1.2.2.2.2.2.2.2.1 x.2.1.1.2.2.2.2.2.2.2.2.1 x.2.1.1.2.2.2.2.2.2.2.2.2.1 x.2.1.1.2.2.2.2.2.2.2.2.2.2.1 x.2.1.1.2.2.2.2.2.2.2.2.2.2.2.1 x.2.1.1.2.2.2.2.2.2.2.2.2.2.2.2.1 x.2.2.1
def yx8 (x:(yf5).X):(ybH).X:=(((x.1.1.1,()),((),()),((),()),((-1),()),(0,()),()),((x.2.1.1.1,x.2.1.1.2.1,x.2.1.1.2.2.1,x.2.1.1.2.2.2.1,x.2.1.1.2.2.2.2.1,x.2.1.1.2.2.2.2.2.1,x.2.1.1.2.2.2.2.2.2.1,x.2.1.1.2.2.2.2.2.2.2.1,x.2.1.1.2.2.2.2.2.2.2.2.1,x.2.1.1.2.2.2.2.2.2.2.2.2.1,x.2.1.1.2.2.2.2.2.2.2.2.2.2.1,x.2.1.1.2.2.2.2.2.2.2.2.2.2.2.1,x.2.1.1.2.2.2.2.2.2.2.2.2.2.2.2.1,()),()),(x.2.2.1,()))
def yzG:Code:=(zdI ykr 64 244).getD .skip
theorem yLX:zdI ykr 64 61=some (.block 0 (.loop yzG)):=by kernel_rfl
theorem yNE (x:(ybH).X):zg7 ⟨yqf,45,yBi⟩ 0 yzG 244 ybH yfU yf8 x=ybX x:=by kernel_rfl
def yyn (x:(yf5).X):Nat:=(fun (u0:Int) (u1:Int) (u2:Int) (u3:Int) (u4:List dM) (u5:Int) (u6:Int) (u7:Int) (u8:Int) (u9:Int) (u10:List dW) (u11:Int) (u12:Bool) (u13:Bool) (u14:List Int)=>18446744073709551616) x.1.1.1 x.2.1.1.1 x.2.1.1.2.1 x.2.1.1.2.2.1 x.2.1.1.2.2.2.1 x.2.1.1.2.2.2.2.1 x.2.1.1.2.2.2.2.2.1 x.2.1.1.2.2.2.2.2.2.1 x.2.1.1.2.2.2.2.2.2.2.1 x.2.1.1.2.2.2.2.2.2.2.2.1 x.2.1.1.2.2.2.2.2.2.2.2.2.1 x.2.1.1.2.2.2.2.2.2.2.2.2.2.1 x.2.1.1.2.2.2.2.2.2.2.2.2.2.2.1 x.2.1.1.2.2.2.2.2.2.2.2.2.2.2.2.1 x.2.2.1
def yrd (x:(yf5).X):Option ((yfU).X ⊕ (yf8).X):=zr ybX (yyn x) (yx8 x)
def yyN:Seg:=⟨yf5,yfU,yf8,yrd⟩
def yBj:Nat→Option Seg:=fun q=>bif Nat.beq q 61 then some yyN else yBi q
theorem yMx:FrOk Tryz.prog ⟨yqf,45,yBj⟩ ykr:=(yMw).loop (sg:=yyN) ybH yx8 (by decide) yLX ybX yyn (by decide) (fun _=>rfl) (fun x r _ h=>h) yNE
abbrev yei:List Par:= [.rd tA,.rd tI]
abbrev yk0:List OT:= [⟨false,tL,(.ow .fz)⟩,⟨false,tB,.fz⟩]
def ymd (a0:dA) (a1:Int):Option (ResD yk0×MutD yei) :=
  zjw (yrd (((a1,()),((),()),((),()),((),()),((),()),()),((a0.1,a0.2.1.1,a0.2.1.2,a0.2.2.1,a0.2.2.2.1,a0.2.2.2.2.1,a0.2.2.2.2.2.1,a0.2.2.2.2.2.2.1,a0.2.2.2.2.2.2.2.1,a0.2.2.2.2.2.2.2.2.1,a0.2.2.2.2.2.2.2.2.2.1,a0.2.2.2.2.2.2.2.2.2.2.1,a0.2.2.2.2.2.2.2.2.2.2.2,()),()),(([]:List Int),()))) (fun y2 =>
    bif (leb 0 y2.1.2.1.1) then
      let r4:=ye2 y2.2.2.1 y2.1.2.1.1
      bif (inb y2.1.2.1.1 y2.2.2.1.length) then
        some (((y2.2.2.1.set (y2.1.2.1.1).toNat r4),true,()),())
      else none
    else
      some ((y2.2.2.1,true,()),())) (fun y2 =>
    some ((y2.2.2.1,y2.1.2.1.1,()),()))
theorem yVn (x:InD yei):zjH ⟨yqf,45,yBj⟩ Tryz.f206.results.toList ykr yei yk0 x=ymd x.1 x.2.1:=by kernel_rfl
theorem yQx:ConOk Tryz.prog 206 ⟨yei,yk0,fun x=>ymd x.1 x.2.1⟩:=zkh (yMx) Tryz.func206 (by kernel_rfl) (by kernel_rfl) Tryz.ntmps206.symm (by decide) (fun x r h=>(yVn x).trans h)
def ygE (a0:dA) (a1:Int):List Int×Bool:=yZ a0 a1
def yxc (a0:dA) (a1:Int):Bool:=yf a0.2.1
theorem yTr (a0:dA) (a1:Int) (hk:zi9 yei (a0,a1,())) (hq:yxc a0 a1=true):ymd a0 a1=(fun n=>some ((n.1,n.2,()),())) (ygE a0 a1):=by
  have hg:=yk.1 hq
  have h1:yrd (yKT a1 a0 [])=some (bif yGR (fun (i:Nat)=>yn a0 i a1) a0.2.1.1.toNat then .inr (yKW false []) else .inl (yKI (yI (fun (i:Nat)=>yn a0 i a1) a0.2.1.1.toNat) (y5 a0 a1 a0.2.1.1.toNat))) :=
    zf4 (step:=ybX) (fun i=>ypL a1 (yI (fun (i:Nat)=>yn a0 i a1) i) i a0 (y5 a0 a1 i)) a0.2.1.1.toNat (fun i=> !yn a0 i a1&&leb 0 (yI (fun (i:Nat)=>yn a0 i a1) i)) _ _ (fun i hi=>by
      simp only [ybX,ypL,yp5,zjI (show (i:Int) < a0.2.1.1 by omega),cond_true,wr (show -9223372036854775808≤(i:Int)+1 by omega) (by omega),Int.natCast_add,Int.natCast_one,Int.toNat_natCast,zkV,ym6,yI]
      rw [zkw.2 (show ((y5 a0 a1 i).length+ [yxl a0 i a1].length) * 8≤140737488355328 by simp only [List.length_cons,List.length_nil,yp6]; omega),yIh]
      cases yn a0 i a1<;>cases leb 0 (yI (fun (i:Nat)=>yn a0 i a1) i)<;>rfl) (by simp only [ybX,ypL,yp5,zkm (show a0.2.1.1≤(a0.2.1.1.toNat:Int) by omega),cond_false]) _ (by show _ < 18446744073709551616; omega)
  unfold ymd ygE yZ
  rw [h1]
  cases yGR (fun (i:Nat)=>yn a0 i a1) a0.2.1.1.toNat
  · simp only [cond_false,zkJ,ye2]
    cases hm:leb 0 (yI (fun (i:Nat)=>yn a0 i a1) a0.2.1.1.toNat)
    · rfl
    · obtain ⟨h2,h3⟩:=yXl a0 a1 a0.2.1.1.toNat hm
      rw [h2,h3]; rfl
  · rfl
def ylm (a0:dA) (a1:Int):Option (ResD yk0×MutD yei):=bif yxc a0 a1 then (fun n=>some ((n.1,n.2,()),())) (ygE a0 a1) else none
theorem yEI (a0:dA) (a1:Int) (h:yxc a0 a1=true):ylm a0 a1=(fun n=>some ((n.1,n.2,()),())) (ygE a0 a1):=by unfold ylm; rw [h]; rfl
def ys9:Con:=⟨yei,yk0,fun x=>ylm x.1 x.2.1⟩
theorem yEF:ConOk Tryz.prog 206 ys9:=(yQx).mono (fun x r hk h=>zkW h (fun hq=>yTr x.1 x.2.1 hk hq))
end
section
def yE9:Code:=(Tryz.f109.body).getD .skip
def yFN:Env:=zki TT [(141,ydi),(206,ys9),(207,yk8)] []
theorem yMq:FrOk Tryz.prog ⟨yFN,49,fun _=>none⟩ yE9:=zkp yc yd ⟨ygG,yEF,ysO,trivial⟩
def yNZ:Nat→Option Seg:=fun _=>none
abbrev yef:List Par:= [.pt tA (.pr .fz (.pr (.pr .fz .fz) (.pr (.ow (.pr (.ow .fz) (.pr (.ow (.pr .fz .fz)) (.pr .fz (.ow .fz))))) (.pr .fz (.pr .fz (.pr .fz (.pr .fz (.pr .fz (.pr (.ow (.pr .fz .fz)) (.pr .fz (.pr .fz .fz)))))))))))]
abbrev ykY:List OT:= [⟨false,tI,.fz⟩]
def yma (a0:dA):Option (ResD ykY×MutD yef) :=
  bnd (ylm a0 a0.2.2.2.2.1) fun r1 =>
  bif (!r1.1.2.1) then
    some ((5,()),(a0,()))
  else
    let r2:=yaC a0.2.2.2.2.1
    bif (inb a0.2.2.2.1 r1.1.1.length) then
      bnd (ye5 a0 a0.2.2.2.1 r2 ([(nth r1.1.1 a0.2.2.2.1 0)]:List Int)) fun r3 =>
      bif r3.2.1.2.2.2.2.2.2.2.2.2.2.1 then
        some ((6,()),(r3.2.1,()))
      else
        some ((0,()),((r3.2.1.1,r3.2.1.2.1,r3.2.1.2.2.1,r3.2.1.2.2.2.1,(IntKind.i64.wrap (r3.2.1.2.2.2.2.1+1)),r3.2.1.2.2.2.2.2),()))
    else none
theorem yVj (x:InD yef):zjH ⟨yFN,49,yNZ⟩ Tryz.f109.results.toList yE9 yef ykY x=yma x.1:=by kernel_rfl
theorem yQt:ConOk Tryz.prog 109 ⟨yef,ykY,fun x=>yma x.1⟩:=zkh (yMq) Tryz.func109 (by kernel_rfl) (by kernel_rfl) Tryz.ntmps109.symm (by decide) (fun x r h=>(yVj x).trans h)
def ygD (a0:dA):Int×dA:=ybn a0
def ycF (a0:dA):Bool:=yf a0.2.1&&(inb a0.2.2.2.1 a0.2.2.1.length&&inb a0.2.2.2.1 a0.2.1.1.toNat)
theorem yTo (a0:dA) (hk:zi9 yef (a0,())) (hq:ycF a0=true):yma a0=(fun n=>some ((n.1,()),(n.2,()))) (ygD a0):=by
  simp only [ycF,Bool.and_eq_true]at hq
  unfold yma ygD ybn
  rw [yEI a0 a0.2.2.2.2.1 hq.1]
  simp only [zky,ygE,yet]
  cases hw:(yZ a0 a0.2.2.2.2.1).2
  · rfl
  · rw [yLs hw,hq.2.2,yna a0 a0.2.2.2.1 (ycA a0.2.2.2.2.1) [nth (yZ a0 a0.2.2.2.2.1).1 a0.2.2.2.1 0] hq.2.1]
    simp only [zky,ypP,Bool.not_true,cond_false,cond_true]
    show (bif yg (yX a0) then some ((6,()),(yX a0,())) else some ((0,()),(yUG (yX a0),())))=_
    cases yg (yX a0)<;>rfl
def ycD (a0:dA):Option (ResD ykY×MutD yef):=bif ycF a0 then (fun n=>some ((n.1,()),(n.2,()))) (ygD a0) else none
theorem yot (a0:dA) (h:ycF a0=true):ycD a0=(fun n=>some ((n.1,()),(n.2,()))) (ygD a0):=by unfold ycD; rw [h]; rfl
def yht:Con:=⟨yef,ykY,fun x=>ycD x.1⟩
theorem yor:ConOk Tryz.prog 109 yht:=(yQt).mono (fun x r hk h=>zkW h (fun hq=>yTo x.1 hk hq))
end
section
def yHt:Code:=(Tryz.f234.body).getD .skip
def yHW:Env:=zki TT [] []
theorem yOS:FrOk Tryz.prog ⟨yHW,58,fun _=>none⟩ yHt:=zkp yc yd trivial
def yRk:Nat→Option Seg:=fun _=>none
abbrev ymD:List Par:= [.pt tU .fz]
abbrev ysr:List OT:= [⟨false,tI,.fz⟩]
def yaW (a0:dU):Option (ResD ysr×MutD ymD) :=
  bif (ltb a0.2.1 (a0.1.length:Int)) then
    bif (inb a0.2.1 a0.1.length) then
      some (((IntKind.i64.wrap ((BitVec.ofInt IntKind.i64.bits (IntKind.i64.wrap ((IntKind.i64.wrap ((BitVec.ofInt IntKind.i64.bits (IntKind.i64.wrap ((BitVec.ofInt IntKind.i64.bits ((IntKind.i64.wrap ((IntKind.i64.wrap (a0.2.2 * 6364136223846793005))+1442695040888963407)).fdiv (2 ^ (min (33:Int).toNat IntKind.i64.bits))) ^^^ BitVec.ofInt IntKind.i64.bits ((IntKind.i64.wrap ((IntKind.i64.wrap (a0.2.2 * 6364136223846793005))+1442695040888963407)).fdiv (2 ^ (min (47:Int).toNat IntKind.i64.bits)))).toNat:Int)) &&& BitVec.ofInt IntKind.i64.bits 255).toNat:Int))+(IntKind.i64.wrap (nth a0.1 a0.2.1 0)))) &&& BitVec.ofInt IntKind.i64.bits 255).toNat:Int)),()),((a0.1,(IntKind.i64.wrap (a0.2.1+1)),(IntKind.i64.wrap ((IntKind.i64.wrap (a0.2.2 * 6364136223846793005))+1442695040888963407))),()))
    else none
  else
    some (((IntKind.i64.wrap ((BitVec.ofInt IntKind.i64.bits (IntKind.i64.wrap ((BitVec.ofInt IntKind.i64.bits ((IntKind.i64.wrap ((IntKind.i64.wrap (a0.2.2 * 6364136223846793005))+1442695040888963407)).fdiv (2 ^ (min (33:Int).toNat IntKind.i64.bits))) ^^^ BitVec.ofInt IntKind.i64.bits ((IntKind.i64.wrap ((IntKind.i64.wrap (a0.2.2 * 6364136223846793005))+1442695040888963407)).fdiv (2 ^ (min (47:Int).toNat IntKind.i64.bits)))).toNat:Int)) &&& BitVec.ofInt IntKind.i64.bits 255).toNat:Int)),()),((a0.1,a0.2.1,(IntKind.i64.wrap ((IntKind.i64.wrap (a0.2.2 * 6364136223846793005))+1442695040888963407))),()))
theorem yXP (x:InD ymD):zjH ⟨yHW,58,yRk⟩ Tryz.f234.results.toList yHt ymD ysr x=yaW x.1:=by kernel_rfl
theorem yTO:ConOk Tryz.prog 234 ⟨ymD,ysr,fun x=>yaW x.1⟩:=zkh (yOS) Tryz.func234 (by kernel_rfl) (by kernel_rfl) Tryz.ntmps234.symm (by decide) (fun x r h=>(yXP x).trans h)
def yEi:Con:=⟨ymD,ysr,fun x=>yaW x.1⟩
theorem yWJ:ConOk Tryz.prog 234 yEi:=yTO
theorem y0N (x:Int):0≤IntKind.i64.wrap ((BitVec.ofInt IntKind.i64.bits x &&& BitVec.ofInt IntKind.i64.bits 255).toNat:Int)∧IntKind.i64.wrap ((BitVec.ofInt IntKind.i64.bits x &&& BitVec.ofInt IntKind.i64.bits 255).toNat:Int)≤255:=by
  have h:(BitVec.ofInt IntKind.i64.bits x &&& BitVec.ofInt IntKind.i64.bits 255).toNat≤255:=by
    rw [BitVec.toNat_and]
    exact Nat.le_trans Nat.and_le_right (by decide)
  rw [wr (by omega) (by omega)]
  omega
theorem yLw (u:List Int×Int×Int) (h:yG u): ∃ (r:Int) (u':List Int×Int×Int),yaW u=some ((r,()),(u',()))∧(0≤r∧r≤255)∧yG u':=by
  unfold yaW
  by_cases h1:u.2.1 < (u.1.length:Int)
  · rw [zjI h1,zjP.2 ⟨h.1,h1⟩]
    refine ⟨_,_,rfl,y0N _,?_,h.2⟩
    show 0≤IntKind.i64.wrap (u.2.1+1)
    have:=h.1; have:=h.2
    rw [wr (by omega) (by omega)]; omega
  · rw [zkm (Int.not_lt.1 h1)]
    exact ⟨_,_,rfl,y0N _,h⟩
end
section
def yFa:Code:=(Tryz.f150.body).getD .skip
def yFO:Env:=zki TT [(234,yEi)] []
theorem yMr:FrOk Tryz.prog ⟨yFO,31,fun _=>none⟩ yFa:=zkp yc yd ⟨yWJ,trivial⟩
def yN0:Nat→Option Seg:=fun _=>none
abbrev ykM:List Par:= [.pt tU .fz,.rd tI]
abbrev yqt:List OT:= [⟨false,tI,.fz⟩]
def yb (a0:dU) (a1:Int):Option (ResD yqt×MutD ykM) :=
  bif (leb a1 0) then
    some ((0,()),(a0,()))
  else
    bif (leb a1 256) then
      bnd (yaW a0) fun r1 =>
      bif (a1 !=0) then
        some (((r1.1.1.tmod a1),()),(r1.2.1,()))
      else none
    else
      bnd (yaW a0) fun r2 =>
      bnd (yaW r2.2.1) fun r3 =>
      bnd (yaW r3.2.1) fun r4 =>
      bif (a1 !=0) then
        some ((((IntKind.i64.wrap ((IntKind.i64.wrap ((IntKind.i64.wrap (r2.1.1 * 65536))+(IntKind.i64.wrap (r3.1.1 * 256))))+r4.1.1)).tmod a1),()),(r4.2.1,()))
      else none
theorem yVk (x:InD ykM):zjH ⟨yFO,31,yN0⟩ Tryz.f150.results.toList yFa ykM yqt x=yb x.1 x.2.1:=by kernel_rfl
theorem yQu:ConOk Tryz.prog 150 ⟨ykM,yqt,fun x=>yb x.1 x.2.1⟩:=zkh (yMr) Tryz.func150 (by kernel_rfl) (by kernel_rfl) Tryz.ntmps150.symm (by decide) (fun x r h=>(yVk x).trans h)
def yv:Con:=⟨ykM,yqt,fun x=>yb x.1 x.2.1⟩
theorem yE:ConOk Tryz.prog 150 yv:=yQu
theorem yw (u:List Int×Int×Int) (n:Int) (h:yG u): ∃ (r:Int) (u':List Int×Int×Int),yb u n=some ((r,()),(u',()))∧(0≤r∧(0 < n→r < n)∧(n≤0→r=0))∧yG u':=by
  unfold yb
  by_cases h0:n≤0
  · rw [zk0 h0]
    exact ⟨_,_,rfl,⟨Int.le_refl _,fun h=>absurd h0 (by omega),fun _=>rfl⟩,h⟩
  · have hn:(n !=0)=true:=bne_iff_ne.2 (by omega)
    have key: ∀ x:Int,0≤x→0≤x.tmod n∧(0 < n→x.tmod n < n)∧(n≤0→x.tmod n=0):=fun x hx =>
      ⟨Int.tmod_nonneg n hx,fun hp=>Int.tmod_lt_of_pos x hp,fun hp=>absurd hp h0⟩
    rw [zkZ (by omega)]
    by_cases h1:n≤256
    · rw [zk0 h1]
      obtain ⟨r1,u1,e1,q1,d1⟩:=yLw u h
      rw [e1,zkX,zkY,zky,hn]
      exact ⟨_,_,rfl,key r1 q1.1,d1⟩
    · rw [zkZ (by omega)]
      obtain ⟨r1,u1,e1,q1,d1⟩:=yLw u h
      obtain ⟨r2,u2,e2,q2,d2⟩:=yLw u1 d1
      obtain ⟨r3,u3,e3,q3,d3⟩:=yLw u2 d2
      simp only [e1,e2,e3,zkX,zky,hn,zkY]
      refine ⟨_,_,rfl,key _ ?_,d3⟩
      rw [wr (show -9223372036854775808≤r1 * 65536 by omega) (by omega),wr (show -9223372036854775808≤r2 * 256 by omega) (by omega),wr (show -9223372036854775808≤r1 * 65536+r2 * 256 by omega) (by omega),wr (by omega) (by omega)]
      omega
end
section
def yHv:Code:=(Tryz.f110.body).getD .skip
def yHY:Env:=zki TT [(150,yv)] []
theorem yOU:FrOk Tryz.prog ⟨yHY,9,fun _=>none⟩ yHv:=zkp yc yd ⟨yE,trivial⟩
def yRm:Nat→Option Seg:=fun _=>none
abbrev ymF:List Par:= [.pt tU .fz,.rd tI]
abbrev yst:List OT:= [⟨false,tB,.fz⟩]
def yA (a0:dU) (a1:Int):Option (ResD yst×MutD ymF) :=
  bnd (yb a0 a1) fun r1 =>
  some (((r1.1.1==0),()),(r1.2.1,()))
theorem yXR (x:InD ymF):zjH ⟨yHY,9,yRm⟩ Tryz.f110.results.toList yHv ymF yst x=yA x.1 x.2.1:=by kernel_rfl
theorem yTQ:ConOk Tryz.prog 110 ⟨ymF,yst,fun x=>yA x.1 x.2.1⟩:=zkh (yOU) Tryz.func110 (by kernel_rfl) (by kernel_rfl) Tryz.ntmps110.symm (by decide) (fun x r h=>(yXR x).trans h)
def yjj:Con:=⟨ymF,yst,fun x=>yA x.1 x.2.1⟩
theorem yqG:ConOk Tryz.prog 110 yjj:=yTQ
theorem yAP (u:dU) (n:Int) (h:yG u): ∃ (r:Bool) (u':dU),yA u n=some ((r,()),(u',()))∧yG u':=by
  unfold yA
  obtain ⟨r,u1,e1,_,d1⟩:=yw u n h
  simp only [e1,zky]
  exact ⟨_,_,rfl,d1⟩
end
section
def ydN:Code:=(Tryz.f49.body).getD .skip
def yhS:Env:=zki TT [(134,ygy),(135,yq),(138,yok),(139,yom),(140,yri),(141,ydi)] [(53440,(.pr (.ow .fz) (.pr (.ow (.pr .fz .fz)) (.pr .fz (.ow .fz))))),(53504,(.pr (.ow .fz) (.pr (.ow (.pr .fz .fz)) (.pr .fz (.ow .fz)))))]
theorem yOH:FrOk Tryz.prog ⟨yhS,60,fun _=>none⟩ ydN:=zkp yc yd ⟨ym7,yz,yw5,yw7,yCC,ygG,trivial⟩
def yDk:Nat→Option Seg:=fun _=>none
def yaM:Shape:=⟨[(0,false,[.int .i64]),(3,false,[.ptr 0 0]),(4,false,[.ptr 64 0]),(5,false,[.ptr 12480 0]),(6,false,[.int .i64]),(7,false,[.ptr 28864 0]),(8,false,[.int .i64])],[(0,[.int .i64,.int .i64]),(64,[.int .i64,.int .i64,.int .i64,.nil,.int .i64,.int .i64,.int .i64,.int .i64,.int .i64,.nil,.int .i64,.bool,.bool]),(12480,[.int .i64,.int .i64,.int .i64,.at 800000000,.int .i64,.int .i64,.int .i64,.int .i64,.int .i64,.nil,.int .i64,.bool,.bool]),(28864,[.at 800000001,.at 800000002,.bool,.at 800000003])],[(800000000,tM,(.pr (.ow .fz) (.pr (.ow (.pr .fz .fz)) (.pr .fz (.ow .fz))))),(800000001,tL,.fz),(800000002,tW,(.pr .fz .fz)),(800000003,tI,.fz)]⟩
def yd5:Shape:=⟨[(0,false,[.int .i64]),(3,false,[.ptr 0 0]),(4,false,[.ptr 64 0]),(5,false,[.ptr 12480 0]),(6,false,[.int .i64]),(7,false,[.ptr 28864 0]),(8,false,[.ci .i64 0])],[(0,[.int .i64,.int .i64]),(64,[.int .i64,.int .i64,.int .i64,.nil,.int .i64,.int .i64,.int .i64,.int .i64,.int .i64,.nil,.int .i64,.bool,.bool]),(12480,[.int .i64,.int .i64,.int .i64,.at 800000000,.int .i64,.int .i64,.int .i64,.int .i64,.int .i64,.nil,.int .i64,.bool,.bool]),(28864,[.at 800000001,.at 800000002,.bool,.at 800000003])],[(800000000,tM,(.pr (.ow .fz) (.pr (.ow (.pr .fz .fz)) (.pr .fz (.ow .fz))))),(800000001,tL,.fz),(800000002,tW,(.pr .fz .fz)),(800000003,tI,.fz)]⟩
def yd0:Shape:=⟨[(0,false,[.int .i64]),(3,false,[.ptr 0 0]),(4,false,[.ptr 64 0]),(5,false,[.ptr 12480 0]),(6,false,[.int .i64]),(7,false,[.ptr 28864 0])],[(0,[.int .i64,.int .i64]),(64,[.int .i64,.int .i64,.int .i64,.nil,.int .i64,.int .i64,.int .i64,.int .i64,.int .i64,.nil,.int .i64,.bool,.bool]),(12480,[.int .i64,.int .i64,.int .i64,.at 800000000,.int .i64,.int .i64,.int .i64,.int .i64,.int .i64,.nil,.int .i64,.bool,.bool]),(28864,[.at 800000001,.at 800000002,.bool,.at 800000003])],[(800000000,tM,(.pr (.ow .fz) (.pr (.ow (.pr .fz .fz)) (.pr .fz (.ow .fz))))),(800000001,tL,.fz),(800000002,tW,(.pr .fz .fz)),(800000003,tI,.fz)]⟩
def yhI:Shape:=⟨[],[],[]⟩
abbrev ylW (v0:Int) (v1:Int) (v2:Int) (v3:dG) (v4:dA) (v5:dA) (v6:dM):(yaM).X:=(((v0,()),((),()),((),()),((),()),(v1,()),((),()),(v2,()),()),((v3.1,v3.2,()),(v4.1,v4.2.1.1,v4.2.1.2,(),v4.2.2.2.1,v4.2.2.2.2.1,v4.2.2.2.2.2.1,v4.2.2.2.2.2.2.1,v4.2.2.2.2.2.2.2.1,(),v4.2.2.2.2.2.2.2.2.2.1,v4.2.2.2.2.2.2.2.2.2.2.1,v4.2.2.2.2.2.2.2.2.2.2.2,()),(v5.1,v5.2.1.1,v5.2.1.2,(),v5.2.2.2.1,v5.2.2.2.2.1,v5.2.2.2.2.2.1,v5.2.2.2.2.2.2.1,v5.2.2.2.2.2.2.2.1,(),v5.2.2.2.2.2.2.2.2.2.1,v5.2.2.2.2.2.2.2.2.2.2.1,v5.2.2.2.2.2.2.2.2.2.2.2,()),((),(),v6.2.2.1,(),()),()),(v5.2.2.1,v6.1,v6.2.1,v6.2.2.2,()))
abbrev yGW (v0:Int) (v1:Int) (v2:dG) (v3:dA) (v4:dA) (v5:dM):(yd5).X:=(((v0,()),((),()),((),()),((),()),(v1,()),((),()),((),()),()),((v2.1,v2.2,()),(v3.1,v3.2.1.1,v3.2.1.2,(),v3.2.2.2.1,v3.2.2.2.2.1,v3.2.2.2.2.2.1,v3.2.2.2.2.2.2.1,v3.2.2.2.2.2.2.2.1,(),v3.2.2.2.2.2.2.2.2.2.1,v3.2.2.2.2.2.2.2.2.2.2.1,v3.2.2.2.2.2.2.2.2.2.2.2,()),(v4.1,v4.2.1.1,v4.2.1.2,(),v4.2.2.2.1,v4.2.2.2.2.1,v4.2.2.2.2.2.1,v4.2.2.2.2.2.2.1,v4.2.2.2.2.2.2.2.1,(),v4.2.2.2.2.2.2.2.2.2.1,v4.2.2.2.2.2.2.2.2.2.2.1,v4.2.2.2.2.2.2.2.2.2.2.2,()),((),(),v5.2.2.1,(),()),()),(v4.2.2.1,v5.1,v5.2.1,v5.2.2.2,()))
abbrev yvs (v0:Int) (v1:Int) (v2:dG) (v3:dA) (v4:dA) (v5:dM):(yd0).X:=(((v0,()),((),()),((),()),((),()),(v1,()),((),()),()),((v2.1,v2.2,()),(v3.1,v3.2.1.1,v3.2.1.2,(),v3.2.2.2.1,v3.2.2.2.2.1,v3.2.2.2.2.2.1,v3.2.2.2.2.2.2.1,v3.2.2.2.2.2.2.2.1,(),v3.2.2.2.2.2.2.2.2.2.1,v3.2.2.2.2.2.2.2.2.2.2.1,v3.2.2.2.2.2.2.2.2.2.2.2,()),(v4.1,v4.2.1.1,v4.2.1.2,(),v4.2.2.2.1,v4.2.2.2.2.1,v4.2.2.2.2.2.1,v4.2.2.2.2.2.2.1,v4.2.2.2.2.2.2.2.1,(),v4.2.2.2.2.2.2.2.2.2.1,v4.2.2.2.2.2.2.2.2.2.2.1,v4.2.2.2.2.2.2.2.2.2.2.2,()),((),(),v5.2.2.1,(),()),()),(v4.2.2.1,v5.1,v5.2.1,v5.2.2.2,()))
def ymh (v0:Int) (v1:Int) (v2:Int) (v3:Int) (v4:Int) (v5:Int) (v6:Int) (v7:Int) (v8:Int) (v9:Int) (v10:Int) (v11:Int) (v12:Int) (v13:Int) (v14:Bool) (v15:Bool) (v16:Int) (v17:Int) (v18:Int) (v19:Int) (v20:Int) (v21:Int) (v22:Int) (v23:Int) (v24:Int) (v25:Bool) (v26:Bool) (v27:Bool) (v28:List dM) (v29:List (List Int)) (v30:List dW) (v31:List Int):Option ((yaM).X ⊕ ((yd0).X ⊕ (yhI).X)) :=
  bif (ltb v2 v4) then
    let r13:=yaC v2
    bif (inb r13 v29.length) then
      some (.inl (((v0,()),((),()),((),()),((),()),(v1,()),((),()),((IntKind.i64.wrap (v2+1)),()),()),((v3,v4,()),(v5,v6,v7,(),v8,v9,v10,v11,v12,(),v13,v14,v15,()),(v16,v17,v18,(),v19,v20,v21,v22,v23,(),v24,v25,v26,()),((),(),v27,(),()),()),(v28,(v29.set (r13).toNat ([0]:List Int)),v30,v31,())))
    else none
  else
    some (.inr (.inl (((v0,()),((),()),((),()),((),()),(v1,()),((),()),()),((v3,v4,()),(v5,v6,v7,(),v8,v9,v10,v11,v12,(),v13,v14,v15,()),(v16,v17,v18,(),v19,v20,v21,v22,v23,(),v24,v25,v26,()),((),(),v27,(),()),()),(v28,v29,v30,v31,()))))
def ya1 (x:(yaM).X):=ymh x.1.1.1 x.1.2.2.2.2.1.1 x.1.2.2.2.2.2.2.1.1 x.2.1.1.1 x.2.1.1.2.1 x.2.1.2.1.1 x.2.1.2.1.2.1 x.2.1.2.1.2.2.1 x.2.1.2.1.2.2.2.2.1 x.2.1.2.1.2.2.2.2.2.1 x.2.1.2.1.2.2.2.2.2.2.1 x.2.1.2.1.2.2.2.2.2.2.2.1 x.2.1.2.1.2.2.2.2.2.2.2.2.1 x.2.1.2.1.2.2.2.2.2.2.2.2.2.2.1 x.2.1.2.1.2.2.2.2.2.2.2.2.2.2.2.1 x.2.1.2.1.2.2.2.2.2.2.2.2.2.2.2.2.1 x.2.1.2.2.1.1 x.2.1.2.2.1.2.1 x.2.1.2.2.1.2.2.1 x.2.1.2.2.1.2.2.2.2.1 x.2.1.2.2.1.2.2.2.2.2.1 x.2.1.2.2.1.2.2.2.2.2.2.1 x.2.1.2.2.1.2.2.2.2.2.2.2.1 x.2.1.2.2.1.2.2.2.2.2.2.2.2.1 x.2.1.2.2.1.2.2.2.2.2.2.2.2.2.2.1 x.2.1.2.2.1.2.2.2.2.2.2.2.2.2.2.2.1 x.2.1.2.2.1.2.2.2.2.2.2.2.2.2.2.2.2.1 x.2.1.2.2.2.1.2.2.1 x.2.2.1 x.2.2.2.1 x.2.2.2.2.1 x.2.2.2.2.2.1
def yvg (x:(yd5).X):(yaM).X:=(((x.1.1.1,()),((),()),((),()),((),()),(x.1.2.2.2.2.1.1,()),((),()),(0,()),()),((x.2.1.1.1,x.2.1.1.2.1,()),(x.2.1.2.1.1,x.2.1.2.1.2.1,x.2.1.2.1.2.2.1,(),x.2.1.2.1.2.2.2.2.1,x.2.1.2.1.2.2.2.2.2.1,x.2.1.2.1.2.2.2.2.2.2.1,x.2.1.2.1.2.2.2.2.2.2.2.1,x.2.1.2.1.2.2.2.2.2.2.2.2.1,(),x.2.1.2.1.2.2.2.2.2.2.2.2.2.2.1,x.2.1.2.1.2.2.2.2.2.2.2.2.2.2.2.1,x.2.1.2.1.2.2.2.2.2.2.2.2.2.2.2.2.1,()),(x.2.1.2.2.1.1,x.2.1.2.2.1.2.1,x.2.1.2.2.1.2.2.1,(),x.2.1.2.2.1.2.2.2.2.1,x.2.1.2.2.1.2.2.2.2.2.1,x.2.1.2.2.1.2.2.2.2.2.2.1,x.2.1.2.2.1.2.2.2.2.2.2.2.1,x.2.1.2.2.1.2.2.2.2.2.2.2.2.1,(),x.2.1.2.2.1.2.2.2.2.2.2.2.2.2.2.1,x.2.1.2.2.1.2.2.2.2.2.2.2.2.2.2.2.1,x.2.1.2.2.1.2.2.2.2.2.2.2.2.2.2.2.2.1,()),((),(),x.2.1.2.2.2.1.2.2.1,(),()),()),(x.2.2.1,x.2.2.2.1,x.2.2.2.2.1,x.2.2.2.2.2.1,()))
def yv3:Code:=(zdI ydN 64 125236).getD .skip
theorem yIl:zdI ydN 64 31309=some (.block 2 (.loop yv3)):=by kernel_rfl
theorem yIZ (x:(yaM).X):zg7 ⟨yhS,60,yDk⟩ 2 yv3 125236 yaM yd0 yhI x=ya1 x:=by kernel_rfl
def yvl (x:(yd5).X):Nat:=(fun (u0:Int) (u1:Int) (u2:Int) (u3:Int) (u4:Int) (u5:Int) (u6:Int) (u7:Int) (u8:Int) (u9:Int) (u10:Int) (u11:Int) (u12:Int) (u13:Bool) (u14:Bool) (u15:Int) (u16:Int) (u17:Int) (u18:Int) (u19:Int) (u20:Int) (u21:Int) (u22:Int) (u23:Int) (u24:Bool) (u25:Bool) (u26:Bool) (u27:List dM) (u28:List (List Int)) (u29:List dW) (u30:List Int)=>18446744073709551616) x.1.1.1 x.1.2.2.2.2.1.1 x.2.1.1.1 x.2.1.1.2.1 x.2.1.2.1.1 x.2.1.2.1.2.1 x.2.1.2.1.2.2.1 x.2.1.2.1.2.2.2.2.1 x.2.1.2.1.2.2.2.2.2.1 x.2.1.2.1.2.2.2.2.2.2.1 x.2.1.2.1.2.2.2.2.2.2.2.1 x.2.1.2.1.2.2.2.2.2.2.2.2.1 x.2.1.2.1.2.2.2.2.2.2.2.2.2.2.1 x.2.1.2.1.2.2.2.2.2.2.2.2.2.2.2.1 x.2.1.2.1.2.2.2.2.2.2.2.2.2.2.2.2.1 x.2.1.2.2.1.1 x.2.1.2.2.1.2.1 x.2.1.2.2.1.2.2.1 x.2.1.2.2.1.2.2.2.2.1 x.2.1.2.2.1.2.2.2.2.2.1 x.2.1.2.2.1.2.2.2.2.2.2.1 x.2.1.2.2.1.2.2.2.2.2.2.2.1 x.2.1.2.2.1.2.2.2.2.2.2.2.2.1 x.2.1.2.2.1.2.2.2.2.2.2.2.2.2.2.1 x.2.1.2.2.1.2.2.2.2.2.2.2.2.2.2.2.1 x.2.1.2.2.1.2.2.2.2.2.2.2.2.2.2.2.2.1 x.2.1.2.2.2.1.2.2.1 x.2.2.1 x.2.2.2.1 x.2.2.2.2.1 x.2.2.2.2.2.1
def ynh (x:(yd5).X):Option ((yd0).X ⊕ (yhI).X):=zr ya1 (yvl x) (yvg x)
def yvT:Seg:=⟨yd5,yd0,yhI,ynh⟩
def yt4:Nat→Option Seg:=fun q=>bif Nat.beq q 31309 then some yvT else yDk q
theorem yOI:FrOk Tryz.prog ⟨yhS,60,yt4⟩ ydN:=(yOH).loop (sg:=yvT) yaM yvg (by decide) yIl ya1 yvl (by decide) (fun _=>rfl) (fun x r _ h=>h) yIZ
def yb9:Shape:=⟨[(0,false,[.int .i64]),(3,false,[.ptr 0 0]),(4,false,[.ptr 64 0]),(5,false,[.ptr 12480 0]),(6,false,[.int .i64])],[(0,[.int .i64,.int .i64]),(64,[.int .i64,.int .i64,.int .i64,.nil,.int .i64,.int .i64,.int .i64,.int .i64,.int .i64,.nil,.int .i64,.bool,.bool]),(12480,[.int .i64,.int .i64,.int .i64,.at 800000000,.int .i64,.int .i64,.int .i64,.int .i64,.int .i64,.nil,.int .i64,.bool,.bool])],[(800000000,tM,(.pr (.ow .fz) (.pr (.ow (.pr .fz .fz)) (.pr .fz (.ow .fz)))))]⟩
def yhb:Shape:=⟨[(0,false,[.int .i64]),(3,false,[.ptr 0 0]),(4,false,[.ptr 64 0]),(5,false,[.ptr 12480 0]),(6,false,[.ci .i64 0])],[(0,[.int .i64,.int .i64]),(64,[.int .i64,.int .i64,.int .i64,.nil,.int .i64,.int .i64,.int .i64,.int .i64,.int .i64,.nil,.int .i64,.bool,.bool]),(12480,[.int .i64,.int .i64,.int .i64,.at 800000000,.int .i64,.int .i64,.int .i64,.int .i64,.int .i64,.nil,.int .i64,.bool,.bool])],[(800000000,tM,(.pr (.ow .fz) (.pr (.ow (.pr .fz .fz)) (.pr .fz (.ow .fz)))))]⟩
def ygZ:Shape:=⟨[(4,false,[.ptr 64 0]),(5,false,[.ptr 12480 0])],[(64,[.int .i64,.int .i64,.int .i64,.nil,.int .i64,.int .i64,.int .i64,.int .i64,.int .i64,.nil,.int .i64,.bool,.bool]),(12480,[.int .i64,.int .i64,.int .i64,.at 800000000,.int .i64,.int .i64,.int .i64,.int .i64,.int .i64,.nil,.int .i64,.bool,.bool])],[(800000000,tM,(.pr (.ow .fz) (.pr (.ow (.pr .fz .fz)) (.pr .fz (.ow .fz)))))]⟩
def ylG:Shape:=⟨[],[],[]⟩
abbrev yj0 (v0:Int) (v1:Int) (v2:dG) (v3:dA) (v4:dA):(yb9).X:=(((v0,()),((),()),((),()),((),()),(v1,()),()),((v2.1,v2.2,()),(v3.1,v3.2.1.1,v3.2.1.2,(),v3.2.2.2.1,v3.2.2.2.2.1,v3.2.2.2.2.2.1,v3.2.2.2.2.2.2.1,v3.2.2.2.2.2.2.2.1,(),v3.2.2.2.2.2.2.2.2.2.1,v3.2.2.2.2.2.2.2.2.2.2.1,v3.2.2.2.2.2.2.2.2.2.2.2,()),(v4.1,v4.2.1.1,v4.2.1.2,(),v4.2.2.2.1,v4.2.2.2.2.1,v4.2.2.2.2.2.1,v4.2.2.2.2.2.2.1,v4.2.2.2.2.2.2.2.1,(),v4.2.2.2.2.2.2.2.2.2.1,v4.2.2.2.2.2.2.2.2.2.2.1,v4.2.2.2.2.2.2.2.2.2.2.2,()),()),(v4.2.2.1,()))
abbrev yMJ (v0:Int) (v1:dG) (v2:dA) (v3:dA):(yhb).X:=(((v0,()),((),()),((),()),((),()),((),()),()),((v1.1,v1.2,()),(v2.1,v2.2.1.1,v2.2.1.2,(),v2.2.2.2.1,v2.2.2.2.2.1,v2.2.2.2.2.2.1,v2.2.2.2.2.2.2.1,v2.2.2.2.2.2.2.2.1,(),v2.2.2.2.2.2.2.2.2.2.1,v2.2.2.2.2.2.2.2.2.2.2.1,v2.2.2.2.2.2.2.2.2.2.2.2,()),(v3.1,v3.2.1.1,v3.2.1.2,(),v3.2.2.2.1,v3.2.2.2.2.1,v3.2.2.2.2.2.1,v3.2.2.2.2.2.2.1,v3.2.2.2.2.2.2.2.1,(),v3.2.2.2.2.2.2.2.2.2.1,v3.2.2.2.2.2.2.2.2.2.2.1,v3.2.2.2.2.2.2.2.2.2.2.2,()),()),(v3.2.2.1,()))
abbrev yAf (v0:dA) (v1:dA):(ygZ).X:=((((),()),((),()),()),((v0.1,v0.2.1.1,v0.2.1.2,(),v0.2.2.2.1,v0.2.2.2.2.1,v0.2.2.2.2.2.1,v0.2.2.2.2.2.2.1,v0.2.2.2.2.2.2.2.1,(),v0.2.2.2.2.2.2.2.2.2.1,v0.2.2.2.2.2.2.2.2.2.2.1,v0.2.2.2.2.2.2.2.2.2.2.2,()),(v1.1,v1.2.1.1,v1.2.1.2,(),v1.2.2.2.1,v1.2.2.2.2.1,v1.2.2.2.2.2.1,v1.2.2.2.2.2.2.1,v1.2.2.2.2.2.2.2.1,(),v1.2.2.2.2.2.2.2.2.2.1,v1.2.2.2.2.2.2.2.2.2.2.1,v1.2.2.2.2.2.2.2.2.2.2.2,()),()),(v1.2.2.1,()))
def yrC (v0:Int) (v1:Int) (v2:Int) (v3:Int) (v4:Int) (v5:Int) (v6:Int) (v7:Int) (v8:Int) (v9:Int) (v10:Int) (v11:Int) (v12:Int) (v13:Bool) (v14:Bool) (v15:Int) (v16:Int) (v17:Int) (v18:Int) (v19:Int) (v20:Int) (v21:Int) (v22:Int) (v23:Int) (v24:Bool) (v25:Bool) (v26:List dM):Option ((yb9).X ⊕ ((ygZ).X ⊕ (ylG).X)) :=
  bif (ltb v1 v2) then
    let r15:=yb5 (v2,v3)
    let r16:=ybk r15
    let r17:=yK (v0,0,v1,v2,v3,0,(-1),0)
    bif (inb 0 r16.1.length) then
      zjw (ynh (((v0,()),((),()),((),()),((),()),(v1,()),((),()),((),()),()),((v2,v3,()),(v4,v5,v6,(),v7,v8,v9,v10,v11,(),v12,v13,v14,()),(v15,v16,v17,(),v18,v19,v20,v21,v22,(),v23,v24,v25,()),((),(),r16.2.2.1,(),()),()),(v26,(r16.1.set (0:Int).toNat r17),r16.2.1,r16.2.2.2,()))) (fun y17 =>
        bif (zj4 y17.2.2.1.length ([(y17.2.2.2.1,y17.2.2.2.2.1,y17.2.1.2.2.2.1.2.2.1,y17.2.2.2.2.2.1)]:List dM).length 80) then
          some (.inl (((y17.1.1.1,()),((),()),((),()),((),()),((IntKind.i64.wrap (y17.1.2.2.2.2.1.1+1)),()),()),((y17.2.1.1.1,y17.2.1.1.2.1,()),(y17.2.1.2.1.1,y17.2.1.2.1.2.1,y17.2.1.2.1.2.2.1,(),y17.2.1.2.1.2.2.2.2.1,y17.2.1.2.1.2.2.2.2.2.1,y17.2.1.2.1.2.2.2.2.2.2.1,y17.2.1.2.1.2.2.2.2.2.2.2.1,y17.2.1.2.1.2.2.2.2.2.2.2.2.1,(),y17.2.1.2.1.2.2.2.2.2.2.2.2.2.2.1,y17.2.1.2.1.2.2.2.2.2.2.2.2.2.2.2.1,y17.2.1.2.1.2.2.2.2.2.2.2.2.2.2.2.2.1,()),(y17.2.1.2.2.1.1,y17.2.1.2.2.1.2.1,y17.2.1.2.2.1.2.2.1,(),y17.2.1.2.2.1.2.2.2.2.1,y17.2.1.2.2.1.2.2.2.2.2.1,y17.2.1.2.2.1.2.2.2.2.2.2.1,y17.2.1.2.2.1.2.2.2.2.2.2.2.1,y17.2.1.2.2.1.2.2.2.2.2.2.2.2.1,(),y17.2.1.2.2.1.2.2.2.2.2.2.2.2.2.2.1,y17.2.1.2.2.1.2.2.2.2.2.2.2.2.2.2.2.1,y17.2.1.2.2.1.2.2.2.2.2.2.2.2.2.2.2.2.1,()),()),((y17.2.2.1++([(y17.2.2.2.1,y17.2.2.2.2.1,y17.2.1.2.2.2.1.2.2.1,y17.2.2.2.2.2.1)]:List dM)),())))
        else none) (fun y17 =>
        some (.inr (.inr ((),(),()))))
    else none
  else
    some (.inr (.inl ((((),()),((),()),()),((v4,v5,v6,(),v7,v8,v9,v10,v11,(),v12,v13,v14,()),(v15,v16,v17,(),v18,v19,v20,v21,v22,(),v23,v24,v25,()),()),(v26,()))))
def ycM (x:(yb9).X):=yrC x.1.1.1 x.1.2.2.2.2.1.1 x.2.1.1.1 x.2.1.1.2.1 x.2.1.2.1.1 x.2.1.2.1.2.1 x.2.1.2.1.2.2.1 x.2.1.2.1.2.2.2.2.1 x.2.1.2.1.2.2.2.2.2.1 x.2.1.2.1.2.2.2.2.2.2.1 x.2.1.2.1.2.2.2.2.2.2.2.1 x.2.1.2.1.2.2.2.2.2.2.2.2.1 x.2.1.2.1.2.2.2.2.2.2.2.2.2.2.1 x.2.1.2.1.2.2.2.2.2.2.2.2.2.2.2.1 x.2.1.2.1.2.2.2.2.2.2.2.2.2.2.2.2.1 x.2.1.2.2.1.1 x.2.1.2.2.1.2.1 x.2.1.2.2.1.2.2.1 x.2.1.2.2.1.2.2.2.2.1 x.2.1.2.2.1.2.2.2.2.2.1 x.2.1.2.2.1.2.2.2.2.2.2.1 x.2.1.2.2.1.2.2.2.2.2.2.2.1 x.2.1.2.2.1.2.2.2.2.2.2.2.2.1 x.2.1.2.2.1.2.2.2.2.2.2.2.2.2.2.1 x.2.1.2.2.1.2.2.2.2.2.2.2.2.2.2.2.1 x.2.1.2.2.1.2.2.2.2.2.2.2.2.2.2.2.2.1 x.2.2.1
def yzS (x:(yhb).X):(yb9).X:=(((x.1.1.1,()),((),()),((),()),((),()),(0,()),()),((x.2.1.1.1,x.2.1.1.2.1,()),(x.2.1.2.1.1,x.2.1.2.1.2.1,x.2.1.2.1.2.2.1,(),x.2.1.2.1.2.2.2.2.1,x.2.1.2.1.2.2.2.2.2.1,x.2.1.2.1.2.2.2.2.2.2.1,x.2.1.2.1.2.2.2.2.2.2.2.1,x.2.1.2.1.2.2.2.2.2.2.2.2.1,(),x.2.1.2.1.2.2.2.2.2.2.2.2.2.2.1,x.2.1.2.1.2.2.2.2.2.2.2.2.2.2.2.1,x.2.1.2.1.2.2.2.2.2.2.2.2.2.2.2.2.1,()),(x.2.1.2.2.1.1,x.2.1.2.2.1.2.1,x.2.1.2.2.1.2.2.1,(),x.2.1.2.2.1.2.2.2.2.1,x.2.1.2.2.1.2.2.2.2.2.1,x.2.1.2.2.1.2.2.2.2.2.2.1,x.2.1.2.2.1.2.2.2.2.2.2.2.1,x.2.1.2.2.1.2.2.2.2.2.2.2.2.1,(),x.2.1.2.2.1.2.2.2.2.2.2.2.2.2.2.1,x.2.1.2.2.1.2.2.2.2.2.2.2.2.2.2.2.1,x.2.1.2.2.1.2.2.2.2.2.2.2.2.2.2.2.2.1,()),()),(x.2.2.1,()))
def yBv:Code:=(zdI ydN 64 244).getD .skip
theorem yN5:zdI ydN 64 61=some (.block 0 (.loop yBv)):=by kernel_rfl
theorem yQO (x:(yb9).X):zg7 ⟨yhS,60,yt4⟩ 0 yBv 244 yb9 ygZ ylG x=ycM x:=by kernel_rfl
def yz4 (x:(yhb).X):Nat:=(fun (u0:Int) (u1:Int) (u2:Int) (u3:Int) (u4:Int) (u5:Int) (u6:Int) (u7:Int) (u8:Int) (u9:Int) (u10:Int) (u11:Int) (u12:Bool) (u13:Bool) (u14:Int) (u15:Int) (u16:Int) (u17:Int) (u18:Int) (u19:Int) (u20:Int) (u21:Int) (u22:Int) (u23:Bool) (u24:Bool) (u25:List dM)=>18446744073709551616) x.1.1.1 x.2.1.1.1 x.2.1.1.2.1 x.2.1.2.1.1 x.2.1.2.1.2.1 x.2.1.2.1.2.2.1 x.2.1.2.1.2.2.2.2.1 x.2.1.2.1.2.2.2.2.2.1 x.2.1.2.1.2.2.2.2.2.2.1 x.2.1.2.1.2.2.2.2.2.2.2.1 x.2.1.2.1.2.2.2.2.2.2.2.2.1 x.2.1.2.1.2.2.2.2.2.2.2.2.2.2.1 x.2.1.2.1.2.2.2.2.2.2.2.2.2.2.2.1 x.2.1.2.1.2.2.2.2.2.2.2.2.2.2.2.2.1 x.2.1.2.2.1.1 x.2.1.2.2.1.2.1 x.2.1.2.2.1.2.2.1 x.2.1.2.2.1.2.2.2.2.1 x.2.1.2.2.1.2.2.2.2.2.1 x.2.1.2.2.1.2.2.2.2.2.2.1 x.2.1.2.2.1.2.2.2.2.2.2.2.1 x.2.1.2.2.1.2.2.2.2.2.2.2.2.1 x.2.1.2.2.1.2.2.2.2.2.2.2.2.2.2.1 x.2.1.2.2.1.2.2.2.2.2.2.2.2.2.2.2.1 x.2.1.2.2.1.2.2.2.2.2.2.2.2.2.2.2.2.1 x.2.2.1
def ysU (x:(yhb).X):Option ((ygZ).X ⊕ (ylG).X):=zr ycM (yz4 x) (yzS x)
def yAq:Seg:=⟨yhb,ygZ,ylG,ysU⟩
def yDl:Nat→Option Seg:=fun q=>bif Nat.beq q 61 then some yAq else yt4 q
theorem yOJ:FrOk Tryz.prog ⟨yhS,60,yDl⟩ ydN:=(yOI).loop (sg:=yAq) yb9 yzS (by decide) yN5 ycM yz4 (by decide) (fun _=>rfl) (fun x r _ h=>h) yQO
abbrev yhX:List Par:= [.rd tI,.rd tG]
abbrev ysj:List OT:= [⟨false,tA,(.pr .fz (.pr (.pr .fz .fz) (.pr (.ow (.pr (.ow .fz) (.pr (.ow (.pr .fz .fz)) (.pr .fz (.ow .fz))))) (.pr .fz (.pr .fz (.pr .fz (.pr .fz (.pr .fz (.pr (.ow (.pr .fz .fz)) (.pr .fz (.pr .fz .fz)))))))))))⟩]
def yox (a0:Int) (a1:dG):Option (ResD ysj×MutD yhX) :=
  let r1:=yf a1
  bif (!(!r1)) then
    let r2:=ya a0 1 60000
    bif (!r2) then
      some (((0,(0,0),[],0,0,0,0,0,[],0,false,false),()),())
    else
      zjw (ysU (((a0,()),((),()),((),()),((),()),((),()),()),((a1.1,a1.2,()),(0,0,0,(),0,0,0,0,0,(),0,false,false,()),(a0,a1.1,a1.2,(),(-1),0,0,0,0,(),(-1),false,false,()),()),([],()))) (fun y18 =>
        some (((y18.2.1.2.1.1,(y18.2.1.2.1.2.1,y18.2.1.2.1.2.2.1),y18.2.2.1,y18.2.1.2.1.2.2.2.2.1,y18.2.1.2.1.2.2.2.2.2.1,y18.2.1.2.1.2.2.2.2.2.2.1,y18.2.1.2.1.2.2.2.2.2.2.2.1,y18.2.1.2.1.2.2.2.2.2.2.2.2.1,[],y18.2.1.2.1.2.2.2.2.2.2.2.2.2.2.1,y18.2.1.2.1.2.2.2.2.2.2.2.2.2.2.2.1,y18.2.1.2.1.2.2.2.2.2.2.2.2.2.2.2.2.1),()),())) (fun y18 =>
        none)
  else
    some (((0,(0,0),[],0,0,0,0,0,[],0,false,false),()),())
theorem yXH (x:InD yhX):zjH ⟨yhS,60,yDl⟩ Tryz.f49.results.toList ydN yhX ysj x=yox x.1 x.2.1:=by kernel_rfl
theorem yTG:ConOk Tryz.prog 49 ⟨yhX,ysj,fun x=>yox x.1 x.2.1⟩:=zkh (yOJ) Tryz.func49 (by kernel_rfl) (by kernel_rfl) Tryz.ntmps49.symm (by decide) (fun x r h=>(yXH x).trans h)
def ym1 (a0:Int) (a1:dG):dA:=yBr a0 a1
theorem yVJ (a0:Int) (a1:dG) (hk:zi9 yhX (a0,a1,())):yox a0 a1=(fun n=>some ((n,()),())) (ym1 a0 a1):=by
  unfold yox ym1 yBr
  simp only [ydj]
  cases hg:yf a1
  · rfl
  cases hid:(leb 1 a0&&leb a0 60000)
  · rfl
  have hge:=yk.1 hg
  have inner: ∀ (i:Int) (a:dA),ynh (yGW a0 i a1 yU a (yyx a0 a1 i))=some (.inl (yvs a0 i a1 yU a (yH a0 a1 i))):=fun i a =>
    zks (step:=ya1) a1.2.toNat (fun s m=>ylW a0 i s a1 yU a m) yGk (fun _ m=>(m.1.length:Int)=6+a1.2) (fun m=> .inl (yvs a0 i a1 yU a m)) (fun s m hs hm=>⟨by
      simp only [ya1,ylW,ymh,zjI (show (s:Int) < a1.2 by omega),cond_true,wr (show -9223372036854775808≤(s:Int)+1 by omega) (by omega),Int.natCast_add,Int.natCast_one,Int.toNat_natCast,yet]
      have hd:ycA (s:Int)=((s+6:Nat):Int):=by unfold ycA; rw [zk0 (show (0:Int)≤s by omega),zk0 (show (s:Int)≤1099511627776 by omega)]; rfl
      rw [hd,zkO (show s+6 < m.1.length by omega),Int.toNat_natCast]; rfl,by show ((m.1.set _ _).length:Int)=_; rw [List.length_set]; exact hm⟩) (fun m hm=>by simp only [ya1,ylW,ymh,show ((a1.2.toNat:Nat):Int)=a1.2 by omega,zkm (Int.le_refl _),cond_false]) (yyx a0 a1 i) (by
      unfold yyx ybZ
      rw [zk0 (show 1≤6+a1.2 by omega),zk0 (show 6+a1.2≤20 by omega)]
      show (((List.replicate (6+a1.2).toNat ([]:List Int)).set 0 _).length:Int)=_
      rw [List.length_set,List.length_replicate]; omega) 18446744073709551616 (by omega)
  have hmn:ybk (yb5 a1)=ybZ (6+a1.2):=by
    unfold ybk yb5
    rw [wr (by omega) (by omega)]
  have h0:inb 0 (ybZ (6+a1.2)).1.length=true:=by
    unfold ybZ
    rw [zk0 (show 1≤6+a1.2 by omega),zk0 (show 6+a1.2≤20 by omega)]
    show inb 0 (List.replicate (6+a1.2).toNat ([]:List Int)).length=true
    rw [List.length_replicate,zjP]; omega
  have outer:ysU (yMJ a0 a1 yU (yBs a0 a1))=some (.inl (yAf yU ((List.range a1.1.toNat).foldl (fun a (i:Nat)=>yBq a (yH a0 a1 i)) (yBs a0 a1)))) :=
    zks (step:=ycM) a1.1.toNat (fun i a=>yj0 a0 i a1 yU a) (fun a i=>yBq a (yH a0 a1 i)) (fun i a=>a.2.2.1.length=i) (fun a=> .inl (yAf yU a)) (fun i a hi ha=>⟨by
      simp only [ycM,yj0,yrC,zjI (show (i:Int) < a1.1 by omega),cond_true,wr (show -9223372036854775808≤(i:Int)+1 by omega) (by omega),Int.natCast_add,Int.natCast_one,zkV,hmn,h0]
      refine (congrArg (fun z=>zjw z _ _) (inner i a)).trans ?_
      simp only [zkJ]
      show (bif zj4 a.2.2.1.length [yH a0 a1 i].length 80 then _ else _)=_
      rw [zkw.2 (show (a.2.2.1.length+ [yH a0 a1 i].length) * 80≤140737488355328 by simp only [List.length_cons,List.length_nil]; omega)]
      simp only [cond_true]
      show some (Sum.inl (yj0 a0 (IntKind.i64.wrap ((i:Int)+1)) a1 yU (yBq a (yH a0 a1 i))))=_
      rw [wr (show -9223372036854775808≤(i:Int)+1 by omega) (by omega)],by show (a.2.2.1++ [_]).length=_; rw [List.length_append,ha]; rfl⟩) (fun a ha=>by simp only [ycM,yj0,yrC,show ((a1.1.toNat:Nat):Int)=a1.1 by omega,zkm (Int.le_refl _),cond_false]) (yBs a0 a1) rfl 18446744073709551616 (by omega)
  have hdr: ∀ (l:List Nat) (a:dA),a.2.2.2.2.2.2.2.2.1= []→(l.foldl (fun a (i:Nat)=>yBq a (yH a0 a1 i)) a).2.2.2.2.2.2.2.2.1= []:=by
    intro l
    induction l with
    | nil=>intro a h; exact h
    | cons x t ih=>intro a h; exact ih _ h
  have h:=hdr (List.range a1.1.toNat) (yBs a0 a1) rfl
  simp only [Bool.not_true,Bool.not_false,cond_true,cond_false,Bool.and_self]
  refine (congrArg (fun z=>zjw z _ _) outer).trans ?_
  generalize (List.range a1.1.toNat).foldl (fun a (i:Nat)=>yBq a (yH a0 a1 i)) (yBs a0 a1)=R at h
  simp only [zkJ]
  show some ((((R.1,R.2.1,R.2.2.1,R.2.2.2.1,R.2.2.2.2.1,R.2.2.2.2.2.1,R.2.2.2.2.2.2.1,R.2.2.2.2.2.2.2.1,[],R.2.2.2.2.2.2.2.2.2):dA),()),())=some ((R,()),())
  rw [← h]
def yEe:Con:=⟨yhX,ysj,fun x=>(fun n=>some ((n,()),())) (ym1 x.1 x.2.1)⟩
theorem yWF:ConOk Tryz.prog 49 yEe:=(yTG).mono (fun x r hk h=>(yVJ x.1 x.2.1 hk).trans h)
end
end
end Go.Tf
