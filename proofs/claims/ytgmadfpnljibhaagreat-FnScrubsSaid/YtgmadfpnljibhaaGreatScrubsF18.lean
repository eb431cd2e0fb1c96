/- Functions of the program, and what they come to. -/
import Derived.Test.YtgmadfpnljibhaaGreatScrubsF17
namespace Go.Tf
noncomputable section
open Go.Proofs
set_option synthInstance.maxHeartbeats 400000
set_option synthInstance.maxSize 10000
set_option linter.unusedVariables false
set_option linter.unusedSimpArgs false
set_option maxRecDepth 100000
section
def yg2:Code:=(Tryz.f36.body).getD .skip
def ymh:Env:=zki TT [] []
theorem yHN:FrOk Tryz.prog ⟨ymh,26,fun _=>none⟩ yg2:=zkp yc yd trivial
def ywO:Nat→Option Seg:=fun _=>none
def ybU:Shape:=⟨[(0,false,[.br tI]),(1,false,[.br tI]),(5,false,[.int .i64])],[],[]⟩
def yhA:Shape:=⟨[(0,false,[.br tI]),(1,false,[.br tI]),(5,false,[.ci .i64 0])],[],[]⟩
def yhj:Shape:=⟨[],[],[]⟩
def yhW:Shape:=⟨[(4,false,[.bool])],[],[]⟩
def ymc (v0:List Int) (v1:List Int) (v2:Int):Option ((ybU).X ⊕ ((yhj).X ⊕ (yhW).X)) :=
  bif (ltb v2 (v0.length:Int)) then
    bif (inb v2 v0.length) then
      bif (inb v2 v1.length) then
        bif ((nth v0 v2 0) !=(nth v1 v2 0)) then
          some (.inr (.inr (((false,()),()),(),())))
        else
          some (.inl (((v0,()),(v1,()),((IntKind.i64.wrap (v2+1)),()),()),(),()))
      else none
    else none
  else
    some (.inr (.inl ((),(),())))
def ya8 (x:(ybU).X):=ymc x.1.1.1 x.1.2.1.1 x.1.2.2.1.1
def yus (x:(yhA).X):(ybU).X:=(((x.1.1.1,()),(x.1.2.1.1,()),(0,()),()),(),())
def yvK:Code:=(zdI yg2 64 116).getD .skip
theorem yHo:zdI yg2 64 29=some (.block 0 (.loop yvK)):=by kernel_rfl
theorem yIz (x:(ybU).X):zg7 ⟨ymh,26,ywO⟩ 0 yvK 116 ybU yhj yhW x=ya8 x:=by kernel_rfl
def yux (x:(yhA).X):Nat:=(fun (u0:List Int) (u1:List Int)=>18446744073709551616) x.1.1.1 x.1.2.1.1
def yny (x:(yhA).X):Option ((yhj).X ⊕ (yhW).X):=zr ya8 (yux x) (yus x)
def yuF:Seg:=⟨yhA,yhj,yhW,yny⟩
def ywP:Nat→Option Seg:=fun q=>bif Nat.beq q 29 then some yuF else ywO q
theorem yHO:FrOk Tryz.prog ⟨ymh,26,ywP⟩ yg2:=(yHN).loop (sg:=yuF) ybU yus (by decide) yHo ya8 yux (by decide) (fun _=>rfl) (fun x r _ h=>h) yIz
abbrev yen:List Par:= [.rd tL,.rd tL]
abbrev ymv:List OT:= [⟨false,tB,.fz⟩]
def yiJ (a0:List Int) (a1:List Int):Option (ResD ymv×MutD yen) :=
  bif ((a0.length:Int) !=(a1.length:Int)) then
    some ((false,()),())
  else
    zjw (yny (((a0,()),(a1,()),((),()),()),(),())) (fun y0 =>
      some ((true,()),())) (fun y0 =>
      some ((y0.1.1.1,()),()))
theorem yO5 (x:InD yen):zjH ⟨ymh,26,ywP⟩ Tryz.f36.results.toList yg2 yen ymv x=yiJ x.1 x.2.1:=by kernel_rfl
theorem yKl:ConOk Tryz.prog 36 ⟨yen,ymv,fun x=>yiJ x.1 x.2.1⟩:=zkh (yHO) Tryz.func36 (by kernel_rfl) (by kernel_rfl) Tryz.ntmps36.symm (by decide) (fun x r h=>(yO5 x).trans h)
def ycG (a0 a1:List Int):Bool:=decide (a0=a1)
theorem yM6 (a0 a1:List Int) (hk:zi9 yen (a0,a1,())):yiJ a0 a1=(fun n=>some ((n,()),())) (ycG a0 a1):=by
  have hb:a0.length * 8≤2 ^ 47:=hk.1.1
  have hl:a0.length=a1.length→yny (((a0,()),(a1,()),((),()),()),(),())=some (bif (List.range a0.length).any (fun i=>a0.getD i 0 !=a1.getD i 0) then .inr (((false,()),()),(),()) else .inl ((),(),())):=fun hL =>
    zf4 (step:=ya8) (fun i=>(((a0,()),(a1,()),((i:Int),()),()),(),())) a0.length (fun i=>a0.getD i 0 !=a1.getD i 0) _ _ (fun i hi=>by
      simp only [ya8,ymc,zkO hi,zkO (hL ▸ hi),zjW,zjI (show (i:Int) < a0.length by omega),cond_true,wr (show -9223372036854775808≤(i:Int)+1 by omega) (by omega),Int.natCast_add,Int.natCast_one]
      cases (a0.getD i 0 !=a1.getD i 0)<;>rfl) (by simp only [ya8,ymc,zkm (Int.le_refl _),cond_false]) _ (by show _ < 18446744073709551616; omega)
  unfold yiJ ycG
  by_cases h:a0.length=a1.length
  · rw [show ((a0.length:Int) !=(a1.length:Int))=false by simp [h],zkX,hl h]
    by_cases e:a0=a1
    · subst e
      have:(List.range a0.length).any (fun i=>a0.getD i 0 !=a0.getD i 0)=false:=by simp
      rw [this,decide_eq_true rfl]
      rfl
    · have:(List.range a0.length).any (fun i=>a0.getD i 0 !=a1.getD i 0)=true:=by
        rcases Bool.eq_false_or_eq_true ((List.range a0.length).any (fun i=>a0.getD i 0 !=a1.getD i 0)) with h2 | h2
        · exact h2
        · refine absurd (List.ext_getElem h fun i h3 h4=> ?_) e
          rw [List.any_eq_false]at h2
          have:=h2 i (List.mem_range.2 h3)
          simpa [h3,h4] using this
      rw [this,decide_eq_false e]
      rfl
  · rw [show ((a0.length:Int) !=(a1.length:Int))=true from bne_iff_ne.2 (by omega),zkY,decide_eq_false (fun e=>h (congrArg _ e))]
theorem yWL (a:List Int):ycG a a=true:=by unfold ycG; simp
def yxb:Con:=⟨yen,ymv,fun x=>(fun n=>some ((n,()),())) (ycG x.1 x.2.1)⟩
theorem yNK:ConOk Tryz.prog 36 yxb:=(yKl).mono (fun x r hk h=>(yM6 x.1 x.2.1 hk).trans h)
end
section
def yFb:Code:=(Tryz.f120.body).getD .skip
def yFM:Env:=zki TT [(122,yjN)] []
theorem yLw:FrOk Tryz.prog ⟨yFM,12,fun _=>none⟩ yFb:=zkp yc yd ⟨yq6,trivial⟩
def yN7:Nat→Option Seg:=fun _=>none
abbrev yk7:List Par:= [.rd tG]
abbrev yqr:List OT:= [⟨false,tI,.fz⟩]
def ytY (a0:dG):Option (ResD yqr×MutD yk7) :=
  let r1:=ycE a0
  bif (!r1) then
    some ((0,()),())
  else
    some (((IntKind.i64.wrap (a0.2 * (IntKind.i64.wrap (a0.1 - 1)))),()),())
theorem yVn (x:InD yk7):zjH ⟨yFM,12,yN7⟩ Tryz.f120.results.toList yFb yk7 yqr x=ytY x.1:=by kernel_rfl
theorem yQR:ConOk Tryz.prog 120 ⟨yk7,yqr,fun x=>ytY x.1⟩:=zkh (yLw) Tryz.func120 (by kernel_rfl) (by kernel_rfl) Tryz.ntmps120.symm (by decide) (fun x r h=>(yVn x).trans h)
def ygW (a0:dG):Int :=
  let r1:=ycE a0
  bif (!r1) then
    0
  else
    (IntKind.i64.wrap (a0.2 * (IntKind.i64.wrap (a0.1 - 1))))
def ytt:Con:=⟨yk7,yqr,fun x=>(fun n=>some ((n,()),())) (ygW x.1)⟩
theorem yTf (a0:dG):ytY a0=(fun n=>some ((n,()),())) (ygW a0):=zkS (p:=fun (n:Int)=>((n,()),())) (zkx (p:=fun (n:Int)=>((n,()),())) rfl rfl)
theorem yEk:ConOk Tryz.prog 120 ytt:=(yQR).mono (fun x r _ h=>(yTf x.1).trans h)
theorem yEf (a:Int×Int):ygW a=yf a:=by kernel_rfl
end
section
def yAy:Code:=(Tryz.f242.body).getD .skip
def yBb:Env:=zki TT [(120,ytt),(126,yG)] []
theorem yHK:FrOk Tryz.prog ⟨yBb,10,fun _=>none⟩ yAy:=zkp yc yd ⟨yEk,yU,trivial⟩
def yIX:Nat→Option Seg:=fun _=>none
abbrev yg8:List Par:= [.rd tG,.rd tI]
abbrev ymt:List OT:= [⟨false,tB,.fz⟩]
def ypJ (a0:dG) (a1:Int):Option (ResD ymt×MutD yg8) :=
  let r1:=ygW a0
  let r2:=yi a1 0 (IntKind.i64.wrap (r1 - 1))
  some ((r2,()),())
theorem yO3 (x:InD yg8):zjH ⟨yBb,10,yIX⟩ Tryz.f242.results.toList yAy yg8 ymt x=ypJ x.1 x.2.1:=by kernel_rfl
theorem yKj:ConOk Tryz.prog 242 ⟨yg8,ymt,fun x=>ypJ x.1 x.2.1⟩:=zkh (yHK) Tryz.func242 (by kernel_rfl) (by kernel_rfl) Tryz.ntmps242.symm (by decide) (fun x r h=>(yO3 x).trans h)
def ybk (a0:dG) (a1:Int):Bool :=
  let r1:=ygW a0
  let r2:=yi a1 0 (IntKind.i64.wrap (r1 - 1))
  r2
def yiA:Con:=⟨yg8,ymt,fun x=>(fun n=>some ((n,()),())) (ybk x.1 x.2.1)⟩
theorem yM4 (a0:dG) (a1:Int):ypJ a0 a1=(fun n=>some ((n,()),())) (ybk a0 a1):=zkS (p:=fun (n:Bool)=>((n,()),())) rfl
theorem yrR:ConOk Tryz.prog 242 yiA:=(yKj).mono (fun x r _ h=>(yM4 x.1 x.2.1).trans h)
theorem yCE (g:dG) (b:Int):ybk g b=blkOk g b:=by
  unfold ybk
  simp only [yEf,yat,yOR]
end
section
def yx9:Code:=(Tryz.f171.body).getD .skip
def yyt:Env:=zki TT [(45,yjM),(242,yiA)] []
theorem yGv:FrOk Tryz.prog ⟨yyt,18,fun _=>none⟩ yx9:=zkp yc yd ⟨yq5,yrR,trivial⟩
def yG6:Nat→Option Seg:=fun _=>none
abbrev yfP:List Par:= [.rd tA,.rd tI]
abbrev ykl:List OT:= [⟨false,tI,.fz⟩]
def yoa (a0:dA) (a1:Int):Option (ResD ykl×MutD yfP) :=
  let r1:=yav a0
  bif (!r1) then
    some ((1,()),())
  else
    bif a0.2.2.2.2.2.2.2.2.2.2.1 then
      some ((6,()),())
    else
      let r2:=ybk a0.2.1 a1
      bif (!r2) then
        some ((2,()),())
      else
        some ((0,()),())
theorem yLs (x:InD yfP):zjH ⟨yyt,18,yG6⟩ Tryz.f171.results.toList yx9 yfP ykl x=yoa x.1 x.2.1:=by kernel_rfl
theorem yIq:ConOk Tryz.prog 171 ⟨yfP,ykl,fun x=>yoa x.1 x.2.1⟩:=zkh (yGv) Tryz.func171 (by kernel_rfl) (by kernel_rfl) Tryz.ntmps171.symm (by decide) (fun x r h=>(yLs x).trans h)
def ygr (a0:dA) (a1:Int):Int :=
  let r1:=yav a0
  bif (!r1) then
    1
  else
    bif a0.2.2.2.2.2.2.2.2.2.2.1 then
      6
    else
      let r2:=ybk a0.2.1 a1
      bif (!r2) then
        2
      else
        0
def yvP:Con:=⟨yfP,ykl,fun x=>(fun n=>some ((n,()),())) (ygr x.1 x.2.1)⟩
theorem yKb (a0:dA) (a1:Int):yoa a0 a1=(fun n=>some ((n,()),())) (ygr a0 a1):=zkS (p:=fun (n:Int)=>((n,()),())) (zkx (p:=fun (n:Int)=>((n,()),())) rfl (zkx (p:=fun (n:Int)=>((n,()),())) rfl (zkx (p:=fun (n:Int)=>((n,()),())) rfl rfl)))
theorem yKz:ConOk Tryz.prog 171 yvP:=(yIq).mono (fun x r _ h=>(yKb x.1 x.2.1).trans h)
theorem yXt (a:dA) (b:Int):ygr a b=yfm a b:=by
  unfold ygr yfm yav
  simp only [yCE]
  cases yo a<;>cases a.2.2.2.2.2.2.2.2.2.2.1<;>cases blkOk a.2.1 b<;>rfl
end
section
def yvB:Code:=(Tryz.f204.body).getD .skip
def yvF:Env:=zki TT [(126,yG),(214,yuV)] []
theorem yD9:FrOk Tryz.prog ⟨yvF,20,fun _=>none⟩ yvB:=zkp yc yd ⟨yU,yGj,trivial⟩
def yEx:Nat→Option Seg:=fun _=>none
abbrev ybR:List Par:= [.rd tL,.rd tI]
abbrev yhL:List OT:= [⟨false,tI,.fz⟩]
def yfj (a0:List Int) (a1:Int):Option (ResD yhL×MutD ybR) :=
  let r1:=ygq a0
  let r2:=yi a1 0 (IntKind.i64.wrap ((a0.length:Int) - 1))
  bif r2 then
    bif (inb a1 a0.length) then
      some (((IntKind.i64.wrap ((BitVec.ofInt IntKind.i64.bits r1 ^^^ BitVec.ofInt IntKind.i64.bits (nth a0 a1 0)).toNat:Int)),()),())
    else none
  else
    some ((r1,()),())
theorem yHx (x:InD ybR):zjH ⟨yvF,20,yEx⟩ Tryz.f204.results.toList yvB ybR yhL x=yfj x.1 x.2.1:=by kernel_rfl
theorem yEZ:ConOk Tryz.prog 204 ⟨ybR,yhL,fun x=>yfj x.1 x.2.1⟩:=zkh (yD9) Tryz.func204 (by kernel_rfl) (by kernel_rfl) Tryz.ntmps204.symm (by decide) (fun x r h=>(yHx x).trans h)
def yd8 (a0:List Int) (a1:Int):Int:=ynW a0 a1
theorem yGG (a0:List Int) (a1:Int) (hk:zi9 ybR (a0,a1,())):yfj a0 a1=(fun n=>some ((n,()),())) (yd8 a0 a1):=by
  have hb:a0.length * 8≤2 ^ 47:=hk.1.1
  unfold yfj yd8 ynW ygq
  rw [yat,yp9 (show a0.length≤1152921504606846976 by omega)]
  cases inb a1 a0.length<;>rfl
def ytv:Con:=⟨ybR,yhL,fun x=>(fun n=>some ((n,()),())) (yd8 x.1 x.2.1)⟩
theorem yGK:ConOk Tryz.prog 204 ytv:=(yEZ).mono (fun x r hk h=>(yGG x.1 x.2.1 hk).trans h)
end
section
def ynj:Code:=(Tryz.f106.body).getD .skip
def ysy:Env:=zki TT [(45,yjM),(116,yb0),(117,ymQ),(204,ytv)] []
theorem yPt:FrOk Tryz.prog ⟨ysy,62,fun _=>none⟩ ynj:=zkp yc yd ⟨yq5,yfd,yu4,yGK,trivial⟩
def yC5:Nat→Option Seg:=fun _=>none
def ybF:Shape:=⟨[(1,false,[.int .i64]),(2,false,[.ptr 0 0]),(6,false,[.at 800000000]),(7,false,[.int .i64]),(28,false,[.int .i64]),(29,false,[.int .i64])],[(0,[.int .i64,.int .i64,.int .i64,.br tM,.int .i64,.int .i64,.int .i64,.int .i64,.int .i64,.br tW,.int .i64,.bool,.bool])],[(800000000,tI,.fz)]⟩
def yf8:Shape:=⟨[(1,false,[.int .i64]),(2,false,[.ptr 0 0]),(6,false,[.at 800000000]),(7,false,[.ci .i64 (-1)]),(28,false,[.int .i64]),(29,false,[.ci .i64 0])],[(0,[.int .i64,.int .i64,.int .i64,.br tM,.int .i64,.int .i64,.int .i64,.int .i64,.int .i64,.br tW,.int .i64,.bool,.bool])],[(800000000,tI,.fz)]⟩
def yfW:Shape:=⟨[(6,false,[.at 800000000]),(7,false,[.int .i64])],[],[(800000000,tI,.fz)]⟩
def ygj:Shape:=⟨[(4,false,[.nil]),(5,false,[.bool])],[],[]⟩
abbrev ypA (v0:Int) (v1:Int) (v2:Int) (v3:Int) (v4:dA) (v5:List Int):(ybF).X:=(((v0,()),((),()),((),()),(v1,()),(v2,()),(v3,()),()),((v4.1,v4.2.1.1,v4.2.1.2,v4.2.2.1,v4.2.2.2.1,v4.2.2.2.2.1,v4.2.2.2.2.2.1,v4.2.2.2.2.2.2.1,v4.2.2.2.2.2.2.2.1,v4.2.2.2.2.2.2.2.2.1,v4.2.2.2.2.2.2.2.2.2.1,v4.2.2.2.2.2.2.2.2.2.2.1,v4.2.2.2.2.2.2.2.2.2.2.2,()),()),(v5,()))
abbrev yJY (v0:Int) (v1:Int) (v2:dA) (v3:List Int):(yf8).X:=(((v0,()),((),()),((),()),((),()),(v1,()),((),()),()),((v2.1,v2.2.1.1,v2.2.1.2,v2.2.2.1,v2.2.2.2.1,v2.2.2.2.2.1,v2.2.2.2.2.2.1,v2.2.2.2.2.2.2.1,v2.2.2.2.2.2.2.2.1,v2.2.2.2.2.2.2.2.2.1,v2.2.2.2.2.2.2.2.2.2.1,v2.2.2.2.2.2.2.2.2.2.2.1,v2.2.2.2.2.2.2.2.2.2.2.2,()),()),(v3,()))
abbrev yJR (v0:Int) (v1:List Int):(yfW).X:=((((),()),(v0,()),()),(),(v1,()))
abbrev yJ8 (v0:Bool):(ygj).X:=((((),()),(v0,()),()),(),())
def ypN (v0:Int) (v1:Int) (v2:Int) (v3:Int) (v4:Int) (v5:Int) (v6:Int) (v7:List dM) (v8:Int) (v9:Int) (v10:Int) (v11:Int) (v12:Int) (v13:List dW) (v14:Int) (v15:Bool) (v16:Bool) (v17:List Int):Option ((ybF).X ⊕ ((yfW).X ⊕ (ygj).X)) :=
  bif (ltb v3 v2) then
    bnd (ygX (v4,(v5,v6),v7,v8,v9,v10,v11,v12,v13,v14,v15,v16) v3 v0) fun r4 =>
    bif (!r4.1.2.1) then
      bif (leb 0 v1) then
        some (.inr (.inr ((((),()),(false,()),()),(),())))
      else
        bif (!r4.1.2.1) then
          bif (zj4 v17.length ([r4.1.1]:List Int).length 8) then
            some (.inl (((v0,()),((),()),((),()),(v3,()),(v2,()),((IntKind.i64.wrap (v3+1)),()),()),((v4,v5,v6,v7,v8,v9,v10,v11,v12,v13,v14,v15,v16,()),()),((v17++([r4.1.1]:List Int)),())))
          else none
        else
          bif (zj4 v17.length ([r4.1.1]:List Int).length 8) then
            some (.inl (((v0,()),((),()),((),()),(v1,()),(v2,()),((IntKind.i64.wrap (v3+1)),()),()),((v4,v5,v6,v7,v8,v9,v10,v11,v12,v13,v14,v15,v16,()),()),((v17++([r4.1.1]:List Int)),())))
          else none
    else
      bif (!r4.1.2.1) then
        bif (zj4 v17.length ([r4.1.1]:List Int).length 8) then
          some (.inl (((v0,()),((),()),((),()),(v3,()),(v2,()),((IntKind.i64.wrap (v3+1)),()),()),((v4,v5,v6,v7,v8,v9,v10,v11,v12,v13,v14,v15,v16,()),()),((v17++([r4.1.1]:List Int)),())))
        else none
      else
        bif (zj4 v17.length ([r4.1.1]:List Int).length 8) then
          some (.inl (((v0,()),((),()),((),()),(v1,()),(v2,()),((IntKind.i64.wrap (v3+1)),()),()),((v4,v5,v6,v7,v8,v9,v10,v11,v12,v13,v14,v15,v16,()),()),((v17++([r4.1.1]:List Int)),())))
        else none
  else
    some (.inr (.inl ((((),()),(v1,()),()),(),(v17,()))))
def yb9 (x:(ybF).X):=ypN x.1.1.1 x.1.2.2.2.1.1 x.1.2.2.2.2.1.1 x.1.2.2.2.2.2.1.1 x.2.1.1.1 x.2.1.1.2.1 x.2.1.1.2.2.1 x.2.1.1.2.2.2.1 x.2.1.1.2.2.2.2.1 x.2.1.1.2.2.2.2.2.1 x.2.1.1.2.2.2.2.2.2.1 x.2.1.1.2.2.2.2.2.2.2.1 x.2.1.1.2.2.2.2.2.2.2.2.1 x.2.1.1.2.2.2.2.2.2.2.2.2.1 x.2.1.1.2.2.2.2.2.2.2.2.2.2.1 x.2.1.1.2.2.2.2.2.2.2.2.2.2.2.1 x.2.1.1.2.2.2.2.2.2.2.2.2.2.2.2.1 x.2.2.1
def yxi (x:(yf8).X):(ybF).X:=(((x.1.1.1,()),((),()),((),()),((-1),()),(x.1.2.2.2.2.1.1,()),(0,()),()),((x.2.1.1.1,x.2.1.1.2.1,x.2.1.1.2.2.1,x.2.1.1.2.2.2.1,x.2.1.1.2.2.2.2.1,x.2.1.1.2.2.2.2.2.1,x.2.1.1.2.2.2.2.2.2.1,x.2.1.1.2.2.2.2.2.2.2.1,x.2.1.1.2.2.2.2.2.2.2.2.1,x.2.1.1.2.2.2.2.2.2.2.2.2.1,x.2.1.1.2.2.2.2.2.2.2.2.2.2.1,x.2.1.1.2.2.2.2.2.2.2.2.2.2.2.1,x.2.1.1.2.2.2.2.2.2.2.2.2.2.2.2.1,()),()),(x.2.2.1,()))
def yyC:Code:=(zdI ynj 64 500).getD .skip
theorem yLe:zdI ynj 64 125=some (.block 0 (.loop yyC)):=by kernel_rfl
theorem yNS (x:(ybF).X):zg7 ⟨ysy,62,yC5⟩ 0 yyC 500 ybF yfW ygj x=yb9 x:=by kernel_rfl
def yxu (x:(yf8).X):Nat:=(fun (u0:Int) (u1:Int) (u2:Int) (u3:Int) (u4:Int) (u5:List dM) (u6:Int) (u7:Int) (u8:Int) (u9:Int) (u10:Int) (u11:List dW) (u12:Int) (u13:Bool) (u14:Bool) (u15:List Int)=>18446744073709551616) x.1.1.1 x.1.2.2.2.2.1.1 x.2.1.1.1 x.2.1.1.2.1 x.2.1.1.2.2.1 x.2.1.1.2.2.2.1 x.2.1.1.2.2.2.2.1 x.2.1.1.2.2.2.2.2.1 x.2.1.1.2.2.2.2.2.2.1 x.2.1.1.2.2.2.2.2.2.2.1 x.2.1.1.2.2.2.2.2.2.2.2.1 x.2.1.1.2.2.2.2.2.2.2.2.2.1 x.2.1.1.2.2.2.2.2.2.2.2.2.2.1 x.2.1.1.2.2.2.2.2.2.2.2.2.2.2.1 x.2.1.1.2.2.2.2.2.2.2.2.2.2.2.2.1 x.2.2.1
def yrf (x:(yf8).X):Option ((yfW).X ⊕ (ygj).X):=zr yb9 (yxu x) (yxi x)
def yxL:Seg:=⟨yf8,yfW,ygj,yrf⟩
def yC6:Nat→Option Seg:=fun q=>bif Nat.beq q 125 then some yxL else yC5 q
theorem yPu:FrOk Tryz.prog ⟨ysy,62,yC6⟩ ynj:=(yPt).loop (sg:=yxL) ybF yxi (by decide) yLe yb9 yxu (by decide) (fun _=>rfl) (fun x r _ h=>h) yNS
abbrev yi7:List Par:= [.rd tA,.rd tI]
abbrev ys6:List OT:= [⟨false,tL,(.ow .fz)⟩,⟨false,tB,.fz⟩]
def yo2 (a0:dA) (a1:Int):Option (ResD ys6×MutD yi7) :=
  let r1:=yav a0
  bif (!(!r1)) then
    bif (!a0.2.2.2.2.2.2.2.2.2.2.2) then
      let r2:=yP a0.2.1 a1
      bif (!r2) then
        some (([],false,()),())
      else
        zjw (yrf (((a1,()),((),()),((),()),((),()),((a0.2.2.1.length:Int),()),((),()),()),((a0.1,a0.2.1.1,a0.2.1.2,a0.2.2.1,a0.2.2.2.1,a0.2.2.2.2.1,a0.2.2.2.2.2.1,a0.2.2.2.2.2.2.1,a0.2.2.2.2.2.2.2.1,a0.2.2.2.2.2.2.2.2.1,a0.2.2.2.2.2.2.2.2.2.1,a0.2.2.2.2.2.2.2.2.2.2.1,a0.2.2.2.2.2.2.2.2.2.2.2,()),()),(([]:List Int),()))) (fun y4 =>
          bif (leb 0 y4.1.2.1.1) then
            let r6:=yd8 y4.2.2.1 y4.1.2.1.1
            bif (inb y4.1.2.1.1 y4.2.2.1.length) then
              some (((y4.2.2.1.set (y4.1.2.1.1).toNat r6),true,()),())
            else none
          else
            some ((y4.2.2.1,true,()),())) (fun y4 =>
          some (([],y4.1.2.1.1,()),()))
    else
      some (([],false,()),())
  else
    some (([],false,()),())
theorem yW1 (x:InD yi7):zjH ⟨ysy,62,yC6⟩ Tryz.f106.results.toList ynj yi7 ys6 x=yo2 x.1 x.2.1:=by kernel_rfl
theorem yTQ:ConOk Tryz.prog 106 ⟨yi7,ys6,fun x=>yo2 x.1 x.2.1⟩:=zkh (yPu) Tryz.func106 (by kernel_rfl) (by kernel_rfl) Tryz.ntmps106.symm (by decide) (fun x r h=>(yW1 x).trans h)
def yn5 (a0:dA) (a1:Int):List Int×Bool:=bif yo a0&&(!a0.2.2.2.2.2.2.2.2.2.2.2&&yO a0.2.1 a1) then yy a0 a1 else ([],false)
theorem yV6 (a0:dA) (a1:Int) (hk:zi9 yi7 (a0,a1,())):yo2 a0 a1=(fun n=>some ((n.1,n.2,()),())) (yn5 a0 a1):=by
  unfold yo2 yn5 yav
  rw [yCF]
  cases ha:yo a0
  · rfl
  have hg:=yg.1 (yam ha)
  have hl:=yvI ha
  have h1:yrf (yJY a1 a0.2.2.1.length a0 [])=some (bif ydQ (fun (i:Nat)=>yl a0 i a1) a0.2.1.1.toNat then .inr (yJ8 false) else .inl (yJR (yp (fun (i:Nat)=>yl a0 i a1) a0.2.1.1.toNat) (yE a0 a1 a0.2.1.1.toNat))) :=
    zf4 (step:=yb9) (fun i=>ypA a1 (yp (fun (i:Nat)=>yl a0 i a1) i) a0.2.2.1.length i a0 (yE a0 a1 i)) a0.2.1.1.toNat (fun i=> !yl a0 i a1&&leb 0 (yp (fun (i:Nat)=>yl a0 i a1) i)) _ _ (fun i hi=>by
      simp only [yb9,ypA,ypN,zjI (show (i:Int) < a0.2.2.1.length by omega),cond_true,wr (show -9223372036854775808≤(i:Int)+1 by omega) (by omega),Int.natCast_add,Int.natCast_one,Int.toNat_natCast,zkV,yva a0 i a1 (zkO (show i < a0.2.2.1.length by omega)),yeM,zky,yp]
      rw [zkw.2 (show ((yE a0 a1 i).length+ [ygx a0 i a1].length) * 8≤140737488355328 by simp only [List.length_cons,List.length_nil,yeg]; omega),yGp]
      cases yl a0 i a1<;>cases leb 0 (yp (fun (i:Nat)=>yl a0 i a1) i)<;>rfl) (by simp only [yb9,ypA,ypN,zkm (show (a0.2.2.1.length:Int)≤(a0.2.1.1.toNat:Int) by omega),cond_false]) _ (by show _ < 18446744073709551616; omega)
  rw [h1]
  cases a0.2.2.2.2.2.2.2.2.2.2.2
  · cases yO a0.2.1 a1
    · rfl
    · unfold yy
      cases ydQ (fun (i:Nat)=>yl a0 i a1) a0.2.1.1.toNat
      · simp only [cond_false,zkJ,yd8]
        cases hm:leb 0 (yp (fun (i:Nat)=>yl a0 i a1) a0.2.1.1.toNat)
        · rfl
        · obtain ⟨h2,h3⟩:=yU8 a0 a1 a0.2.1.1.toNat hm
          rw [h2,h3]; rfl
      · rfl
  · rfl
def yDV:Con:=⟨yi7,ys6,fun x=>(fun n=>some ((n.1,n.2,()),())) (yn5 x.1 x.2.1)⟩
theorem yWw:ConOk Tryz.prog 106 yDV:=(yTQ).mono (fun x r hk h=>(yV6 x.1 x.2.1 hk).trans h)
end
end
end Go.Tf
