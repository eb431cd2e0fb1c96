/- Functions of the program, and what they come to. -/
import Derived.Test.YtfpjmijaiekbgaaGreatExactBuildAllF16
namespace Go.Tf
noncomputable section
open Go.Proofs
set_option synthInstance.maxHeartbeats 400000
set_option synthInstance.maxSize 10000
set_option linter.unusedVariables false
set_option linter.unusedSimpArgs false
set_option maxRecDepth 100000
section
def ynb:Code:=(Tryz.f202.body).getD .skip
def yse:Env:=zki TT [] []
theorem yNY:FrOk Tryz.prog ⟨yse,17,fun _=>none⟩ ynb:=zkp yb yc trivial
def yCx:Nat→Option Seg:=fun _=>none
def yct:Shape:=⟨[(3,false,[.int .i64]),(6,false,[.br tI]),(7,false,[.int .i64]),(8,false,[.int .i64])],[],[]⟩
def yhe:Shape:=⟨[(3,false,[.ci .i64 0]),(6,false,[.br tI]),(7,false,[.int .i64]),(8,false,[.ci .i64 0])],[],[]⟩
def ygZ:Shape:=⟨[(3,false,[.int .i64])],[],[]⟩
def ymA:Shape:=⟨[],[],[]⟩
abbrev yrA (v0:Int) (v1:List Int) (v2:Int) (v3:Int):(yct).X:=(((v0,()),(v1,()),(v2,()),(v3,()),()),(),())
abbrev yLr (v0:List Int) (v1:Int):(yhe).X:=((((),()),(v0,()),(v1,()),((),()),()),(),())
abbrev yAm (v0:Int):(ygZ).X:=(((v0,()),()),(),())
def yrS (v0:Int) (v1:List Int) (v2:Int) (v3:Int):Option ((yct).X ⊕ ((ygZ).X ⊕ (ymA).X)) :=
  bif (ltb v3 v2) then
    bif (inb v3 v1.length) then
      some (.inl ((((IntKind.i64.wrap ((BitVec.ofInt IntKind.i64.bits v0 ^^^ BitVec.ofInt IntKind.i64.bits (nth v1 v3 0)).toNat:Int)),()),(v1,()),(v2,()),((IntKind.i64.wrap (v3+1)),()),()),(),()))
    else none
  else
    some (.inr (.inl (((v0,()),()),(),())))
def ycQ (x:(yct).X):=yrS x.1.1.1 x.1.2.1.1 x.1.2.2.1.1 x.1.2.2.2.1.1
def yzY (x:(yhe).X):(yct).X:=(((0,()),(x.1.2.1.1,()),(x.1.2.2.1.1,()),(0,()),()),(),())
def yBC:Code:=(zdI ynb 64 116).getD .skip
theorem yNd:zdI ynb 64 29=some (.block 0 (.loop yBC)):=by kernel_rfl
theorem yPQ (x:(yct).X):zg7 ⟨yse,17,yCx⟩ 0 yBC 116 yct ygZ ymA x=ycQ x:=by kernel_rfl
def yAc (x:(yhe).X):Nat:=(fun (u0:List Int) (u1:Int)=>18446744073709551616) x.1.2.1.1 x.1.2.2.1.1
def ysn (x:(yhe).X):Option ((ygZ).X ⊕ (ymA).X):=zr ycQ (yAc x) (yzY x)
def yAA:Seg:=⟨yhe,ygZ,ymA,ysn⟩
def yCy:Nat→Option Seg:=fun q=>bif Nat.beq q 29 then some yAA else yCx q
theorem yNZ:FrOk Tryz.prog ⟨yse,17,yCy⟩ ynb:=(yNY).loop (sg:=yAA) yct yzY (by decide) yNd ycQ yAc (by decide) (fun _=>rfl) (fun x r _ h=>h) yPQ
abbrev yjm:List Par:= [.rd tL]
abbrev ysC:List OT:= [⟨false,tI,.fz⟩]
def ype (a0:List Int):Option (ResD ysC×MutD yjm) :=
  zjw (ysn ((((),()),(a0,()),((a0.length:Int),()),((),()),()),(),())) (fun y0 =>
    some ((y0.1.1.1,()),())) (fun y0 =>
    none)
theorem yUp (x:InD yjm):zjH ⟨yse,17,yCy⟩ Tryz.f202.results.toList ynb yjm ysC x=ype x.1:=by kernel_rfl
theorem yRz:ConOk Tryz.prog 202 ⟨yjm,ysC,fun x=>ype x.1⟩:=zkh (yNZ) Tryz.func202 (by kernel_rfl) (by kernel_rfl) Tryz.ntmps202.symm (by decide) (fun x r h=>(yUp x).trans h)
def yn2 (a0:List Int):Int:=yyH a0
theorem yTj (a0:List Int) (hk:zi9 yjm (a0,())):ype a0=(fun n=>some ((n,()),())) (yn2 a0):=by
  have hb:a0.length * 8≤2 ^ 47:=hk.1.1
  have h1:ysn (yLr a0 a0.length)=some (.inl (yAm (yyH a0))) :=
    zkk (step:=ycQ) a0 0 (fun i s=>yrA s a0 a0.length i) xw (fun _ _=>True) (fun s=> .inl (yAm s)) (fun i s hi _=>⟨by
      simp only [ycQ,yrA,yrS,zjI (show (i:Int) < a0.length by omega),cond_true,wr (show -9223372036854775808≤(i:Int)+1 by omega) (by omega),Int.natCast_add,Int.natCast_one,Int.toNat_natCast,zkO hi,zjW]; rfl,trivial⟩) (fun s _=>by simp only [ycQ,yrA,yrS,zkm (Int.le_refl _),cond_false]) 0 trivial _ (by show _ < 18446744073709551616; omega)
  unfold ype yn2
  rw [h1]; rfl
def yCW:Con:=⟨yjm,ysC,fun x=>(fun n=>some ((n,()),())) (yn2 x.1)⟩
theorem yTP:ConOk Tryz.prog 202 yCW:=(yRz).mono (fun x r hk h=>(yTj x.1 hk).trans h)
end
section
def yu6:Code:=(Tryz.f153.body).getD .skip
def yvd:Env:=zki TT [(114,yo),(202,yCW)] []
theorem yDk:FrOk Tryz.prog ⟨yvd,20,fun _=>none⟩ yu6:=zkp yb yc ⟨yF,yTP,trivial⟩
def yDB:Nat→Option Seg:=fun _=>none
abbrev ybN:List Par:= [.rd tL,.rd tI]
abbrev yhr:List OT:= [⟨false,tI,.fz⟩]
def ye2 (a0:List Int) (a1:Int):Option (ResD yhr×MutD ybN) :=
  let r1:=yn2 a0
  let r2:=ye a1 0 (IntKind.i64.wrap ((a0.length:Int) - 1))
  bif r2 then
    bif (inb a1 a0.length) then
      some (((IntKind.i64.wrap ((BitVec.ofInt IntKind.i64.bits r1 ^^^ BitVec.ofInt IntKind.i64.bits (nth a0 a1 0)).toNat:Int)),()),())
    else none
  else
    some ((r1,()),())
theorem yGf (x:InD ybN):zjH ⟨yvd,20,yDB⟩ Tryz.f153.results.toList yu6 ybN yhr x=ye2 x.1 x.2.1:=by kernel_rfl
theorem yDO:ConOk Tryz.prog 153 ⟨ybN,yhr,fun x=>ye2 x.1 x.2.1⟩:=zkh (yDk) Tryz.func153 (by kernel_rfl) (by kernel_rfl) Tryz.ntmps153.symm (by decide) (fun x r h=>(yGf x).trans h)
def ydU (a0:List Int) (a1:Int):Int:=ynP a0 a1
theorem yE2 (a0:List Int) (a1:Int) (hk:zi9 ybN (a0,a1,())):ye2 a0 a1=(fun n=>some ((n,()),())) (ydU a0 a1):=by
  have hb:a0.length * 8≤2 ^ 47:=hk.1.1
  unfold ye2 ydU ynP yn2
  rw [yY,ynO (show a0.length≤1152921504606846976 by omega)]
  cases inb a1 a0.length<;>rfl
def ys3:Con:=⟨ybN,yhr,fun x=>(fun n=>some ((n,()),())) (ydU x.1 x.2.1)⟩
theorem yE6:ConOk Tryz.prog 153 ys3:=(yDO).mono (fun x r hk h=>(yE2 x.1 x.2.1 hk).trans h)
end
section
def yna:Code:=(Tryz.f77.body).getD .skip
def ysd:Env:=zki TT [(51,yjF),(100,ynM),(137,yBO),(153,ys3)] []
theorem yNW:FrOk Tryz.prog ⟨ysd,62,fun _=>none⟩ yna:=zkp yb yc ⟨yq8,yyg,yR1,yE6,trivial⟩
def yCv:Nat→Option Seg:=fun _=>none
def ybD:Shape:=⟨[(1,false,[.int .i64]),(2,false,[.ptr 0 0]),(6,false,[.at 800000000]),(7,false,[.int .i64]),(28,false,[.int .i64]),(29,false,[.int .i64])],[(0,[.int .i64,.int .i64,.int .i64,.br tM,.int .i64,.int .i64,.int .i64,.int .i64,.int .i64,.br tW,.int .i64,.bool,.bool])],[(800000000,tI,.fz)]⟩
def yfD:Shape:=⟨[(1,false,[.int .i64]),(2,false,[.ptr 0 0]),(6,false,[.at 800000000]),(7,false,[.ci .i64 (-1)]),(28,false,[.int .i64]),(29,false,[.ci .i64 0])],[(0,[.int .i64,.int .i64,.int .i64,.br tM,.int .i64,.int .i64,.int .i64,.int .i64,.int .i64,.br tW,.int .i64,.bool,.bool])],[(800000000,tI,.fz)]⟩
def yfv:Shape:=⟨[(6,false,[.at 800000000]),(7,false,[.int .i64])],[],[(800000000,tI,.fz)]⟩
def yfN:Shape:=⟨[(4,false,[.nil]),(5,false,[.bool])],[],[]⟩
abbrev ypH (v0:Int) (v1:Int) (v2:Int) (v3:Int) (v4:dA) (v5:List Int):(ybD).X:=(((v0,()),((),()),((),()),(v1,()),(v2,()),(v3,()),()),((v4.1,v4.2.1.1,v4.2.1.2,v4.2.2.1,v4.2.2.2.1,v4.2.2.2.2.1,v4.2.2.2.2.2.1,v4.2.2.2.2.2.2.1,v4.2.2.2.2.2.2.2.1,v4.2.2.2.2.2.2.2.2.1,v4.2.2.2.2.2.2.2.2.2.1,v4.2.2.2.2.2.2.2.2.2.2.1,v4.2.2.2.2.2.2.2.2.2.2.2,()),()),(v5,()))
abbrev yIL (v0:Int) (v1:Int) (v2:dA) (v3:List Int):(yfD).X:=(((v0,()),((),()),((),()),((),()),(v1,()),((),()),()),((v2.1,v2.2.1.1,v2.2.1.2,v2.2.2.1,v2.2.2.2.1,v2.2.2.2.2.1,v2.2.2.2.2.2.1,v2.2.2.2.2.2.2.1,v2.2.2.2.2.2.2.2.1,v2.2.2.2.2.2.2.2.2.1,v2.2.2.2.2.2.2.2.2.2.1,v2.2.2.2.2.2.2.2.2.2.2.1,v2.2.2.2.2.2.2.2.2.2.2.2,()),()),(v3,()))
abbrev yIG (v0:Int) (v1:List Int):(yfv).X:=((((),()),(v0,()),()),(),(v1,()))
abbrev yIT (v0:Bool):(yfN).X:=((((),()),(v0,()),()),(),())
def ypS (v0:Int) (v1:Int) (v2:Int) (v3:Int) (v4:Int) (v5:Int) (v6:Int) (v7:List dM) (v8:Int) (v9:Int) (v10:Int) (v11:Int) (v12:Int) (v13:List dW) (v14:Int) (v15:Bool) (v16:Bool) (v17:List Int):Option ((ybD).X ⊕ ((yfv).X ⊕ (yfN).X)) :=
  bif (ltb v3 v2) then
    bnd (yq6 (v4,(v5,v6),v7,v8,v9,v10,v11,v12,v13,v14,v15,v16) v3 v0) fun r4 =>
    bif (!r4.1.2.1) then
      bif (leb 0 v1) then
        some (.inr (.inr ((((),()),(false,()),()),(),())))
      else
        bif (!r4.1.2.1) then
          bif (zj4 v17.length ([r4.1.1]:List Int).length 8) then
            some (.inl (((v0,()),((),()),((),()),(v3,()),(v2,()),((IntKind.i64.wrap (v3+1)),()),()),((v4,v5,v6,v7,v8,v9,v10,v11,v12,v13,v14,v15,v16,()),()),((v17++([r4.1.1]:List Int)),())))
          else none
        else
          bif (zj4 v17.length ([r4.1.1]:List Int).length 8) then
            some (.inl (((v0,()),((),()),((),()),(v1,()),(v2,()),((IntKind.i64.wrap (v3+1)),()),()),((v4,v5,v6,v7,v8,v9,v10,v11,v12,v13,v14,v15,v16,()),()),((v17++([r4.1.1]:List Int)),())))
          else none
    else
      bif (!r4.1.2.1) then
        bif (zj4 v17.length ([r4.1.1]:List Int).length 8) then
          some (.inl (((v0,()),((),()),((),()),(v3,()),(v2,()),((IntKind.i64.wrap (v3+1)),()),()),((v4,v5,v6,v7,v8,v9,v10,v11,v12,v13,v14,v15,v16,()),()),((v17++([r4.1.1]:List Int)),())))
        else none
      else
        bif (zj4 v17.length ([r4.1.1]:List Int).length 8) then
          some (.inl (((v0,()),((),()),((),()),(v1,()),(v2,()),((IntKind.i64.wrap (v3+1)),()),()),((v4,v5,v6,v7,v8,v9,v10,v11,v12,v13,v14,v15,v16,()),()),((v17++([r4.1.1]:List Int)),())))
        else none
  else
    some (.inr (.inl ((((),()),(v1,()),()),(),(v17,()))))
def yb5 (x:(ybD).X):=ypS x.1.1.1 x.1.2.2.2.1.1 x.1.2.2.2.2.1.1 x.1.2.2.2.2.2.1.1 x.2.1.1.1 x.2.1.1.2.1 x.2.1.1.2.2.1 x.2.1.1.2.2.2.1 x.2.1.1.2.2.2.2.1 x.2.1.1.2.2.2.2.2.1 x.2.1.1.2.2.2.2.2.2.1 x.2.1.1.2.2.2.2.2.2.2.1 x.2.1.1.2.2.2.2.2.2.2.2.1 x.2.1.1.2.2.2.2.2.2.2.2.2.1 x.2.1.1.2.2.2.2.2.2.2.2.2.2.1 x.2.1.1.2.2.2.2.2.2.2.2.2.2.2.1 x.2.1.1.2.2.2.2.2.2.2.2.2.2.2.2.1 x.2.2.1
def yxG (x:(yfD).X):(ybD).X:=(((x.1.1.1,()),((),()),((),()),((-1),()),(x.1.2.2.2.2.1.1,()),(0,()),()),((x.2.1.1.1,x.2.1.1.2.1,x.2.1.1.2.2.1,x.2.1.1.2.2.2.1,x.2.1.1.2.2.2.2.1,x.2.1.1.2.2.2.2.2.1,x.2.1.1.2.2.2.2.2.2.1,x.2.1.1.2.2.2.2.2.2.2.1,x.2.1.1.2.2.2.2.2.2.2.2.1,x.2.1.1.2.2.2.2.2.2.2.2.2.1,x.2.1.1.2.2.2.2.2.2.2.2.2.2.1,x.2.1.1.2.2.2.2.2.2.2.2.2.2.2.1,x.2.1.1.2.2.2.2.2.2.2.2.2.2.2.2.1,()),()),(x.2.2.1,()))
def yzm:Code:=(zdI yna 64 500).getD .skip
theorem yJ5:zdI yna 64 125=some (.block 0 (.loop yzm)):=by kernel_rfl
theorem yMA (x:(ybD).X):zg7 ⟨ysd,62,yCv⟩ 0 yzm 500 ybD yfv yfN x=yb5 x:=by kernel_rfl
def yxW (x:(yfD).X):Nat:=(fun (u0:Int) (u1:Int) (u2:Int) (u3:Int) (u4:Int) (u5:List dM) (u6:Int) (u7:Int) (u8:Int) (u9:Int) (u10:Int) (u11:List dW) (u12:Int) (u13:Bool) (u14:Bool) (u15:List Int)=>18446744073709551616) x.1.1.1 x.1.2.2.2.2.1.1 x.2.1.1.1 x.2.1.1.2.1 x.2.1.1.2.2.1 x.2.1.1.2.2.2.1 x.2.1.1.2.2.2.2.1 x.2.1.1.2.2.2.2.2.1 x.2.1.1.2.2.2.2.2.2.1 x.2.1.1.2.2.2.2.2.2.2.1 x.2.1.1.2.2.2.2.2.2.2.2.1 x.2.1.1.2.2.2.2.2.2.2.2.2.1 x.2.1.1.2.2.2.2.2.2.2.2.2.2.1 x.2.1.1.2.2.2.2.2.2.2.2.2.2.2.1 x.2.1.1.2.2.2.2.2.2.2.2.2.2.2.2.1 x.2.2.1
def yrc (x:(yfD).X):Option ((yfv).X ⊕ (yfN).X):=zr yb5 (yxW x) (yxG x)
def yyi:Seg:=⟨yfD,yfv,yfN,yrc⟩
def yCw:Nat→Option Seg:=fun q=>bif Nat.beq q 125 then some yyi else yCv q
theorem yNX:FrOk Tryz.prog ⟨ysd,62,yCw⟩ yna:=(yNW).loop (sg:=yyi) ybD yxG (by decide) yJ5 yb5 yxW (by decide) (fun _=>rfl) (fun x r _ h=>h) yMA
abbrev yjl:List Par:= [.rd tA,.rd tI]
abbrev ysB:List OT:= [⟨false,tL,(.ow .fz)⟩,⟨false,tB,.fz⟩]
def ypd (a0:dA) (a1:Int):Option (ResD ysB×MutD yjl) :=
  let r1:=yaA a0
  bif (!(!r1)) then
    bif (!a0.2.2.2.2.2.2.2.2.2.2.2) then
      let r2:=ybL a0.2.1 a1
      bif (!r2) then
        some (([],false,()),())
      else
        zjw (yrc (((a1,()),((),()),((),()),((),()),((a0.2.2.1.length:Int),()),((),()),()),((a0.1,a0.2.1.1,a0.2.1.2,a0.2.2.1,a0.2.2.2.1,a0.2.2.2.2.1,a0.2.2.2.2.2.1,a0.2.2.2.2.2.2.1,a0.2.2.2.2.2.2.2.1,a0.2.2.2.2.2.2.2.2.1,a0.2.2.2.2.2.2.2.2.2.1,a0.2.2.2.2.2.2.2.2.2.2.1,a0.2.2.2.2.2.2.2.2.2.2.2,()),()),(([]:List Int),()))) (fun y4 =>
          bif (leb 0 y4.1.2.1.1) then
            let r6:=ydU y4.2.2.1 y4.1.2.1.1
            bif (inb y4.1.2.1.1 y4.2.2.1.length) then
              some (((y4.2.2.1.set (y4.1.2.1.1).toNat r6),true,()),())
            else none
          else
            some ((y4.2.2.1,true,()),())) (fun y4 =>
          some (([],y4.1.2.1.1,()),()))
    else
      some (([],false,()),())
  else
    some (([],false,()),())
theorem yUo (x:InD yjl):zjH ⟨ysd,62,yCw⟩ Tryz.f77.results.toList yna yjl ysB x=ypd x.1 x.2.1:=by kernel_rfl
theorem yRy:ConOk Tryz.prog 77 ⟨yjl,ysB,fun x=>ypd x.1 x.2.1⟩:=zkh (yNX) Tryz.func77 (by kernel_rfl) (by kernel_rfl) Tryz.ntmps77.symm (by decide) (fun x r h=>(yUo x).trans h)
def yn1 (a0:dA) (a1:Int):List Int×Bool:=bif yr a0&&(!a0.2.2.2.2.2.2.2.2.2.2.2&&ytD a0.2.1 a1) then ye5 a0 a1 else ([],false)
theorem yTi (a0:dA) (a1:Int) (hk:zi9 yjl (a0,a1,())):ypd a0 a1=(fun n=>some ((n.1,n.2,()),())) (yn1 a0 a1):=by
  unfold ypd yn1 yaA
  rw [yVf]
  cases ha:yr a0
  · rfl
  have hg:=yam.1 (ye6 ha)
  have hl:=yGc ha
  have h1:yrc (yIL a1 a0.2.2.1.length a0 [])=some (bif yHE (fun (i:Nat)=>yk a0 i a1) a0.2.1.1.toNat then .inr (yIT false) else .inl (yIG (yp (fun (i:Nat)=>yk a0 i a1) a0.2.1.1.toNat) (yT a0 a1 a0.2.1.1.toNat))) :=
    zf4 (step:=yb5) (fun i=>ypH a1 (yp (fun (i:Nat)=>yk a0 i a1) i) a0.2.2.1.length i a0 (yT a0 a1 i)) a0.2.1.1.toNat (fun i=> !yk a0 i a1&&leb 0 (yp (fun (i:Nat)=>yk a0 i a1) i)) _ _ (fun i hi=>by
      simp only [yb5,ypH,ypS,zjI (show (i:Int) < a0.2.2.1.length by omega),cond_true,wr (show -9223372036854775808≤(i:Int)+1 by omega) (by omega),Int.natCast_add,Int.natCast_one,Int.toNat_natCast,zkV,ySe a0 i a1 (zkO (show i < a0.2.2.1.length by omega)),ylu,zky,yp]
      rw [zkw.2 (show ((yT a0 a1 i).length+ [yAJ a0 i a1].length) * 8≤140737488355328 by simp only [List.length_cons,List.length_nil,yop]; omega),yED]
      cases yk a0 i a1<;>cases leb 0 (yp (fun (i:Nat)=>yk a0 i a1) i)<;>rfl) (by simp only [yb5,ypH,ypS,zkm (show (a0.2.2.1.length:Int)≤(a0.2.1.1.toNat:Int) by omega),cond_false]) _ (by show _ < 18446744073709551616; omega)
  rw [h1]
  cases a0.2.2.2.2.2.2.2.2.2.2.2
  · cases ytD a0.2.1 a1
    · rfl
    · unfold ye5
      cases yHE (fun (i:Nat)=>yk a0 i a1) a0.2.1.1.toNat
      · simp only [cond_false,zkJ,ydU]
        cases hm:leb 0 (yp (fun (i:Nat)=>yk a0 i a1) a0.2.1.1.toNat)
        · rfl
        · obtain ⟨h2,h3⟩:=ySq a0 a1 a0.2.1.1.toNat hm
          rw [h2,h3]; rfl
      · rfl
  · rfl
def yCV:Con:=⟨yjl,ysB,fun x=>(fun n=>some ((n.1,n.2,()),())) (yn1 x.1 x.2.1)⟩
theorem yTO:ConOk Tryz.prog 77 yCV:=(yRy).mono (fun x r hk h=>(yTi x.1 x.2.1 hk).trans h)
end
section
def yDV:Code:=(Tryz.f154.body).getD .skip
def yEc:Env:=zki TT [] []
theorem yKt:FrOk Tryz.prog ⟨yEc,26,fun _=>none⟩ yDV:=zkp yb yc trivial
def yMS:Nat→Option Seg:=fun _=>none
abbrev yk8:List Par:= [.pt tA (.pr .fz (.pr (.pr .fz .fz) (.pr (.ow (.pr (.ow (.ow .fz)) (.pr (.ow (.pr .fz (.ow .fz))) (.pr .fz (.ow .fz))))) (.pr .fz (.pr .fz (.pr .fz (.pr .fz (.pr .fz (.pr (.ow (.pr .fz (.ow .fz))) (.pr .fz (.pr .fz .fz)))))))))))]
abbrev yqD:List OT:= [⟨false,tB,.fz⟩]
def yto (a0:dA):Option (ResD yqD×MutD yk8) :=
  bif (a0.2.2.2.2.2.2.2.2.2.1==0) then
    some ((false,()),((a0.1,a0.2.1,a0.2.2.1,a0.2.2.2.1,a0.2.2.2.2.1,a0.2.2.2.2.2.1,a0.2.2.2.2.2.2.1,a0.2.2.2.2.2.2.2.1,a0.2.2.2.2.2.2.2.2.1,(-1),true,a0.2.2.2.2.2.2.2.2.2.2.2),()))
  else
    bif (ltb 0 a0.2.2.2.2.2.2.2.2.2.1) then
      some ((true,()),((a0.1,a0.2.1,a0.2.2.1,a0.2.2.2.1,a0.2.2.2.2.1,a0.2.2.2.2.2.1,a0.2.2.2.2.2.2.1,a0.2.2.2.2.2.2.2.1,a0.2.2.2.2.2.2.2.2.1,(IntKind.i64.wrap (a0.2.2.2.2.2.2.2.2.2.1 - 1)),a0.2.2.2.2.2.2.2.2.2.2),()))
    else
      some ((true,()),(a0,()))
theorem ySB (x:InD yk8):zjH ⟨yEc,26,yMS⟩ Tryz.f154.results.toList yDV yk8 yqD x=yto x.1:=by kernel_rfl
theorem yOW:ConOk Tryz.prog 154 ⟨yk8,yqD,fun x=>yto x.1⟩:=zkh (yKt) Tryz.func154 (by kernel_rfl) (by kernel_rfl) Tryz.ntmps154.symm (by decide) (fun x r h=>(ySB x).trans h)
def ygx (a0:dA):Bool×dA :=
  bif (a0.2.2.2.2.2.2.2.2.2.1==0) then
    (false,(a0.1,a0.2.1,a0.2.2.1,a0.2.2.2.1,a0.2.2.2.2.1,a0.2.2.2.2.2.1,a0.2.2.2.2.2.2.1,a0.2.2.2.2.2.2.2.1,a0.2.2.2.2.2.2.2.2.1,(-1),true,a0.2.2.2.2.2.2.2.2.2.2.2))
  else
    bif (ltb 0 a0.2.2.2.2.2.2.2.2.2.1) then
      (true,(a0.1,a0.2.1,a0.2.2.1,a0.2.2.2.1,a0.2.2.2.2.1,a0.2.2.2.2.2.1,a0.2.2.2.2.2.2.1,a0.2.2.2.2.2.2.2.1,a0.2.2.2.2.2.2.2.2.1,(IntKind.i64.wrap (a0.2.2.2.2.2.2.2.2.2.1 - 1)),a0.2.2.2.2.2.2.2.2.2.2))
    else
      (true,a0)
def ys1:Con:=⟨yk8,yqD,fun x=>(fun n=>some ((n.1,()),(n.2,()))) (ygx x.1)⟩
theorem yQW (a0:dA):yto a0=(fun n=>some ((n.1,()),(n.2,()))) (ygx a0):=zkS (p:=fun (n:Bool×dA)=>((n.1,()),(n.2,()))) (zkx (p:=fun (n:Bool×dA)=>((n.1,()),(n.2,()))) rfl (zkx (p:=fun (n:Bool×dA)=>((n.1,()),(n.2,()))) rfl rfl))
theorem yDs:ConOk Tryz.prog 154 ys1:=(yOW).mono (fun x r _ h=>(yQW x.1).trans h)
theorem yOv {a:dA} (h:yd a=false):ygx a=opA a:=by
  unfold ygx opA
  rw [h]
  cases (a.2.2.2.2.2.2.2.2.2.1==0)
  · cases ltb 0 a.2.2.2.2.2.2.2.2.2.1
    · rfl
    · show (true,_)=(true,yUc a _ false)
      unfold yUc
      rw [show a.2.2.2.2.2.2.2.2.2.2=(yd a,a.2.2.2.2.2.2.2.2.2.2.2) from rfl,h]
  · rfl
end
section
def ywJ:Code:=(Tryz.f217.body).getD .skip
def yxa:Env:=zki TT [] []
theorem yDF:FrOk Tryz.prog ⟨yxa,7,fun _=>none⟩ ywJ:=zkp yb yc trivial
def yEE:Nat→Option Seg:=fun _=>none
abbrev yeA:List Par:= [.rd tI,.rp tI]
abbrev yiu:List OT:= [⟨false,tB,.fz⟩]
def ylM (a0:Int) (a1:Int):Option (ResD yiu×MutD yeA) :=
  some (((a0==a1),()),())
theorem yH4 (x:InD yeA):zjH ⟨yxa,7,yEE⟩ Tryz.f217.results.toList ywJ yeA yiu x=ylM x.1 x.2.1:=by kernel_rfl
theorem yE5:ConOk Tryz.prog 217 ⟨yeA,yiu,fun x=>ylM x.1 x.2.1⟩:=zkh (yDF) Tryz.func217 (by kernel_rfl) (by kernel_rfl) Tryz.ntmps217.symm (by decide) (fun x r h=>(yH4 x).trans h)
def ycL (a0:Int) (a1:Int):Bool :=
  (a0==a1)
def ylD:Con:=⟨yeA,yiu,fun x=>(fun n=>some ((n,()),())) (ycL x.1 x.2.1)⟩
theorem yHb (a0:Int) (a1:Int):ylM a0 a1=(fun n=>some ((n,()),())) (ycL a0 a1):=zkS (p:=fun (n:Bool)=>((n,()),())) rfl
theorem ywc:ConOk Tryz.prog 217 ylD:=(yE5).mono (fun x r _ h=>(yHb x.1 x.2.1).trans h)
end
section
def ybu:Code:=(Tryz.f251.body).getD .skip
def ydt:Env:=zki TT [(217,ylD)] []
theorem yyA:FrOk Tryz.prog ⟨ydt,19,fun _=>none⟩ ybu:=zkp yb yc ⟨ywc,trivial⟩
def yng:Nat→Option Seg:=fun _=>none
def yu:Shape:=⟨[(0,false,[.br tI]),(1,false,[.fx 217 tI]),(7,false,[.int .i64]),(8,false,[.int .i64])],[],[]⟩
def yah:Shape:=⟨[(0,false,[.br tI]),(1,false,[.fx 217 tI]),(7,false,[.int .i64]),(8,false,[.ci .i64 0])],[],[]⟩
def yag:Shape:=⟨[],[],[]⟩
def yai:Shape:=⟨[(4,false,[.int .i64])],[],[]⟩
abbrev yet (v0:List Int) (v1:Int) (v2:Int) (v3:Int):(yu).X:=(((v0,()),(v1,()),(v2,()),(v3,()),()),(),())
abbrev ywy (v0:List Int) (v1:Int) (v2:Int):(yah).X:=(((v0,()),(v1,()),(v2,()),((),()),()),(),())
abbrev ywx  :(yag).X:=((),(),())
abbrev ylp (v0:Int):(yai).X:=(((v0,()),()),(),())
def yez (v0:List Int) (v1:Int) (v2:Int) (v3:Int):Option ((yu).X ⊕ ((yag).X ⊕ (yai).X)) :=
  bif (ltb v3 v2) then
    bif (inb v3 v0.length) then
      let r2:=ycL (nth v0 v3 0) v1
      bif r2 then
        some (.inr (.inr (((v3,()),()),(),())))
      else
        some (.inl (((v0,()),(v1,()),(v2,()),((IntKind.i64.wrap (v3+1)),()),()),(),()))
    else none
  else
    some (.inr (.inl ((),(),())))
def yC (x:(yu).X):=yez x.1.1.1 x.1.2.1.1 x.1.2.2.1.1 x.1.2.2.2.1.1
def yln (x:(yah).X):(yu).X:=(((x.1.1.1,()),(x.1.2.1.1,()),(x.1.2.2.1.1,()),(0,()),()),(),())
def ymF:Code:=(zdI ybu 64 52).getD .skip
theorem yyy:zdI ybu 64 13=some (.block 0 (.loop ymF)):=by kernel_rfl
theorem yyE (x:(yu).X):zg7 ⟨ydt,19,yng⟩ 0 ymF 52 yu yag yai x=yC x:=by kernel_rfl
def ylo (x:(yah).X):Nat:=(fun (u0:List Int) (u1:Int) (u2:Int)=>18446744073709551616) x.1.1.1 x.1.2.1.1 x.1.2.2.1.1
def yeZ (x:(yah).X):Option ((yag).X ⊕ (yai).X):=zr yC (ylo x) (yln x)
def ylz:Seg:=⟨yah,yag,yai,yeZ⟩
def ynh:Nat→Option Seg:=fun q=>bif Nat.beq q 13 then some ylz else yng q
theorem yyB:FrOk Tryz.prog ⟨ydt,19,ynh⟩ ybu:=(yyA).loop (sg:=ylz) yu yln (by decide) yyy yC ylo (by decide) (fun _=>rfl) (fun x r _ h=>h) yyE
abbrev yad:List Par:= [.rd tL,.fn 217 tI]
abbrev ydv:List OT:= [⟨false,tI,.fz⟩]
def ycC (a0:List Int) (a1:Int):Option (ResD ydv×MutD yad) :=
  zjw (yeZ (((a0,()),(a1,()),((a0.length:Int),()),((),()),()),(),())) (fun y2 =>
    some (((-1),()),())) (fun y2 =>
    some ((y2.1.1.1,()),()))
theorem yCa (x:InD yad):zjH ⟨ydt,19,ynh⟩ Tryz.f251.results.toList ybu yad ydv x=ycC x.1 x.2.1:=by kernel_rfl
theorem yAq:ConOk Tryz.prog 251 ⟨yad,ydv,fun x=>ycC x.1 x.2.1⟩:=zkh (yyB) Tryz.func251 (by kernel_rfl) (by kernel_rfl) Tryz.ntmps251.symm (by decide) (fun x r h=>(yCa x).trans h)
def ybw (a0:List Int) (a1:Int):Int:=yK (fun e:Int=>e==a1) a0
theorem yAN (a0:List Int) (a1:Int) (hk:zi9 yad (a0,a1,())):ycC a0 a1=(fun n=>some ((n,()),())) (ybw a0 a1):=by
  have hb:a0.length * 8≤2 ^ 47:=hk.1.1
  have h1:yeZ (ywy a0 a1 a0.length)=some (bif leb 0 (yK (fun e:Int=>e==a1) a0) then .inr (ylp (yK (fun e:Int=>e==a1) a0)) else .inl ywx) :=
    yVG (step:=yC) a0 0 (fun i=>yet a0 a1 a0.length i) (fun e:Int=>e==a1) (fun i=> .inr (ylp i)) _ (fun i hi=>by
      simp only [yC,yet,yez,zjI (show (i:Int) < a0.length by omega),cond_true,wr (show -9223372036854775808≤(i:Int)+1 by omega) (by omega),Int.natCast_add,Int.natCast_one,Int.toNat_natCast,zkO hi,zjW,ycL]
      cases (a0.getD i 0==a1)<;>rfl) (by simp only [yC,yet,yez,zkm (Int.le_refl _),cond_false]) _ (by show _ < 18446744073709551616; omega)
  unfold ycC ybw
  rw [h1]
  cases h:leb 0 (yK (fun e:Int=>e==a1) a0)
  · rw [yVo h]; rfl
  · rfl
def ynN:Con:=⟨yad,ydv,fun x=>(fun n=>some ((n,()),())) (ybw x.1 x.2.1)⟩
theorem yAQ:ConOk Tryz.prog 251 ynN:=(yAq).mono (fun x r hk h=>(yAN x.1 x.2.1 hk).trans h)
end
end
end Go.Tf
