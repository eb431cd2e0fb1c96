/- Functions of the program, and what they come to. -/
import Derived.Test.YtfpjmijaiekbgaaGreatExactRecoverF12
namespace Go.Tf
noncomputable section
open Go.Proofs
set_option synthInstance.maxHeartbeats 400000
set_option synthInstance.maxSize 10000
set_option linter.unusedVariables false
set_option linter.unusedSimpArgs false
set_option maxRecDepth 100000
section
def yp0:Code:=(Tryz.f190.body).getD .skip
def yvv:Env:=zki TT [(238,yJG)] []
theorem yUO:FrOk Tryz.prog ⟨yvv,23,fun _=>none⟩ yp0:=zkp yb yc ⟨y1y,trivial⟩
def yHx:Nat→Option Seg:=fun _=>none
def yfb:Shape:=⟨[(0,false,[.br tW]),(3,false,[.at 800000000]),(4,false,[.int .i64])],[],[(800000000,tW,(.pr .fz (.ow .fz)))]⟩
def yoU:Shape:=⟨[(0,false,[.br tW]),(3,false,[.at 800000000]),(4,false,[.ci .i64 0])],[],[(800000000,tW,(.pr .fz (.ow .fz)))]⟩
def yoR:Shape:=⟨[(3,false,[.at 800000000])],[],[(800000000,tW,(.pr .fz (.ow .fz)))]⟩
def ypl:Shape:=⟨[],[],[]⟩
def yu2 (v0:List dW) (v1:Int) (v2:List dW):Option ((yfb).X ⊕ ((yoR).X ⊕ (ypl).X)) :=
  bif (ltb v1 (v0.length:Int)) then
    bif (inb v1 v0.length) then
      let r2:=yyR (nth v0 v1 (0,[]))
      bif (inb v1 v2.length) then
        some (.inl (((v0,()),((),()),((IntKind.i64.wrap (v1+1)),()),()),(),((v2.set (v1).toNat r2),())))
      else none
    else none
  else
    some (.inr (.inl ((((),()),()),(),(v2,()))))
def ydo (x:(yfb).X):=yu2 x.1.1.1 x.1.2.2.1.1 x.2.2.1
def yD8 (x:(yoU).X):(yfb).X:=(((x.1.1.1,()),((),()),(0,()),()),(),(x.2.2.1,()))
def yGc:Code:=(zdI yp0 64 116).getD .skip
theorem yTO:zdI yp0 64 29=some (.block 0 (.loop yGc)):=by kernel_rfl
theorem yWI (x:(yfb).X):zg7 ⟨yvv,23,yHx⟩ 0 yGc 116 yfb yoR ypl x=ydo x:=by kernel_rfl
def yEq (x:(yoU).X):Nat:=(fun (u0:List dW) (u1:List dW)=>18446744073709551616) x.1.1.1 x.2.2.1
def yvG (x:(yoU).X):Option ((yoR).X ⊕ (ypl).X):=zr ydo (yEq x) (yD8 x)
def yEV:Seg:=⟨yoU,yoR,ypl,yvG⟩
def yHy:Nat→Option Seg:=fun q=>bif Nat.beq q 29 then some yEV else yHx q
theorem yUP:FrOk Tryz.prog ⟨yvv,23,yHy⟩ yp0:=(yUO).loop (sg:=yEV) yfb yD8 (by decide) yTO ydo yEq (by decide) (fun _=>rfl) (fun x r _ h=>h) yWI
abbrev yk9:List Par:= [.rd tWs]
abbrev yv2:List OT:= [⟨false,tWs,(.ow (.pr .fz (.ow .fz)))⟩]
def yr2 (a0:List dW):Option (ResD yv2×MutD yk9) :=
  bif (zkc (a0.length:Int) 32) then
    zjw (yvG (((a0,()),((),()),((),()),()),(),((List.replicate ((a0.length:Int)).toNat ((0,[]):dW)),()))) (fun y2 =>
      some ((y2.2.2.1,()),())) (fun y2 =>
      none)
  else none
theorem y1a (x:InD yk9):zjH ⟨yvv,23,yHy⟩ Tryz.f190.results.toList yp0 yk9 yv2 x=yr2 x.1:=by kernel_rfl
theorem yYD:ConOk Tryz.prog 190 ⟨yk9,yv2,fun x=>yr2 x.1⟩:=zkh (yUP) Tryz.func190 (by kernel_rfl) (by kernel_rfl) Tryz.ntmps190.symm (by decide) (fun x r h=>(y1a x).trans h)
def ylE (a0:List (dW)):List (dW):=a0
theorem y0n (a0:List (dW)) (hk:zi9 yk9 (a0,())):yr2 a0=(fun n=>some ((n,()),())) (ylE a0):=by
  have hb:a0.length * 32≤2 ^ 47:=hk.1.1
  have hl:yvG (((a0,()),((),()),((),()),()),(),((List.replicate a0.length ((0,[]):dW)),()))=some (.inl ((((),()),()),(),(a0,()))) :=
    zkj (step:=ydo) a0 ((0,[]):dW) (fun i m=>(((a0,()),((),()),((i:Int),()),()),(),(m,()))) (fun m=> .inl ((((),()),()),(),(m,()))) (fun i m hi hm=>by
      simp only [ydo,yu2,zkO (show i < m.length by omega),zkO hi,zjW,Int.toNat_natCast,zjI (show (i:Int) < a0.length by omega),cond_true,wr (show -9223372036854775808≤(i:Int)+1 by omega) (by omega),Int.natCast_add,Int.natCast_one,zkV,y1k]) (fun m hm=>by
      simp only [ydo,yu2,zkm (Int.le_refl _),cond_false]) _ (by show _ < 18446744073709551616; omega)
  unfold yr2 ylE
  rw [show zkc (a0.length:Int) 32=true by rw [zkH]; omega,zkY,Int.toNat_natCast,hl]
  rfl
def yH3:Con:=⟨yk9,yv2,fun x=>(fun n=>some ((n,()),())) (ylE x.1)⟩
theorem y0N:ConOk Tryz.prog 190 yH3:=(yYD).mono (fun x r hk h=>(y0n x.1 hk).trans h)
theorem y21 (a:List dW):ylE a=a:=by kernel_rfl
end
section
def yKM:Code:=(Tryz.f111.body).getD .skip
def yK3:Env:=zki TT [(38,yjg),(189,yDV),(190,yH3)] []
theorem yUN:FrOk Tryz.prog ⟨yK3,20,fun _=>none⟩ yKM:=zkp yb yc ⟨yrU,yWr,y0N,trivial⟩
def yW0:Nat→Option Seg:=fun _=>none
abbrev yqr:List Par:= [.rd tM]
abbrev yv1:List OT:= [⟨false,tM,(.pr (.ow (.ow .fz)) (.pr (.ow (.pr .fz (.ow .fz))) (.pr .fz (.ow .fz))))⟩]
def yyB (a0:dM):Option (ResD yv1×MutD yqr) :=
  let r1:=ygs a0.1
  let r2:=ylE a0.2.1
  let r3:=yJ a0.2.2.2
  some (((r1,r2,a0.2.2.1,r3),()),())
theorem y09 (x:InD yqr):zjH ⟨yK3,20,yW0⟩ Tryz.f111.results.toList yKM yqr yv1 x=yyB x.1:=by kernel_rfl
theorem yYC:ConOk Tryz.prog 111 ⟨yqr,yv1,fun x=>yyB x.1⟩:=zkh (yUN) Tryz.func111 (by kernel_rfl) (by kernel_rfl) Tryz.ntmps111.symm (by decide) (fun x r h=>(y09 x).trans h)
def ywK (a0:dM):dM :=
  let r1:=ygs a0.1
  let r2:=ylE a0.2.1
  let r3:=yJ a0.2.2.2
  (r1,r2,a0.2.2.1,r3)
def yH2:Con:=⟨yqr,yv1,fun x=>(fun n=>some ((n,()),())) (ywK x.1)⟩
theorem y0m (a0:dM):yyB a0=(fun n=>some ((n,()),())) (ywK a0):=zkS (p:=fun (n:dM)=>((n,()),())) rfl
theorem y0M:ConOk Tryz.prog 111 yH2:=(yYC).mono (fun x r _ h=>(y0m x.1).trans h)
theorem yZ8 (a:dM):ywK a=a:=by kernel_rfl
end
section
def yng:Code:=(Tryz.f37.body).getD .skip
def ytq:Env:=zki TT [(111,yH2)] []
theorem yQZ:FrOk Tryz.prog ⟨ytq,23,fun _=>none⟩ yng:=zkp yb yc ⟨y0M,trivial⟩
def yFB:Nat→Option Seg:=fun _=>none
def yd9:Shape:=⟨[(0,false,[.br tM]),(3,false,[.at 800000000]),(4,false,[.int .i64])],[],[(800000000,tM,(.pr (.ow (.ow .fz)) (.pr (.ow (.pr .fz (.ow .fz))) (.pr .fz (.ow .fz)))))]⟩
def ymb:Shape:=⟨[(0,false,[.br tM]),(3,false,[.at 800000000]),(4,false,[.ci .i64 0])],[],[(800000000,tM,(.pr (.ow (.ow .fz)) (.pr (.ow (.pr .fz (.ow .fz))) (.pr .fz (.ow .fz)))))]⟩
def yl5:Shape:=⟨[(3,false,[.at 800000000])],[],[(800000000,tM,(.pr (.ow (.ow .fz)) (.pr (.ow (.pr .fz (.ow .fz))) (.pr .fz (.ow .fz)))))]⟩
def ymn:Shape:=⟨[],[],[]⟩
def ysT (v0:List dM) (v1:Int) (v2:List dM):Option ((yd9).X ⊕ ((yl5).X ⊕ (ymn).X)) :=
  bif (ltb v1 (v0.length:Int)) then
    bif (inb v1 v0.length) then
      let r2:=ywK ((nth v0 v1 ([],[],false,[])).1,((nth v0 v1 ([],[],false,[])).2).1,(((nth v0 v1 ([],[],false,[])).2).2))
      bif (inb v1 v2.length) then
        some (.inl (((v0,()),((),()),((IntKind.i64.wrap (v1+1)),()),()),(),((v2.set (v1).toNat r2),())))
      else none
    else none
  else
    some (.inr (.inl ((((),()),()),(),(v2,()))))
def ycx (x:(yd9).X):=ysT x.1.1.1 x.1.2.2.1.1 x.2.2.1
def yBY (x:(ymb).X):(yd9).X:=(((x.1.1.1,()),((),()),(0,()),()),(),(x.2.2.1,()))
def yDz:Code:=(zdI yng 64 116).getD .skip
theorem yQh:zdI yng 64 29=some (.block 0 (.loop yDz)):=by kernel_rfl
theorem yTc (x:(yd9).X):zg7 ⟨ytq,23,yFB⟩ 0 yDz 116 yd9 yl5 ymn x=ycx x:=by kernel_rfl
def yCc (x:(ymb).X):Nat:=(fun (u0:List dM) (u1:List dM)=>18446744073709551616) x.1.1.1 x.2.2.1
def yui (x:(ymb).X):Option ((yl5).X ⊕ (ymn).X):=zr ycx (yCc x) (yBY x)
def yCt:Seg:=⟨ymb,yl5,ymn,yui⟩
def yFC:Nat→Option Seg:=fun q=>bif Nat.beq q 29 then some yCt else yFB q
theorem yQ0:FrOk Tryz.prog ⟨ytq,23,yFC⟩ yng:=(yQZ).loop (sg:=yCt) yd9 yBY (by decide) yQh ycx yCc (by decide) (fun _=>rfl) (fun x r _ h=>h) yTc
abbrev yhF:List Par:= [.rd tMs]
abbrev ytP:List OT:= [⟨false,tMs,(.ow (.pr (.ow (.ow .fz)) (.pr (.ow (.pr .fz (.ow .fz))) (.pr .fz (.ow .fz)))))⟩]
def ypJ (a0:List dM):Option (ResD ytP×MutD yhF) :=
  bif (zkc (a0.length:Int) 80) then
    zjw (yui (((a0,()),((),()),((),()),()),(),((List.replicate ((a0.length:Int)).toNat (([],[],false,[]):dM)),()))) (fun y2 =>
      some ((y2.2.2.1,()),())) (fun y2 =>
      none)
  else none
theorem yZS (x:InD yhF):zjH ⟨ytq,23,yFC⟩ Tryz.f37.results.toList yng yhF ytP x=ypJ x.1:=by kernel_rfl
theorem yVX:ConOk Tryz.prog 37 ⟨yhF,ytP,fun x=>ypJ x.1⟩:=zkh (yQ0) Tryz.func37 (by kernel_rfl) (by kernel_rfl) Tryz.ntmps37.symm (by decide) (fun x r h=>(yZS x).trans h)
def ydA (a0:List (dM)):List (dM):=a0
theorem yX9 (a0:List (dM)) (hk:zi9 yhF (a0,())):ypJ a0=(fun n=>some ((n,()),())) (ydA a0):=by
  have hb:a0.length * 80≤2 ^ 47:=hk.1.1
  have hl:yui (((a0,()),((),()),((),()),()),(),((List.replicate a0.length (([],[],false,[]):dM)),()))=some (.inl ((((),()),()),(),(a0,()))) :=
    zkj (step:=ycx) a0 (([],[],false,[]):dM) (fun i m=>(((a0,()),((),()),((i:Int),()),()),(),(m,()))) (fun m=> .inl ((((),()),()),(),(m,()))) (fun i m hi hm=>by
      simp only [ycx,ysT,zkO (show i < m.length by omega),zkO hi,zjW,Int.toNat_natCast,zjI (show (i:Int) < a0.length by omega),cond_true,wr (show -9223372036854775808≤(i:Int)+1 by omega) (by omega),Int.natCast_add,Int.natCast_one,zkV,yZ8]) (fun m hm=>by
      simp only [ycx,ysT,zkm (Int.le_refl _),cond_false]) _ (by show _ < 18446744073709551616; omega)
  unfold ypJ ydA
  rw [show zkc (a0.length:Int) 80=true by rw [zkH]; omega,zkY,Int.toNat_natCast,hl]
  rfl
def yGu:Con:=⟨yhF,ytP,fun x=>(fun n=>some ((n,()),())) (ydA x.1)⟩
theorem yYX:ConOk Tryz.prog 37 yGu:=(yVX).mono (fun x r hk h=>(yX9 x.1 hk).trans h)
theorem yXM (a:List dM):ydA a=a:=by kernel_rfl
end
section
def yI4:Code:=(Tryz.f114.body).getD .skip
def yJt:Env:=zki TT [] []
theorem yQN:FrOk Tryz.prog ⟨yJt,15,fun _=>none⟩ yI4:=zkp yb yc trivial
def yTx:Nat→Option Seg:=fun _=>none
abbrev ynt:List Par:= [.rd tI,.rd tI,.rd tI]
abbrev ytI:List OT:= [⟨false,tB,.fz⟩]
def ywV (a0:Int) (a1:Int) (a2:Int):Option (ResD ytI×MutD ynt) :=
  bif (leb a1 a0) then
    some (((leb a0 a2),()),())
  else
    some ((false,()),())
theorem yZL (x:InD ynt):zjH ⟨yJt,15,yTx⟩ Tryz.f114.results.toList yI4 ynt ytI x=ywV x.1 x.2.1 x.2.2.1:=by kernel_rfl
theorem yVQ:ConOk Tryz.prog 114 ⟨ynt,ytI,fun x=>ywV x.1 x.2.1 x.2.2.1⟩:=zkh (yQN) Tryz.func114 (by kernel_rfl) (by kernel_rfl) Tryz.ntmps114.symm (by decide) (fun x r h=>(yZL x).trans h)
def yd (a0:Int) (a1:Int) (a2:Int):Bool :=
  bif (leb a1 a0) then
    (leb a0 a2)
  else
    false
def yn:Con:=⟨ynt,ytI,fun x=>(fun n=>some ((n,()),())) (yd x.1 x.2.1 x.2.2.1)⟩
theorem yX2 (a0:Int) (a1:Int) (a2:Int):ywV a0 a1 a2=(fun n=>some ((n,()),())) (yd a0 a1 a2):=zkS (p:=fun (n:Bool)=>((n,()),())) (zkx (p:=fun (n:Bool)=>((n,()),())) rfl rfl)
theorem yw:ConOk Tryz.prog 114 yn:=(yVQ).mono (fun x r _ h=>(yX2 x.1 x.2.1 x.2.2.1).trans h)
theorem yM (a b c:Int):yd a b c=ya a b c:=by kernel_rfl
end
section
def yKE:Code:=(Tryz.f129.body).getD .skip
def yKV:Env:=zki TT [(114,yn)] []
theorem yUv:FrOk Tryz.prog ⟨yKV,11,fun _=>none⟩ yKE:=zkp yb yc ⟨yw,trivial⟩
def yWS:Nat→Option Seg:=fun _=>none
abbrev yqj:List Par:= [.rd tG]
abbrev yvP:List OT:= [⟨false,tB,.fz⟩]
def yyt (a0:dG):Option (ResD yvP×MutD yqj) :=
  let r1:=yd a0.1 3 5
  bif r1 then
    let r2:=yd a0.2 1 8
    some ((r2,()),())
  else
    some ((false,()),())
theorem y0X (x:InD yqj):zjH ⟨yKV,11,yWS⟩ Tryz.f129.results.toList yKE yqj yvP x=yyt x.1:=by kernel_rfl
theorem yYq:ConOk Tryz.prog 129 ⟨yqj,yvP,fun x=>yyt x.1⟩:=zkh (yUv) Tryz.func129 (by kernel_rfl) (by kernel_rfl) Tryz.ntmps129.symm (by decide) (fun x r h=>(y0X x).trans h)
def yeJ (a0:dG):Bool :=
  let r1:=yd a0.1 3 5
  bif r1 then
    let r2:=yd a0.2 1 8
    r2
  else
    false
def yrJ:Con:=⟨yqj,yvP,fun x=>(fun n=>some ((n,()),())) (yeJ x.1)⟩
theorem y0a (a0:dG):yyt a0=(fun n=>some ((n,()),())) (yeJ a0):=zkS (p:=fun (n:Bool)=>((n,()),())) (zkx (p:=fun (n:Bool)=>((n,()),())) rfl rfl)
theorem yAy:ConOk Tryz.prog 129 yrJ:=(yYq).mono (fun x r _ h=>(y0a x.1).trans h)
theorem yU5 (a:Int×Int):yeJ a=yg a:=by kernel_rfl
end
section
def yI3:Code:=(Tryz.f130.body).getD .skip
def yJs:Env:=zki TT [(114,yn)] []
theorem yQM:FrOk Tryz.prog ⟨yJs,26,fun _=>none⟩ yI3:=zkp yb yc ⟨yw,trivial⟩
def yTw:Nat→Option Seg:=fun _=>none
abbrev yns:List Par:= [.rd tG,.rd tI,.rd tI]
abbrev ytH:List OT:= [⟨false,tB,.fz⟩]
def ywU (a0:dG) (a1:Int) (a2:Int):Option (ResD ytH×MutD yns) :=
  let r1:=yd a1 (-1) (IntKind.i64.wrap (a0.1 - 1))
  bif r1 then
    let r2:=yd a2 0 a0.2
    bif r2 then
      bif (!(a2==0)) then
        some (((a1 !=(-1)),()),())
      else
        some ((true,()),())
    else
      some ((false,()),())
  else
    some ((false,()),())
theorem yZK (x:InD yns):zjH ⟨yJs,26,yTw⟩ Tryz.f130.results.toList yI3 yns ytH x=ywU x.1 x.2.1 x.2.2.1:=by kernel_rfl
theorem yVP:ConOk Tryz.prog 130 ⟨yns,ytH,fun x=>ywU x.1 x.2.1 x.2.2.1⟩:=zkh (yQM) Tryz.func130 (by kernel_rfl) (by kernel_rfl) Tryz.ntmps130.symm (by decide) (fun x r h=>(yZK x).trans h)
def yfq (a0:dG) (a1:Int) (a2:Int):Bool :=
  let r1:=yd a1 (-1) (IntKind.i64.wrap (a0.1 - 1))
  bif r1 then
    let r2:=yd a2 0 a0.2
    bif r2 then
      bif (!(a2==0)) then
        (a1 !=(-1))
      else
        true
    else
      false
  else
    false
def ywg:Con:=⟨yns,ytH,fun x=>(fun n=>some ((n,()),())) (yfq x.1 x.2.1 x.2.2.1)⟩
theorem yX1 (a0:dG) (a1:Int) (a2:Int):ywU a0 a1 a2=(fun n=>some ((n,()),())) (yfq a0 a1 a2):=zkS (p:=fun (n:Bool)=>((n,()),())) (zkx (p:=fun (n:Bool)=>((n,()),())) (zkx (p:=fun (n:Bool)=>((n,()),())) (zkx (p:=fun (n:Bool)=>((n,()),())) rfl rfl) rfl) rfl)
theorem yIl:ConOk Tryz.prog 130 ywg:=(yVP).mono (fun x r _ h=>(yX1 x.1 x.2.1 x.2.2.1).trans h)
end
end
end Go.Tf
