/- Functions of the program, and what they come to. -/
import Derived.Test.YtgmadfpnljibhaaGreatArrsF14
namespace Go.Tf
noncomputable section
open Go.Proofs
set_option synthInstance.maxHeartbeats 400000
set_option synthInstance.maxSize 10000
set_option linter.unusedVariables false
set_option linter.unusedSimpArgs false
set_option maxRecDepth 100000
section
def yrO:Code:=(Tryz.f243.body).getD .skip
def yxr:Env:=zj2 TT [] []
theorem yVV:FrOk Tryz.prog ⟨yxr,22,fun _=>none⟩ yrO:=zj6 yc yd trivial
def yHU:Nat→Option Seg:=fun _=>none
def yd4:Shape:=⟨[(1,false,[.int .i64]),(2,false,[.ptr 0 0]),(5,false,[.int .i64])],[(0,[.int .i64,.int .i64,.int .i64,.br tM,.int .i64,.int .i64,.int .i64,.int .i64,.int .i64,.br tW,.int .i64,.bool,.bool])],[]⟩
def ykN:Shape:=⟨[(1,false,[.int .i64]),(2,false,[.ptr 0 0]),(5,false,[.ci .i64 0])],[(0,[.int .i64,.int .i64,.int .i64,.br tM,.int .i64,.int .i64,.int .i64,.int .i64,.int .i64,.br tW,.int .i64,.bool,.bool])],[]⟩
def ykJ:Shape:=⟨[],[],[]⟩
def ykX:Shape:=⟨[(4,false,[.int .i64])],[],[]⟩
abbrev yvu (v0 v1:Int) (v2:dA):(yd4).X:=(((v0,()),((),()),(v1,()),()),((v2.1,v2.2.1.1,v2.2.1.2,v2.2.2.1,v2.2.2.2.1,v2.2.2.2.2.1,v2.2.2.2.2.2.1,v2.2.2.2.2.2.2.1,v2.2.2.2.2.2.2.2.1,v2.2.2.2.2.2.2.2.2.1,v2.2.2.2.2.2.2.2.2.2.1,v2.2.2.2.2.2.2.2.2.2.2.1,v2.2.2.2.2.2.2.2.2.2.2.2,()),()),())
abbrev yTp (v0:Int) (v1:dA):(ykN).X:=(((v0,()),((),()),((),()),()),((v1.1,v1.2.1.1,v1.2.1.2,v1.2.2.1,v1.2.2.2.1,v1.2.2.2.2.1,v1.2.2.2.2.2.1,v1.2.2.2.2.2.2.1,v1.2.2.2.2.2.2.2.1,v1.2.2.2.2.2.2.2.2.1,v1.2.2.2.2.2.2.2.2.2.1,v1.2.2.2.2.2.2.2.2.2.2.1,v1.2.2.2.2.2.2.2.2.2.2.2,()),()),())
abbrev yTl  :(ykJ).X:=((),(),())
abbrev yEO (v0:Int):(ykX).X:=(((v0,()),()),(),())
def yv6 (v0 v1 v2 v3 v4:Int) (v5:List dM) (v6 v7 v8 v9 v10:Int) (v11:List dW) (v12:Int) (v13 v14:Bool):Option ((yd4).X ⊕ ((ykJ).X ⊕ (ykX).X)) :=
 bif (ltb v1 (v11.length:Int)) then
 bif (inb v1 v11.length) then
 bif ((nth v11 v1 (0,[])).1==v0) then
 some (.inr (.inr (((v1,()),()),(),())))
 else
 some (.inl (((v0,()),((),()),((IntKind.i64.wrap (v1+1)),()),()),((v2,v3,v4,v5,v6,v7,v8,v9,v10,v11,v12,v13,v14,()),()),()))
 else none
 else
 some (.inr (.inl ((),(),())))
def yed (x:(yd4).X):=yv6 x.1.1.1 x.1.2.2.1.1 x.2.1.1.1 x.2.1.1.2.1 x.2.1.1.2.2.1 x.2.1.1.2.2.2.1 x.2.1.1.2.2.2.2.1 x.2.1.1.2.2.2.2.2.1 x.2.1.1.2.2.2.2.2.2.1 x.2.1.1.2.2.2.2.2.2.2.1 x.2.1.1.2.2.2.2.2.2.2.2.1 x.2.1.1.2.2.2.2.2.2.2.2.2.1 x.2.1.1.2.2.2.2.2.2.2.2.2.2.1 x.2.1.1.2.2.2.2.2.2.2.2.2.2.2.1 x.2.1.1.2.2.2.2.2.2.2.2.2.2.2.2.1
def yEI (x:(ykN).X):(yd4).X:=(((x.1.1.1,()),((),()),(0,()),()),((x.2.1.1.1,x.2.1.1.2.1,x.2.1.1.2.2.1,x.2.1.1.2.2.2.1,x.2.1.1.2.2.2.2.1,x.2.1.1.2.2.2.2.2.1,x.2.1.1.2.2.2.2.2.2.1,x.2.1.1.2.2.2.2.2.2.2.1,x.2.1.1.2.2.2.2.2.2.2.2.1,x.2.1.1.2.2.2.2.2.2.2.2.2.1,x.2.1.1.2.2.2.2.2.2.2.2.2.2.1,x.2.1.1.2.2.2.2.2.2.2.2.2.2.2.1,x.2.1.1.2.2.2.2.2.2.2.2.2.2.2.2.1,()),()),())
def yGk:Code:=(zdD yrO 64 52).getD .skip
theorem yVo:zdD yrO 64 13=some (.block 0 (.loop yGk)):=by kernel_rfl
theorem yXs (x:(yd4).X):zg0 ⟨yxr,22,yHU⟩ 0 yGk 52 yd4 ykJ ykX x=yed x:=by kernel_rfl
def yEN (x:(ykN).X):Nat:=18446744073709551616
def ywT (x:(ykN).X):Option ((ykJ).X ⊕ (ykX).X):=zz yed (yEN x) (yEI x)
def yE1:Seg:=⟨ykN,ykJ,ykX,ywT⟩
def yHV:Nat→Option Seg:=fun q=>bif Nat.beq q 13 then some yE1 else yHU q
theorem yVW:FrOk Tryz.prog ⟨yxr,22,yHV⟩ yrO:=(yVV).loop (sg:=yE1) yd4 yEI (by decide) yVo yed yEN (by decide) (fun _=>rfl) (fun x r _ h=>h) yXs
abbrev ynd:List Par:= [.rd tA,.rd tI]
abbrev yxx:List OT:= [⟨false,tI,.fz⟩]
def ysR (a0:dA) (a1:Int):Option (ResD yxx×MutD ynd) :=
 zkh (ywT (((a1,()),((),()),((),()),()),((a0.1,a0.2.1.1,a0.2.1.2,a0.2.2.1,a0.2.2.2.1,a0.2.2.2.2.1,a0.2.2.2.2.2.1,a0.2.2.2.2.2.2.1,a0.2.2.2.2.2.2.2.1,a0.2.2.2.2.2.2.2.2.1,a0.2.2.2.2.2.2.2.2.2.1,a0.2.2.2.2.2.2.2.2.2.2.1,a0.2.2.2.2.2.2.2.2.2.2.2,()),()),())) (fun y0 =>
 some (((-1),()),())) (fun y0 =>
 some ((y0.1.1.1,()),()))
theorem y0B (x:InD ynd):zjx ⟨yxr,22,yHV⟩ Tryz.f243.results.toList yrO ynd yxx x=ysR x.1 x.2.1:=by kernel_rfl
theorem yY2:ConOk Tryz.prog 243 ⟨ynd,yxx,fun x=>ysR x.1 x.2.1⟩:=zj1 (yVW) Tryz.func243 (by kernel_rfl) (by kernel_rfl) Tryz.ntmps243.symm (by decide) (fun x r h=>(y0B x).trans h)
def yjo (a0:dA) (a1:Int):Int:=yC a0.2.2.2.2.2.2.2.2.1 a1
theorem y0f (a0:dA) (a1:Int) (hk:zi2 ynd (a0,a1,())):ysR a0 a1=(fun n=>some ((n,()),())) (yjo a0 a1):=by
 have hb:a0.2.2.2.2.2.2.2.2.1.length * 32≤2 ^ 47:=hk.1.2.2.2.2.2.2.2.2.1.1
 have h1:ywT (yTp a1 a0)=some (bif leb 0 (yC a0.2.2.2.2.2.2.2.2.1 a1) then .inr (yEO (yC a0.2.2.2.2.2.2.2.2.1 a1)) else .inl yTl) :=
  yKL (step:=yed) a0.2.2.2.2.2.2.2.2.1 (0,[]) (fun i=>yvu a1 i a0) (fun e:dW=>e.1==a1) (fun i=> .inr (yEO i)) _ (fun i hi=>by
   simp only [yed,yvu,yv6,zj4 (show (i:Int) < a0.2.2.2.2.2.2.2.2.1.length by omega),cond_true,wr (show -9223372036854775808≤(i:Int)+1 by omega) (by omega),Int.natCast_add,Int.natCast_one,Int.toNat_natCast,zkl hi,zkm]
   cases ((a0.2.2.2.2.2.2.2.2.1.getD i (0,[])).1==a1)<;>rfl) (by simp only [yed,yvu,yv6,zkx (Int.le_refl _),cond_false]) _ (by show _ < 18446744073709551616; omega)
 unfold ysR yjo
 rw [h1]
 cases h:leb 0 (yC a0.2.2.2.2.2.2.2.2.1 a1)
 ·rw [show yC a0.2.2.2.2.2.2.2.2.1 a1= -1 from yLC h]; rfl
 ·rfl
def yyL:Con:=⟨ynd,yxx,fun x=>(fun n=>some ((n,()),())) (yjo x.1 x.2.1)⟩
theorem yLk:ConOk Tryz.prog 243 yyL:=(yY2).mono (fun x r hk h=>(y0f x.1 x.2.1 hk).trans h)
end
section
def yDn:Code:=(Tryz.f176.body).getD .skip
def yD1:Env:=zj2 TT [(216,yEx),(243,yyL)] []
theorem yKI:FrOk Tryz.prog ⟨yD1,28,fun _=>none⟩ yDn:=zj6 yc yd ⟨yXf,yLk,trivial⟩
def yLV:Nat→Option Seg:=fun _=>none
abbrev ycK:List Par:= [.rd tA,.rd tI]
abbrev yiL:List OT:= [⟨false,tL,(.ow .fz)⟩,⟨false,tB,.fz⟩]
def yj8 (a0:dA) (a1:Int):Option (ResD yiL×MutD ycK) :=
 let r1:=yjo a0 a1
 bif (leb 0 r1) then
 bif (inb r1 a0.2.2.2.2.2.2.2.2.1.length) then
 bif (zjR ([]:List Int).length ((nth a0.2.2.2.2.2.2.2.2.1 r1 (0,[])).2).length 8) then
 some (((([]:List Int)++((nth a0.2.2.2.2.2.2.2.2.1 r1 (0,[])).2)),true,()),())
 else none
 else none
 else
 bif a0.2.2.2.2.2.2.2.2.2.2.2 then
 some ((([]:List Int),false,()),())
 else
 bnd (ysL a0 a1) fun r2 =>
 some ((r2.1.1,r2.1.2.1,()),())
theorem ySp (x:InD ycK):zjx ⟨yD1,28,yLV⟩ Tryz.f176.results.toList yDn ycK yiL x=yj8 x.1 x.2.1:=by kernel_rfl
theorem yNy:ConOk Tryz.prog 176 ⟨ycK,yiL,fun x=>yj8 x.1 x.2.1⟩:=zj1 (yKI) Tryz.func176 (by kernel_rfl) (by kernel_rfl) Tryz.ntmps176.symm (by decide) (fun x r h=>(ySp x).trans h)
def yje (a0:dA) (a1:Int):List Int×Bool:=yY a0 a1
def yvH (a0:dA) (a1:Int):Bool:=yaM a0.2.1 a1
theorem yQm (a0:dA) (a1:Int) (hk:zi2 ycK (a0,a1,())) (hq:yvH a0 a1=true):yj8 a0 a1=(fun n=>some ((n.1,n.2,()),())) (yje a0 a1):=by
 unfold yj8 yje yY yjo
 rw [yXm a0 a1 hq]
 simp only [List.nil_append]
 cases h:leb 0 (yC a0.2.2.2.2.2.2.2.2.1 a1)
 ·cases a0.2.2.2.2.2.2.2.2.2.2.2<;>rfl
 ·have h1:=(ytc (d:=((0,[]):dW)) h).1
  have h2:(nth a0.2.2.2.2.2.2.2.2.1 (yC a0.2.2.2.2.2.2.2.2.1 a1) (0,[])).2.length * 8≤2 ^ 47:=yAP (P:=fun x:dW=>x.2.length * 8≤2 ^ 47) h1 (fun x hx=>(hk.1.2.2.2.2.2.2.2.2.1.2 x hx).2.1)
  rw [show inb (yC a0.2.2.2.2.2.2.2.2.1 a1) a0.2.2.2.2.2.2.2.2.1.length=true from h1,zka.2 (show (([]:List Int).length+(nth a0.2.2.2.2.2.2.2.2.1 (yC a0.2.2.2.2.2.2.2.2.1 a1) (0,[])).2.length) * 8≤140737488355328 by rw [List.length_nil]; omega)]; rfl
def yot (a0:dA) (a1:Int):Option (ResD yiL×MutD ycK):=bif yvH a0 a1 then (fun n=>some ((n.1,n.2,()),())) (yje a0 a1) else none
theorem yQ1 (a0:dA) (a1:Int) (h:yvH a0 a1=true):yot a0 a1=(fun n=>some ((n.1,n.2,()),())) (yje a0 a1):=by unfold yot; rw [h]; rfl
def yzU:Con:=⟨ycK,yiL,fun x=>yot x.1 x.2.1⟩
theorem yQZ:ConOk Tryz.prog 176 yzU:=(yNy).mono (fun x r hk h=>zks h (fun hq=>yQm x.1 x.2.1 hk hq))
end
section
def yDj:Code:=(Tryz.f177.body).getD .skip
def yDX:Env:=zj2 TT [(121,yom),(135,yr)] []
theorem yKE:FrOk Tryz.prog ⟨yDX,16,fun _=>none⟩ yDj:=zj6 yc yd ⟨yw6,yx,trivial⟩
def yLR:Nat→Option Seg:=fun _=>none
abbrev ye3:List Par:= [.rd tG,.rd tI]
abbrev yn6:List OT:= [⟨false,tI,.fz⟩]
def yj5 (a0:dG) (a1:Int):Option (ResD yn6×MutD ye3) :=
 let r1:=yg a0
 let r2:=ya a1 0 (IntKind.i64.wrap (r1 - 1))
 bif (!r2) then
 some (((-1),()),())
 else
 bif ((IntKind.i64.wrap (a0.1 - 1)) !=0) then
 some (((IntKind.i64.wrap (a1.tdiv (IntKind.i64.wrap (a0.1 - 1)))),()),())
 else none
theorem ySl (x:InD ye3):zjx ⟨yDX,16,yLR⟩ Tryz.f177.results.toList yDj ye3 yn6 x=yj5 x.1 x.2.1:=by kernel_rfl
theorem yNu:ConOk Tryz.prog 177 ⟨ye3,yn6,fun x=>yj5 x.1 x.2.1⟩:=zj1 (yKE) Tryz.func177 (by kernel_rfl) (by kernel_rfl) Tryz.ntmps177.symm (by decide) (fun x r h=>(ySl x).trans h)
def yjd (a0:dG) (a1:Int):Int:=yT a0 a1
theorem yQi (a0:dG) (a1:Int) (hk:zi2 ye3 (a0,a1,())):yj5 a0 a1=(fun n=>some ((n,()),())) (yjd a0 a1):=by
 unfold yj5 yjd yT
 simp only [yZo]
 cases hb:blkOk a0 a1
 ·rfl
 ·obtain ⟨h1,h2,h3⟩:=ypv hb
  have h4:=yi.1 h1
  rw [wr (show -9223372036854775808≤a0.1 - 1 by omega) (by omega),show (a0.1 - 1 !=0)=true from bne_iff_ne.2 (by omega),wr (by omega) (by omega)]; rfl
def yzS:Con:=⟨ye3,yn6,fun x=>(fun n=>some ((n,()),())) (yjd x.1 x.2.1)⟩
theorem yQX:ConOk Tryz.prog 177 yzS:=(yNu).mono (fun x r hk h=>(yQi x.1 x.2.1 hk).trans h)
end
section
def yFp:Code:=(Tryz.f178.body).getD .skip
def yF7:Env:=zj2 TT [(121,yom),(135,yr)] []
theorem yMx:FrOk Tryz.prog ⟨yF7,16,fun _=>none⟩ yFp:=zj6 yc yd ⟨yw6,yx,trivial⟩
def yN6:Nat→Option Seg:=fun _=>none
abbrev ygj:List Par:= [.rd tG,.rd tI]
abbrev yqp:List OT:= [⟨false,tI,.fz⟩]
def ylU (a0:dG) (a1:Int):Option (ResD yqp×MutD ygj) :=
 let r1:=yg a0
 let r2:=ya a1 0 (IntKind.i64.wrap (r1 - 1))
 bif (!r2) then
 some (((-1),()),())
 else
 bif ((IntKind.i64.wrap (a0.1 - 1)) !=0) then
 some (((a1.tmod (IntKind.i64.wrap (a0.1 - 1))),()),())
 else none
theorem yVD (x:InD ygj):zjx ⟨yF7,16,yN6⟩ Tryz.f178.results.toList yFp ygj yqp x=ylU x.1 x.2.1:=by kernel_rfl
theorem yQA:ConOk Tryz.prog 178 ⟨ygj,yqp,fun x=>ylU x.1 x.2.1⟩:=zj1 (yMx) Tryz.func178 (by kernel_rfl) (by kernel_rfl) Tryz.ntmps178.symm (by decide) (fun x r h=>(yVD x).trans h)
def yk4 (a0:dG) (a1:Int):Int:=yd5 a0 a1
theorem yTD (a0:dG) (a1:Int) (hk:zi2 ygj (a0,a1,())):ylU a0 a1=(fun n=>some ((n,()),())) (yk4 a0 a1):=by
 unfold ylU yk4 yd5
 simp only [yZo]
 cases hb:blkOk a0 a1
 ·rfl
 ·obtain ⟨h1,h2,h3⟩:=ypv hb
  have h4:=yi.1 h1
  rw [wr (show -9223372036854775808≤a0.1 - 1 by omega) (by omega),show (a0.1 - 1 !=0)=true from bne_iff_ne.2 (by omega)]; rfl
def yBD:Con:=⟨ygj,yqp,fun x=>(fun n=>some ((n,()),())) (yk4 x.1 x.2.1)⟩
theorem yUy:ConOk Tryz.prog 178 yBD:=(yQA).mono (fun x r hk h=>(yTD x.1 x.2.1 hk).trans h)
end
section
def yo0:Code:=(Tryz.f246.body).getD .skip
def yuh:Env:=zj2 TT [] [(4096,(.pr .fz .fz)),(28800,(.pr .fz .fz)),(41472,(.pr .fz .fz)),(49280,(.pr .fz .fz))]
theorem yTb:FrOk Tryz.prog ⟨yuh,67,fun _=>none⟩ yo0:=zj6 yc yd trivial
def yFX:Nat→Option Seg:=fun _=>none
def ycZ:Shape:=⟨[(0,false,[.ptr 1000000000 0]),(3,false,[.ptr 0 0]),(4,false,[.at 800000000]),(5,false,[.bool]),(6,false,[.int .i64])],[(0,[.int .i64,.fz tI]),(1000000000,[.int .i64,.int .i64,.int .i64,.at 800000001,.int .i64,.int .i64,.int .i64,.int .i64,.int .i64,.at 800000002,.int .i64,.bool,.bool])],[(800000000,tW,(.pr .fz .fz)),(800000001,tM,(.pr (.ow .fz) (.pr (.ow (.pr .fz .fz)) (.pr .fz (.ow .fz))))),(800000002,tW,(.pr .fz .fz))]⟩
def yiG:Shape:=⟨[(0,false,[.ptr 1000000000 0]),(3,false,[.ptr 0 0]),(4,false,[.at 800000000]),(5,false,[.cb false]),(6,false,[.ci .i64 0])],[(0,[.int .i64,.fz tI]),(1000000000,[.int .i64,.int .i64,.int .i64,.at 800000001,.int .i64,.int .i64,.int .i64,.int .i64,.int .i64,.at 800000002,.int .i64,.bool,.bool])],[(800000000,tW,(.pr .fz .fz)),(800000001,tM,(.pr (.ow .fz) (.pr (.ow (.pr .fz .fz)) (.pr .fz (.ow .fz))))),(800000002,tW,(.pr .fz .fz))]⟩
def yiq:Shape:=⟨[(0,false,[.ptr 1000000000 0]),(3,false,[.ptr 0 0]),(4,false,[.at 800000000]),(5,false,[.bool])],[(0,[.int .i64,.fz tI]),(1000000000,[.int .i64,.int .i64,.int .i64,.at 800000001,.int .i64,.int .i64,.int .i64,.int .i64,.int .i64,.at 800000002,.int .i64,.bool,.bool])],[(800000000,tW,(.pr .fz .fz)),(800000001,tM,(.pr (.ow .fz) (.pr (.ow (.pr .fz .fz)) (.pr .fz (.ow .fz))))),(800000002,tW,(.pr .fz .fz))]⟩
def yog:Shape:=⟨[],[],[]⟩
abbrev yts (v0:Bool) (v1:Int) (v2:dW) (v3:dA) (v4:List dW):(ycZ).X:=((((),()),((),()),((),()),(v0,()),(v1,()),()),((v2.1,v2.2,()),(v3.1,v3.2.1.1,v3.2.1.2,(),v3.2.2.2.1,v3.2.2.2.2.1,v3.2.2.2.2.2.1,v3.2.2.2.2.2.2.1,v3.2.2.2.2.2.2.2.1,(),v3.2.2.2.2.2.2.2.2.2.1,v3.2.2.2.2.2.2.2.2.2.2.1,v3.2.2.2.2.2.2.2.2.2.2.2,()),()),(v4,v3.2.2.1,v3.2.2.2.2.2.2.2.2.1,()))
abbrev yPP (v0:dW) (v1:dA) (v2:List dW):(yiG).X:=((((),()),((),()),((),()),((),()),((),()),()),((v0.1,v0.2,()),(v1.1,v1.2.1.1,v1.2.1.2,(),v1.2.2.2.1,v1.2.2.2.2.1,v1.2.2.2.2.2.1,v1.2.2.2.2.2.2.1,v1.2.2.2.2.2.2.2.1,(),v1.2.2.2.2.2.2.2.2.2.1,v1.2.2.2.2.2.2.2.2.2.2.1,v1.2.2.2.2.2.2.2.2.2.2.2,()),()),(v2,v1.2.2.1,v1.2.2.2.2.2.2.2.2.1,()))
abbrev yPA (v0:Bool) (v1:dW) (v2:dA) (v3:List dW):(yiq).X:=((((),()),((),()),((),()),(v0,()),()),((v1.1,v1.2,()),(v2.1,v2.2.1.1,v2.2.1.2,(),v2.2.2.2.1,v2.2.2.2.2.1,v2.2.2.2.2.2.1,v2.2.2.2.2.2.2.1,v2.2.2.2.2.2.2.2.1,(),v2.2.2.2.2.2.2.2.2.2.1,v2.2.2.2.2.2.2.2.2.2.2.1,v2.2.2.2.2.2.2.2.2.2.2.2,()),()),(v3,v2.2.2.1,v2.2.2.2.2.2.2.2.2.1,()))
def ytQ (v0:Bool) (v1 v2:Int) (v3:List Int) (v4 v5 v6 v7 v8 v9 v10 v11 v12:Int) (v13 v14:Bool) (v15:List dW) (v16:List dM) (v17:List dW):Option ((ycZ).X ⊕ ((yiq).X ⊕ (yog).X)) :=
 bif (ltb v1 (v17.length:Int)) then
 bif (!v0) then
 bif (inb v1 v17.length) then
 bif (leb v2 ((nth v17 v1 (0,[])).1)) then
 bif (zjR v15.length ([(v2,v3)]:List dW).length 32) then
 bif (inb v1 v17.length) then
 bif ((nth v17 v1 (0,[])).1 !=v2) then
 bif (inb v1 v17.length) then
 bif (zjR (v15++([(v2,v3)]:List dW)).length ([(nth v17 v1 (0,[]))]:List dW).length 32) then
 some (.inl ((((),()),((),()),((),()),(true,()),((IntKind.i64.wrap (v1+1)),()),()),((v2,v3,()),(v4,v5,v6,(),v7,v8,v9,v10,v11,(),v12,v13,v14,()),()),(((v15++([(v2,v3)]:List dW))++([(nth v17 v1 (0,[]))]:List dW)),v16,v17,())))
 else none
 else none
 else
 some (.inl ((((),()),((),()),((),()),(true,()),((IntKind.i64.wrap (v1+1)),()),()),((v2,v3,()),(v4,v5,v6,(),v7,v8,v9,v10,v11,(),v12,v13,v14,()),()),((v15++([(v2,v3)]:List dW)),v16,v17,())))
 else none
 else none
 else
 bif (inb v1 v17.length) then
 bif ((nth v17 v1 (0,[])).1 !=v2) then
 bif (inb v1 v17.length) then
 bif (zjR v15.length ([(nth v17 v1 (0,[]))]:List dW).length 32) then
 some (.inl ((((),()),((),()),((),()),(v0,()),((IntKind.i64.wrap (v1+1)),()),()),((v2,v3,()),(v4,v5,v6,(),v7,v8,v9,v10,v11,(),v12,v13,v14,()),()),((v15++([(nth v17 v1 (0,[]))]:List dW)),v16,v17,())))
 else none
 else none
 else
 some (.inl ((((),()),((),()),((),()),(v0,()),((IntKind.i64.wrap (v1+1)),()),()),((v2,v3,()),(v4,v5,v6,(),v7,v8,v9,v10,v11,(),v12,v13,v14,()),()),(v15,v16,v17,())))
 else none
 else none
 else
 bif (inb v1 v17.length) then
 bif ((nth v17 v1 (0,[])).1 !=v2) then
 bif (inb v1 v17.length) then
 bif (zjR v15.length ([(nth v17 v1 (0,[]))]:List dW).length 32) then
 some (.inl ((((),()),((),()),((),()),(v0,()),((IntKind.i64.wrap (v1+1)),()),()),((v2,v3,()),(v4,v5,v6,(),v7,v8,v9,v10,v11,(),v12,v13,v14,()),()),((v15++([(nth v17 v1 (0,[]))]:List dW)),v16,v17,())))
 else none
 else none
 else
 some (.inl ((((),()),((),()),((),()),(v0,()),((IntKind.i64.wrap (v1+1)),()),()),((v2,v3,()),(v4,v5,v6,(),v7,v8,v9,v10,v11,(),v12,v13,v14,()),()),(v15,v16,v17,())))
 else none
 else
 some (.inr (.inl ((((),()),((),()),((),()),(v0,()),()),((v2,v3,()),(v4,v5,v6,(),v7,v8,v9,v10,v11,(),v12,v13,v14,()),()),(v15,v16,v17,()))))
def ydv (x:(ycZ).X):=ytQ x.1.2.2.2.1.1 x.1.2.2.2.2.1.1 x.2.1.1.1 x.2.1.1.2.1 x.2.1.2.1.1 x.2.1.2.1.2.1 x.2.1.2.1.2.2.1 x.2.1.2.1.2.2.2.2.1 x.2.1.2.1.2.2.2.2.2.1 x.2.1.2.1.2.2.2.2.2.2.1 x.2.1.2.1.2.2.2.2.2.2.2.1 x.2.1.2.1.2.2.2.2.2.2.2.2.1 x.2.1.2.1.2.2.2.2.2.2.2.2.2.2.1 x.2.1.2.1.2.2.2.2.2.2.2.2.2.2.2.1 x.2.1.2.1.2.2.2.2.2.2.2.2.2.2.2.2.1 x.2.2.1 x.2.2.2.1 x.2.2.2.2.1
def yB0 (x:(yiG).X):(ycZ).X:=((((),()),((),()),((),()),(false,()),(0,()),()),((x.2.1.1.1,x.2.1.1.2.1,()),(x.2.1.2.1.1,x.2.1.2.1.2.1,x.2.1.2.1.2.2.1,(),x.2.1.2.1.2.2.2.2.1,x.2.1.2.1.2.2.2.2.2.1,x.2.1.2.1.2.2.2.2.2.2.1,x.2.1.2.1.2.2.2.2.2.2.2.1,x.2.1.2.1.2.2.2.2.2.2.2.2.1,(),x.2.1.2.1.2.2.2.2.2.2.2.2.2.2.1,x.2.1.2.1.2.2.2.2.2.2.2.2.2.2.2.1,x.2.1.2.1.2.2.2.2.2.2.2.2.2.2.2.2.1,()),()),(x.2.2.1,x.2.2.2.1,x.2.2.2.2.1,()))
def yEj:Code:=(zdD yo0 64 244).getD .skip
theorem yRW:zdD yo0 64 61=some (.block 0 (.loop yEj)):=by kernel_rfl
theorem yU0 (x:(ycZ).X):zg0 ⟨yuh,67,yFX⟩ 0 yEj 244 ycZ yiq yog x=ydv x:=by kernel_rfl
def yCj (x:(yiG).X):Nat:=18446744073709551616
def yux (x:(yiG).X):Option ((yiq).X ⊕ (yog).X):=zz ydv (yCj x) (yB0 x)
def yCY:Seg:=⟨yiG,yiq,yog,yux⟩
def yFY:Nat→Option Seg:=fun q=>bif Nat.beq q 61 then some yCY else yFX q
theorem yTc:FrOk Tryz.prog ⟨yuh,67,yFY⟩ yo0:=(yTb).loop (sg:=yCY) ycZ yB0 (by decide) yRW ydv yCj (by decide) (fun _=>rfl) (fun x r _ h=>h) yU0
abbrev ygJ:List Par:= [.pt tA (.pr .fz (.pr (.pr .fz .fz) (.pr (.ow (.pr (.ow .fz) (.pr (.ow (.pr .fz .fz)) (.pr .fz (.ow .fz))))) (.pr .fz (.pr .fz (.pr .fz (.pr .fz (.pr .fz (.pr (.ow (.pr .fz .fz)) (.pr .fz (.pr .fz .fz))))))))))),.kp tW .fz]
abbrev yps:List OT:= []
def yqY (a0:dA) (a1:dW):Option (ResD yps×MutD ygJ) :=
 zkh (yux ((((),()),((),()),((),()),((),()),((),()),()),((a1.1,a1.2,()),(a0.1,a0.2.1.1,a0.2.1.2,(),a0.2.2.2.1,a0.2.2.2.2.1,a0.2.2.2.2.2.1,a0.2.2.2.2.2.2.1,a0.2.2.2.2.2.2.2.1,(),a0.2.2.2.2.2.2.2.2.2.1,a0.2.2.2.2.2.2.2.2.2.2.1,a0.2.2.2.2.2.2.2.2.2.2.2,()),()),(([]:List dW),a0.2.2.1,a0.2.2.2.2.2.2.2.2.1,()))) (fun y0 =>
 bif (!y0.1.2.2.2.1.1) then
 bif (zjR y0.2.2.1.length ([(y0.2.1.1.1,y0.2.1.1.2.1)]:List dW).length 32) then
 some ((),((y0.2.1.2.1.1,(y0.2.1.2.1.2.1,y0.2.1.2.1.2.2.1),y0.2.2.2.1,y0.2.1.2.1.2.2.2.2.1,y0.2.1.2.1.2.2.2.2.2.1,y0.2.1.2.1.2.2.2.2.2.2.1,y0.2.1.2.1.2.2.2.2.2.2.2.1,y0.2.1.2.1.2.2.2.2.2.2.2.2.1,(y0.2.2.1++([(y0.2.1.1.1,y0.2.1.1.2.1)]:List dW)),y0.2.1.2.1.2.2.2.2.2.2.2.2.2.2.1,y0.2.1.2.1.2.2.2.2.2.2.2.2.2.2.2.1,y0.2.1.2.1.2.2.2.2.2.2.2.2.2.2.2.2.1),()))
 else none
 else
 some ((),((y0.2.1.2.1.1,(y0.2.1.2.1.2.1,y0.2.1.2.1.2.2.1),y0.2.2.2.1,y0.2.1.2.1.2.2.2.2.1,y0.2.1.2.1.2.2.2.2.2.1,y0.2.1.2.1.2.2.2.2.2.2.1,y0.2.1.2.1.2.2.2.2.2.2.2.1,y0.2.1.2.1.2.2.2.2.2.2.2.2.1,y0.2.2.1,y0.2.1.2.1.2.2.2.2.2.2.2.2.2.2.1,y0.2.1.2.1.2.2.2.2.2.2.2.2.2.2.2.1,y0.2.1.2.1.2.2.2.2.2.2.2.2.2.2.2.2.1),()))) (fun y0 =>
 none)
theorem yZW (x:InD ygJ):zjx ⟨yuh,67,yFY⟩ Tryz.f246.results.toList yo0 ygJ yps x=yqY x.1 x.2.1:=by kernel_rfl
theorem yWZ:ConOk Tryz.prog 246 ⟨ygJ,yps,fun x=>yqY x.1 x.2.1⟩:=zj1 (yTc) Tryz.func246 (by kernel_rfl) (by kernel_rfl) Tryz.ntmps246.symm (by decide) (fun x r h=>(yZW x).trans h)
def yvD (a0:dA) (a1:dW):dA:=yHk a0 (yLl a0.2.2.2.2.2.2.2.2.1 a1)
def yCG (a0:dA) (a1:dW):Bool:=decide (a0.2.2.2.2.2.2.2.2.1.length≤1000)
theorem yYW (a0:dA) (a1:dW) (hk:zi2 ygJ (a0,a1,())) (hq:yCG a0 a1=true):yqY a0 a1=(fun n=>some ((),(n,()))) (yvD a0 a1):=by
 have hq:=of_decide_eq_true hq
 have h1:=zj3 (step:=ydv) a0.2.2.2.2.2.2.2.2.1 (0,[]) (fun i s=>yts s.1 i a1 a0 s.2) (ybV a1) (fun i s=>s.2.length≤i * 2) (fun s=> .inl (yPA s.1 a1 a0 s.2)) (fun i s hi hs=>by
  constructor
  ·simp only [ydv,yts,ytQ,zj4 (show (i:Int) < a0.2.2.2.2.2.2.2.2.1.length by omega),cond_true,wr (show -9223372036854775808≤(i:Int)+1 by omega) (by omega),Int.natCast_add,Int.natCast_one,Int.toNat_natCast,zkl hi,zkr,zkm,ybV,zka.2 (show (s.2.length+ [a1].length) * 32≤140737488355328 by simp only [List.length_cons,List.length_nil]; omega),
    show ∀ x:dW,zjR s.2.length [x].length 32=true from fun x=>zka.2 (by simp only [List.length_cons,List.length_nil]; omega),show ∀ x:dW,zjR (s.2++ [a1]).length [x].length 32=true from fun x=>zka.2 (by simp only [List.length_append,List.length_cons,List.length_nil]; omega)]
   cases s.1<;>cases leb a1.1 (a0.2.2.2.2.2.2.2.2.1.getD i (0,[])).1<;>cases ((a0.2.2.2.2.2.2.2.2.1.getD i (0,[])).1 !=a1.1)<;>simp
  ·unfold ybV
   have: ∀ (b c:Bool) (x:dW),((bif b then s.2++ [a1] else s.2)++(bif c then [x] else [])).length≤(i+1) * 2:=fun b c x=>by
    cases b<;>cases c<;>simp<;>omega
   exact this _ _ _) (fun s hs=>by simp only [ydv,yts,ytQ,zkx (Int.le_refl _),cond_false]) (false,[]) (Nat.zero_le _) 18446744073709551616 (by omega)
 have hl:((a0.2.2.2.2.2.2.2.2.1.foldl (ybV a1) (false,[])).2).length≤2000:=by
  have: ∀ (l:List dW) (s:Bool×List dW),((l.foldl (ybV a1) s).2).length≤s.2.length+l.length * 2:=by
   intro l
   induction l with
   | nil=>intro s; simp
   | cons x t ih =>
    intro s
    rw [List.foldl_cons]
    have:=ih (ybV a1 s x)
    have h2:(ybV a1 s x).2.length≤s.2.length+2:=by
     unfold ybV
     cases (!s.1&&leb a1.1 x.1)<;>cases (x.1 !=a1.1)<;>simp
    simp only [List.length_cons]; omega
  have:=this a0.2.2.2.2.2.2.2.2.1 (false,[])
  simp only [List.length_nil]at this
  omega
 unfold yqY yvD yLl
 refine (congrArg (fun z=>zkh z _ _) (show yux (yPP a1 a0 [])=_ from h1)).trans ?_
 generalize a0.2.2.2.2.2.2.2.2.1.foldl (ybV a1) (false,[])=R at hl
 simp only [zki,zkr]
 cases hr:R.1
 ·rw [zka.2 (show (R.2.length+ [a1].length) * 32≤140737488355328 by simp only [List.length_cons,List.length_nil]; omega)]; rfl
 ·rfl
def yvF (a0:dA) (a1:dW):Option (ResD yps×MutD ygJ):=bif yCG a0 a1 then (fun n=>some ((),(n,()))) (yvD a0 a1) else none
theorem yZg (a0:dA) (a1:dW) (h:yCG a0 a1=true):yvF a0 a1=(fun n=>some ((),(n,()))) (yvD a0 a1):=by unfold yvF; rw [h]; rfl
def yGv:Con:=⟨ygJ,yps,fun x=>yvF x.1 x.2.1⟩
theorem yZd:ConOk Tryz.prog 246 yGv:=(yWZ).mono (fun x r hk h=>zks h (fun hq=>yYW x.1 x.2.1 hk hq))
end
section
def yJC:Code:=(Tryz.f182.body).getD .skip
def yJV:Env:=zj2 TT [(176,yzU),(177,yzS),(178,yBD),(246,yGv)] []
theorem yTd:FrOk Tryz.prog ⟨yJV,40,fun _=>none⟩ yJC:=zj6 yc yd ⟨yQZ,yQX,yUy,yZd,trivial⟩
def yVk:Nat→Option Seg:=fun _=>none
abbrev ygK:List Par:= [.pt tA (.pr .fz (.pr (.pr .fz .fz) (.pr (.ow (.pr (.ow .fz) (.pr (.ow (.pr .fz .fz)) (.pr .fz (.ow .fz))))) (.pr .fz (.pr .fz (.pr .fz (.pr .fz (.pr .fz (.pr (.ow (.pr .fz .fz)) (.pr .fz (.pr .fz .fz))))))))))),.rd tI,.rd tI]
abbrev ypt:List OT:= [⟨false,tI,.fz⟩]
def yqZ (a0:dA) (a1 a2:Int):Option (ResD ypt×MutD ygK) :=
 let r1:=yjd a0.2.1 a1
 bnd (yot a0 r1) fun r2 =>
 bif (!r2.1.2.1) then
 some ((5,()),(a0,()))
 else
 let r3:=yk4 a0.2.1 a1
 bif (inb r3 r2.1.1.length) then
 bnd (yvF a0 (r1,(r2.1.1.set (r3).toNat a2))) fun r4 =>
 some ((0,()),(r4.2.1,()))
 else none
theorem yZX (x:InD ygK):zjx ⟨yJV,40,yVk⟩ Tryz.f182.results.toList yJC ygK ypt x=yqZ x.1 x.2.1 x.2.2.1:=by kernel_rfl
theorem yW0:ConOk Tryz.prog 182 ⟨ygK,ypt,fun x=>yqZ x.1 x.2.1 x.2.2.1⟩:=zj1 (yTd) Tryz.func182 (by kernel_rfl) (by kernel_rfl) Tryz.ntmps182.symm (by decide) (fun x r h=>(yZX x).trans h)
def setOne (a:dA) (b n:Int):Int×dA:=bif (yY a (yT a.2.1 b)).2 then (0,yHk a (yLl a.2.2.2.2.2.2.2.2.1 (yT a.2.1 b,(yY a (yT a.2.1 b)).1.set (yd5 a.2.1 b).toNat n))) else (5,a)
def yvE (a0:dA) (a1 a2:Int):Int×dA:=setOne a0 a1 a2
def ypR (a0:dA) (a1 a2:Int):Bool:=yV a0&&(blkOk a0.2.1 a1&&decide (a0.2.2.2.2.2.2.2.2.1.length≤1000))
theorem yYX (a0:dA) (a1 a2:Int) (hk:zi2 ygK (a0,a1,a2,())) (hq:ypR a0 a1 a2=true):yqZ a0 a1 a2=(fun n=>some ((n.1,()),(n.2,()))) (yvE a0 a1 a2):=by
 simp only [ypR,Bool.and_eq_true]at hq
 have hs:=yxz hq.2.1
 obtain ⟨hg,_,hi⟩:=ypv hq.2.1
 unfold yqZ yvE setOne
 simp only [yjd,yk4]
 rw [yQ1 a0 (yT a0.2.1 a1) hs]
 simp only [zkc,yje]
 cases hn:(yY a0 (yT a0.2.1 a1)).2
 ·rfl
 ·have hl:=yy4 hq.1 hs hn
  have hx:yd5 a0.2.1 a1=a1.tmod (a0.2.1.1 - 1):=by unfold yd5; rw [hq.2.1]; rfl
  rw [zjD.2 (show 0≤yd5 a0.2.1 a1∧yd5 a0.2.1 a1 < (yY a0 (yT a0.2.1 a1)).1.length by omega),yZg _ _ hq.2.2]
  rfl
def yeK (a0:dA) (a1 a2:Int):Option (ResD ypt×MutD ygK):=bif ypR a0 a1 a2 then (fun n=>some ((n.1,()),(n.2,()))) (yvE a0 a1 a2) else none
theorem yZh (a0:dA) (a1 a2:Int) (h:ypR a0 a1 a2=true):yeK a0 a1 a2=(fun n=>some ((n.1,()),(n.2,()))) (yvE a0 a1 a2):=by unfold yeK; rw [h]; rfl
def yGw:Con:=⟨ygK,ypt,fun x=>yeK x.1 x.2.1 x.2.2.1⟩
theorem yZe:ConOk Tryz.prog 182 yGw:=(yW0).mono (fun x r hk h=>zks h (fun hq=>yYX x.1 x.2.1 x.2.2.1 hk hq))
end
end
end Go.Tf
