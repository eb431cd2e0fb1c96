/- Functions of the program, and what they come to. -/
import Derived.Test.YtgmadfpnljibhaaGreatScrubsF4
namespace Go.Tf
noncomputable section
open Go.Proofs
set_option synthInstance.maxHeartbeats 400000
set_option synthInstance.maxSize 10000
set_option linter.unusedVariables false
set_option linter.unusedSimpArgs false
set_option maxRecDepth 100000
section
def yAC:Code:=(Tryz.f272.body).getD .skip
def yBf:Env:=zki TT [(288,ypx)] []
theorem yHW:FrOk Tryz.prog ⟨yBf,17,fun _=>none⟩ yAC:=zkp yc yd ⟨yzW,trivial⟩
def yI1:Nat→Option Seg:=fun _=>none
abbrev yer:List Par:= [.rd tG,.rd tI]
abbrev ymB:List OT:= [⟨false,tI,.fz⟩]
def yiN (a0:dG) (a1:Int):Option (ResD ymB×MutD yer) :=
  let r1:=yeB a0 a1
  bif (!r1) then
    some (((-1),()),())
  else
    bif (a0.1 !=0) then
      some (((IntKind.i64.wrap ((IntKind.i64.wrap (a0.1 - 1)) - (a1.tmod a0.1))),()),())
    else none
theorem yPb (x:InD yer):zjH ⟨yBf,17,yI1⟩ Tryz.f272.results.toList yAC yer ymB x=yiN x.1 x.2.1:=by kernel_rfl
theorem yKr:ConOk Tryz.prog 272 ⟨yer,ymB,fun x=>yiN x.1 x.2.1⟩:=zkh (yHW) Tryz.func272 (by kernel_rfl) (by kernel_rfl) Tryz.ntmps272.symm (by decide) (fun x r h=>(yPb x).trans h)
def ycI (a0:dG) (a1:Int):Int:=yj a0 a1
theorem yNa (a0:dG) (a1:Int) (hk:zi9 yer (a0,a1,())):yiN a0 a1=(fun n=>some ((n,()),())) (ycI a0 a1):=by
  unfold yiN ycI
  rw [yKW]
  cases hs:yO a0 a1
  · unfold yj; rw [hs]; rfl
  · have h1:=yao.1 hs
    have h2:=yg.1 h1.1
    have h3:=ykh hs
    have h4:yj a0 a1=a0.1 - 1 - a1.tmod a0.1:=by unfold yj; rw [hs]; rfl
    rw [show (a0.1 !=0)=true from bne_iff_ne.2 (by omega),wr (show -9223372036854775808≤a0.1 - 1 by omega) (by omega),wr (show -9223372036854775808≤a0.1 - 1 - a1.tmod a0.1 by omega) (by omega),h4]; rfl
def yps:Con:=⟨yer,ymB,fun x=>(fun n=>some ((n,()),())) (ycI x.1 x.2.1)⟩
theorem yzR:ConOk Tryz.prog 272 yps:=(yKr).mono (fun x r hk h=>(yNa x.1 x.2.1 hk).trans h)
end
section
def yFo:Code:=(Tryz.f267.body).getD .skip
def yFZ:Env:=zki TT [(135,yq),(272,yps),(288,ypx)] []
theorem yLQ:FrOk Tryz.prog ⟨yFZ,28,fun _=>none⟩ yFo:=zkp yc yd ⟨yu,yzR,yzW,trivial⟩
def yOk:Nat→Option Seg:=fun _=>none
abbrev ygN:List Par:= [.rd tG,.rd tI,.rd tI]
abbrev yqG:List OT:= [⟨false,tI,.fz⟩]
def ym6 (a0:dG) (a1:Int) (a2:Int):Option (ResD yqG×MutD ygN) :=
  let r1:=yeB a0 a1
  bif (!(!r1)) then
    let r2:=ya a2 0 (IntKind.i64.wrap (a0.1 - 2))
    bif (!r2) then
      some (((-1),()),())
    else
      let r3:=ycI a0 a1
      bif (a0.1 !=0) then
        some ((((IntKind.i64.wrap ((IntKind.i64.wrap (r3+1))+a2)).tmod a0.1),()),())
      else none
  else
    some (((-1),()),())
theorem yVD (x:InD ygN):zjH ⟨yFZ,28,yOk⟩ Tryz.f267.results.toList yFo ygN yqG x=ym6 x.1 x.2.1 x.2.2.1:=by kernel_rfl
theorem yQ7:ConOk Tryz.prog 267 ⟨ygN,yqG,fun x=>ym6 x.1 x.2.1 x.2.2.1⟩:=zkh (yLQ) Tryz.func267 (by kernel_rfl) (by kernel_rfl) Tryz.ntmps267.symm (by decide) (fun x r h=>(yVD x).trans h)
def ylG (a0:dG) (a1 a2:Int):Int:=yb1 a0 a1 a2
theorem yTv (a0:dG) (a1 a2:Int) (hk:zi9 ygN (a0,a1,a2,())):ym6 a0 a1 a2=(fun n=>some ((n,()),())) (ylG a0 a1 a2):=by
  unfold ym6 ylG yb1 ycI
  rw [yKW]
  cases hs:yO a0 a1
  · rfl
  · have h1:=yao.1 hs
    have h2:=yg.1 h1.1
    have h3:=ykh hs
    rw [ybC,wr (show -9223372036854775808≤a0.1 - 2 by omega) (by omega)]
    cases hi:(leb 0 a2&&leb a2 (a0.1 - 2))
    · rfl
    · rw [Bool.and_eq_true,zjQ,zjQ]at hi
      rw [show (a0.1 !=0)=true from bne_iff_ne.2 (by omega)]
      show some (((IntKind.i64.wrap (IntKind.i64.wrap (yj a0 a1+1)+a2)).tmod a0.1,()),())=some (((yj a0 a1+1+a2).tmod a0.1,()),())
      rw [wr (show -9223372036854775808≤yj a0 a1+1 by omega) (by omega),wr (show -9223372036854775808≤yj a0 a1+1+a2 by omega) (by omega)]
def yBO:Con:=⟨ygN,yqG,fun x=>(fun n=>some ((n,()),())) (ylG x.1 x.2.1 x.2.2.1)⟩
theorem yUp:ConOk Tryz.prog 267 yBO:=(yQ7).mono (fun x r hk h=>(yTv x.1 x.2.1 x.2.2.1 hk).trans h)
end
section
def yk1:Code:=(Tryz.f216.body).getD .skip
def yql:Env:=zki TT [(206,yrw),(267,yBO)] []
theorem yL6:FrOk Tryz.prog ⟨yql,41,fun _=>none⟩ yk1:=zkp yc yd ⟨yCn,yUp,trivial⟩
def yAV:Nat→Option Seg:=fun _=>none
def ybM:Shape:=⟨[(1,false,[.int .i64]),(2,false,[.ptr 0 0]),(6,false,[.at 800000000]),(7,false,[.bool]),(8,false,[.at 800000001]),(9,false,[.int .i64])],[(0,[.int .i64,.int .i64,.int .i64,.br tM,.int .i64,.int .i64,.int .i64,.int .i64,.int .i64,.br tW,.int .i64,.bool,.bool])],[(800000000,tI,.fz),(800000001,tI,.fz)]⟩
def ygf:Shape:=⟨[(1,false,[.int .i64]),(2,false,[.ptr 0 0]),(6,false,[.at 800000000]),(7,false,[.bool]),(8,false,[.at 800000001]),(9,false,[.ci .i64 0])],[(0,[.int .i64,.int .i64,.int .i64,.br tM,.int .i64,.int .i64,.int .i64,.int .i64,.int .i64,.br tW,.int .i64,.bool,.bool])],[(800000000,tI,.fz),(800000001,tI,.fz)]⟩
def yf3:Shape:=⟨[(7,false,[.bool]),(8,false,[.at 800000000])],[],[(800000000,tI,.fz)]⟩
def yku:Shape:=⟨[],[],[]⟩
abbrev yfc (v0:Int) (v1:Bool) (v2:Int) (v3:dA) (v4:List Int) (v5:List Int):(ybM).X:=(((v0,()),((),()),((),()),(v1,()),((),()),(v2,()),()),((v3.1,v3.2.1.1,v3.2.1.2,v3.2.2.1,v3.2.2.2.1,v3.2.2.2.2.1,v3.2.2.2.2.2.1,v3.2.2.2.2.2.2.1,v3.2.2.2.2.2.2.2.1,v3.2.2.2.2.2.2.2.2.1,v3.2.2.2.2.2.2.2.2.2.1,v3.2.2.2.2.2.2.2.2.2.2.1,v3.2.2.2.2.2.2.2.2.2.2.2,()),()),(v4,v5,()))
abbrev yxJ (v0:Int) (v1:Bool) (v2:dA) (v3:List Int) (v4:List Int):(ygf).X:=(((v0,()),((),()),((),()),(v1,()),((),()),((),()),()),((v2.1,v2.2.1.1,v2.2.1.2,v2.2.2.1,v2.2.2.2.1,v2.2.2.2.2.1,v2.2.2.2.2.2.1,v2.2.2.2.2.2.2.1,v2.2.2.2.2.2.2.2.1,v2.2.2.2.2.2.2.2.2.1,v2.2.2.2.2.2.2.2.2.2.1,v2.2.2.2.2.2.2.2.2.2.2.1,v2.2.2.2.2.2.2.2.2.2.2.2,()),()),(v3,v4,()))
abbrev ypI (v0:Bool) (v1:List Int):(yf3).X:=(((v0,()),((),()),()),(),(v1,()))
def yiT (v0:Int) (v1:Bool) (v2:Int) (v3:Int) (v4:Int) (v5:Int) (v6:List dM) (v7:Int) (v8:Int) (v9:Int) (v10:Int) (v11:Int) (v12:List dW) (v13:Int) (v14:Bool) (v15:Bool) (v16:List Int) (v17:List Int):Option ((ybM).X ⊕ ((yf3).X ⊕ (yku).X)) :=
  bif (ltb v2 (IntKind.i64.wrap (v4 - 1))) then
    bif v1 then
      let r3:=ylG (v4,v5) v0 v2
      bif (inb r3 v16.length) then
        bif (zj4 v17.length ([(nth v16 r3 0)]:List Int).length 8) then
          some (.inl (((v0,()),((),()),((),()),(v1,()),((),()),((IntKind.i64.wrap (v2+1)),()),()),((v3,v4,v5,v6,v7,v8,v9,v10,v11,v12,v13,v14,v15,()),()),(v16,(v17++([(nth v16 r3 0)]:List Int)),())))
        else none
      else none
    else
      some (.inr (.inl (((v1,()),((),()),()),(),(v17,()))))
  else
    some (.inr (.inl (((v1,()),((),()),()),(),(v17,()))))
def yap (x:(ybM).X):=yiT x.1.1.1 x.1.2.2.2.1.1 x.1.2.2.2.2.2.1.1 x.2.1.1.1 x.2.1.1.2.1 x.2.1.1.2.2.1 x.2.1.1.2.2.2.1 x.2.1.1.2.2.2.2.1 x.2.1.1.2.2.2.2.2.1 x.2.1.1.2.2.2.2.2.2.1 x.2.1.1.2.2.2.2.2.2.2.1 x.2.1.1.2.2.2.2.2.2.2.2.1 x.2.1.1.2.2.2.2.2.2.2.2.2.1 x.2.1.1.2.2.2.2.2.2.2.2.2.2.1 x.2.1.1.2.2.2.2.2.2.2.2.2.2.2.1 x.2.1.1.2.2.2.2.2.2.2.2.2.2.2.2.1 x.2.2.1 x.2.2.2.1
def yxp (x:(ygf).X):(ybM).X:=(((x.1.1.1,()),((),()),((),()),(x.1.2.2.2.1.1,()),((),()),(0,()),()),((x.2.1.1.1,x.2.1.1.2.1,x.2.1.1.2.2.1,x.2.1.1.2.2.2.1,x.2.1.1.2.2.2.2.1,x.2.1.1.2.2.2.2.2.1,x.2.1.1.2.2.2.2.2.2.1,x.2.1.1.2.2.2.2.2.2.2.1,x.2.1.1.2.2.2.2.2.2.2.2.1,x.2.1.1.2.2.2.2.2.2.2.2.2.1,x.2.1.1.2.2.2.2.2.2.2.2.2.2.1,x.2.1.1.2.2.2.2.2.2.2.2.2.2.2.1,x.2.1.1.2.2.2.2.2.2.2.2.2.2.2.2.1,()),()),(x.2.2.1,x.2.2.2.1,()))
def yyJ:Code:=(zdI yk1 64 244).getD .skip
theorem yLl:zdI yk1 64 61=some (.block 0 (.loop yyJ)):=by kernel_rfl
theorem yNZ (x:(ybM).X):zg7 ⟨yql,41,yAV⟩ 0 yyJ 244 ybM yf3 yku x=yap x:=by kernel_rfl
def yxB (x:(ygf).X):Nat:=(fun (u0:Int) (u1:Bool) (u2:Int) (u3:Int) (u4:Int) (u5:List dM) (u6:Int) (u7:Int) (u8:Int) (u9:Int) (u10:Int) (u11:List dW) (u12:Int) (u13:Bool) (u14:Bool) (u15:List Int) (u16:List Int)=>18446744073709551616) x.1.1.1 x.1.2.2.2.1.1 x.2.1.1.1 x.2.1.1.2.1 x.2.1.1.2.2.1 x.2.1.1.2.2.2.1 x.2.1.1.2.2.2.2.1 x.2.1.1.2.2.2.2.2.1 x.2.1.1.2.2.2.2.2.2.1 x.2.1.1.2.2.2.2.2.2.2.1 x.2.1.1.2.2.2.2.2.2.2.2.1 x.2.1.1.2.2.2.2.2.2.2.2.2.1 x.2.1.1.2.2.2.2.2.2.2.2.2.2.1 x.2.1.1.2.2.2.2.2.2.2.2.2.2.2.1 x.2.1.1.2.2.2.2.2.2.2.2.2.2.2.2.1 x.2.2.1 x.2.2.2.1
def ykk (x:(ygf).X):Option ((yf3).X ⊕ (yku).X):=zr yap (yxB x) (yxp x)
def yxS:Seg:=⟨ygf,yf3,yku,ykk⟩
def yAW:Nat→Option Seg:=fun q=>bif Nat.beq q 61 then some yxS else yAV q
theorem yL7:FrOk Tryz.prog ⟨yql,41,yAW⟩ yk1:=(yL6).loop (sg:=yxS) ybM yxp (by decide) yLl yap yxB (by decide) (fun _=>rfl) (fun x r _ h=>h) yNZ
abbrev yeH:List Par:= [.rd tA,.rd tI]
abbrev yls:List OT:= [⟨false,tL,(.ow .fz)⟩,⟨false,tB,.fz⟩]
def ynb (a0:dA) (a1:Int):Option (ResD yls×MutD yeH) :=
  bnd (yj8 a0 a1) fun r1 =>
  zjw (ykk (((a1,()),((),()),((),()),(r1.1.2.1,()),((),()),((),()),()),((a0.1,a0.2.1.1,a0.2.1.2,a0.2.2.1,a0.2.2.2.1,a0.2.2.2.2.1,a0.2.2.2.2.2.1,a0.2.2.2.2.2.2.1,a0.2.2.2.2.2.2.2.1,a0.2.2.2.2.2.2.2.2.1,a0.2.2.2.2.2.2.2.2.2.1,a0.2.2.2.2.2.2.2.2.2.2.1,a0.2.2.2.2.2.2.2.2.2.2.2,()),()),(r1.1.1,([]:List Int),()))) (fun y3 =>
    some ((y3.2.2.1,y3.1.1.1,()),())) (fun y3 =>
    none)
theorem yVP (x:InD yeH):zjH ⟨yql,41,yAW⟩ Tryz.f216.results.toList yk1 yeH yls x=ynb x.1 x.2.1:=by kernel_rfl
theorem yRj:ConOk Tryz.prog 216 ⟨yeH,yls,fun x=>ynb x.1 x.2.1⟩:=zkh (yL7) Tryz.func216 (by kernel_rfl) (by kernel_rfl) Tryz.ntmps216.symm (by decide) (fun x r h=>(yVP x).trans h)
def yq2 (a0:dA) (a1:Int):List Int×Bool:=yqZ a0 a1
def ywE (a0:dA) (a1:Int):Bool:=yO a0.2.1 a1
theorem yTD (a0:dA) (a1:Int) (hk:zi9 yeH (a0,a1,())) (hq:ywE a0 a1=true):ynb a0 a1=(fun n=>some ((n.1,n.2,()),())) (yq2 a0 a1):=by
  have hs:yO a0.2.1 a1=true:=hq
  have hg:=yg.1 (yao.1 hs).1
  unfold ynb yq2 yqZ
  rw [yCq a0 a1 (yao.1 hs).1,yfF]
  simp only [zky]
  cases hw:(yy a0 a1).2
  · have h1:ykk (yxJ a1 false a0 (yy a0 a1).1 [])=some (.inl (ypI false [])) :=
      zjs (step:=yap) (fun i=>yfc a1 false i a0 (yy a0 a1).1 []) 0 _ (fun i hi=>absurd hi (Nat.not_lt_zero _)) (by
        simp only [yap,yfc,yiT,cond_false]
        cases ltb ((0:Nat):Int) (IntKind.i64.wrap (a0.2.1.1 - 1))<;>rfl) _ (by show _ < 18446744073709551616; omega)
    rw [h1]; rfl
  · have hL:=yIH hw
    have h1:ykk (yxJ a1 true a0 (yy a0 a1).1 [])=some (.inl (ypI true ((List.range (a0.2.1.1 - 1).toNat).foldl (fun l (i:Nat)=>l++ [nth (yy a0 a1).1 (yb1 a0.2.1 a1 i) 0]) []))) :=
      zks (step:=yap) (a0.2.1.1 - 1).toNat (fun i s=>yfc a1 true i a0 (yy a0 a1).1 s) (fun l (i:Nat)=>l++ [nth (yy a0 a1).1 (yb1 a0.2.1 a1 i) 0]) (fun i s=>s.length=i) (fun s=> .inl (ypI true s)) (fun i s hi hs2=>⟨by
        have hd:=yYx hs (show (0:Int)≤i by omega) (show (i:Int)≤a0.2.1.1 - 2 by omega)
        simp only [yap,yfc,yiT,wr (show -9223372036854775808≤a0.2.1.1 - 1 by omega) (by omega),zjI (show (i:Int) < a0.2.1.1 - 1 by omega),cond_true,wr (show -9223372036854775808≤(i:Int)+1 by omega) (by omega),Int.natCast_add,Int.natCast_one,Int.toNat_natCast,zkV,ylG,zjP.2 (show 0≤yb1 a0.2.1 a1 i∧yb1 a0.2.1 a1 i < (yy a0 a1).1.length by omega)]
        rw [zkw.2 (show (s.length+ [nth (yy a0 a1).1 (yb1 a0.2.1 a1 i) 0].length) * 8≤140737488355328 by simp only [List.length_cons,List.length_nil]; omega)]; rfl,by simp [hs2]⟩) (fun s hs2=>by simp only [yap,yfc,yiT,wr (show -9223372036854775808≤a0.2.1.1 - 1 by omega) (by omega),zkm (show a0.2.1.1 - 1≤((a0.2.1.1 - 1).toNat:Int) by omega),cond_false]) [] rfl _ (by show _ < 18446744073709551616; omega)
    rw [h1,ykz]; rfl
def ylK (a0:dA) (a1:Int):Option (ResD yls×MutD yeH):=bif ywE a0 a1 then (fun n=>some ((n.1,n.2,()),())) (yq2 a0 a1) else none
theorem yEt (a0:dA) (a1:Int) (h:ywE a0 a1=true):ylK a0 a1=(fun n=>some ((n.1,n.2,()),())) (yq2 a0 a1):=by unfold ylK; rw [h]; rfl
def ytC:Con:=⟨yeH,yls,fun x=>ylK x.1 x.2.1⟩
theorem yEp:ConOk Tryz.prog 216 ytC:=(yRj).mono (fun x r hk h=>zkW h (fun hq=>yTD x.1 x.2.1 hk hq))
end
section
def yp1:Code:=(Tryz.f243.body).getD .skip
def yvr:Env:=zki TT [] []
theorem yTa:FrOk Tryz.prog ⟨yvr,22,fun _=>none⟩ yp1:=zkp yc yd trivial
def yFK:Nat→Option Seg:=fun _=>none
def ydA:Shape:=⟨[(1,false,[.int .i64]),(2,false,[.ptr 0 0]),(5,false,[.int .i64])],[(0,[.int .i64,.int .i64,.int .i64,.br tM,.int .i64,.int .i64,.int .i64,.int .i64,.int .i64,.br tW,.int .i64,.bool,.bool])],[]⟩
def yjA:Shape:=⟨[(1,false,[.int .i64]),(2,false,[.ptr 0 0]),(5,false,[.ci .i64 0])],[(0,[.int .i64,.int .i64,.int .i64,.br tM,.int .i64,.int .i64,.int .i64,.int .i64,.int .i64,.br tW,.int .i64,.bool,.bool])],[]⟩
def yju:Shape:=⟨[],[],[]⟩
def yjL:Shape:=⟨[(4,false,[.int .i64])],[],[]⟩
abbrev ytP (v0:Int) (v1:Int) (v2:dA):(ydA).X:=(((v0,()),((),()),(v1,()),()),((v2.1,v2.2.1.1,v2.2.1.2,v2.2.2.1,v2.2.2.2.1,v2.2.2.2.2.1,v2.2.2.2.2.2.1,v2.2.2.2.2.2.2.1,v2.2.2.2.2.2.2.2.1,v2.2.2.2.2.2.2.2.2.1,v2.2.2.2.2.2.2.2.2.2.1,v2.2.2.2.2.2.2.2.2.2.2.1,v2.2.2.2.2.2.2.2.2.2.2.2,()),()),())
abbrev yQp (v0:Int) (v1:dA):(yjA).X:=(((v0,()),((),()),((),()),()),((v1.1,v1.2.1.1,v1.2.1.2,v1.2.2.1,v1.2.2.2.1,v1.2.2.2.2.1,v1.2.2.2.2.2.1,v1.2.2.2.2.2.2.1,v1.2.2.2.2.2.2.2.1,v1.2.2.2.2.2.2.2.2.1,v1.2.2.2.2.2.2.2.2.2.1,v1.2.2.2.2.2.2.2.2.2.2.1,v1.2.2.2.2.2.2.2.2.2.2.2,()),()),())
abbrev yQk  :(yju).X:=((),(),())
abbrev yCj (v0:Int):(yjL).X:=(((v0,()),()),(),())
def yuk (v0:Int) (v1:Int) (v2:Int) (v3:Int) (v4:Int) (v5:List dM) (v6:Int) (v7:Int) (v8:Int) (v9:Int) (v10:Int) (v11:List dW) (v12:Int) (v13:Bool) (v14:Bool):Option ((ydA).X ⊕ ((yju).X ⊕ (yjL).X)) :=
  bif (ltb v1 (v11.length:Int)) then
    bif (inb v1 v11.length) then
      bif ((nth v11 v1 (0,[])).1==v0) then
        some (.inr (.inr (((v1,()),()),(),())))
      else
        some (.inl (((v0,()),((),()),((IntKind.i64.wrap (v1+1)),()),()),((v2,v3,v4,v5,v6,v7,v8,v9,v10,v11,v12,v13,v14,()),()),()))
    else none
  else
    some (.inr (.inl ((),(),())))
def ydL (x:(ydA).X):=yuk x.1.1.1 x.1.2.2.1.1 x.2.1.1.1 x.2.1.1.2.1 x.2.1.1.2.2.1 x.2.1.1.2.2.2.1 x.2.1.1.2.2.2.2.1 x.2.1.1.2.2.2.2.2.1 x.2.1.1.2.2.2.2.2.2.1 x.2.1.1.2.2.2.2.2.2.2.1 x.2.1.1.2.2.2.2.2.2.2.2.1 x.2.1.1.2.2.2.2.2.2.2.2.2.1 x.2.1.1.2.2.2.2.2.2.2.2.2.2.1 x.2.1.1.2.2.2.2.2.2.2.2.2.2.2.1 x.2.1.1.2.2.2.2.2.2.2.2.2.2.2.2.1
def yB6 (x:(yjA).X):(ydA).X:=(((x.1.1.1,()),((),()),(0,()),()),((x.2.1.1.1,x.2.1.1.2.1,x.2.1.1.2.2.1,x.2.1.1.2.2.2.1,x.2.1.1.2.2.2.2.1,x.2.1.1.2.2.2.2.2.1,x.2.1.1.2.2.2.2.2.2.1,x.2.1.1.2.2.2.2.2.2.2.1,x.2.1.1.2.2.2.2.2.2.2.2.1,x.2.1.1.2.2.2.2.2.2.2.2.2.1,x.2.1.1.2.2.2.2.2.2.2.2.2.2.1,x.2.1.1.2.2.2.2.2.2.2.2.2.2.2.1,x.2.1.1.2.2.2.2.2.2.2.2.2.2.2.2.1,()),()),())
def yDT:Code:=(zdI yp1 64 52).getD .skip
theorem ySv:zdI yp1 64 13=some (.block 0 (.loop yDT)):=by kernel_rfl
theorem yUH (x:(ydA).X):zg7 ⟨yvr,22,yFK⟩ 0 yDT 52 ydA yju yjL x=ydL x:=by kernel_rfl
def yCe (x:(yjA).X):Nat:=(fun (u0:Int) (u1:Int) (u2:Int) (u3:Int) (u4:List dM) (u5:Int) (u6:Int) (u7:Int) (u8:Int) (u9:Int) (u10:List dW) (u11:Int) (u12:Bool) (u13:Bool)=>18446744073709551616) x.1.1.1 x.2.1.1.1 x.2.1.1.2.1 x.2.1.1.2.2.1 x.2.1.1.2.2.2.1 x.2.1.1.2.2.2.2.1 x.2.1.1.2.2.2.2.2.1 x.2.1.1.2.2.2.2.2.2.1 x.2.1.1.2.2.2.2.2.2.2.1 x.2.1.1.2.2.2.2.2.2.2.2.1 x.2.1.1.2.2.2.2.2.2.2.2.2.1 x.2.1.1.2.2.2.2.2.2.2.2.2.2.1 x.2.1.1.2.2.2.2.2.2.2.2.2.2.2.1 x.2.1.1.2.2.2.2.2.2.2.2.2.2.2.2.1
def yuR (x:(yjA).X):Option ((yju).X ⊕ (yjL).X):=zr ydL (yCe x) (yB6 x)
def yCx:Seg:=⟨yjA,yju,yjL,yuR⟩
def yFL:Nat→Option Seg:=fun q=>bif Nat.beq q 13 then some yCx else yFK q
theorem yTb:FrOk Tryz.prog ⟨yvr,22,yFL⟩ yp1:=(yTa).loop (sg:=yCx) ydA yB6 (by decide) ySv ydL yCe (by decide) (fun _=>rfl) (fun x r _ h=>h) yUH
abbrev ylY:List Par:= [.rd tA,.rd tI]
abbrev yvy:List OT:= [⟨false,tI,.fz⟩]
def yrd (a0:dA) (a1:Int):Option (ResD yvy×MutD ylY) :=
  zjw (yuR (((a1,()),((),()),((),()),()),((a0.1,a0.2.1.1,a0.2.1.2,a0.2.2.1,a0.2.2.2.1,a0.2.2.2.2.1,a0.2.2.2.2.2.1,a0.2.2.2.2.2.2.1,a0.2.2.2.2.2.2.2.1,a0.2.2.2.2.2.2.2.2.1,a0.2.2.2.2.2.2.2.2.2.1,a0.2.2.2.2.2.2.2.2.2.2.1,a0.2.2.2.2.2.2.2.2.2.2.2,()),()),())) (fun y0 =>
    some (((-1),()),())) (fun y0 =>
    some ((y0.1.1.1,()),()))
theorem yYe (x:InD ylY):zjH ⟨yvr,22,yFL⟩ Tryz.f243.results.toList yp1 ylY yvy x=yrd x.1 x.2.1:=by kernel_rfl
theorem yWu:ConOk Tryz.prog 243 ⟨ylY,yvy,fun x=>yrd x.1 x.2.1⟩:=zkh (yTb) Tryz.func243 (by kernel_rfl) (by kernel_rfl) Tryz.ntmps243.symm (by decide) (fun x r h=>(yYe x).trans h)
def yil (a0:dA) (a1:Int):Int:=yw a0.2.2.2.2.2.2.2.2.1 a1
theorem yXL (a0:dA) (a1:Int) (hk:zi9 ylY (a0,a1,())):yrd a0 a1=(fun n=>some ((n,()),())) (yil a0 a1):=by
  have hb:a0.2.2.2.2.2.2.2.2.1.length * 32≤2 ^ 47:=hk.1.2.2.2.2.2.2.2.2.1.1
  have h1:yuR (yQp a1 a0)=some (bif leb 0 (yw a0.2.2.2.2.2.2.2.2.1 a1) then .inr (yCj (yw a0.2.2.2.2.2.2.2.2.1 a1)) else .inl yQk) :=
    yU4 (step:=ydL) a0.2.2.2.2.2.2.2.2.1 (0,[]) (fun i=>ytP a1 i a0) (fun e:dW=>e.1==a1) (fun i=> .inr (yCj i)) _ (fun i hi=>by
      simp only [ydL,ytP,yuk,zjI (show (i:Int) < a0.2.2.2.2.2.2.2.2.1.length by omega),cond_true,wr (show -9223372036854775808≤(i:Int)+1 by omega) (by omega),Int.natCast_add,Int.natCast_one,Int.toNat_natCast,zkO hi,zjW]
      cases ((a0.2.2.2.2.2.2.2.2.1.getD i (0,[])).1==a1)<;>rfl) (by simp only [ydL,ytP,yuk,zkm (Int.le_refl _),cond_false]) _ (by show _ < 18446744073709551616; omega)
  unfold yrd yil
  rw [h1]
  cases h:leb 0 (yw a0.2.2.2.2.2.2.2.2.1 a1)
  · rw [show yw a0.2.2.2.2.2.2.2.2.1 a1= -1 from yYz h]; rfl
  · rfl
def ywx:Con:=⟨ylY,yvy,fun x=>(fun n=>some ((n,()),())) (yil x.1 x.2.1)⟩
theorem yIw:ConOk Tryz.prog 243 ywx:=(yWu).mono (fun x r hk h=>(yXL x.1 x.2.1 hk).trans h)
end
section
def yAI:Code:=(Tryz.f176.body).getD .skip
def yBl:Env:=zki TT [(216,ytC),(243,ywx)] []
theorem yH4:FrOk Tryz.prog ⟨yBl,28,fun _=>none⟩ yAI:=zkp yc yd ⟨yEp,yIw,trivial⟩
def yI7:Nat→Option Seg:=fun _=>none
abbrev yck:List Par:= [.rd tA,.rd tI]
abbrev yhQ:List OT:= [⟨false,tL,(.ow .fz)⟩,⟨false,tB,.fz⟩]
def yiS (a0:dA) (a1:Int):Option (ResD yhQ×MutD yck) :=
  let r1:=yil a0 a1
  bif (leb 0 r1) then
    bif (inb r1 a0.2.2.2.2.2.2.2.2.1.length) then
      bif (zj4 ([]:List Int).length ((nth a0.2.2.2.2.2.2.2.2.1 r1 (0,[])).2).length 8) then
        some (((([]:List Int)++((nth a0.2.2.2.2.2.2.2.2.1 r1 (0,[])).2)),true,()),())
      else none
    else none
  else
    bif a0.2.2.2.2.2.2.2.2.2.2.2 then
      some ((([]:List Int),false,()),())
    else
      bnd (ylK a0 a1) fun r2 =>
      some ((r2.1.1,r2.1.2.1,()),())
theorem yPi (x:InD yck):zjH ⟨yBl,28,yI7⟩ Tryz.f176.results.toList yAI yck yhQ x=yiS x.1 x.2.1:=by kernel_rfl
theorem yKy:ConOk Tryz.prog 176 ⟨yck,yhQ,fun x=>yiS x.1 x.2.1⟩:=zkh (yH4) Tryz.func176 (by kernel_rfl) (by kernel_rfl) Tryz.ntmps176.symm (by decide) (fun x r h=>(yPi x).trans h)
def yeC (a0:dA) (a1:Int):List Int×Bool:=yK a0 a1
def ytX (a0:dA) (a1:Int):Bool:=yO a0.2.1 a1
theorem yNh (a0:dA) (a1:Int) (hk:zi9 yck (a0,a1,())) (hq:ytX a0 a1=true):yiS a0 a1=(fun n=>some ((n.1,n.2,()),())) (yeC a0 a1):=by
  unfold yiS yeC yK yil
  rw [yEt a0 a1 hq]
  simp only [List.nil_append]
  cases h:leb 0 (yw a0.2.2.2.2.2.2.2.2.1 a1)
  · cases a0.2.2.2.2.2.2.2.2.2.2.2<;>rfl
  · have h1:=(yrz (d:=((0,[]):dW)) h).1
    have h2:(nth a0.2.2.2.2.2.2.2.2.1 (yw a0.2.2.2.2.2.2.2.2.1 a1) (0,[])).2.length * 8≤2 ^ 47:=yu3 (P:=fun x:dW=>x.2.length * 8≤2 ^ 47) h1 (fun x hx=>(hk.1.2.2.2.2.2.2.2.2.1.2 x hx).2.1)
    rw [show inb (yw a0.2.2.2.2.2.2.2.2.1 a1) a0.2.2.2.2.2.2.2.2.1.length=true from h1,zkw.2 (show (([]:List Int).length+(nth a0.2.2.2.2.2.2.2.2.1 (yw a0.2.2.2.2.2.2.2.2.1 a1) (0,[])).2.length) * 8≤140737488355328 by rw [List.length_nil]; omega)]; rfl
def yic (a0:dA) (a1:Int):Option (ResD yhQ×MutD yck):=bif ytX a0 a1 then (fun n=>some ((n.1,n.2,()),())) (yeC a0 a1) else none
theorem yzY (a0:dA) (a1:Int) (h:ytX a0 a1=true):yic a0 a1=(fun n=>some ((n.1,n.2,()),())) (yeC a0 a1):=by unfold yic; rw [h]; rfl
def ypy:Con:=⟨yck,yhQ,fun x=>yic x.1 x.2.1⟩
theorem yzX:ConOk Tryz.prog 176 ypy:=(yKy).mono (fun x r hk h=>zkW h (fun hq=>yNh x.1 x.2.1 hk hq))
end
section
def yAE:Code:=(Tryz.f177.body).getD .skip
def yBh:Env:=zki TT [(121,yey),(135,yq)] []
theorem yH0:FrOk Tryz.prog ⟨yBh,16,fun _=>none⟩ yAE:=zkp yc yd ⟨yj9,yu,trivial⟩
def yI3:Nat→Option Seg:=fun _=>none
abbrev yet:List Par:= [.rd tG,.rd tI]
abbrev ymE:List OT:= [⟨false,tI,.fz⟩]
def yiP (a0:dG) (a1:Int):Option (ResD ymE×MutD yet) :=
  let r1:=yf a0
  let r2:=ya a1 0 (IntKind.i64.wrap (r1 - 1))
  bif (!r2) then
    some (((-1),()),())
  else
    bif ((IntKind.i64.wrap (a0.1 - 1)) !=0) then
      some (((IntKind.i64.wrap (a1.tdiv (IntKind.i64.wrap (a0.1 - 1)))),()),())
    else none
theorem yPe (x:InD yet):zjH ⟨yBh,16,yI3⟩ Tryz.f177.results.toList yAE yet ymE x=yiP x.1 x.2.1:=by kernel_rfl
theorem yKu:ConOk Tryz.prog 177 ⟨yet,ymE,fun x=>yiP x.1 x.2.1⟩:=zkh (yH0) Tryz.func177 (by kernel_rfl) (by kernel_rfl) Tryz.ntmps177.symm (by decide) (fun x r h=>(yPe x).trans h)
def ycJ (a0:dG) (a1:Int):Int:=yQ a0 a1
theorem yNd (a0:dG) (a1:Int) (hk:zi9 yet (a0,a1,())):yiP a0 a1=(fun n=>some ((n,()),())) (ycJ a0 a1):=by
  unfold yiP ycJ yQ
  simp only [yOR]
  cases hb:blkOk a0 a1
  · rfl
  · obtain ⟨h1,h2,h3⟩:=ykg hb
    have h4:=yg.1 h1
    rw [wr (show -9223372036854775808≤a0.1 - 1 by omega) (by omega),show (a0.1 - 1 !=0)=true from bne_iff_ne.2 (by omega),wr (by omega) (by omega)]; rfl
def ypv:Con:=⟨yet,ymE,fun x=>(fun n=>some ((n,()),())) (ycJ x.1 x.2.1)⟩
theorem yzU:ConOk Tryz.prog 177 ypv:=(yKu).mono (fun x r hk h=>(yNd x.1 x.2.1 hk).trans h)
end
end
end Go.Tf
