/- Functions of the program, and what they come to. -/
import Derived.Test.YtgmadfpnljibhaaGreatExactFlushAllF12
namespace Go.Tf
noncomputable section
open Go.Proofs
set_option synthInstance.maxHeartbeats 400000
set_option synthInstance.maxSize 10000
set_option linter.unusedVariables false
set_option linter.unusedSimpArgs false
set_option maxRecDepth 100000
section
def yJm:Code:=(Tryz.f267.body).getD .skip
def yJL:Env:=zki TT [(135,yn),(272,yr7),(288,yr8)] []
theorem yQX:FrOk Tryz.prog ⟨yJL,28,fun _=>none⟩ yJm:=zkp yb yc ⟨yr,yEB,yEC,trivial⟩
def yTs:Nat→Option Seg:=fun _=>none
abbrev yhK:List Par:= [.rd tG,.rd tI,.rd tI]
abbrev ytq:List OT:= [⟨false,tI,.fz⟩]
def ypo (a0:dG) (a1 a2:Int):Option (ResD ytq×MutD yhK) :=
 let r1:=yfj a0 a1
 bif (!(!r1)) then
 let r2:=ya a2 0 (IntKind.i64.wrap (a0.1 - 2))
 bif (!r2) then
 some (((-1),()),())
 else
 let r3:=ydd a0 a1
 bif (a0.1 !=0) then
 some ((((IntKind.i64.wrap ((IntKind.i64.wrap (r3+1))+a2)).tmod a0.1),()),())
 else none
 else
 some (((-1),()),())
theorem y0z (x:InD yhK):zjH ⟨yJL,28,yTs⟩ Tryz.f267.results.toList yJm yhK ytq x=ypo x.1 x.2.1 x.2.2.1:=by kernel_rfl
theorem yV7:ConOk Tryz.prog 267 ⟨yhK,ytq,fun x=>ypo x.1 x.2.1 x.2.2.1⟩:=zkh (yQX) Tryz.func267 (by kernel_rfl) (by kernel_rfl) Tryz.ntmps267.symm (by decide) (fun x r h=>(y0z x).trans h)
def ynz (a0:dG) (a1 a2:Int):Int:=yeK a0 a1 a2
theorem yYt (a0:dG) (a1 a2:Int) (hk:zi9 yhK (a0,a1,a2,())):ypo a0 a1 a2=(fun n=>some ((n,()),())) (ynz a0 a1 a2):=by
 unfold ypo ynz yeK ydd
 rw [yPQ]
 cases hs:yK a0 a1
 ·rfl
 ·have h1:=ycv.1 hs
  have h2:=yo.1 h1.1
  have h3:=yqA hs
  rw [yff,wr (show -9223372036854775808≤a0.1 - 2 by omega) (by omega)]
  cases hi:(leb 0 a2&&leb a2 (a0.1 - 2))
  ·rfl
  ·rw [Bool.and_eq_true,zjQ,zjQ]at hi
   rw [show (a0.1 !=0)=true from bne_iff_ne.2 (by omega)]
   show some (((IntKind.i64.wrap (IntKind.i64.wrap (yg a0 a1+1)+a2)).tmod a0.1,()),())=some (((yg a0 a1+1+a2).tmod a0.1,()),())
   rw [wr (show -9223372036854775808≤yg a0 a1+1 by omega) (by omega),wr (show -9223372036854775808≤yg a0 a1+1+a2 by omega) (by omega)]
def yGq:Con:=⟨yhK,ytq,fun x=>(fun n=>some ((n,()),())) (ynz x.1 x.2.1 x.2.2.1)⟩
theorem yZv:ConOk Tryz.prog 267 yGq:=(yV7).mono (fun x r hk h=>(yYt x.1 x.2.1 x.2.2.1 hk).trans h)
end
section
def ym0:Code:=(Tryz.f216.body).getD .skip
def ysY:Env:=zki TT [(206,yDL),(267,yGq)] []
theorem yQ8:FrOk Tryz.prog ⟨ysY,41,fun _=>none⟩ ym0:=zkp yb yc ⟨yWB,yZv,trivial⟩
def yFA:Nat→Option Seg:=fun _=>none
def yca:Shape:=⟨[(1,false,[.int .i64]),(2,false,[.ptr 0 0]),(6,false,[.at 800000000]),(7,false,[.bool]),(8,false,[.at 800000001]),(9,false,[.int .i64])],[(0,[.int .i64,.int .i64,.int .i64,.br tM,.int .i64,.int .i64,.int .i64,.int .i64,.int .i64,.br tW,.int .i64,.bool,.bool])],[(800000000,tI,.fz),(800000001,tI,.fz)]⟩
def ygT:Shape:=⟨[(1,false,[.int .i64]),(2,false,[.ptr 0 0]),(6,false,[.at 800000000]),(7,false,[.bool]),(8,false,[.at 800000001]),(9,false,[.ci .i64 0])],[(0,[.int .i64,.int .i64,.int .i64,.br tM,.int .i64,.int .i64,.int .i64,.int .i64,.int .i64,.br tW,.int .i64,.bool,.bool])],[(800000000,tI,.fz),(800000001,tI,.fz)]⟩
def ygM:Shape:=⟨[(7,false,[.bool]),(8,false,[.at 800000000])],[],[(800000000,tI,.fz)]⟩
def ymk:Shape:=⟨[],[],[]⟩
abbrev yf4 (v0:Int) (v1:Bool) (v2:Int) (v3:dA) (v4 v5:List Int):(yca).X:=(((v0,()),((),()),((),()),(v1,()),((),()),(v2,()),()),((v3.1,v3.2.1.1,v3.2.1.2,v3.2.2.1,v3.2.2.2.1,v3.2.2.2.2.1,v3.2.2.2.2.2.1,v3.2.2.2.2.2.2.1,v3.2.2.2.2.2.2.2.1,v3.2.2.2.2.2.2.2.2.1,v3.2.2.2.2.2.2.2.2.2.1,v3.2.2.2.2.2.2.2.2.2.2.1,v3.2.2.2.2.2.2.2.2.2.2.2,()),()),(v4,v5,()))
abbrev yCc (v0:Int) (v1:Bool) (v2:dA) (v3 v4:List Int):(ygT).X:=(((v0,()),((),()),((),()),(v1,()),((),()),((),()),()),((v2.1,v2.2.1.1,v2.2.1.2,v2.2.2.1,v2.2.2.2.1,v2.2.2.2.2.1,v2.2.2.2.2.2.1,v2.2.2.2.2.2.2.1,v2.2.2.2.2.2.2.2.1,v2.2.2.2.2.2.2.2.2.1,v2.2.2.2.2.2.2.2.2.2.1,v2.2.2.2.2.2.2.2.2.2.2.1,v2.2.2.2.2.2.2.2.2.2.2.2,()),()),(v3,v4,()))
abbrev ysg (v0:Bool) (v1:List Int):(ygM).X:=(((v0,()),((),()),()),(),(v1,()))
def ykx (v0:Int) (v1:Bool) (v2 v3 v4 v5:Int) (v6:List dM) (v7 v8 v9 v10 v11:Int) (v12:List dW) (v13:Int) (v14 v15:Bool) (v16 v17:List Int):Option ((yca).X ⊕ ((ygM).X ⊕ (ymk).X)) :=
 bif (ltb v2 (IntKind.i64.wrap (v4 - 1))) then
 bif v1 then
 let r3:=ynz (v4,v5) v0 v2
 bif (inb r3 v16.length) then
 bif (zj4 v17.length ([(nth v16 r3 0)]:List Int).length 8) then
 some (.inl (((v0,()),((),()),((),()),(v1,()),((),()),((IntKind.i64.wrap (v2+1)),()),()),((v3,v4,v5,v6,v7,v8,v9,v10,v11,v12,v13,v14,v15,()),()),(v16,(v17++([(nth v16 r3 0)]:List Int)),())))
 else none
 else none
 else
 some (.inr (.inl (((v1,()),((),()),()),(),(v17,()))))
 else
 some (.inr (.inl (((v1,()),((),()),()),(),(v17,()))))
def yaf (x:(yca).X):=ykx x.1.1.1 x.1.2.2.2.1.1 x.1.2.2.2.2.2.1.1 x.2.1.1.1 x.2.1.1.2.1 x.2.1.1.2.2.1 x.2.1.1.2.2.2.1 x.2.1.1.2.2.2.2.1 x.2.1.1.2.2.2.2.2.1 x.2.1.1.2.2.2.2.2.2.1 x.2.1.1.2.2.2.2.2.2.2.1 x.2.1.1.2.2.2.2.2.2.2.2.1 x.2.1.1.2.2.2.2.2.2.2.2.2.1 x.2.1.1.2.2.2.2.2.2.2.2.2.2.1 x.2.1.1.2.2.2.2.2.2.2.2.2.2.2.1 x.2.1.1.2.2.2.2.2.2.2.2.2.2.2.2.1 x.2.2.1 x.2.2.2.1
def yBR (x:(ygT).X):(yca).X:=(((x.1.1.1,()),((),()),((),()),(x.1.2.2.2.1.1,()),((),()),(0,()),()),((x.2.1.1.1,x.2.1.1.2.1,x.2.1.1.2.2.1,x.2.1.1.2.2.2.1,x.2.1.1.2.2.2.2.1,x.2.1.1.2.2.2.2.2.1,x.2.1.1.2.2.2.2.2.2.1,x.2.1.1.2.2.2.2.2.2.2.1,x.2.1.1.2.2.2.2.2.2.2.2.1,x.2.1.1.2.2.2.2.2.2.2.2.2.1,x.2.1.1.2.2.2.2.2.2.2.2.2.2.1,x.2.1.1.2.2.2.2.2.2.2.2.2.2.2.1,x.2.1.1.2.2.2.2.2.2.2.2.2.2.2.2.1,()),()),(x.2.2.1,x.2.2.2.1,()))
def yDt:Code:=(zdI ym0 64 244).getD .skip
theorem yQg:zdI ym0 64 61=some (.block 0 (.loop yDt)):=by kernel_rfl
theorem yS6 (x:(yca).X):zg7 ⟨ysY,41,yFA⟩ 0 yDt 244 yca ygM ymk x=yaf x:=by kernel_rfl
def yB6 (x:(ygT).X):Nat:=18446744073709551616
def ylO (x:(ygT).X):Option ((ygM).X ⊕ (ymk).X):=zr yaf (yB6 x) (yBR x)
def yCp:Seg:=⟨ygT,ygM,ymk,ylO⟩
def yFB:Nat→Option Seg:=fun q=>bif Nat.beq q 61 then some yCp else yFA q
theorem yQ9:FrOk Tryz.prog ⟨ysY,41,yFB⟩ ym0:=(yQ8).loop (sg:=yCp) yca yBR (by decide) yQg yaf yB6 (by decide) (fun _=>rfl) (fun x r _ h=>h) yS6
abbrev yfo:List Par:= [.rd tA,.rd tI]
abbrev ynl:List OT:= [⟨false,tL,(.ow .fz)⟩,⟨false,tB,.fz⟩]
def ypt (a0:dA) (a1:Int):Option (ResD ynl×MutD yfo) :=
 bnd (yrw a0 a1) fun r1 =>
 zjw (ylO (((a1,()),((),()),((),()),(r1.1.2.1,()),((),()),((),()),()),((a0.1,a0.2.1.1,a0.2.1.2,a0.2.2.1,a0.2.2.2.1,a0.2.2.2.2.1,a0.2.2.2.2.2.1,a0.2.2.2.2.2.2.1,a0.2.2.2.2.2.2.2.1,a0.2.2.2.2.2.2.2.2.1,a0.2.2.2.2.2.2.2.2.2.1,a0.2.2.2.2.2.2.2.2.2.2.1,a0.2.2.2.2.2.2.2.2.2.2.2,()),()),(r1.1.1,([]:List Int),()))) (fun y3 =>
 some ((y3.2.2.1,y3.1.1.1,()),())) (fun y3 =>
 none)
theorem y0G (x:InD yfo):zjH ⟨ysY,41,yFB⟩ Tryz.f216.results.toList ym0 yfo ynl x=ypt x.1 x.2.1:=by kernel_rfl
theorem yWe:ConOk Tryz.prog 216 ⟨yfo,ynl,fun x=>ypt x.1 x.2.1⟩:=zkh (yQ9) Tryz.func216 (by kernel_rfl) (by kernel_rfl) Tryz.ntmps216.symm (by decide) (fun x r h=>(y0G x).trans h)
def ytG (a0:dA) (a1:Int):List Int×Bool:=yIG a0 a1
def yAw (a0:dA) (a1:Int):Bool:=yK a0.2.1 a1
theorem yYA (a0:dA) (a1:Int) (hk:zi9 yfo (a0,a1,())) (hq:yAw a0 a1=true):ypt a0 a1=(fun n=>some ((n.1,n.2,()),())) (ytG a0 a1):=by
 have hs:yK a0.2.1 a1=true:=hq
 have hg:=yo.1 (ycv.1 hs).1
 unfold ypt ytG yIG
 rw [yWG a0 a1 (ycv.1 hs).1,ylx]
 simp only [zky]
 cases hw:(yhw a0 a1).2
 ·have h1:ylO (yCc a1 false a0 (yhw a0 a1).1 [])=some (.inl (ysg false [])) :=
   zjs (step:=yaf) (fun i=>yf4 a1 false i a0 (yhw a0 a1).1 []) 0 _ (fun i hi=>absurd hi (Nat.not_lt_zero _)) (by
    simp only [yaf,yf4,ykx,cond_false]
    cases ltb ((0:Nat):Int) (IntKind.i64.wrap (a0.2.1.1 - 1))<;>rfl) _ (by show _ < 18446744073709551616; omega)
  rw [h1]; rfl
 ·have hL:=y4b hw
  have h1:ylO (yCc a1 true a0 (yhw a0 a1).1 [])=some (.inl (ysg true ((List.range (a0.2.1.1 - 1).toNat).foldl (fun l (i:Nat)=>l++ [nth (yhw a0 a1).1 (yeK a0.2.1 a1 i) 0]) []))) :=
   zks (step:=yaf) (a0.2.1.1 - 1).toNat (fun i s=>yf4 a1 true i a0 (yhw a0 a1).1 s) (fun l (i:Nat)=>l++ [nth (yhw a0 a1).1 (yeK a0.2.1 a1 i) 0]) (fun i s=>s.length=i) (fun s=> .inl (ysg true s)) (fun i s hi hs2=>⟨by
    have hd:=y3s hs (show (0:Int)≤i by omega) (show (i:Int)≤a0.2.1.1 - 2 by omega)
    simp only [yaf,yf4,ykx,wr (show -9223372036854775808≤a0.2.1.1 - 1 by omega) (by omega),zjI (show (i:Int) < a0.2.1.1 - 1 by omega),cond_true,wr (show -9223372036854775808≤(i:Int)+1 by omega) (by omega),Int.natCast_add,Int.natCast_one,Int.toNat_natCast,zkV,ynz,zjP.2 (show 0≤yeK a0.2.1 a1 i∧yeK a0.2.1 a1 i < (yhw a0 a1).1.length by omega)]
    rw [zkw.2 (show (s.length+ [nth (yhw a0 a1).1 (yeK a0.2.1 a1 i) 0].length) * 8≤140737488355328 by simp only [List.length_cons,List.length_nil]; omega)]; rfl,by simp [hs2]⟩) (fun s hs2=>by simp only [yaf,yf4,ykx,wr (show -9223372036854775808≤a0.2.1.1 - 1 by omega) (by omega),zkm (show a0.2.1.1 - 1≤((a0.2.1.1 - 1).toNat:Int) by omega),cond_false]) [] rfl _ (by show _ < 18446744073709551616; omega)
  rw [h1,yII]; rfl
def ytJ (a0:dA) (a1:Int):Option (ResD ynl×MutD yfo):=bif yAw a0 a1 then (fun n=>some ((n.1,n.2,()),())) (ytG a0 a1) else none
theorem yZH (a0:dA) (a1:Int) (h:yAw a0 a1=true):ytJ a0 a1=(fun n=>some ((n.1,n.2,()),())) (ytG a0 a1):=by unfold ytJ; rw [h]; rfl
def yGu:Con:=⟨yfo,ynl,fun x=>ytJ x.1 x.2.1⟩
theorem yZz:ConOk Tryz.prog 216 yGu:=(yWe).mono (fun x r hk h=>zkW h (fun hq=>yYA x.1 x.2.1 hk hq))
end
section
def ysB:Code:=(Tryz.f243.body).getD .skip
def yyB:Env:=zki TT [] []
theorem yX1:FrOk Tryz.prog ⟨yyB,22,fun _=>none⟩ ysB:=zkp yb yc trivial
def yJu:Nat→Option Seg:=fun _=>none
def yef:Shape:=⟨[(1,false,[.int .i64]),(2,false,[.ptr 0 0]),(5,false,[.int .i64])],[(0,[.int .i64,.int .i64,.int .i64,.br tM,.int .i64,.int .i64,.int .i64,.int .i64,.int .i64,.br tW,.int .i64,.bool,.bool])],[]⟩
def yk9:Shape:=⟨[(1,false,[.int .i64]),(2,false,[.ptr 0 0]),(5,false,[.ci .i64 0])],[(0,[.int .i64,.int .i64,.int .i64,.br tM,.int .i64,.int .i64,.int .i64,.int .i64,.int .i64,.br tW,.int .i64,.bool,.bool])],[]⟩
def yk7:Shape:=⟨[],[],[]⟩
def ylg:Shape:=⟨[(4,false,[.int .i64])],[],[]⟩
abbrev ywp (v0 v1:Int) (v2:dA):(yef).X:=(((v0,()),((),()),(v1,()),()),((v2.1,v2.2.1.1,v2.2.1.2,v2.2.2.1,v2.2.2.2.1,v2.2.2.2.2.1,v2.2.2.2.2.2.1,v2.2.2.2.2.2.2.1,v2.2.2.2.2.2.2.2.1,v2.2.2.2.2.2.2.2.2.1,v2.2.2.2.2.2.2.2.2.2.1,v2.2.2.2.2.2.2.2.2.2.2.1,v2.2.2.2.2.2.2.2.2.2.2.2,()),()),())
abbrev yVg (v0:Int) (v1:dA):(yk9).X:=(((v0,()),((),()),((),()),()),((v1.1,v1.2.1.1,v1.2.1.2,v1.2.2.1,v1.2.2.2.1,v1.2.2.2.2.1,v1.2.2.2.2.2.1,v1.2.2.2.2.2.2.1,v1.2.2.2.2.2.2.2.1,v1.2.2.2.2.2.2.2.2.1,v1.2.2.2.2.2.2.2.2.2.1,v1.2.2.2.2.2.2.2.2.2.2.1,v1.2.2.2.2.2.2.2.2.2.2.2,()),()),())
abbrev yVe  :(yk7).X:=((),(),())
abbrev yGI (v0:Int):(ylg).X:=(((v0,()),()),(),())
def yw1 (v0 v1 v2 v3 v4:Int) (v5:List dM) (v6 v7 v8 v9 v10:Int) (v11:List dW) (v12:Int) (v13 v14:Bool):Option ((yef).X ⊕ ((yk7).X ⊕ (ylg).X)) :=
 bif (ltb v1 (v11.length:Int)) then
 bif (inb v1 v11.length) then
 bif ((nth v11 v1 (0,[])).1==v0) then
 some (.inr (.inr (((v1,()),()),(),())))
 else
 some (.inl (((v0,()),((),()),((IntKind.i64.wrap (v1+1)),()),()),((v2,v3,v4,v5,v6,v7,v8,v9,v10,v11,v12,v13,v14,()),()),()))
 else none
 else
 some (.inr (.inl ((),(),())))
def yel (x:(yef).X):=yw1 x.1.1.1 x.1.2.2.1.1 x.2.1.1.1 x.2.1.1.2.1 x.2.1.1.2.2.1 x.2.1.1.2.2.2.1 x.2.1.1.2.2.2.2.1 x.2.1.1.2.2.2.2.2.1 x.2.1.1.2.2.2.2.2.2.1 x.2.1.1.2.2.2.2.2.2.2.1 x.2.1.1.2.2.2.2.2.2.2.2.1 x.2.1.1.2.2.2.2.2.2.2.2.2.1 x.2.1.1.2.2.2.2.2.2.2.2.2.2.1 x.2.1.1.2.2.2.2.2.2.2.2.2.2.2.1 x.2.1.1.2.2.2.2.2.2.2.2.2.2.2.2.1
def yGD (x:(yk9).X):(yef).X:=(((x.1.1.1,()),((),()),(0,()),()),((x.2.1.1.1,x.2.1.1.2.1,x.2.1.1.2.2.1,x.2.1.1.2.2.2.1,x.2.1.1.2.2.2.2.1,x.2.1.1.2.2.2.2.2.1,x.2.1.1.2.2.2.2.2.2.1,x.2.1.1.2.2.2.2.2.2.2.1,x.2.1.1.2.2.2.2.2.2.2.2.1,x.2.1.1.2.2.2.2.2.2.2.2.2.1,x.2.1.1.2.2.2.2.2.2.2.2.2.2.1,x.2.1.1.2.2.2.2.2.2.2.2.2.2.2.1,x.2.1.1.2.2.2.2.2.2.2.2.2.2.2.2.1,()),()),())
def yHN:Code:=(zdI ysB 64 52).getD .skip
theorem yXq:zdI ysB 64 13=some (.block 0 (.loop yHN)):=by kernel_rfl
theorem yZL (x:(yef).X):zg7 ⟨yyB,22,yJu⟩ 0 yHN 52 yef yk7 ylg x=yel x:=by kernel_rfl
def yGH (x:(yk9).X):Nat:=18446744073709551616
def yxW (x:(yk9).X):Option ((yk7).X ⊕ (ylg).X):=zr yel (yGH x) (yGD x)
def yGP:Seg:=⟨yk9,yk7,ylg,yxW⟩
def yJv:Nat→Option Seg:=fun q=>bif Nat.beq q 13 then some yGP else yJu q
theorem yX2:FrOk Tryz.prog ⟨yyB,22,yJv⟩ ysB:=(yX1).loop (sg:=yGP) yef yGD (by decide) yXq yel yGH (by decide) (fun _=>rfl) (fun x r _ h=>h) yZL
abbrev ynH:List Par:= [.rd tA,.rd tI]
abbrev yyH:List OT:= [⟨false,tI,.fz⟩]
def ytO (a0:dA) (a1:Int):Option (ResD yyH×MutD ynH) :=
 zjw (yxW (((a1,()),((),()),((),()),()),((a0.1,a0.2.1.1,a0.2.1.2,a0.2.2.1,a0.2.2.2.1,a0.2.2.2.2.1,a0.2.2.2.2.2.1,a0.2.2.2.2.2.2.1,a0.2.2.2.2.2.2.2.1,a0.2.2.2.2.2.2.2.2.1,a0.2.2.2.2.2.2.2.2.2.1,a0.2.2.2.2.2.2.2.2.2.2.1,a0.2.2.2.2.2.2.2.2.2.2.2,()),()),())) (fun y0 =>
 some (((-1),()),())) (fun y0 =>
 some ((y0.1.1.1,()),()))
theorem y3e (x:InD ynH):zjH ⟨yyB,22,yJv⟩ Tryz.f243.results.toList ysB ynH yyH x=ytO x.1 x.2.1:=by kernel_rfl
theorem y1u:ConOk Tryz.prog 243 ⟨ynH,yyH,fun x=>ytO x.1 x.2.1⟩:=zkh (yX2) Tryz.func243 (by kernel_rfl) (by kernel_rfl) Tryz.ntmps243.symm (by decide) (fun x r h=>(y3e x).trans h)
def yjD (a0:dA) (a1:Int):Int:=ym a0.2.2.2.2.2.2.2.2.1 a1
theorem y2V (a0:dA) (a1:Int) (hk:zi9 ynH (a0,a1,())):ytO a0 a1=(fun n=>some ((n,()),())) (yjD a0 a1):=by
 have hb:a0.2.2.2.2.2.2.2.2.1.length * 32≤2 ^ 47:=hk.1.2.2.2.2.2.2.2.2.1.1
 have h1:yxW (yVg a1 a0)=some (bif leb 0 (ym a0.2.2.2.2.2.2.2.2.1 a1) then .inr (yGI (ym a0.2.2.2.2.2.2.2.2.1 a1)) else .inl yVe) :=
  yMv (step:=yel) a0.2.2.2.2.2.2.2.2.1 (0,[]) (fun i=>ywp a1 i a0) (fun e:dW=>e.1==a1) (fun i=> .inr (yGI i)) _ (fun i hi=>by
   simp only [yel,ywp,yw1,zjI (show (i:Int) < a0.2.2.2.2.2.2.2.2.1.length by omega),cond_true,wr (show -9223372036854775808≤(i:Int)+1 by omega) (by omega),Int.natCast_add,Int.natCast_one,Int.toNat_natCast,zkO hi,zjW]
   cases ((a0.2.2.2.2.2.2.2.2.1.getD i (0,[])).1==a1)<;>rfl) (by simp only [yel,ywp,yw1,zkm (Int.le_refl _),cond_false]) _ (by show _ < 18446744073709551616; omega)
 unfold ytO yjD
 rw [h1]
 cases h:leb 0 (ym a0.2.2.2.2.2.2.2.2.1 a1)
 ·rw [show ym a0.2.2.2.2.2.2.2.2.1 a1= -1 from yNr h]; rfl
 ·rfl
def yAk:Con:=⟨ynH,yyH,fun x=>(fun n=>some ((n,()),())) (yjD x.1 x.2.1)⟩
theorem yM8:ConOk Tryz.prog 243 yAk:=(y1u).mono (fun x r hk h=>(y2V x.1 x.2.1 hk).trans h)
end
section
def yFf:Code:=(Tryz.f176.body).getD .skip
def yFU:Env:=zki TT [(216,yGu),(243,yAk)] []
theorem yMs:FrOk Tryz.prog ⟨yFU,28,fun _=>none⟩ yFf:=zkp yb yc ⟨yZz,yM8,trivial⟩
def yNE:Nat→Option Seg:=fun _=>none
abbrev ycP:List Par:= [.rd tA,.rd tI]
abbrev yiX:List OT:= [⟨false,tL,(.ow .fz)⟩,⟨false,tB,.fz⟩]
def ykw (a0:dA) (a1:Int):Option (ResD yiX×MutD ycP) :=
 let r1:=yjD a0 a1
 bif (leb 0 r1) then
 bif (inb r1 a0.2.2.2.2.2.2.2.2.1.length) then
 bif (zj4 ([]:List Int).length ((nth a0.2.2.2.2.2.2.2.2.1 r1 (0,[])).2).length 8) then
 some (((([]:List Int)++((nth a0.2.2.2.2.2.2.2.2.1 r1 (0,[])).2)),true,()),())
 else none
 else none
 else
 bif a0.2.2.2.2.2.2.2.2.2.2.2 then
 some ((([]:List Int),false,()),())
 else
 bnd (ytJ a0 a1) fun r2 =>
 some ((r2.1.1,r2.1.2.1,()),())
theorem yUh (x:InD ycP):zjH ⟨yFU,28,yNE⟩ Tryz.f176.results.toList yFf ycP yiX x=ykw x.1 x.2.1:=by kernel_rfl
theorem yPf:ConOk Tryz.prog 176 ⟨ycP,yiX,fun x=>ykw x.1 x.2.1⟩:=zkh (yMs) Tryz.func176 (by kernel_rfl) (by kernel_rfl) Tryz.ntmps176.symm (by decide) (fun x r h=>(yUh x).trans h)
def yjs (a0:dA) (a1:Int):List Int×Bool:=yeT a0 a1
def ywF (a0:dA) (a1:Int):Bool:=yK a0.2.1 a1
theorem ySb (a0:dA) (a1:Int) (hk:zi9 ycP (a0,a1,())) (hq:ywF a0 a1=true):ykw a0 a1=(fun n=>some ((n.1,n.2,()),())) (yjs a0 a1):=by
 unfold ykw yjs yeT yjD
 rw [yZH a0 a1 hq]
 simp only [List.nil_append]
 cases h:leb 0 (ym a0.2.2.2.2.2.2.2.2.1 a1)
 ·cases a0.2.2.2.2.2.2.2.2.2.2.2<;>rfl
 ·have h1:=(yua (d:=((0,[]):dW)) h).1
  have h2:(nth a0.2.2.2.2.2.2.2.2.1 (ym a0.2.2.2.2.2.2.2.2.1 a1) (0,[])).2.length * 8≤2 ^ 47:=yYJ (P:=fun x:dW=>x.2.length * 8≤2 ^ 47) h1 (fun x hx=>(hk.1.2.2.2.2.2.2.2.2.1.2 x hx).2.1)
  rw [show inb (ym a0.2.2.2.2.2.2.2.2.1 a1) a0.2.2.2.2.2.2.2.2.1.length=true from h1,zkw.2 (show (([]:List Int).length+(nth a0.2.2.2.2.2.2.2.2.1 (ym a0.2.2.2.2.2.2.2.2.1 a1) (0,[])).2.length) * 8≤140737488355328 by rw [List.length_nil]; omega)]; rfl
def ypb (a0:dA) (a1:Int):Option (ResD yiX×MutD ycP):=bif ywF a0 a1 then (fun n=>some ((n.1,n.2,()),())) (yjs a0 a1) else none
theorem ySR (a0:dA) (a1:Int) (h:ywF a0 a1=true):ypb a0 a1=(fun n=>some ((n.1,n.2,()),())) (yjs a0 a1):=by unfold ypb; rw [h]; rfl
def yBE:Con:=⟨ycP,yiX,fun x=>ypb x.1 x.2.1⟩
theorem ySP:ConOk Tryz.prog 176 yBE:=(yPf).mono (fun x r hk h=>zkW h (fun hq=>ySb x.1 x.2.1 hk hq))
end
section
def yFc:Code:=(Tryz.f177.body).getD .skip
def yFR:Env:=zki TT [(121,yv7),(135,yn)] []
theorem yMp:FrOk Tryz.prog ⟨yFR,16,fun _=>none⟩ yFc:=zkp yb yc ⟨yIs,yr,trivial⟩
def yNB:Nat→Option Seg:=fun _=>none
abbrev ye9:List Par:= [.rd tG,.rd tI]
abbrev yoQ:List OT:= [⟨false,tI,.fz⟩]
def yku (a0:dG) (a1:Int):Option (ResD yoQ×MutD ye9) :=
 let r1:=yP a0
 let r2:=ya a1 0 (IntKind.i64.wrap (r1 - 1))
 bif (!r2) then
 some (((-1),()),())
 else
 bif ((IntKind.i64.wrap (a0.1 - 1)) !=0) then
 some (((IntKind.i64.wrap (a1.tdiv (IntKind.i64.wrap (a0.1 - 1)))),()),())
 else none
theorem yUe (x:InD ye9):zjH ⟨yFR,16,yNB⟩ Tryz.f177.results.toList yFc ye9 yoQ x=yku x.1 x.2.1:=by kernel_rfl
theorem yPc:ConOk Tryz.prog 177 ⟨ye9,yoQ,fun x=>yku x.1 x.2.1⟩:=zkh (yMp) Tryz.func177 (by kernel_rfl) (by kernel_rfl) Tryz.ntmps177.symm (by decide) (fun x r h=>(yUe x).trans h)
def yjq (a0:dG) (a1:Int):Int:=yfB a0 a1
theorem yR8 (a0:dG) (a1:Int) (hk:zi9 ye9 (a0,a1,())):yku a0 a1=(fun n=>some ((n,()),())) (yjq a0 a1):=by
 unfold yku yjq yfB
 simp only [y3O]
 cases hb:ytC a0 a1
 ·rfl
 ·obtain ⟨h1,h2,h3⟩:=yFW hb
  have h4:=yo.1 h1
  rw [wr (show -9223372036854775808≤a0.1 - 1 by omega) (by omega),show (a0.1 - 1 !=0)=true from bne_iff_ne.2 (by omega),wr (by omega) (by omega)]; rfl
def yBC:Con:=⟨ye9,yoQ,fun x=>(fun n=>some ((n,()),())) (yjq x.1 x.2.1)⟩
theorem ySN:ConOk Tryz.prog 177 yBC:=(yPc).mono (fun x r hk h=>(yR8 x.1 x.2.1 hk).trans h)
end
section
def yG7:Code:=(Tryz.f178.body).getD .skip
def yHG:Env:=zki TT [(121,yv7),(135,yn)] []
theorem yOo:FrOk Tryz.prog ⟨yHG,16,fun _=>none⟩ yG7:=zkp yb yc ⟨yIs,yr,trivial⟩
def yPY:Nat→Option Seg:=fun _=>none
abbrev ygu:List Par:= [.rd tG,.rd tI]
abbrev yrh:List OT:= [⟨false,tI,.fz⟩]
def ymH (a0:dG) (a1:Int):Option (ResD yrh×MutD ygu) :=
 let r1:=yP a0
 let r2:=ya a1 0 (IntKind.i64.wrap (r1 - 1))
 bif (!r2) then
 some (((-1),()),())
 else
 bif ((IntKind.i64.wrap (a0.1 - 1)) !=0) then
 some (((a1.tmod (IntKind.i64.wrap (a0.1 - 1))),()),())
 else none
theorem yXL (x:InD ygu):zjH ⟨yHG,16,yPY⟩ Tryz.f178.results.toList yG7 ygu yrh x=ymH x.1 x.2.1:=by kernel_rfl
theorem ySr:ConOk Tryz.prog 178 ⟨ygu,yrh,fun x=>ymH x.1 x.2.1⟩:=zkh (yOo) Tryz.func178 (by kernel_rfl) (by kernel_rfl) Tryz.ntmps178.symm (by decide) (fun x r h=>(yXL x).trans h)
def ylt (a0:dG) (a1:Int):Int:=yuX a0 a1
theorem yVB (a0:dG) (a1:Int) (hk:zi9 ygu (a0,a1,())):ymH a0 a1=(fun n=>some ((n,()),())) (ylt a0 a1):=by
 unfold ymH ylt yuX
 simp only [y3O]
 cases hb:ytC a0 a1
 ·rfl
 ·obtain ⟨h1,h2,h3⟩:=yFW hb
  have h4:=yo.1 h1
  rw [wr (show -9223372036854775808≤a0.1 - 1 by omega) (by omega),show (a0.1 - 1 !=0)=true from bne_iff_ne.2 (by omega)]; rfl
def yDH:Con:=⟨ygu,yrh,fun x=>(fun n=>some ((n,()),())) (ylt x.1 x.2.1)⟩
theorem yWx:ConOk Tryz.prog 178 yDH:=(ySr).mono (fun x r hk h=>(yVB x.1 x.2.1 hk).trans h)
end
end
end Go.Tf
