/- Functions of the program, and what they come to. -/
import Derived.Test.YtgmadfpnljibhaaGreatStripesF5
namespace Go.Tf
noncomputable section
open Go.Proofs
set_option synthInstance.maxHeartbeats 400000
set_option synthInstance.maxSize 10000
set_option linter.unusedVariables false
set_option linter.unusedSimpArgs false
set_option maxRecDepth 100000
section
def yHM:Code:=(Tryz.f267.body).getD .skip
def yIi:Env:=zki TT [(135,yx),(272,yrm),(288,yro)] []
theorem yO0:FrOk Tryz.prog ⟨yIi,28,fun _=>none⟩ yHM:=zkp yb yd ⟨yD,yCC,yCE,trivial⟩
def yRw:Nat→Option Seg:=fun _=>none
abbrev yhU:List Par:= [.rd tG,.rd tI,.rd tI]
abbrev yst:List OT:= [⟨false,tI,.fz⟩]
def yoN (a0:dG) (a1 a2:Int):Option (ResD yst×MutD yhU) :=
 let r1:=yfw a0 a1
 bif (!(!r1)) then
 let r2:=ya a2 0 (IntKind.i64.wrap (a0.1 - 2))
 bif (!r2) then
 some (((-1),()),())
 else
 let r3:=ydu a0 a1
 bif (a0.1 !=0) then
 some ((((IntKind.i64.wrap ((IntKind.i64.wrap (r3+1))+a2)).tmod a0.1),()),())
 else none
 else
 some (((-1),()),())
theorem yX6 (x:InD yhU):zjH ⟨yIi,28,yRw⟩ Tryz.f267.results.toList yHM yhU yst x=yoN x.1 x.2.1 x.2.2.1:=by kernel_rfl
theorem yTW:ConOk Tryz.prog 267 ⟨yhU,yst,fun x=>yoN x.1 x.2.1 x.2.2.1⟩:=zkh (yO0) Tryz.func267 (by kernel_rfl) (by kernel_rfl) Tryz.ntmps267.symm (by decide) (fun x r h=>(yX6 x).trans h)
def ynh (a0:dG) (a1 a2:Int):Int:=yao a0 a1 a2
theorem yV2 (a0:dG) (a1 a2:Int) (hk:zi9 yhU (a0,a1,a2,())):yoN a0 a1 a2=(fun n=>some ((n,()),())) (ynh a0 a1 a2):=by
 unfold yoN ynh yao ydu
 rw [yN5]
 cases hs:yI a0 a1
 ·rfl
 ·have h1:=yN.1 hs
  have h2:=yi.1 h1.1
  have h3:=ygz hs
  rw [ycd,wr (show -9223372036854775808≤a0.1 - 2 by omega) (by omega)]
  cases hi:(leb 0 a2&&leb a2 (a0.1 - 2))
  ·rfl
  ·rw [Bool.and_eq_true,zjQ,zjQ]at hi
   rw [show (a0.1 !=0)=true from bne_iff_ne.2 (by omega)]
   show some (((IntKind.i64.wrap (IntKind.i64.wrap (ye a0 a1+1)+a2)).tmod a0.1,()),())=some (((ye a0 a1+1+a2).tmod a0.1,()),())
   rw [wr (show -9223372036854775808≤ye a0 a1+1 by omega) (by omega),wr (show -9223372036854775808≤ye a0 a1+1+a2 by omega) (by omega)]
def yEf:Con:=⟨yhU,yst,fun x=>(fun n=>some ((n,()),())) (ynh x.1 x.2.1 x.2.2.1)⟩
theorem yWN:ConOk Tryz.prog 267 yEf:=(yTW).mono (fun x r hk h=>(yV2 x.1 x.2.1 x.2.2.1 hk).trans h)
end
section
def ymE:Code:=(Tryz.f216.body).getD .skip
def yr7:Env:=zki TT [(206,ys9),(267,yEf)] []
theorem yPh:FrOk Tryz.prog ⟨yr7,41,fun _=>none⟩ ymE:=zkp yb yd ⟨yEF,yWN,trivial⟩
def yDt:Nat→Option Seg:=fun _=>none
def ycp:Shape:=⟨[(1,false,[.int .i64]),(2,false,[.ptr 0 0]),(6,false,[.at 800000000]),(7,false,[.bool]),(8,false,[.at 800000001]),(9,false,[.int .i64])],[(0,[.int .i64,.int .i64,.int .i64,.br tM,.int .i64,.int .i64,.int .i64,.int .i64,.int .i64,.br tW,.int .i64,.bool,.bool])],[(800000000,tI,.fz),(800000001,tI,.fz)]⟩
def yhl:Shape:=⟨[(1,false,[.int .i64]),(2,false,[.ptr 0 0]),(6,false,[.at 800000000]),(7,false,[.bool]),(8,false,[.at 800000001]),(9,false,[.ci .i64 0])],[(0,[.int .i64,.int .i64,.int .i64,.br tM,.int .i64,.int .i64,.int .i64,.int .i64,.int .i64,.br tW,.int .i64,.bool,.bool])],[(800000000,tI,.fz),(800000001,tI,.fz)]⟩
def yha:Shape:=⟨[(7,false,[.bool]),(8,false,[.at 800000000])],[],[(800000000,tI,.fz)]⟩
def yl3:Shape:=⟨[],[],[]⟩
abbrev ygh (v0:Int) (v1:Bool) (v2:Int) (v3:dA) (v4 v5:List Int):(ycp).X:=(((v0,()),((),()),((),()),(v1,()),((),()),(v2,()),()),((v3.1,v3.2.1.1,v3.2.1.2,v3.2.2.1,v3.2.2.2.1,v3.2.2.2.2.1,v3.2.2.2.2.2.1,v3.2.2.2.2.2.2.1,v3.2.2.2.2.2.2.2.1,v3.2.2.2.2.2.2.2.2.1,v3.2.2.2.2.2.2.2.2.2.1,v3.2.2.2.2.2.2.2.2.2.2.1,v3.2.2.2.2.2.2.2.2.2.2.2,()),()),(v4,v5,()))
abbrev yAp (v0:Int) (v1:Bool) (v2:dA) (v3 v4:List Int):(yhl).X:=(((v0,()),((),()),((),()),(v1,()),((),()),((),()),()),((v2.1,v2.2.1.1,v2.2.1.2,v2.2.2.1,v2.2.2.2.1,v2.2.2.2.2.1,v2.2.2.2.2.2.1,v2.2.2.2.2.2.2.1,v2.2.2.2.2.2.2.2.1,v2.2.2.2.2.2.2.2.2.1,v2.2.2.2.2.2.2.2.2.2.1,v2.2.2.2.2.2.2.2.2.2.2.1,v2.2.2.2.2.2.2.2.2.2.2.2,()),()),(v3,v4,()))
abbrev yry (v0:Bool) (v1:List Int):(yha).X:=(((v0,()),((),()),()),(),(v1,()))
def ykp (v0:Int) (v1:Bool) (v2 v3 v4 v5:Int) (v6:List dM) (v7 v8 v9 v10 v11:Int) (v12:List dW) (v13:Int) (v14 v15:Bool) (v16 v17:List Int):Option ((ycp).X ⊕ ((yha).X ⊕ (yl3).X)) :=
 bif (ltb v2 (IntKind.i64.wrap (v4 - 1))) then
 bif v1 then
 let r3:=ynh (v4,v5) v0 v2
 bif (inb r3 v16.length) then
 bif (zj4 v17.length ([(nth v16 r3 0)]:List Int).length 8) then
 some (.inl (((v0,()),((),()),((),()),(v1,()),((),()),((IntKind.i64.wrap (v2+1)),()),()),((v3,v4,v5,v6,v7,v8,v9,v10,v11,v12,v13,v14,v15,()),()),(v16,(v17++([(nth v16 r3 0)]:List Int)),())))
 else none
 else none
 else
 some (.inr (.inl (((v1,()),((),()),()),(),(v17,()))))
 else
 some (.inr (.inl (((v1,()),((),()),()),(),(v17,()))))
def yau (x:(ycp).X):=ykp x.1.1.1 x.1.2.2.2.1.1 x.1.2.2.2.2.2.1.1 x.2.1.1.1 x.2.1.1.2.1 x.2.1.1.2.2.1 x.2.1.1.2.2.2.1 x.2.1.1.2.2.2.2.1 x.2.1.1.2.2.2.2.2.1 x.2.1.1.2.2.2.2.2.2.1 x.2.1.1.2.2.2.2.2.2.2.1 x.2.1.1.2.2.2.2.2.2.2.2.1 x.2.1.1.2.2.2.2.2.2.2.2.2.1 x.2.1.1.2.2.2.2.2.2.2.2.2.2.1 x.2.1.1.2.2.2.2.2.2.2.2.2.2.2.1 x.2.1.1.2.2.2.2.2.2.2.2.2.2.2.2.1 x.2.2.1 x.2.2.2.1
def yz6 (x:(yhl).X):(ycp).X:=(((x.1.1.1,()),((),()),((),()),(x.1.2.2.2.1.1,()),((),()),(0,()),()),((x.2.1.1.1,x.2.1.1.2.1,x.2.1.1.2.2.1,x.2.1.1.2.2.2.1,x.2.1.1.2.2.2.2.1,x.2.1.1.2.2.2.2.2.1,x.2.1.1.2.2.2.2.2.2.1,x.2.1.1.2.2.2.2.2.2.2.1,x.2.1.1.2.2.2.2.2.2.2.2.1,x.2.1.1.2.2.2.2.2.2.2.2.2.1,x.2.1.1.2.2.2.2.2.2.2.2.2.2.1,x.2.1.1.2.2.2.2.2.2.2.2.2.2.2.1,x.2.1.1.2.2.2.2.2.2.2.2.2.2.2.2.1,()),()),(x.2.2.1,x.2.2.2.1,()))
def yBw:Code:=(zdI ymE 64 244).getD .skip
theorem yOu:zdI ymE 64 61=some (.block 0 (.loop yBw)):=by kernel_rfl
theorem yRa (x:(ycp).X):zg7 ⟨yr7,41,yDt⟩ 0 yBw 244 ycp yha yl3 x=yau x:=by kernel_rfl
def yAh (x:(yhl).X):Nat:=18446744073709551616
def ylT (x:(yhl).X):Option ((yha).X ⊕ (yl3).X):=zr yau (yAh x) (yz6 x)
def yAy:Seg:=⟨yhl,yha,yl3,ylT⟩
def yDu:Nat→Option Seg:=fun q=>bif Nat.beq q 61 then some yAy else yDt q
theorem yPi:FrOk Tryz.prog ⟨yr7,41,yDu⟩ ymE:=(yPh).loop (sg:=yAy) ycp yz6 (by decide) yOu yau yAh (by decide) (fun _=>rfl) (fun x r _ h=>h) yRa
abbrev yfC:List Par:= [.rd tA,.rd tI]
abbrev ym5:List OT:= [⟨false,tL,(.ow .fz)⟩,⟨false,tB,.fz⟩]
def yoT (a0:dA) (a1:Int):Option (ResD ym5×MutD yfC) :=
 bnd (ylA a0 a1) fun r1 =>
 zjw (ylT (((a1,()),((),()),((),()),(r1.1.2.1,()),((),()),((),()),()),((a0.1,a0.2.1.1,a0.2.1.2,a0.2.2.1,a0.2.2.2.1,a0.2.2.2.2.1,a0.2.2.2.2.2.1,a0.2.2.2.2.2.2.1,a0.2.2.2.2.2.2.2.1,a0.2.2.2.2.2.2.2.2.1,a0.2.2.2.2.2.2.2.2.2.1,a0.2.2.2.2.2.2.2.2.2.2.1,a0.2.2.2.2.2.2.2.2.2.2.2,()),()),(r1.1.1,([]:List Int),()))) (fun y3 =>
 some ((y3.2.2.1,y3.1.1.1,()),())) (fun y3 =>
 none)
theorem yYi (x:InD yfC):zjH ⟨yr7,41,yDu⟩ Tryz.f216.results.toList ymE yfC ym5 x=yoT x.1 x.2.1:=by kernel_rfl
theorem yT8:ConOk Tryz.prog 216 ⟨yfC,ym5,fun x=>yoT x.1 x.2.1⟩:=zkh (yPi) Tryz.func216 (by kernel_rfl) (by kernel_rfl) Tryz.ntmps216.symm (by decide) (fun x r h=>(yYi x).trans h)
def ysN (a0:dA) (a1:Int):List Int×Bool:=yvp a0 a1
def yy4 (a0:dA) (a1:Int):Bool:=yI a0.2.1 a1
theorem yWb (a0:dA) (a1:Int) (hk:zi9 yfC (a0,a1,())) (hq:yy4 a0 a1=true):yoT a0 a1=(fun n=>some ((n.1,n.2,()),())) (ysN a0 a1):=by
 have hs:yI a0.2.1 a1=true:=hq
 have hg:=yi.1 (yN.1 hs).1
 unfold yoT ysN yvp
 rw [yEJ a0 a1 (yN.1 hs).1,ygN]
 simp only [zky]
 cases hw:(yE a0 a1).2
 ·have h1:ylT (yAp a1 false a0 (yE a0 a1).1 [])=some (.inl (yry false [])) :=
   zjs (step:=yau) (fun i=>ygh a1 false i a0 (yE a0 a1).1 []) 0 _ (fun i hi=>absurd hi (Nat.not_lt_zero _)) (by
    simp only [yau,ygh,ykp,cond_false]
    cases ltb ((0:Nat):Int) (IntKind.i64.wrap (a0.2.1.1 - 1))<;>rfl) _ (by show _ < 18446744073709551616; omega)
  rw [h1]; rfl
 ·have hL:=yLv hw
  have h1:ylT (yAp a1 true a0 (yE a0 a1).1 [])=some (.inl (yry true ((List.range (a0.2.1.1 - 1).toNat).foldl (fun l (i:Nat)=>l++ [nth (yE a0 a1).1 (yao a0.2.1 a1 i) 0]) []))) :=
   zks (step:=yau) (a0.2.1.1 - 1).toNat (fun i s=>ygh a1 true i a0 (yE a0 a1).1 s) (fun l (i:Nat)=>l++ [nth (yE a0 a1).1 (yao a0.2.1 a1 i) 0]) (fun i s=>s.length=i) (fun s=> .inl (yry true s)) (fun i s hi hs2=>⟨by
    have hd:=yLC hs (show (0:Int)≤i by omega) (show (i:Int)≤a0.2.1.1 - 2 by omega)
    simp only [yau,ygh,ykp,wr (show -9223372036854775808≤a0.2.1.1 - 1 by omega) (by omega),zjI (show (i:Int) < a0.2.1.1 - 1 by omega),cond_true,wr (show -9223372036854775808≤(i:Int)+1 by omega) (by omega),Int.natCast_add,Int.natCast_one,Int.toNat_natCast,zkV,ynh,zjP.2 (show 0≤yao a0.2.1 a1 i∧yao a0.2.1 a1 i < (yE a0 a1).1.length by omega)]
    rw [zkw.2 (show (s.length+ [nth (yE a0 a1).1 (yao a0.2.1 a1 i) 0].length) * 8≤140737488355328 by simp only [List.length_cons,List.length_nil]; omega)]; rfl,by simp [hs2]⟩) (fun s hs2=>by simp only [yau,ygh,ykp,wr (show -9223372036854775808≤a0.2.1.1 - 1 by omega) (by omega),zkm (show a0.2.1.1 - 1≤((a0.2.1.1 - 1).toNat:Int) by omega),cond_false]) [] rfl _ (by show _ < 18446744073709551616; omega)
  rw [h1,yqJ]; rfl
def ysP (a0:dA) (a1:Int):Option (ResD ym5×MutD yfC):=bif yy4 a0 a1 then (fun n=>some ((n.1,n.2,()),())) (ysN a0 a1) else none
theorem yW3 (a0:dA) (a1:Int) (h:yy4 a0 a1=true):ysP a0 a1=(fun n=>some ((n.1,n.2,()),())) (ysN a0 a1):=by unfold ysP; rw [h]; rfl
def yEo:Con:=⟨yfC,ym5,fun x=>ysP x.1 x.2.1⟩
theorem yWW:ConOk Tryz.prog 216 yEo:=(yT8).mono (fun x r hk h=>zkW h (fun hq=>yWb x.1 x.2.1 hk hq))
end
section
def yrP:Code:=(Tryz.f243.body).getD .skip
def yxj:Env:=zki TT [] []
theorem yVG:FrOk Tryz.prog ⟨yxj,22,fun _=>none⟩ yrP:=zkp yb yd trivial
def yH1:Nat→Option Seg:=fun _=>none
def yev:Shape:=⟨[(1,false,[.int .i64]),(2,false,[.ptr 0 0]),(5,false,[.int .i64])],[(0,[.int .i64,.int .i64,.int .i64,.br tM,.int .i64,.int .i64,.int .i64,.int .i64,.int .i64,.br tW,.int .i64,.bool,.bool])],[]⟩
def yk1:Shape:=⟨[(1,false,[.int .i64]),(2,false,[.ptr 0 0]),(5,false,[.ci .i64 0])],[(0,[.int .i64,.int .i64,.int .i64,.br tM,.int .i64,.int .i64,.int .i64,.int .i64,.int .i64,.br tW,.int .i64,.bool,.bool])],[]⟩
def ykY:Shape:=⟨[],[],[]⟩
def ylb:Shape:=⟨[(4,false,[.int .i64])],[],[]⟩
abbrev yvE (v0 v1:Int) (v2:dA):(yev).X:=(((v0,()),((),()),(v1,()),()),((v2.1,v2.2.1.1,v2.2.1.2,v2.2.2.1,v2.2.2.2.1,v2.2.2.2.2.1,v2.2.2.2.2.2.1,v2.2.2.2.2.2.2.1,v2.2.2.2.2.2.2.2.1,v2.2.2.2.2.2.2.2.2.1,v2.2.2.2.2.2.2.2.2.2.1,v2.2.2.2.2.2.2.2.2.2.2.1,v2.2.2.2.2.2.2.2.2.2.2.2,()),()),())
abbrev yTf (v0:Int) (v1:dA):(yk1).X:=(((v0,()),((),()),((),()),()),((v1.1,v1.2.1.1,v1.2.1.2,v1.2.2.1,v1.2.2.2.1,v1.2.2.2.2.1,v1.2.2.2.2.2.1,v1.2.2.2.2.2.2.1,v1.2.2.2.2.2.2.2.1,v1.2.2.2.2.2.2.2.2.1,v1.2.2.2.2.2.2.2.2.2.1,v1.2.2.2.2.2.2.2.2.2.2.1,v1.2.2.2.2.2.2.2.2.2.2.2,()),()),())
abbrev yTc  :(ykY).X:=((),(),())
abbrev yEE (v0:Int):(ylb).X:=(((v0,()),()),(),())
def ywc (v0 v1 v2 v3 v4:Int) (v5:List dM) (v6 v7 v8 v9 v10:Int) (v11:List dW) (v12:Int) (v13 v14:Bool):Option ((yev).X ⊕ ((ykY).X ⊕ (ylb).X)) :=
 bif (ltb v1 (v11.length:Int)) then
 bif (inb v1 v11.length) then
 bif ((nth v11 v1 (0,[])).1==v0) then
 some (.inr (.inr (((v1,()),()),(),())))
 else
 some (.inl (((v0,()),((),()),((IntKind.i64.wrap (v1+1)),()),()),((v2,v3,v4,v5,v6,v7,v8,v9,v10,v11,v12,v13,v14,()),()),()))
 else none
 else
 some (.inr (.inl ((),(),())))
def yeH (x:(yev).X):=ywc x.1.1.1 x.1.2.2.1.1 x.2.1.1.1 x.2.1.1.2.1 x.2.1.1.2.2.1 x.2.1.1.2.2.2.1 x.2.1.1.2.2.2.2.1 x.2.1.1.2.2.2.2.2.1 x.2.1.1.2.2.2.2.2.2.1 x.2.1.1.2.2.2.2.2.2.2.1 x.2.1.1.2.2.2.2.2.2.2.2.1 x.2.1.1.2.2.2.2.2.2.2.2.2.1 x.2.1.1.2.2.2.2.2.2.2.2.2.2.1 x.2.1.1.2.2.2.2.2.2.2.2.2.2.2.1 x.2.1.1.2.2.2.2.2.2.2.2.2.2.2.2.1
def yEx (x:(yk1).X):(yev).X:=(((x.1.1.1,()),((),()),(0,()),()),((x.2.1.1.1,x.2.1.1.2.1,x.2.1.1.2.2.1,x.2.1.1.2.2.2.1,x.2.1.1.2.2.2.2.1,x.2.1.1.2.2.2.2.2.1,x.2.1.1.2.2.2.2.2.2.1,x.2.1.1.2.2.2.2.2.2.2.1,x.2.1.1.2.2.2.2.2.2.2.2.1,x.2.1.1.2.2.2.2.2.2.2.2.2.1,x.2.1.1.2.2.2.2.2.2.2.2.2.2.1,x.2.1.1.2.2.2.2.2.2.2.2.2.2.2.1,x.2.1.1.2.2.2.2.2.2.2.2.2.2.2.2.1,()),()),())
def yF3:Code:=(zdI yrP 64 52).getD .skip
theorem yVb:zdI yrP 64 13=some (.block 0 (.loop yF3)):=by kernel_rfl
theorem yW8 (x:(yev).X):zg7 ⟨yxj,22,yH1⟩ 0 yF3 52 yev ykY ylb x=yeH x:=by kernel_rfl
def yEB (x:(yk1).X):Nat:=18446744073709551616
def ywS (x:(yk1).X):Option ((ykY).X ⊕ (ylb).X):=zr yeH (yEB x) (yEx x)
def yEO:Seg:=⟨yk1,ykY,ylb,ywS⟩
def yH2:Nat→Option Seg:=fun q=>bif Nat.beq q 13 then some yEO else yH1 q
theorem yVH:FrOk Tryz.prog ⟨yxj,22,yH2⟩ yrP:=(yVG).loop (sg:=yEO) yev yEx (by decide) yVb yeH yEB (by decide) (fun _=>rfl) (fun x r _ h=>h) yW8
abbrev ynt:List Par:= [.rd tA,.rd tI]
abbrev yxn:List OT:= [⟨false,tI,.fz⟩]
def ysU (a0:dA) (a1:Int):Option (ResD yxn×MutD ynt) :=
 zjw (ywS (((a1,()),((),()),((),()),()),((a0.1,a0.2.1.1,a0.2.1.2,a0.2.2.1,a0.2.2.2.1,a0.2.2.2.2.1,a0.2.2.2.2.2.1,a0.2.2.2.2.2.2.1,a0.2.2.2.2.2.2.2.1,a0.2.2.2.2.2.2.2.2.1,a0.2.2.2.2.2.2.2.2.2.1,a0.2.2.2.2.2.2.2.2.2.2.1,a0.2.2.2.2.2.2.2.2.2.2.2,()),()),())) (fun y0 =>
 some (((-1),()),())) (fun y0 =>
 some ((y0.1.1.1,()),()))
theorem y0u (x:InD ynt):zjH ⟨yxj,22,yH2⟩ Tryz.f243.results.toList yrP ynt yxn x=ysU x.1 x.2.1:=by kernel_rfl
theorem yYT:ConOk Tryz.prog 243 ⟨ynt,yxn,fun x=>ysU x.1 x.2.1⟩:=zkh (yVH) Tryz.func243 (by kernel_rfl) (by kernel_rfl) Tryz.ntmps243.symm (by decide) (fun x r h=>(y0u x).trans h)
def yjD (a0:dA) (a1:Int):Int:=yW a0.2.2.2.2.2.2.2.2.1 a1
theorem yZ7 (a0:dA) (a1:Int) (hk:zi9 ynt (a0,a1,())):ysU a0 a1=(fun n=>some ((n,()),())) (yjD a0 a1):=by
 have hb:a0.2.2.2.2.2.2.2.2.1.length * 32≤2 ^ 47:=hk.1.2.2.2.2.2.2.2.2.1.1
 have h1:ywS (yTf a1 a0)=some (bif leb 0 (yW a0.2.2.2.2.2.2.2.2.1 a1) then .inr (yEE (yW a0.2.2.2.2.2.2.2.2.1 a1)) else .inl yTc) :=
  yXv (step:=yeH) a0.2.2.2.2.2.2.2.2.1 (0,[]) (fun i=>yvE a1 i a0) (fun e:dW=>e.1==a1) (fun i=> .inr (yEE i)) _ (fun i hi=>by
   simp only [yeH,yvE,ywc,zjI (show (i:Int) < a0.2.2.2.2.2.2.2.2.1.length by omega),cond_true,wr (show -9223372036854775808≤(i:Int)+1 by omega) (by omega),Int.natCast_add,Int.natCast_one,Int.toNat_natCast,zkO hi,zjW]
   cases ((a0.2.2.2.2.2.2.2.2.1.getD i (0,[])).1==a1)<;>rfl) (by simp only [yeH,yvE,ywc,zkm (Int.le_refl _),cond_false]) _ (by show _ < 18446744073709551616; omega)
 unfold ysU yjD
 rw [h1]
 cases h:leb 0 (yW a0.2.2.2.2.2.2.2.2.1 a1)
 ·rw [show yW a0.2.2.2.2.2.2.2.2.1 a1= -1 from yVI h]; rfl
 ·rfl
def yyT:Con:=⟨ynt,yxn,fun x=>(fun n=>some ((n,()),())) (yjD x.1 x.2.1)⟩
theorem yLg:ConOk Tryz.prog 243 yyT:=(yYT).mono (fun x r hk h=>(yZ7 x.1 x.2.1 hk).trans h)
end
section
def yDi:Code:=(Tryz.f176.body).getD .skip
def yDP:Env:=zki TT [(216,yEo),(243,yyT)] []
theorem yKy:FrOk Tryz.prog ⟨yDP,28,fun _=>none⟩ yDi:=zkp yb yd ⟨yWW,yLg,trivial⟩
def yLV:Nat→Option Seg:=fun _=>none
abbrev yc5:List Par:= [.rd tA,.rd tI]
abbrev yi0:List OT:= [⟨false,tL,(.ow .fz)⟩,⟨false,tB,.fz⟩]
def yko (a0:dA) (a1:Int):Option (ResD yi0×MutD yc5) :=
 let r1:=yjD a0 a1
 bif (leb 0 r1) then
 bif (inb r1 a0.2.2.2.2.2.2.2.2.1.length) then
 bif (zj4 ([]:List Int).length ((nth a0.2.2.2.2.2.2.2.2.1 r1 (0,[])).2).length 8) then
 some (((([]:List Int)++((nth a0.2.2.2.2.2.2.2.2.1 r1 (0,[])).2)),true,()),())
 else none
 else none
 else
 bif a0.2.2.2.2.2.2.2.2.2.2.2 then
 some ((([]:List Int),false,()),())
 else
 bnd (ysP a0 a1) fun r2 =>
 some ((r2.1.1,r2.1.2.1,()),())
theorem ySn (x:InD yc5):zjH ⟨yDP,28,yLV⟩ Tryz.f176.results.toList yDi yc5 yi0 x=yko x.1 x.2.1:=by kernel_rfl
theorem yNw:ConOk Tryz.prog 176 ⟨yc5,yi0,fun x=>yko x.1 x.2.1⟩:=zkh (yKy) Tryz.func176 (by kernel_rfl) (by kernel_rfl) Tryz.ntmps176.symm (by decide) (fun x r h=>(ySn x).trans h)
def yjm (a0:dA) (a1:Int):List Int×Bool:=ybk a0 a1
def yvO (a0:dA) (a1:Int):Bool:=yI a0.2.1 a1
theorem yQp (a0:dA) (a1:Int) (hk:zi9 yc5 (a0,a1,())) (hq:yvO a0 a1=true):yko a0 a1=(fun n=>some ((n.1,n.2,()),())) (yjm a0 a1):=by
 unfold yko yjm ybk yjD
 rw [yW3 a0 a1 hq]
 simp only [List.nil_append]
 cases h:leb 0 (yW a0.2.2.2.2.2.2.2.2.1 a1)
 ·cases a0.2.2.2.2.2.2.2.2.2.2.2<;>rfl
 ·have h1:=(yte (d:=((0,[]):dW)) h).1
  have h2:(nth a0.2.2.2.2.2.2.2.2.1 (yW a0.2.2.2.2.2.2.2.2.1 a1) (0,[])).2.length * 8≤2 ^ 47:=yub (P:=fun x:dW=>x.2.length * 8≤2 ^ 47) h1 (fun x hx=>(hk.1.2.2.2.2.2.2.2.2.1.2 x hx).2.1)
  rw [show inb (yW a0.2.2.2.2.2.2.2.2.1 a1) a0.2.2.2.2.2.2.2.2.1.length=true from h1,zkw.2 (show (([]:List Int).length+(nth a0.2.2.2.2.2.2.2.2.1 (yW a0.2.2.2.2.2.2.2.2.1 a1) (0,[])).2.length) * 8≤140737488355328 by rw [List.length_nil]; omega)]; rfl
def yoF (a0:dA) (a1:Int):Option (ResD yi0×MutD yc5):=bif yvO a0 a1 then (fun n=>some ((n.1,n.2,()),())) (yjm a0 a1) else none
theorem yQ2 (a0:dA) (a1:Int) (h:yvO a0 a1=true):yoF a0 a1=(fun n=>some ((n.1,n.2,()),())) (yjm a0 a1):=by unfold yoF; rw [h]; rfl
def yzY:Con:=⟨yc5,yi0,fun x=>yoF x.1 x.2.1⟩
theorem yQZ:ConOk Tryz.prog 176 yzY:=(yNw).mono (fun x r hk h=>zkW h (fun hq=>yQp x.1 x.2.1 hk hq))
end
section
def yDe:Code:=(Tryz.f177.body).getD .skip
def yDL:Env:=zki TT [(121,yox),(135,yx)] []
theorem yKu:FrOk Tryz.prog ⟨yDL,16,fun _=>none⟩ yDe:=zkp yb yd ⟨yw0,yD,trivial⟩
def yLR:Nat→Option Seg:=fun _=>none
abbrev yfo:List Par:= [.rd tG,.rd tI]
abbrev yok:List OT:= [⟨false,tI,.fz⟩]
def ykl (a0:dG) (a1:Int):Option (ResD yok×MutD yfo) :=
 let r1:=yv a0
 let r2:=ya a1 0 (IntKind.i64.wrap (r1 - 1))
 bif (!r2) then
 some (((-1),()),())
 else
 bif ((IntKind.i64.wrap (a0.1 - 1)) !=0) then
 some (((IntKind.i64.wrap (a1.tdiv (IntKind.i64.wrap (a0.1 - 1)))),()),())
 else none
theorem ySj (x:InD yfo):zjH ⟨yDL,16,yLR⟩ Tryz.f177.results.toList yDe yfo yok x=ykl x.1 x.2.1:=by kernel_rfl
theorem yNs:ConOk Tryz.prog 177 ⟨yfo,yok,fun x=>ykl x.1 x.2.1⟩:=zkh (yKu) Tryz.func177 (by kernel_rfl) (by kernel_rfl) Tryz.ntmps177.symm (by decide) (fun x r h=>(ySj x).trans h)
def yjk (a0:dG) (a1:Int):Int:=ybO a0 a1
theorem yQl (a0:dG) (a1:Int) (hk:zi9 yfo (a0,a1,())):ykl a0 a1=(fun n=>some ((n,()),())) (yjk a0 a1):=by
 unfold ykl yjk ybO
 simp only [y1w]
 cases hb:blkOk a0 a1
 ·rfl
 ·obtain ⟨h1,h2,h3⟩:=yDS hb
  have h4:=yi.1 h1
  rw [wr (show -9223372036854775808≤a0.1 - 1 by omega) (by omega),show (a0.1 - 1 !=0)=true from bne_iff_ne.2 (by omega),wr (by omega) (by omega)]; rfl
def yzV:Con:=⟨yfo,yok,fun x=>(fun n=>some ((n,()),())) (yjk x.1 x.2.1)⟩
theorem yQW:ConOk Tryz.prog 177 yzV:=(yNs).mono (fun x r hk h=>(yQl x.1 x.2.1 hk).trans h)
end
section
def yFe:Code:=(Tryz.f178.body).getD .skip
def yFQ:Env:=zki TT [(121,yox),(135,yx)] []
theorem yMz:FrOk Tryz.prog ⟨yFQ,16,fun _=>none⟩ yFe:=zkp yb yd ⟨yw0,yD,trivial⟩
def yOe:Nat→Option Seg:=fun _=>none
abbrev ygG:List Par:= [.rd tG,.rd tI]
abbrev yqy:List OT:= [⟨false,tI,.fz⟩]
def ymm (a0:dG) (a1:Int):Option (ResD yqy×MutD ygG) :=
 let r1:=yv a0
 let r2:=ya a1 0 (IntKind.i64.wrap (r1 - 1))
 bif (!r2) then
 some (((-1),()),())
 else
 bif ((IntKind.i64.wrap (a0.1 - 1)) !=0) then
 some (((a1.tmod (IntKind.i64.wrap (a0.1 - 1))),()),())
 else none
theorem yVq (x:InD ygG):zjH ⟨yFQ,16,yOe⟩ Tryz.f178.results.toList yFe ygG yqy x=ymm x.1 x.2.1:=by kernel_rfl
theorem yQC:ConOk Tryz.prog 178 ⟨ygG,yqy,fun x=>ymm x.1 x.2.1⟩:=zkh (yMz) Tryz.func178 (by kernel_rfl) (by kernel_rfl) Tryz.ntmps178.symm (by decide) (fun x r h=>(yVq x).trans h)
def ylp (a0:dG) (a1:Int):Int:=yt7 a0 a1
theorem yTu (a0:dG) (a1:Int) (hk:zi9 ygG (a0,a1,())):ymm a0 a1=(fun n=>some ((n,()),())) (ylp a0 a1):=by
 unfold ymm ylp yt7
 simp only [y1w]
 cases hb:blkOk a0 a1
 ·rfl
 ·obtain ⟨h1,h2,h3⟩:=yDS hb
  have h4:=yi.1 h1
  rw [wr (show -9223372036854775808≤a0.1 - 1 by omega) (by omega),show (a0.1 - 1 !=0)=true from bne_iff_ne.2 (by omega)]; rfl
def yBK:Con:=⟨ygG,yqy,fun x=>(fun n=>some ((n,()),())) (ylp x.1 x.2.1)⟩
theorem yUs:ConOk Tryz.prog 178 yBK:=(yQC).mono (fun x r hk h=>(yTu x.1 x.2.1 hk).trans h)
end
end
end Go.Tf
