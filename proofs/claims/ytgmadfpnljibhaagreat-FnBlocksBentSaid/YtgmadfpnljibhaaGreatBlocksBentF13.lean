/- Functions of the program, and what they come to. -/
import Derived.Test.YtgmadfpnljibhaaGreatBlocksBentF12
namespace Go.Tf
noncomputable section
open Go.Proofs
set_option synthInstance.maxHeartbeats 400000
set_option synthInstance.maxSize 10000
set_option linter.unusedVariables false
set_option linter.unusedSimpArgs false
set_option maxRecDepth 100000
section
def yLc:Code:=(Tryz.f267.body).getD .skip
def yLJ:Env:=zj3 TT [(135,yn),(272,ytf),(288,ytk)] []
theorem yTn:FrOk Tryz.prog ⟨yLJ,28,fun _=>none⟩ yLc:=zj7 yb yc ⟨yu,yFn,yFs,trivial⟩
def yV8:Nat→Option Seg:=fun _=>none
abbrev yiY:List Par:= [.rd tG,.rd tI,.rd tI]
abbrev yuu:List OT:= [⟨false,tI,.fz⟩]
def yqt (a0:dG) (a1 a2:Int):Option (ResD yuu×MutD yiY) :=
 let r1:=ygb a0 a1
 bif (!(!r1)) then
 let r2:=ya a2 0 (IntKind.i64.wrap (a0.1 - 2))
 bif (!r2) then
 some (((-1),()),())
 else
 let r3:=ydW a0 a1
 bif (a0.1 !=0) then
 some ((((IntKind.i64.wrap ((IntKind.i64.wrap (r3+1))+a2)).tmod a0.1),()),())
 else none
 else
 some (((-1),()),())
theorem y3e (x:InD yiY):zjx ⟨yLJ,28,yV8⟩ Tryz.f267.results.toList yLc yiY yuu x=yqt x.1 x.2.1 x.2.2.1:=by kernel_rfl
theorem yYU:ConOk Tryz.prog 267 ⟨yiY,yuu,fun x=>yqt x.1 x.2.1 x.2.2.1⟩:=zj2 (yTn) Tryz.func267 (by kernel_rfl) (by kernel_rfl) Tryz.ntmps267.symm (by decide) (fun x r h=>(y3e x).trans h)
def yoI (a0:dG) (a1 a2:Int):Int:=ybR a0 a1 a2
theorem y08 (a0:dG) (a1 a2:Int) (hk:zi2 yiY (a0,a1,a2,())):yqt a0 a1 a2=(fun n=>some ((n,()),())) (yoI a0 a1 a2):=by
 unfold yqt yoI ybR ydW
 rw [ySm]
 cases hs:yP a0 a1
 ·rfl
 ·have h1:=yca.1 hs
  have h2:=yk.1 h1.1
  have h3:=yrL hs
  rw [ybE,wr (show -9223372036854775808≤a0.1 - 2 by omega) (by omega)]
  cases hi:(leb 0 a2&&leb a2 (a0.1 - 2))
  ·rfl
  ·rw [Bool.and_eq_true,zjE,zjE]at hi
   rw [show (a0.1 !=0)=true from bne_iff_ne.2 (by omega)]
   show some (((IntKind.i64.wrap (IntKind.i64.wrap (yh a0 a1+1)+a2)).tmod a0.1,()),())=some (((yh a0 a1+1+a2).tmod a0.1,()),())
   rw [wr (show -9223372036854775808≤yh a0 a1+1 by omega) (by omega),wr (show -9223372036854775808≤yh a0 a1+1+a2 by omega) (by omega)]
def yHo:Con:=⟨yiY,yuu,fun x=>(fun n=>some ((n,()),())) (yoI x.1 x.2.1 x.2.2.1)⟩
theorem y16:ConOk Tryz.prog 267 yHo:=(yYU).mono (fun x r hk h=>(y08 x.1 x.2.1 x.2.2.1 hk).trans h)
end
section
def ynV:Code:=(Tryz.f216.body).getD .skip
def yt7:Env:=zj3 TT [(206,yvk),(267,yHo)] []
theorem yTG:FrOk Tryz.prog ⟨yt7,41,fun _=>none⟩ ynV:=zj7 yb yc ⟨yHM,y16,trivial⟩
def yGw:Nat→Option Seg:=fun _=>none
def ycN:Shape:=⟨[(1,false,[.int .i64]),(2,false,[.ptr 0 0]),(6,false,[.at 800000000]),(7,false,[.bool]),(8,false,[.at 800000001]),(9,false,[.int .i64])],[(0,[.int .i64,.int .i64,.int .i64,.br tM,.int .i64,.int .i64,.int .i64,.int .i64,.int .i64,.br tW,.int .i64,.bool,.bool])],[(800000000,tI,.fz),(800000001,tI,.fz)]⟩
def yib:Shape:=⟨[(1,false,[.int .i64]),(2,false,[.ptr 0 0]),(6,false,[.at 800000000]),(7,false,[.bool]),(8,false,[.at 800000001]),(9,false,[.ci .i64 0])],[(0,[.int .i64,.int .i64,.int .i64,.br tM,.int .i64,.int .i64,.int .i64,.int .i64,.int .i64,.br tW,.int .i64,.bool,.bool])],[(800000000,tI,.fz),(800000001,tI,.fz)]⟩
def yhZ:Shape:=⟨[(7,false,[.bool]),(8,false,[.at 800000000])],[],[(800000000,tI,.fz)]⟩
def ynf:Shape:=⟨[],[],[]⟩
abbrev yg3 (v0:Int) (v1:Bool) (v2:Int) (v3:dA) (v4 v5:List Int):(ycN).X:=(((v0,()),((),()),((),()),(v1,()),((),()),(v2,()),()),((v3.1,v3.2.1.1,v3.2.1.2,v3.2.2.1,v3.2.2.2.1,v3.2.2.2.2.1,v3.2.2.2.2.2.1,v3.2.2.2.2.2.2.1,v3.2.2.2.2.2.2.2.1,v3.2.2.2.2.2.2.2.2.1,v3.2.2.2.2.2.2.2.2.2.1,v3.2.2.2.2.2.2.2.2.2.2.1,v3.2.2.2.2.2.2.2.2.2.2.2,()),()),(v4,v5,()))
abbrev yC9 (v0:Int) (v1:Bool) (v2:dA) (v3 v4:List Int):(yib).X:=(((v0,()),((),()),((),()),(v1,()),((),()),((),()),()),((v2.1,v2.2.1.1,v2.2.1.2,v2.2.2.1,v2.2.2.2.1,v2.2.2.2.2.1,v2.2.2.2.2.2.1,v2.2.2.2.2.2.2.1,v2.2.2.2.2.2.2.2.1,v2.2.2.2.2.2.2.2.2.1,v2.2.2.2.2.2.2.2.2.2.1,v2.2.2.2.2.2.2.2.2.2.2.1,v2.2.2.2.2.2.2.2.2.2.2.2,()),()),(v3,v4,()))
abbrev ytv (v0:Bool) (v1:List Int):(yhZ).X:=(((v0,()),((),()),()),(),(v1,()))
def ylC (v0:Int) (v1:Bool) (v2 v3 v4 v5:Int) (v6:List dM) (v7 v8 v9 v10 v11:Int) (v12:List dW) (v13:Int) (v14 v15:Bool) (v16 v17:List Int):Option ((ycN).X ⊕ ((yhZ).X ⊕ (ynf).X)) :=
 bif (ltb v2 (IntKind.i64.wrap (v4 - 1))) then
 bif v1 then
 let r3:=yoI (v4,v5) v0 v2
 bif (inb r3 v16.length) then
 bif (zjR v17.length ([(nth v16 r3 0)]:List Int).length 8) then
 some (.inl (((v0,()),((),()),((),()),(v1,()),((),()),((IntKind.i64.wrap (v2+1)),()),()),((v3,v4,v5,v6,v7,v8,v9,v10,v11,v12,v13,v14,v15,()),()),(v16,(v17++([(nth v16 r3 0)]:List Int)),())))
 else none
 else none
 else
 some (.inr (.inl (((v1,()),((),()),()),(),(v17,()))))
 else
 some (.inr (.inl (((v1,()),((),()),()),(),(v17,()))))
def yav (x:(ycN).X):=ylC x.1.1.1 x.1.2.2.2.1.1 x.1.2.2.2.2.2.1.1 x.2.1.1.1 x.2.1.1.2.1 x.2.1.1.2.2.1 x.2.1.1.2.2.2.1 x.2.1.1.2.2.2.2.1 x.2.1.1.2.2.2.2.2.1 x.2.1.1.2.2.2.2.2.2.1 x.2.1.1.2.2.2.2.2.2.2.1 x.2.1.1.2.2.2.2.2.2.2.2.1 x.2.1.1.2.2.2.2.2.2.2.2.2.1 x.2.1.1.2.2.2.2.2.2.2.2.2.2.1 x.2.1.1.2.2.2.2.2.2.2.2.2.2.2.1 x.2.1.1.2.2.2.2.2.2.2.2.2.2.2.2.1 x.2.2.1 x.2.2.2.1
def yCP (x:(yib).X):(ycN).X:=(((x.1.1.1,()),((),()),((),()),(x.1.2.2.2.1.1,()),((),()),(0,()),()),((x.2.1.1.1,x.2.1.1.2.1,x.2.1.1.2.2.1,x.2.1.1.2.2.2.1,x.2.1.1.2.2.2.2.1,x.2.1.1.2.2.2.2.2.1,x.2.1.1.2.2.2.2.2.2.1,x.2.1.1.2.2.2.2.2.2.2.1,x.2.1.1.2.2.2.2.2.2.2.2.1,x.2.1.1.2.2.2.2.2.2.2.2.2.1,x.2.1.1.2.2.2.2.2.2.2.2.2.2.1,x.2.1.1.2.2.2.2.2.2.2.2.2.2.2.1,x.2.1.1.2.2.2.2.2.2.2.2.2.2.2.2.1,()),()),(x.2.2.1,x.2.2.2.1,()))
def yEj:Code:=(zdD ynV 64 244).getD .skip
theorem ySO:zdD ynV 64 61=some (.block 0 (.loop yEj)):=by kernel_rfl
theorem yVI (x:(ycN).X):zg0 ⟨yt7,41,yGw⟩ 0 yEj 244 ycN yhZ ynf x=yav x:=by kernel_rfl
def yC1 (x:(yib).X):Nat:=18446744073709551616
def ym4 (x:(yib).X):Option ((yhZ).X ⊕ (ynf).X):=zz yav (yC1 x) (yCP x)
def yDj:Seg:=⟨yib,yhZ,ynf,ym4⟩
def yGx:Nat→Option Seg:=fun q=>bif Nat.beq q 61 then some yDj else yGw q
theorem yTH:FrOk Tryz.prog ⟨yt7,41,yGx⟩ ynV:=(yTG).loop (sg:=yDj) ycN yCP (by decide) ySO yav yC1 (by decide) (fun _=>rfl) (fun x r _ h=>h) yVI
abbrev ygl:List Par:= [.rd tA,.rd tI]
abbrev yoq:List OT:= [⟨false,tL,(.ow .fz)⟩,⟨false,tB,.fz⟩]
def yqz (a0:dA) (a1:Int):Option (ResD yoq×MutD ygl) :=
 bnd (ymO a0 a1) fun r1 =>
 zjZ (ym4 (((a1,()),((),()),((),()),(r1.1.2.1,()),((),()),((),()),()),((a0.1,a0.2.1.1,a0.2.1.2,a0.2.2.1,a0.2.2.2.1,a0.2.2.2.2.1,a0.2.2.2.2.2.1,a0.2.2.2.2.2.2.1,a0.2.2.2.2.2.2.2.1,a0.2.2.2.2.2.2.2.2.1,a0.2.2.2.2.2.2.2.2.2.1,a0.2.2.2.2.2.2.2.2.2.2.1,a0.2.2.2.2.2.2.2.2.2.2.2,()),()),(r1.1.1,([]:List Int),()))) (fun y3 =>
 some ((y3.2.2.1,y3.1.1.1,()),())) (fun y3 =>
 none)
theorem y3r (x:InD ygl):zjx ⟨yt7,41,yGx⟩ Tryz.f216.results.toList ynV ygl yoq x=yqz x.1 x.2.1:=by kernel_rfl
theorem yY7:ConOk Tryz.prog 216 ⟨ygl,yoq,fun x=>yqz x.1 x.2.1⟩:=zj2 (yTH) Tryz.func216 (by kernel_rfl) (by kernel_rfl) Tryz.ntmps216.symm (by decide) (fun x r h=>(y3r x).trans h)
def yuR (a0:dA) (a1:Int):List Int×Bool:=yHA a0 a1
def yBH (a0:dA) (a1:Int):Bool:=yP a0.2.1 a1
theorem y1h (a0:dA) (a1:Int) (hk:zi2 ygl (a0,a1,())) (hq:yBH a0 a1=true):yqz a0 a1=(fun n=>some ((n.1,n.2,()),())) (yuR a0 a1):=by
 have hs:yP a0.2.1 a1=true:=hq
 have hg:=yk.1 (yca.1 hs).1
 unfold yqz yuR yHA
 rw [yHP a0 a1 (yca.1 hs).1,yhA]
 simp only [zkd]
 cases hw:(yal a0 a1).2
 ·have h1:ym4 (yC9 a1 false a0 (yal a0 a1).1 [])=some (.inl (ytv false [])) :=
   zkg (step:=yav) (fun i=>yg3 a1 false i a0 (yal a0 a1).1 []) 0 _ (fun i hi=>absurd hi (Nat.not_lt_zero _)) (by
    simp only [yav,yg3,ylC,cond_false]
    cases ltb ((0:Nat):Int) (IntKind.i64.wrap (a0.2.1.1 - 1))<;>rfl) _ (by show _ < 18446744073709551616; omega)
  rw [h1]; rfl
 ·have hL:=yPF hw
  have h1:ym4 (yC9 a1 true a0 (yal a0 a1).1 [])=some (.inl (ytv true ((List.range (a0.2.1.1 - 1).toNat).foldl (fun l (i:Nat)=>l++ [nth (yal a0 a1).1 (ybR a0.2.1 a1 i) 0]) []))) :=
   zj9 (step:=yav) (a0.2.1.1 - 1).toNat (fun i s=>yg3 a1 true i a0 (yal a0 a1).1 s) (fun l (i:Nat)=>l++ [nth (yal a0 a1).1 (ybR a0.2.1 a1 i) 0]) (fun i s=>s.length=i) (fun s=> .inl (ytv true s)) (fun i s hi hs2=>⟨by
    have hd:=y0g hs (show (0:Int)≤i by omega) (show (i:Int)≤a0.2.1.1 - 2 by omega)
    simp only [yav,yg3,ylC,wr (show -9223372036854775808≤a0.2.1.1 - 1 by omega) (by omega),zj5 (show (i:Int) < a0.2.1.1 - 1 by omega),cond_true,wr (show -9223372036854775808≤(i:Int)+1 by omega) (by omega),Int.natCast_add,Int.natCast_one,Int.toNat_natCast,zks,yoI,zjD.2 (show 0≤ybR a0.2.1 a1 i∧ybR a0.2.1 a1 i < (yal a0 a1).1.length by omega)]
    rw [zkb.2 (show (s.length+ [nth (yal a0 a1).1 (ybR a0.2.1 a1 i) 0].length) * 8≤140737488355328 by simp only [List.length_cons,List.length_nil]; omega)]; rfl,by simp [hs2]⟩) (fun s hs2=>by simp only [yav,yg3,ylC,wr (show -9223372036854775808≤a0.2.1.1 - 1 by omega) (by omega),zky (show a0.2.1.1 - 1≤((a0.2.1.1 - 1).toNat:Int) by omega),cond_false]) [] rfl _ (by show _ < 18446744073709551616; omega)
  rw [h1,yDr]; rfl
def yuU (a0:dA) (a1:Int):Option (ResD yoq×MutD ygl):=bif yBH a0 a1 then (fun n=>some ((n.1,n.2,()),())) (yuR a0 a1) else none
theorem y2m (a0:dA) (a1:Int) (h:yBH a0 a1=true):yuU a0 a1=(fun n=>some ((n.1,n.2,()),())) (yuR a0 a1):=by unfold yuU; rw [h]; rfl
def yHt:Con:=⟨ygl,yoq,fun x=>yuU x.1 x.2.1⟩
theorem y2d:ConOk Tryz.prog 216 yHt:=(yY7).mono (fun x r hk h=>zkt h (fun hq=>y1h x.1 x.2.1 hk hq))
end
section
def ytP:Code:=(Tryz.f243.body).getD .skip
def yz1:Env:=zj3 TT [] []
theorem y0L:FrOk Tryz.prog ⟨yz1,22,fun _=>none⟩ ytP:=zj7 yb yc trivial
def yLr:Nat→Option Seg:=fun _=>none
def ye3:Shape:=⟨[(1,false,[.int .i64]),(2,false,[.ptr 0 0]),(5,false,[.int .i64])],[(0,[.int .i64,.int .i64,.int .i64,.br tM,.int .i64,.int .i64,.int .i64,.int .i64,.int .i64,.br tW,.int .i64,.bool,.bool])],[]⟩
def ymd:Shape:=⟨[(1,false,[.int .i64]),(2,false,[.ptr 0 0]),(5,false,[.ci .i64 0])],[(0,[.int .i64,.int .i64,.int .i64,.br tM,.int .i64,.int .i64,.int .i64,.int .i64,.int .i64,.br tW,.int .i64,.bool,.bool])],[]⟩
def ymb:Shape:=⟨[],[],[]⟩
def ymm:Shape:=⟨[(4,false,[.int .i64])],[],[]⟩
abbrev yxV (v0 v1:Int) (v2:dA):(ye3).X:=(((v0,()),((),()),(v1,()),()),((v2.1,v2.2.1.1,v2.2.1.2,v2.2.2.1,v2.2.2.2.1,v2.2.2.2.2.1,v2.2.2.2.2.2.1,v2.2.2.2.2.2.2.1,v2.2.2.2.2.2.2.2.1,v2.2.2.2.2.2.2.2.2.1,v2.2.2.2.2.2.2.2.2.2.1,v2.2.2.2.2.2.2.2.2.2.2.1,v2.2.2.2.2.2.2.2.2.2.2.2,()),()),())
abbrev yYd (v0:Int) (v1:dA):(ymd).X:=(((v0,()),((),()),((),()),()),((v1.1,v1.2.1.1,v1.2.1.2,v1.2.2.1,v1.2.2.2.1,v1.2.2.2.2.1,v1.2.2.2.2.2.1,v1.2.2.2.2.2.2.1,v1.2.2.2.2.2.2.2.1,v1.2.2.2.2.2.2.2.2.1,v1.2.2.2.2.2.2.2.2.2.1,v1.2.2.2.2.2.2.2.2.2.2.1,v1.2.2.2.2.2.2.2.2.2.2.2,()),()),())
abbrev yYb  :(ymb).X:=((),(),())
abbrev yHH (v0:Int):(ymm).X:=(((v0,()),()),(),())
def yyx (v0 v1 v2 v3 v4:Int) (v5:List dM) (v6 v7 v8 v9 v10:Int) (v11:List dW) (v12:Int) (v13 v14:Bool):Option ((ye3).X ⊕ ((ymb).X ⊕ (ymm).X)) :=
 bif (ltb v1 (v11.length:Int)) then
 bif (inb v1 v11.length) then
 bif ((nth v11 v1 (0,[])).1==v0) then
 some (.inr (.inr (((v1,()),()),(),())))
 else
 some (.inl (((v0,()),((),()),((IntKind.i64.wrap (v1+1)),()),()),((v2,v3,v4,v5,v6,v7,v8,v9,v10,v11,v12,v13,v14,()),()),()))
 else none
 else
 some (.inr (.inl ((),(),())))
def yfb (x:(ye3).X):=yyx x.1.1.1 x.1.2.2.1.1 x.2.1.1.1 x.2.1.1.2.1 x.2.1.1.2.2.1 x.2.1.1.2.2.2.1 x.2.1.1.2.2.2.2.1 x.2.1.1.2.2.2.2.2.1 x.2.1.1.2.2.2.2.2.2.1 x.2.1.1.2.2.2.2.2.2.2.1 x.2.1.1.2.2.2.2.2.2.2.2.1 x.2.1.1.2.2.2.2.2.2.2.2.2.1 x.2.1.1.2.2.2.2.2.2.2.2.2.2.1 x.2.1.1.2.2.2.2.2.2.2.2.2.2.2.1 x.2.1.1.2.2.2.2.2.2.2.2.2.2.2.2.1
def yHC (x:(ymd).X):(ye3).X:=(((x.1.1.1,()),((),()),(0,()),()),((x.2.1.1.1,x.2.1.1.2.1,x.2.1.1.2.2.1,x.2.1.1.2.2.2.1,x.2.1.1.2.2.2.2.1,x.2.1.1.2.2.2.2.2.1,x.2.1.1.2.2.2.2.2.2.1,x.2.1.1.2.2.2.2.2.2.2.1,x.2.1.1.2.2.2.2.2.2.2.2.1,x.2.1.1.2.2.2.2.2.2.2.2.2.1,x.2.1.1.2.2.2.2.2.2.2.2.2.2.1,x.2.1.1.2.2.2.2.2.2.2.2.2.2.2.1,x.2.1.1.2.2.2.2.2.2.2.2.2.2.2.2.1,()),()),())
def yJg:Code:=(zdD ytP 64 52).getD .skip
theorem y0d:zdD ytP 64 13=some (.block 0 (.loop yJg)):=by kernel_rfl
theorem y2r (x:(ye3).X):zg0 ⟨yz1,22,yLr⟩ 0 yJg 52 ye3 ymb ymm x=yfb x:=by kernel_rfl
def yHF (x:(ymd).X):Nat:=18446744073709551616
def yzt (x:(ymd).X):Option ((ymb).X ⊕ (ymm).X):=zz yfb (yHF x) (yHC x)
def yHR:Seg:=⟨ymd,ymb,ymm,yzt⟩
def yLs:Nat→Option Seg:=fun q=>bif Nat.beq q 13 then some yHR else yLr q
theorem y0M:FrOk Tryz.prog ⟨yz1,22,yLs⟩ ytP:=(y0L).loop (sg:=yHR) ye3 yHC (by decide) y0d yfb yHF (by decide) (fun _=>rfl) (fun x r _ h=>h) y2r
abbrev yoU:List Par:= [.rd tA,.rd tI]
abbrev yz4:List OT:= [⟨false,tI,.fz⟩]
def yu1 (a0:dA) (a1:Int):Option (ResD yz4×MutD yoU) :=
 zjZ (yzt (((a1,()),((),()),((),()),()),((a0.1,a0.2.1.1,a0.2.1.2,a0.2.2.1,a0.2.2.2.1,a0.2.2.2.2.1,a0.2.2.2.2.2.1,a0.2.2.2.2.2.2.1,a0.2.2.2.2.2.2.2.1,a0.2.2.2.2.2.2.2.2.1,a0.2.2.2.2.2.2.2.2.2.1,a0.2.2.2.2.2.2.2.2.2.2.1,a0.2.2.2.2.2.2.2.2.2.2.2,()),()),())) (fun y0 =>
 some (((-1),()),())) (fun y0 =>
 some ((y0.1.1.1,()),()))
theorem y5r (x:InD yoU):zjx ⟨yz1,22,yLs⟩ Tryz.f243.results.toList ytP yoU yz4 x=yu1 x.1 x.2.1:=by kernel_rfl
theorem y34:ConOk Tryz.prog 243 ⟨yoU,yz4,fun x=>yu1 x.1 x.2.1⟩:=zj2 (y0M) Tryz.func243 (by kernel_rfl) (by kernel_rfl) Tryz.ntmps243.symm (by decide) (fun x r h=>(y5r x).trans h)
def ykO (a0:dA) (a1:Int):Int:=yo a0.2.2.2.2.2.2.2.2.1 a1
theorem y47 (a0:dA) (a1:Int) (hk:zi2 yoU (a0,a1,())):yu1 a0 a1=(fun n=>some ((n,()),())) (ykO a0 a1):=by
 have hb:a0.2.2.2.2.2.2.2.2.1.length * 32≤2 ^ 47:=hk.1.2.2.2.2.2.2.2.2.1.1
 have h1:yzt (yYd a1 a0)=some (bif leb 0 (yo a0.2.2.2.2.2.2.2.2.1 a1) then .inr (yHH (yo a0.2.2.2.2.2.2.2.2.1 a1)) else .inl yYb) :=
  yHG (step:=yfb) a0.2.2.2.2.2.2.2.2.1 (0,[]) (fun i=>yxV a1 i a0) (fun e:dW=>e.1==a1) (fun i=> .inr (yHH i)) _ (fun i hi=>by
   simp only [yfb,yxV,yyx,zj5 (show (i:Int) < a0.2.2.2.2.2.2.2.2.1.length by omega),cond_true,wr (show -9223372036854775808≤(i:Int)+1 by omega) (by omega),Int.natCast_add,Int.natCast_one,Int.toNat_natCast,zkm hi,zkn]
   cases ((a0.2.2.2.2.2.2.2.2.1.getD i (0,[])).1==a1)<;>rfl) (by simp only [yfb,yxV,yyx,zky (Int.le_refl _),cond_false]) _ (by show _ < 18446744073709551616; omega)
 unfold yu1 ykO
 rw [h1]
 cases h:leb 0 (yo a0.2.2.2.2.2.2.2.2.1 a1)
 ·rw [show yo a0.2.2.2.2.2.2.2.2.1 a1= -1 from yPL h]; rfl
 ·rfl
def yBx:Con:=⟨yoU,yz4,fun x=>(fun n=>some ((n,()),())) (ykO x.1 x.2.1)⟩
theorem yPq:ConOk Tryz.prog 243 yBx:=(y34).mono (fun x r hk h=>(y47 x.1 x.2.1 hk).trans h)
end
section
def yGj:Code:=(Tryz.f176.body).getD .skip
def yGZ:Env:=zj3 TT [(216,yHt),(243,yBx)] []
theorem yOI:FrOk Tryz.prog ⟨yGZ,28,fun _=>none⟩ yGj:=zj7 yb yc ⟨y2d,yPq,trivial⟩
def yP5:Nat→Option Seg:=fun _=>none
abbrev ydw:List Par:= [.rd tA,.rd tI]
abbrev yj8:List OT:= [⟨false,tL,(.ow .fz)⟩,⟨false,tB,.fz⟩]
def ylB (a0:dA) (a1:Int):Option (ResD yj8×MutD ydw) :=
 let r1:=ykO a0 a1
 bif (leb 0 r1) then
 bif (inb r1 a0.2.2.2.2.2.2.2.2.1.length) then
 bif (zjR ([]:List Int).length ((nth a0.2.2.2.2.2.2.2.2.1 r1 (0,[])).2).length 8) then
 some (((([]:List Int)++((nth a0.2.2.2.2.2.2.2.2.1 r1 (0,[])).2)),true,()),())
 else none
 else none
 else
 bif a0.2.2.2.2.2.2.2.2.2.2.2 then
 some ((([]:List Int),false,()),())
 else
 bnd (yuU a0 a1) fun r2 =>
 some ((r2.1.1,r2.1.2.1,()),())
theorem yXg (x:InD ydw):zjx ⟨yGZ,28,yP5⟩ Tryz.f176.results.toList yGj ydw yj8 x=ylB x.1 x.2.1:=by kernel_rfl
theorem yRU:ConOk Tryz.prog 176 ⟨ydw,yj8,fun x=>ylB x.1 x.2.1⟩:=zj2 (yOI) Tryz.func176 (by kernel_rfl) (by kernel_rfl) Tryz.ntmps176.symm (by decide) (fun x r h=>(yXg x).trans h)
def ygc (a0:dA) (a1:Int):List Int×Bool:=yI a0 a1
def yx8 (a0:dA) (a1:Int):Bool:=yP a0.2.1 a1
theorem yUR (a0:dA) (a1:Int) (hk:zi2 ydw (a0,a1,())) (hq:yx8 a0 a1=true):ylB a0 a1=(fun n=>some ((n.1,n.2,()),())) (ygc a0 a1):=by
 unfold ylB ygc yI ykO
 rw [y2m a0 a1 hq]
 simp only [List.nil_append]
 cases h:leb 0 (yo a0.2.2.2.2.2.2.2.2.1 a1)
 ·cases a0.2.2.2.2.2.2.2.2.2.2.2<;>rfl
 ·have h1:=(yno (d:=((0,[]):dW)) h).1
  have h2:(nth a0.2.2.2.2.2.2.2.2.1 (yo a0.2.2.2.2.2.2.2.2.1 a1) (0,[])).2.length * 8≤2 ^ 47:=yzG (P:=fun x:dW=>x.2.length * 8≤2 ^ 47) h1 (fun x hx=>(hk.1.2.2.2.2.2.2.2.2.1.2 x hx).2.1)
  rw [show inb (yo a0.2.2.2.2.2.2.2.2.1 a1) a0.2.2.2.2.2.2.2.2.1.length=true from h1,zkb.2 (show (([]:List Int).length+(nth a0.2.2.2.2.2.2.2.2.1 (yo a0.2.2.2.2.2.2.2.2.1 a1) (0,[])).2.length) * 8≤140737488355328 by rw [List.length_nil]; omega)]; rfl
def ykE (a0:dA) (a1:Int):Option (ResD yj8×MutD ydw):=bif yx8 a0 a1 then (fun n=>some ((n.1,n.2,()),())) (ygc a0 a1) else none
theorem yFu (a0:dA) (a1:Int) (h:yx8 a0 a1=true):ykE a0 a1=(fun n=>some ((n.1,n.2,()),())) (ygc a0 a1):=by unfold ykE; rw [h]; rfl
def ytl:Con:=⟨ydw,yj8,fun x=>ykE x.1 x.2.1⟩
theorem yFt:ConOk Tryz.prog 176 ytl:=(yRU).mono (fun x r hk h=>zkt h (fun hq=>yUR x.1 x.2.1 hk hq))
end
section
def yGf:Code:=(Tryz.f177.body).getD .skip
def yGV:Env:=zj3 TT [(121,ykp),(135,yn)] []
theorem yOE:FrOk Tryz.prog ⟨yGV,16,fun _=>none⟩ yGf:=zj7 yb yc ⟨ysG,yu,trivial⟩
def yP1:Nat→Option Seg:=fun _=>none
abbrev yf4:List Par:= [.rd tG,.rd tI]
abbrev ypY:List OT:= [⟨false,tI,.fz⟩]
def yly (a0:dG) (a1:Int):Option (ResD ypY×MutD yf4) :=
 let r1:=ym a0
 let r2:=ya a1 0 (IntKind.i64.wrap (r1 - 1))
 bif (!r2) then
 some (((-1),()),())
 else
 bif ((IntKind.i64.wrap (a0.1 - 1)) !=0) then
 some (((IntKind.i64.wrap (a1.tdiv (IntKind.i64.wrap (a0.1 - 1)))),()),())
 else none
theorem yXc (x:InD yf4):zjx ⟨yGV,16,yP1⟩ Tryz.f177.results.toList yGf yf4 ypY x=yly x.1 x.2.1:=by kernel_rfl
theorem yRQ:ConOk Tryz.prog 177 ⟨yf4,ypY,fun x=>yly x.1 x.2.1⟩:=zj2 (yOE) Tryz.func177 (by kernel_rfl) (by kernel_rfl) Tryz.ntmps177.symm (by decide) (fun x r h=>(yXc x).trans h)
def ydX (a0:dG) (a1:Int):Int:=yB a0 a1
theorem yUN (a0:dG) (a1:Int) (hk:zi2 yf4 (a0,a1,())):yly a0 a1=(fun n=>some ((n,()),())) (ydX a0 a1):=by
 unfold yly ydX yB
 simp only [yWF]
 cases hb:blkOk a0 a1
 ·rfl
 ·obtain ⟨h1,h2,h3⟩:=ykn hb
  have h4:=yk.1 h1
  rw [wr (show -9223372036854775808≤a0.1 - 1 by omega) (by omega),show (a0.1 - 1 !=0)=true from bne_iff_ne.2 (by omega),wr (by omega) (by omega)]; rfl
def yti:Con:=⟨yf4,ypY,fun x=>(fun n=>some ((n,()),())) (ydX x.1 x.2.1)⟩
theorem yFq:ConOk Tryz.prog 177 yti:=(yRQ).mono (fun x r hk h=>(yUN x.1 x.2.1 hk).trans h)
end
section
def yIj:Code:=(Tryz.f178.body).getD .skip
def yI4:Env:=zj3 TT [(121,ykp),(135,yn)] []
theorem yQL:FrOk Tryz.prog ⟨yI4,16,fun _=>none⟩ yIj:=zj7 yb yc ⟨ysG,yu,trivial⟩
def ySx:Nat→Option Seg:=fun _=>none
abbrev yht:List Par:= [.rd tG,.rd tI]
abbrev yso:List OT:= [⟨false,tI,.fz⟩]
def ynE (a0:dG) (a1:Int):Option (ResD yso×MutD yht) :=
 let r1:=ym a0
 let r2:=ya a1 0 (IntKind.i64.wrap (r1 - 1))
 bif (!r2) then
 some (((-1),()),())
 else
 bif ((IntKind.i64.wrap (a0.1 - 1)) !=0) then
 some (((a1.tmod (IntKind.i64.wrap (a0.1 - 1))),()),())
 else none
theorem y0w (x:InD yht):zjx ⟨yI4,16,ySx⟩ Tryz.f178.results.toList yIj yht yso x=ynE x.1 x.2.1:=by kernel_rfl
theorem yU6:ConOk Tryz.prog 178 ⟨yht,yso,fun x=>ynE x.1 x.2.1⟩:=zj2 (yQL) Tryz.func178 (by kernel_rfl) (by kernel_rfl) Tryz.ntmps178.symm (by decide) (fun x r h=>(y0w x).trans h)
def ye6 (a0:dG) (a1:Int):Int:=yaq a0 a1
theorem yYr (a0:dG) (a1:Int) (hk:zi2 yht (a0,a1,())):ynE a0 a1=(fun n=>some ((n,()),())) (ye6 a0 a1):=by
 unfold ynE ye6 yaq
 simp only [yWF]
 cases hb:blkOk a0 a1
 ·rfl
 ·obtain ⟨h1,h2,h3⟩:=ykn hb
  have h4:=yk.1 h1
  rw [wr (show -9223372036854775808≤a0.1 - 1 by omega) (by omega),show (a0.1 - 1 !=0)=true from bne_iff_ne.2 (by omega)]; rfl
def yvj:Con:=⟨yht,yso,fun x=>(fun n=>some ((n,()),())) (ye6 x.1 x.2.1)⟩
theorem yHL:ConOk Tryz.prog 178 yvj:=(yU6).mono (fun x r hk h=>(yYr x.1 x.2.1 hk).trans h)
end
end
end Go.Tf
