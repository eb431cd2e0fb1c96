/- Functions of the program, and what they come to. -/
import Derived.Test.YtgmadfpnljibhaaGreatFallsBentF2
namespace Go.Tf
noncomputable section
open Go.Proofs
set_option synthInstance.maxHeartbeats 400000
set_option synthInstance.maxSize 10000
set_option linter.unusedVariables false
set_option linter.unusedSimpArgs false
set_option maxRecDepth 100000
section
def yOu:Code:=(Tryz.f267.body).getD .skip
def yO5:Env:=zj2 TT [(135,yq),(272,yvg),(288,yvj)] []
theorem yXw:FrOk Tryz.prog ⟨yO5,28,fun _=>none⟩ yOu:=zj6 yc yd ⟨yy,yIy,yIB,trivial⟩
def y0x:Nat→Option Seg:=fun _=>none
abbrev yjM:List Par:= [.rd tG,.rd tI,.rd tI]
abbrev ywv:List OT:= [⟨false,tI,.fz⟩]
def ysb (a0:dG) (a1 a2:Int):Option (ResD ywv×MutD yjM) :=
 let r1:=ygY a0 a1
 bif (!(!r1)) then
 let r2:=ya a2 0 (IntKind.i64.wrap (a0.1 - 2))
 bif (!r2) then
 some (((-1),()),())
 else
 let r3:=yek a0 a1
 bif (a0.1 !=0) then
 some ((((IntKind.i64.wrap ((IntKind.i64.wrap (r3+1))+a2)).tmod a0.1),()),())
 else none
 else
 some (((-1),()),())
theorem y71 (x:InD yjM):zjw ⟨yO5,28,y0x⟩ Tryz.f267.results.toList yOu yjM ywv x=ysb x.1 x.2.1 x.2.2.1:=by kernel_rfl
theorem y3s:ConOk Tryz.prog 267 ⟨yjM,ywv,fun x=>ysb x.1 x.2.1 x.2.2.1⟩:=zj1 (yXw) Tryz.func267 (by kernel_rfl) (by kernel_rfl) Tryz.ntmps267.symm (by decide) (fun x r h=>(y71 x).trans h)
def yqd (a0:dG) (a1 a2:Int):Int:=ygp a0 a1 a2
theorem y5U (a0:dG) (a1 a2:Int) (hk:zi1 yjM (a0,a1,a2,())):ysb a0 a1 a2=(fun n=>some ((n,()),())) (yqd a0 a1 a2):=by
 unfold ysb yqd ygp yek
 rw [yWv]
 cases hs:ycU a0 a1
 ·rfl
 ·have h1:=ybK.1 hs
  have h2:=yk.1 h1.1
  have h3:=ytt hs
  rw [ybr,wr (show -9223372036854775808≤a0.1 - 2 by omega) (by omega)]
  cases hi:(leb 0 a2&&leb a2 (a0.1 - 2))
  ·rfl
  ·rw [Bool.and_eq_true,zjD,zjD]at hi
   rw [show (a0.1 !=0)=true from bne_iff_ne.2 (by omega)]
   show some (((IntKind.i64.wrap (IntKind.i64.wrap (yh a0 a1+1)+a2)).tmod a0.1,()),())=some (((yh a0 a1+1+a2).tmod a0.1,()),())
   rw [wr (show -9223372036854775808≤yh a0 a1+1 by omega) (by omega),wr (show -9223372036854775808≤yh a0 a1+1+a2 by omega) (by omega)]
def yKA:Con:=⟨yjM,ywv,fun x=>(fun n=>some ((n,()),())) (yqd x.1 x.2.1 x.2.2.1)⟩
theorem y6N:ConOk Tryz.prog 267 yKA:=(y3s).mono (fun x r hk h=>(y5U x.1 x.2.1 x.2.2.1 hk).trans h)
end
section
def yps:Code:=(Tryz.f216.body).getD .skip
def yv7:Env:=zj2 TT [(206,yxp),(267,yKA)] []
theorem yXS:FrOk Tryz.prog ⟨yv7,41,fun _=>none⟩ yps:=zj6 yc yd ⟨yLb,y6N,trivial⟩
def yJB:Nat→Option Seg:=fun _=>none
def yc6:Shape:=⟨[(1,false,[.int .i64]),(2,false,[.ptr 0 0]),(6,false,[.at 800000000]),(7,false,[.bool]),(8,false,[.at 800000001]),(9,false,[.int .i64])],[(0,[.int .i64,.int .i64,.int .i64,.br tM,.int .i64,.int .i64,.int .i64,.int .i64,.int .i64,.br tW,.int .i64,.bool,.bool])],[(800000000,tI,.fz),(800000001,tI,.fz)]⟩
def yi1:Shape:=⟨[(1,false,[.int .i64]),(2,false,[.ptr 0 0]),(6,false,[.at 800000000]),(7,false,[.bool]),(8,false,[.at 800000001]),(9,false,[.ci .i64 0])],[(0,[.int .i64,.int .i64,.int .i64,.br tM,.int .i64,.int .i64,.int .i64,.int .i64,.int .i64,.br tW,.int .i64,.bool,.bool])],[(800000000,tI,.fz),(800000001,tI,.fz)]⟩
def yiO:Shape:=⟨[(7,false,[.bool]),(8,false,[.at 800000000])],[],[(800000000,tI,.fz)]⟩
def yox:Shape:=⟨[],[],[]⟩
abbrev yhV (v0:Int) (v1:Bool) (v2:Int) (v3:dA) (v4 v5:List Int):(yc6).X:=(((v0,()),((),()),((),()),(v1,()),((),()),(v2,()),()),((v3.1,v3.2.1.1,v3.2.1.2,v3.2.2.1,v3.2.2.2.1,v3.2.2.2.2.1,v3.2.2.2.2.2.1,v3.2.2.2.2.2.2.1,v3.2.2.2.2.2.2.2.1,v3.2.2.2.2.2.2.2.2.1,v3.2.2.2.2.2.2.2.2.2.1,v3.2.2.2.2.2.2.2.2.2.2.1,v3.2.2.2.2.2.2.2.2.2.2.2,()),()),(v4,v5,()))
abbrev yGb (v0:Int) (v1:Bool) (v2:dA) (v3 v4:List Int):(yi1).X:=(((v0,()),((),()),((),()),(v1,()),((),()),((),()),()),((v2.1,v2.2.1.1,v2.2.1.2,v2.2.2.1,v2.2.2.2.1,v2.2.2.2.2.1,v2.2.2.2.2.2.1,v2.2.2.2.2.2.2.1,v2.2.2.2.2.2.2.2.1,v2.2.2.2.2.2.2.2.2.1,v2.2.2.2.2.2.2.2.2.2.1,v2.2.2.2.2.2.2.2.2.2.2.1,v2.2.2.2.2.2.2.2.2.2.2.2,()),()),(v3,v4,()))
abbrev yvv (v0:Bool) (v1:List Int):(yiO).X:=(((v0,()),((),()),()),(),(v1,()))
def ymK (v0:Int) (v1:Bool) (v2 v3 v4 v5:Int) (v6:List dM) (v7 v8 v9 v10 v11:Int) (v12:List dW) (v13:Int) (v14 v15:Bool) (v16 v17:List Int):Option ((yc6).X ⊕ ((yiO).X ⊕ (yox).X)) :=
 bif (ltb v2 (IntKind.i64.wrap (v4 - 1))) then
 bif v1 then
 let r3:=yqd (v4,v5) v0 v2
 bif (inb r3 v16.length) then
 bif (zjQ v17.length ([(nth v16 r3 0)]:List Int).length 8) then
 some (.inl (((v0,()),((),()),((),()),(v1,()),((),()),((IntKind.i64.wrap (v2+1)),()),()),((v3,v4,v5,v6,v7,v8,v9,v10,v11,v12,v13,v14,v15,()),()),(v16,(v17++([(nth v16 r3 0)]:List Int)),())))
 else none
 else none
 else
 some (.inr (.inl (((v1,()),((),()),()),(),(v17,()))))
 else
 some (.inr (.inl (((v1,()),((),()),()),(),(v17,()))))
def yay (x:(yc6).X):=ymK x.1.1.1 x.1.2.2.2.1.1 x.1.2.2.2.2.2.1.1 x.2.1.1.1 x.2.1.1.2.1 x.2.1.1.2.2.1 x.2.1.1.2.2.2.1 x.2.1.1.2.2.2.2.1 x.2.1.1.2.2.2.2.2.1 x.2.1.1.2.2.2.2.2.2.1 x.2.1.1.2.2.2.2.2.2.2.1 x.2.1.1.2.2.2.2.2.2.2.2.1 x.2.1.1.2.2.2.2.2.2.2.2.2.1 x.2.1.1.2.2.2.2.2.2.2.2.2.2.1 x.2.1.1.2.2.2.2.2.2.2.2.2.2.2.1 x.2.1.1.2.2.2.2.2.2.2.2.2.2.2.2.1 x.2.2.1 x.2.2.2.1
def yFP (x:(yi1).X):(yc6).X:=(((x.1.1.1,()),((),()),((),()),(x.1.2.2.2.1.1,()),((),()),(0,()),()),((x.2.1.1.1,x.2.1.1.2.1,x.2.1.1.2.2.1,x.2.1.1.2.2.2.1,x.2.1.1.2.2.2.2.1,x.2.1.1.2.2.2.2.2.1,x.2.1.1.2.2.2.2.2.2.1,x.2.1.1.2.2.2.2.2.2.2.1,x.2.1.1.2.2.2.2.2.2.2.2.1,x.2.1.1.2.2.2.2.2.2.2.2.2.1,x.2.1.1.2.2.2.2.2.2.2.2.2.2.1,x.2.1.1.2.2.2.2.2.2.2.2.2.2.2.1,x.2.1.1.2.2.2.2.2.2.2.2.2.2.2.2.1,()),()),(x.2.2.1,x.2.2.2.1,()))
def yHl:Code:=(zdD yps 64 244).getD .skip
theorem yWW:zdD yps 64 61=some (.block 0 (.loop yHl)):=by kernel_rfl
theorem yZ9 (x:(yc6).X):zg0 ⟨yv7,41,yJB⟩ 0 yHl 244 yc6 yiO yox x=yay x:=by kernel_rfl
def yF2 (x:(yi1).X):Nat:=18446744073709551616
def yol (x:(yi1).X):Option ((yiO).X ⊕ (yox).X):=zz yay (yF2 x) (yFP x)
def yGk:Seg:=⟨yi1,yiO,yox,yol⟩
def yJC:Nat→Option Seg:=fun q=>bif Nat.beq q 61 then some yGk else yJB q
theorem yXT:FrOk Tryz.prog ⟨yv7,41,yJC⟩ yps:=(yXS).loop (sg:=yGk) yc6 yFP (by decide) yWW yay yF2 (by decide) (fun _=>rfl) (fun x r _ h=>h) yZ9
abbrev yg5:List Par:= [.rd tA,.rd tI]
abbrev ypX:List OT:= [⟨false,tL,(.ow .fz)⟩,⟨false,tB,.fz⟩]
def ysj (a0:dA) (a1:Int):Option (ResD ypX×MutD yg5) :=
 bnd (yn2 a0 a1) fun r1 =>
 zjY (yol (((a1,()),((),()),((),()),(r1.1.2.1,()),((),()),((),()),()),((a0.1,a0.2.1.1,a0.2.1.2,a0.2.2.1,a0.2.2.2.1,a0.2.2.2.2.1,a0.2.2.2.2.2.1,a0.2.2.2.2.2.2.1,a0.2.2.2.2.2.2.2.1,a0.2.2.2.2.2.2.2.2.1,a0.2.2.2.2.2.2.2.2.2.1,a0.2.2.2.2.2.2.2.2.2.2.1,a0.2.2.2.2.2.2.2.2.2.2.2,()),()),(r1.1.1,([]:List Int),()))) (fun y3 =>
 some ((y3.2.2.1,y3.1.1.1,()),())) (fun y3 =>
 none)
theorem y8h (x:InD yg5):zjw ⟨yv7,41,yJC⟩ Tryz.f216.results.toList yps yg5 ypX x=ysj x.1 x.2.1:=by kernel_rfl
theorem y3I:ConOk Tryz.prog 216 ⟨yg5,ypX,fun x=>ysj x.1 x.2.1⟩:=zj1 (yXT) Tryz.func216 (by kernel_rfl) (by kernel_rfl) Tryz.ntmps216.symm (by decide) (fun x r h=>(y8h x).trans h)
def ywV (a0:dA) (a1:Int):List Int×Bool:=yTp a0 a1
def yEx (a0:dA) (a1:Int):Bool:=ycU a0.2.1 a1
theorem y55 (a0:dA) (a1:Int) (hk:zi1 yg5 (a0,a1,())) (hq:yEx a0 a1=true):ysj a0 a1=(fun n=>some ((n.1,n.2,()),())) (ywV a0 a1):=by
 have hs:ycU a0.2.1 a1=true:=hq
 have hg:=yk.1 (ybK.1 hs).1
 unfold ysj ywV yTp
 rw [yLh a0 a1 (ybK.1 hs).1,yiq]
 simp only [zkc]
 cases hw:(yax a0 a1).2
 ·have h1:yol (yGb a1 false a0 (yax a0 a1).1 [])=some (.inl (yvv false [])) :=
   zkf (step:=yay) (fun i=>yhV a1 false i a0 (yax a0 a1).1 []) 0 _ (fun i hi=>absurd hi (Nat.not_lt_zero _)) (by
    simp only [yay,yhV,ymK,cond_false]
    cases ltb ((0:Nat):Int) (IntKind.i64.wrap (a0.2.1.1 - 1))<;>rfl) _ (by show _ < 18446744073709551616; omega)
  rw [h1]; rfl
 ·have hL:=y7G hw
  have h1:yol (yGb a1 true a0 (yax a0 a1).1 [])=some (.inl (yvv true ((List.range (a0.2.1.1 - 1).toNat).foldl (fun l (i:Nat)=>l++ [nth (yax a0 a1).1 (ygp a0.2.1 a1 i) 0]) []))) :=
   zj8 (step:=yay) (a0.2.1.1 - 1).toNat (fun i s=>yhV a1 true i a0 (yax a0 a1).1 s) (fun l (i:Nat)=>l++ [nth (yax a0 a1).1 (ygp a0.2.1 a1 i) 0]) (fun i s=>s.length=i) (fun s=> .inl (yvv true s)) (fun i s hi hs2=>⟨by
    have hd:=yaaF hs (show (0:Int)≤i by omega) (show (i:Int)≤a0.2.1.1 - 2 by omega)
    simp only [yay,yhV,ymK,wr (show -9223372036854775808≤a0.2.1.1 - 1 by omega) (by omega),zj4 (show (i:Int) < a0.2.1.1 - 1 by omega),cond_true,wr (show -9223372036854775808≤(i:Int)+1 by omega) (by omega),Int.natCast_add,Int.natCast_one,Int.toNat_natCast,zkr,yqd,zjC.2 (show 0≤ygp a0.2.1 a1 i∧ygp a0.2.1 a1 i < (yax a0 a1).1.length by omega)]
    rw [zka.2 (show (s.length+ [nth (yax a0 a1).1 (ygp a0.2.1 a1 i) 0].length) * 8≤140737488355328 by simp only [List.length_cons,List.length_nil]; omega)]; rfl,by simp [hs2]⟩) (fun s hs2=>by simp only [yay,yhV,ymK,wr (show -9223372036854775808≤a0.2.1.1 - 1 by omega) (by omega),zkx (show a0.2.1.1 - 1≤((a0.2.1.1 - 1).toNat:Int) by omega),cond_false]) [] rfl _ (by show _ < 18446744073709551616; omega)
  rw [h1,yzO]; rfl
def ywX (a0:dA) (a1:Int):Option (ResD ypX×MutD yg5):=bif yEx a0 a1 then (fun n=>some ((n.1,n.2,()),())) (ywV a0 a1) else none
theorem y60 (a0:dA) (a1:Int) (h:yEx a0 a1=true):ywX a0 a1=(fun n=>some ((n.1,n.2,()),())) (ywV a0 a1):=by unfold ywX; rw [h]; rfl
def yKH:Con:=⟨yg5,ypX,fun x=>ywX x.1 x.2.1⟩
theorem y6U:ConOk Tryz.prog 216 yKH:=(y3I).mono (fun x r hk h=>zks h (fun hq=>y55 x.1 x.2.1 hk hq))
end
section
def yvS:Code:=(Tryz.f243.body).getD .skip
def yCw:Env:=zj2 TT [] []
theorem y5x:FrOk Tryz.prog ⟨yCw,22,fun _=>none⟩ yvS:=zj6 yc yd trivial
def yOP:Nat→Option Seg:=fun _=>none
def yfz:Shape:=⟨[(1,false,[.int .i64]),(2,false,[.ptr 0 0]),(5,false,[.int .i64])],[(0,[.int .i64,.int .i64,.int .i64,.br tM,.int .i64,.int .i64,.int .i64,.int .i64,.int .i64,.br tW,.int .i64,.bool,.bool])],[]⟩
def ynr:Shape:=⟨[(1,false,[.int .i64]),(2,false,[.ptr 0 0]),(5,false,[.ci .i64 0])],[(0,[.int .i64,.int .i64,.int .i64,.br tM,.int .i64,.int .i64,.int .i64,.int .i64,.int .i64,.br tW,.int .i64,.bool,.bool])],[]⟩
def ynn:Shape:=⟨[],[],[]⟩
def ynD:Shape:=⟨[(4,false,[.int .i64])],[],[]⟩
abbrev yz3 (v0 v1:Int) (v2:dA):(yfz).X:=(((v0,()),((),()),(v1,()),()),((v2.1,v2.2.1.1,v2.2.1.2,v2.2.2.1,v2.2.2.2.1,v2.2.2.2.2.1,v2.2.2.2.2.2.1,v2.2.2.2.2.2.2.1,v2.2.2.2.2.2.2.2.1,v2.2.2.2.2.2.2.2.2.1,v2.2.2.2.2.2.2.2.2.2.1,v2.2.2.2.2.2.2.2.2.2.2.1,v2.2.2.2.2.2.2.2.2.2.2.2,()),()),())
abbrev y2I (v0:Int) (v1:dA):(ynr).X:=(((v0,()),((),()),((),()),()),((v1.1,v1.2.1.1,v1.2.1.2,v1.2.2.1,v1.2.2.2.1,v1.2.2.2.2.1,v1.2.2.2.2.2.1,v1.2.2.2.2.2.2.1,v1.2.2.2.2.2.2.2.1,v1.2.2.2.2.2.2.2.2.1,v1.2.2.2.2.2.2.2.2.2.1,v1.2.2.2.2.2.2.2.2.2.2.1,v1.2.2.2.2.2.2.2.2.2.2.2,()),()),())
abbrev y2E  :(ynn).X:=((),(),())
abbrev yK3 (v0:Int):(ynD).X:=(((v0,()),()),(),())
def yAL (v0 v1 v2 v3 v4:Int) (v5:List dM) (v6 v7 v8 v9 v10:Int) (v11:List dW) (v12:Int) (v13 v14:Bool):Option ((yfz).X ⊕ ((ynn).X ⊕ (ynD).X)) :=
 bif (ltb v1 (v11.length:Int)) then
 bif (inb v1 v11.length) then
 bif ((nth v11 v1 (0,[])).1==v0) then
 some (.inr (.inr (((v1,()),()),(),())))
 else
 some (.inl (((v0,()),((),()),((IntKind.i64.wrap (v1+1)),()),()),((v2,v3,v4,v5,v6,v7,v8,v9,v10,v11,v12,v13,v14,()),()),()))
 else none
 else
 some (.inr (.inl ((),(),())))
def yfS (x:(yfz).X):=yAL x.1.1.1 x.1.2.2.1.1 x.2.1.1.1 x.2.1.1.2.1 x.2.1.1.2.2.1 x.2.1.1.2.2.2.1 x.2.1.1.2.2.2.2.1 x.2.1.1.2.2.2.2.2.1 x.2.1.1.2.2.2.2.2.2.1 x.2.1.1.2.2.2.2.2.2.2.1 x.2.1.1.2.2.2.2.2.2.2.2.1 x.2.1.1.2.2.2.2.2.2.2.2.2.1 x.2.1.1.2.2.2.2.2.2.2.2.2.2.1 x.2.1.1.2.2.2.2.2.2.2.2.2.2.2.1 x.2.1.1.2.2.2.2.2.2.2.2.2.2.2.2.1
def yKR (x:(ynr).X):(yfz).X:=(((x.1.1.1,()),((),()),(0,()),()),((x.2.1.1.1,x.2.1.1.2.1,x.2.1.1.2.2.1,x.2.1.1.2.2.2.1,x.2.1.1.2.2.2.2.1,x.2.1.1.2.2.2.2.2.1,x.2.1.1.2.2.2.2.2.2.1,x.2.1.1.2.2.2.2.2.2.2.1,x.2.1.1.2.2.2.2.2.2.2.2.1,x.2.1.1.2.2.2.2.2.2.2.2.2.1,x.2.1.1.2.2.2.2.2.2.2.2.2.2.1,x.2.1.1.2.2.2.2.2.2.2.2.2.2.2.1,x.2.1.1.2.2.2.2.2.2.2.2.2.2.2.2.1,()),()),())
def yMH:Code:=(zdD yvS 64 52).getD .skip
theorem y4P:zdD yvS 64 13=some (.block 0 (.loop yMH)):=by kernel_rfl
theorem y65 (x:(yfz).X):zg0 ⟨yCw,22,yOP⟩ 0 yMH 52 yfz ynn ynD x=yfS x:=by kernel_rfl
def yKW (x:(ynr).X):Nat:=18446744073709551616
def yBU (x:(ynr).X):Option ((ynn).X ⊕ (ynD).X):=zz yfS (yKW x) (yKR x)
def yLo:Seg:=⟨ynr,ynn,ynD,yBU⟩
def yOQ:Nat→Option Seg:=fun q=>bif Nat.beq q 13 then some yLo else yOP q
theorem y5y:FrOk Tryz.prog ⟨yCw,22,yOQ⟩ yvS:=(y5x).loop (sg:=yLo) yfz yKR (by decide) y4P yfS yKW (by decide) (fun _=>rfl) (fun x r _ h=>h) y65
abbrev yqr:List Par:= [.rd tA,.rd tI]
abbrev yCB:List OT:= [⟨false,tI,.fz⟩]
def yw3 (a0:dA) (a1:Int):Option (ResD yCB×MutD yqr) :=
 zjY (yBU (((a1,()),((),()),((),()),()),((a0.1,a0.2.1.1,a0.2.1.2,a0.2.2.1,a0.2.2.2.1,a0.2.2.2.2.1,a0.2.2.2.2.2.1,a0.2.2.2.2.2.2.1,a0.2.2.2.2.2.2.2.1,a0.2.2.2.2.2.2.2.2.1,a0.2.2.2.2.2.2.2.2.2.1,a0.2.2.2.2.2.2.2.2.2.2.1,a0.2.2.2.2.2.2.2.2.2.2.2,()),()),())) (fun y0 =>
 some (((-1),()),())) (fun y0 =>
 some ((y0.1.1.1,()),()))
theorem yaan (x:InD yqr):zjw ⟨yCw,22,yOQ⟩ Tryz.f243.results.toList yvS yqr yCB x=yw3 x.1 x.2.1:=by kernel_rfl
theorem y8U:ConOk Tryz.prog 243 ⟨yqr,yCB,fun x=>yw3 x.1 x.2.1⟩:=zj1 (y5y) Tryz.func243 (by kernel_rfl) (by kernel_rfl) Tryz.ntmps243.symm (by decide) (fun x r h=>(yaan x).trans h)
def ylR (a0:dA) (a1:Int):Int:=yI a0.2.2.2.2.2.2.2.2.1 a1
theorem y9Z (a0:dA) (a1:Int) (hk:zi1 yqr (a0,a1,())):yw3 a0 a1=(fun n=>some ((n,()),())) (ylR a0 a1):=by
 have hb:a0.2.2.2.2.2.2.2.2.1.length * 32≤2 ^ 47:=hk.1.2.2.2.2.2.2.2.2.1.1
 have h1:yBU (y2I a1 a0)=some (bif leb 0 (yI a0.2.2.2.2.2.2.2.2.1 a1) then .inr (yK3 (yI a0.2.2.2.2.2.2.2.2.1 a1)) else .inl y2E) :=
  yKZ (step:=yfS) a0.2.2.2.2.2.2.2.2.1 (0,[]) (fun i=>yz3 a1 i a0) (fun e:dW=>e.1==a1) (fun i=> .inr (yK3 i)) _ (fun i hi=>by
   simp only [yfS,yz3,yAL,zj4 (show (i:Int) < a0.2.2.2.2.2.2.2.2.1.length by omega),cond_true,wr (show -9223372036854775808≤(i:Int)+1 by omega) (by omega),Int.natCast_add,Int.natCast_one,Int.toNat_natCast,zkl hi,zkm]
   cases ((a0.2.2.2.2.2.2.2.2.1.getD i (0,[])).1==a1)<;>rfl) (by simp only [yfS,yz3,yAL,zkx (Int.le_refl _),cond_false]) _ (by show _ < 18446744073709551616; omega)
 unfold yw3 ylR
 rw [h1]
 cases h:leb 0 (yI a0.2.2.2.2.2.2.2.2.1 a1)
 ·rw [show yI a0.2.2.2.2.2.2.2.2.1 a1= -1 from y5z h]; rfl
 ·rfl
def yEo:Con:=⟨yqr,yCB,fun x=>(fun n=>some ((n,()),())) (ylR x.1 x.2.1)⟩
theorem yS3:ConOk Tryz.prog 243 yEo:=(y8U).mono (fun x r hk h=>(y9Z x.1 x.2.1 hk).trans h)
end
section
def yJo:Code:=(Tryz.f176.body).getD .skip
def yJ9:Env:=zj2 TT [(216,yKH),(243,yEo)] []
theorem yR9:FrOk Tryz.prog ⟨yJ9,28,fun _=>none⟩ yJo:=zj6 yc yd ⟨y6U,yS3,trivial⟩
def yTK:Nat→Option Seg:=fun _=>none
abbrev ydQ:List Par:= [.rd tA,.rd tI]
abbrev yk2:List OT:= [⟨false,tL,(.ow .fz)⟩,⟨false,tB,.fz⟩]
def ymI (a0:dA) (a1:Int):Option (ResD yk2×MutD ydQ) :=
 let r1:=ylR a0 a1
 bif (leb 0 r1) then
 bif (inb r1 a0.2.2.2.2.2.2.2.2.1.length) then
 bif (zjQ ([]:List Int).length ((nth a0.2.2.2.2.2.2.2.2.1 r1 (0,[])).2).length 8) then
 some (((([]:List Int)++((nth a0.2.2.2.2.2.2.2.2.1 r1 (0,[])).2)),true,()),())
 else none
 else none
 else
 bif a0.2.2.2.2.2.2.2.2.2.2.2 then
 some ((([]:List Int),false,()),())
 else
 bnd (ywX a0 a1) fun r2 =>
 some ((r2.1.1,r2.1.2.1,()),())
theorem y1E (x:InD ydQ):zjw ⟨yJ9,28,yTK⟩ Tryz.f176.results.toList yJo ydQ yk2 x=ymI x.1 x.2.1:=by kernel_rfl
theorem yVP:ConOk Tryz.prog 176 ⟨ydQ,yk2,fun x=>ymI x.1 x.2.1⟩:=zj1 (yR9) Tryz.func176 (by kernel_rfl) (by kernel_rfl) Tryz.ntmps176.symm (by decide) (fun x r h=>(y1E x).trans h)
def ylz (a0:dA) (a1:Int):List Int×Bool:=yao a0 a1
def yAi (a0:dA) (a1:Int):Bool:=ycU a0.2.1 a1
theorem yY8 (a0:dA) (a1:Int) (hk:zi1 ydQ (a0,a1,())) (hq:yAi a0 a1=true):ymI a0 a1=(fun n=>some ((n.1,n.2,()),())) (ylz a0 a1):=by
 unfold ymI ylz yao ylR
 rw [y60 a0 a1 hq]
 simp only [List.nil_append]
 cases h:leb 0 (yI a0.2.2.2.2.2.2.2.2.1 a1)
 ·cases a0.2.2.2.2.2.2.2.2.2.2.2<;>rfl
 ·have h1:=(yta (d:=((0,[]):dW)) h).1
  have h2:(nth a0.2.2.2.2.2.2.2.2.1 (yI a0.2.2.2.2.2.2.2.2.1 a1) (0,[])).2.length * 8≤2 ^ 47:=yfH (P:=fun x:dW=>x.2.length * 8≤2 ^ 47) h1 (fun x hx=>(hk.1.2.2.2.2.2.2.2.2.1.2 x hx).2.1)
  rw [show inb (yI a0.2.2.2.2.2.2.2.2.1 a1) a0.2.2.2.2.2.2.2.2.1.length=true from h1,zka.2 (show (([]:List Int).length+(nth a0.2.2.2.2.2.2.2.2.1 (yI a0.2.2.2.2.2.2.2.2.1 a1) (0,[])).2.length) * 8≤140737488355328 by rw [List.length_nil]; omega)]; rfl
def yr1 (a0:dA) (a1:Int):Option (ResD yk2×MutD ydQ):=bif yAi a0 a1 then (fun n=>some ((n.1,n.2,()),())) (ylz a0 a1) else none
theorem yZY (a0:dA) (a1:Int) (h:yAi a0 a1=true):yr1 a0 a1=(fun n=>some ((n.1,n.2,()),())) (ylz a0 a1):=by unfold yr1; rw [h]; rfl
def yFF:Con:=⟨ydQ,yk2,fun x=>yr1 x.1 x.2.1⟩
theorem yZU:ConOk Tryz.prog 176 yFF:=(yVP).mono (fun x r hk h=>zks h (fun hq=>yY8 x.1 x.2.1 hk hq))
end
section
def yJk:Code:=(Tryz.f177.body).getD .skip
def yJ5:Env:=zj2 TT [(121,yrT),(135,yq)] []
theorem yR5:FrOk Tryz.prog ⟨yJ5,16,fun _=>none⟩ yJk:=zj6 yc yd ⟨yCb,yy,trivial⟩
def yTG:Nat→Option Seg:=fun _=>none
abbrev ygO:List Par:= [.rd tG,.rd tI]
abbrev yrE:List OT:= [⟨false,tI,.fz⟩]
def ymF (a0:dG) (a1:Int):Option (ResD yrE×MutD ygO) :=
 let r1:=yx a0
 let r2:=ya a1 0 (IntKind.i64.wrap (r1 - 1))
 bif (!r2) then
 some (((-1),()),())
 else
 bif ((IntKind.i64.wrap (a0.1 - 1)) !=0) then
 some (((IntKind.i64.wrap (a1.tdiv (IntKind.i64.wrap (a0.1 - 1)))),()),())
 else none
theorem y1A (x:InD ygO):zjw ⟨yJ5,16,yTG⟩ Tryz.f177.results.toList yJk ygO yrE x=ymF x.1 x.2.1:=by kernel_rfl
theorem yVL:ConOk Tryz.prog 177 ⟨ygO,yrE,fun x=>ymF x.1 x.2.1⟩:=zj1 (yR5) Tryz.func177 (by kernel_rfl) (by kernel_rfl) Tryz.ntmps177.symm (by decide) (fun x r h=>(y1A x).trans h)
def yly (a0:dG) (a1:Int):Int:=yav a0 a1
theorem yY4 (a0:dG) (a1:Int) (hk:zi1 ygO (a0,a1,())):ymF a0 a1=(fun n=>some ((n,()),())) (yly a0 a1):=by
 unfold ymF yly yav
 simp only [yabh]
 cases hb:blkOk a0 a1
 ·rfl
 ·obtain ⟨h1,h2,h3⟩:=yKb hb
  have h4:=yk.1 h1
  rw [wr (show -9223372036854775808≤a0.1 - 1 by omega) (by omega),show (a0.1 - 1 !=0)=true from bne_iff_ne.2 (by omega),wr (by omega) (by omega)]; rfl
def yFD:Con:=⟨ygO,yrE,fun x=>(fun n=>some ((n,()),())) (yly x.1 x.2.1)⟩
theorem yZS:ConOk Tryz.prog 177 yFD:=(yVL).mono (fun x r hk h=>(yY4 x.1 x.2.1 hk).trans h)
end
section
def yLK:Code:=(Tryz.f178.body).getD .skip
def yMr:Env:=zj2 TT [(121,yrT),(135,yq)] []
theorem yUA:FrOk Tryz.prog ⟨yMr,16,fun _=>none⟩ yLK:=zj6 yc yd ⟨yCb,yy,trivial⟩
def yWE:Nat→Option Seg:=fun _=>none
abbrev yig:List Par:= [.rd tG,.rd tI]
abbrev yug:List OT:= [⟨false,tI,.fz⟩]
def yo5 (a0:dG) (a1:Int):Option (ResD yug×MutD yig) :=
 let r1:=yx a0
 let r2:=ya a1 0 (IntKind.i64.wrap (r1 - 1))
 bif (!r2) then
 some (((-1),()),())
 else
 bif ((IntKind.i64.wrap (a0.1 - 1)) !=0) then
 some (((a1.tmod (IntKind.i64.wrap (a0.1 - 1))),()),())
 else none
theorem y5b (x:InD yig):zjw ⟨yMr,16,yWE⟩ Tryz.f178.results.toList yLK yig yug x=yo5 x.1 x.2.1:=by kernel_rfl
theorem yZr:ConOk Tryz.prog 178 ⟨yig,yug,fun x=>yo5 x.1 x.2.1⟩:=zj1 (yUA) Tryz.func178 (by kernel_rfl) (by kernel_rfl) Tryz.ntmps178.symm (by decide) (fun x r h=>(y5b x).trans h)
def ynS (a0:dG) (a1:Int):Int:=yym a0 a1
theorem y2Z (a0:dG) (a1:Int) (hk:zi1 yig (a0,a1,())):yo5 a0 a1=(fun n=>some ((n,()),())) (ynS a0 a1):=by
 unfold yo5 ynS yym
 simp only [yabh]
 cases hb:blkOk a0 a1
 ·rfl
 ·obtain ⟨h1,h2,h3⟩:=yKb hb
  have h4:=yk.1 h1
  rw [wr (show -9223372036854775808≤a0.1 - 1 by omega) (by omega),show (a0.1 - 1 !=0)=true from bne_iff_ne.2 (by omega)]; rfl
def yHA:Con:=⟨yig,yug,fun x=>(fun n=>some ((n,()),())) (ynS x.1 x.2.1)⟩
theorem y34:ConOk Tryz.prog 178 yHA:=(yZr).mono (fun x r hk h=>(y2Z x.1 x.2.1 hk).trans h)
end
section
def ysz:Code:=(Tryz.f246.body).getD .skip
def yyG:Env:=zj2 TT [] [(4096,(.pr .fz .fz)),(28800,(.pr .fz .fz)),(41472,(.pr .fz .fz)),(49280,(.pr .fz .fz))]
theorem y2s:FrOk Tryz.prog ⟨yyG,67,fun _=>none⟩ ysz:=zj6 yc yd trivial
def yMi:Nat→Option Seg:=fun _=>none
def yd5:Shape:=⟨[(0,false,[.ptr 1000000000 0]),(3,false,[.ptr 0 0]),(4,false,[.at 800000000]),(5,false,[.bool]),(6,false,[.int .i64])],[(0,[.int .i64,.fz tI]),(1000000000,[.int .i64,.int .i64,.int .i64,.at 800000001,.int .i64,.int .i64,.int .i64,.int .i64,.int .i64,.at 800000002,.int .i64,.bool,.bool])],[(800000000,tW,(.pr .fz .fz)),(800000001,tM,(.pr (.ow .fz) (.pr (.ow (.pr .fz .fz)) (.pr .fz (.ow .fz))))),(800000002,tW,(.pr .fz .fz))]⟩
def ykT:Shape:=⟨[(0,false,[.ptr 1000000000 0]),(3,false,[.ptr 0 0]),(4,false,[.at 800000000]),(5,false,[.cb false]),(6,false,[.ci .i64 0])],[(0,[.int .i64,.fz tI]),(1000000000,[.int .i64,.int .i64,.int .i64,.at 800000001,.int .i64,.int .i64,.int .i64,.int .i64,.int .i64,.at 800000002,.int .i64,.bool,.bool])],[(800000000,tW,(.pr .fz .fz)),(800000001,tM,(.pr (.ow .fz) (.pr (.ow (.pr .fz .fz)) (.pr .fz (.ow .fz))))),(800000002,tW,(.pr .fz .fz))]⟩
def ykE:Shape:=⟨[(0,false,[.ptr 1000000000 0]),(3,false,[.ptr 0 0]),(4,false,[.at 800000000]),(5,false,[.bool])],[(0,[.int .i64,.fz tI]),(1000000000,[.int .i64,.int .i64,.int .i64,.at 800000001,.int .i64,.int .i64,.int .i64,.int .i64,.int .i64,.at 800000002,.int .i64,.bool,.bool])],[(800000000,tW,(.pr .fz .fz)),(800000001,tM,(.pr (.ow .fz) (.pr (.ow (.pr .fz .fz)) (.pr .fz (.ow .fz))))),(800000002,tW,(.pr .fz .fz))]⟩
def yrP:Shape:=⟨[],[],[]⟩
abbrev yxH (v0:Bool) (v1:Int) (v2:dW) (v3:dA) (v4:List dW):(yd5).X:=((((),()),((),()),((),()),(v0,()),(v1,()),()),((v2.1,v2.2,()),(v3.1,v3.2.1.1,v3.2.1.2,(),v3.2.2.2.1,v3.2.2.2.2.1,v3.2.2.2.2.2.1,v3.2.2.2.2.2.2.1,v3.2.2.2.2.2.2.2.1,(),v3.2.2.2.2.2.2.2.2.2.1,v3.2.2.2.2.2.2.2.2.2.2.1,v3.2.2.2.2.2.2.2.2.2.2.2,()),()),(v4,v3.2.2.1,v3.2.2.2.2.2.2.2.2.1,()))
abbrev yYz (v0:dW) (v1:dA) (v2:List dW):(ykT).X:=((((),()),((),()),((),()),((),()),((),()),()),((v0.1,v0.2,()),(v1.1,v1.2.1.1,v1.2.1.2,(),v1.2.2.2.1,v1.2.2.2.2.1,v1.2.2.2.2.2.1,v1.2.2.2.2.2.2.1,v1.2.2.2.2.2.2.2.1,(),v1.2.2.2.2.2.2.2.2.2.1,v1.2.2.2.2.2.2.2.2.2.2.1,v1.2.2.2.2.2.2.2.2.2.2.2,()),()),(v2,v1.2.2.1,v1.2.2.2.2.2.2.2.2.1,()))
abbrev yYl (v0:Bool) (v1:dW) (v2:dA) (v3:List dW):(ykE).X:=((((),()),((),()),((),()),(v0,()),()),((v1.1,v1.2,()),(v2.1,v2.2.1.1,v2.2.1.2,(),v2.2.2.2.1,v2.2.2.2.2.1,v2.2.2.2.2.2.1,v2.2.2.2.2.2.2.1,v2.2.2.2.2.2.2.2.1,(),v2.2.2.2.2.2.2.2.2.2.1,v2.2.2.2.2.2.2.2.2.2.2.1,v2.2.2.2.2.2.2.2.2.2.2.2,()),()),(v3,v2.2.2.1,v2.2.2.2.2.2.2.2.2.1,()))
def yx9 (v0:Bool) (v1 v2:Int) (v3:List Int) (v4 v5 v6 v7 v8 v9 v10 v11 v12:Int) (v13 v14:Bool) (v15:List dW) (v16:List dM) (v17:List dW):Option ((yd5).X ⊕ ((ykE).X ⊕ (yrP).X)) :=
 bif (ltb v1 (v17.length:Int)) then
 bif (!v0) then
 bif (inb v1 v17.length) then
 bif (leb v2 ((nth v17 v1 (0,[])).1)) then
 bif (zjQ v15.length ([(v2,v3)]:List dW).length 32) then
 bif (inb v1 v17.length) then
 bif ((nth v17 v1 (0,[])).1 !=v2) then
 bif (inb v1 v17.length) then
 bif (zjQ (v15++([(v2,v3)]:List dW)).length ([(nth v17 v1 (0,[]))]:List dW).length 32) then
 some (.inl ((((),()),((),()),((),()),(true,()),((IntKind.i64.wrap (v1+1)),()),()),((v2,v3,()),(v4,v5,v6,(),v7,v8,v9,v10,v11,(),v12,v13,v14,()),()),(((v15++([(v2,v3)]:List dW))++([(nth v17 v1 (0,[]))]:List dW)),v16,v17,())))
 else none
 else none
 else
 some (.inl ((((),()),((),()),((),()),(true,()),((IntKind.i64.wrap (v1+1)),()),()),((v2,v3,()),(v4,v5,v6,(),v7,v8,v9,v10,v11,(),v12,v13,v14,()),()),((v15++([(v2,v3)]:List dW)),v16,v17,())))
 else none
 else none
 else
 bif (inb v1 v17.length) then
 bif ((nth v17 v1 (0,[])).1 !=v2) then
 bif (inb v1 v17.length) then
 bif (zjQ v15.length ([(nth v17 v1 (0,[]))]:List dW).length 32) then
 some (.inl ((((),()),((),()),((),()),(v0,()),((IntKind.i64.wrap (v1+1)),()),()),((v2,v3,()),(v4,v5,v6,(),v7,v8,v9,v10,v11,(),v12,v13,v14,()),()),((v15++([(nth v17 v1 (0,[]))]:List dW)),v16,v17,())))
 else none
 else none
 else
 some (.inl ((((),()),((),()),((),()),(v0,()),((IntKind.i64.wrap (v1+1)),()),()),((v2,v3,()),(v4,v5,v6,(),v7,v8,v9,v10,v11,(),v12,v13,v14,()),()),(v15,v16,v17,())))
 else none
 else none
 else
 bif (inb v1 v17.length) then
 bif ((nth v17 v1 (0,[])).1 !=v2) then
 bif (inb v1 v17.length) then
 bif (zjQ v15.length ([(nth v17 v1 (0,[]))]:List dW).length 32) then
 some (.inl ((((),()),((),()),((),()),(v0,()),((IntKind.i64.wrap (v1+1)),()),()),((v2,v3,()),(v4,v5,v6,(),v7,v8,v9,v10,v11,(),v12,v13,v14,()),()),((v15++([(nth v17 v1 (0,[]))]:List dW)),v16,v17,())))
 else none
 else none
 else
 some (.inl ((((),()),((),()),((),()),(v0,()),((IntKind.i64.wrap (v1+1)),()),()),((v2,v3,()),(v4,v5,v6,(),v7,v8,v9,v10,v11,(),v12,v13,v14,()),()),(v15,v16,v17,())))
 else none
 else
 some (.inr (.inl ((((),()),((),()),((),()),(v0,()),()),((v2,v3,()),(v4,v5,v6,(),v7,v8,v9,v10,v11,(),v12,v13,v14,()),()),(v15,v16,v17,()))))
def yeH (x:(yd5).X):=yx9 x.1.2.2.2.1.1 x.1.2.2.2.2.1.1 x.2.1.1.1 x.2.1.1.2.1 x.2.1.2.1.1 x.2.1.2.1.2.1 x.2.1.2.1.2.2.1 x.2.1.2.1.2.2.2.2.1 x.2.1.2.1.2.2.2.2.2.1 x.2.1.2.1.2.2.2.2.2.2.1 x.2.1.2.1.2.2.2.2.2.2.2.1 x.2.1.2.1.2.2.2.2.2.2.2.2.1 x.2.1.2.1.2.2.2.2.2.2.2.2.2.2.1 x.2.1.2.1.2.2.2.2.2.2.2.2.2.2.2.1 x.2.1.2.1.2.2.2.2.2.2.2.2.2.2.2.2.1 x.2.2.1 x.2.2.2.1 x.2.2.2.2.1
def yHW (x:(ykT).X):(yd5).X:=((((),()),((),()),((),()),(false,()),(0,()),()),((x.2.1.1.1,x.2.1.1.2.1,()),(x.2.1.2.1.1,x.2.1.2.1.2.1,x.2.1.2.1.2.2.1,(),x.2.1.2.1.2.2.2.2.1,x.2.1.2.1.2.2.2.2.2.1,x.2.1.2.1.2.2.2.2.2.2.1,x.2.1.2.1.2.2.2.2.2.2.2.1,x.2.1.2.1.2.2.2.2.2.2.2.2.1,(),x.2.1.2.1.2.2.2.2.2.2.2.2.2.2.1,x.2.1.2.1.2.2.2.2.2.2.2.2.2.2.2.1,x.2.1.2.1.2.2.2.2.2.2.2.2.2.2.2.2.1,()),()),(x.2.2.1,x.2.2.2.1,x.2.2.2.2.1,()))
def yKq:Code:=(zdD ysz 64 244).getD .skip
theorem y03:zdD ysz 64 61=some (.block 0 (.loop yKq)):=by kernel_rfl
theorem y4t (x:(yd5).X):zg0 ⟨yyG,67,yMi⟩ 0 yKq 244 yd5 ykE yrP x=yeH x:=by kernel_rfl
def yIc (x:(ykT).X):Nat:=18446744073709551616
def yyV (x:(ykT).X):Option ((ykE).X ⊕ (yrP).X):=zz yeH (yIc x) (yHW x)
def yIX:Seg:=⟨ykT,ykE,yrP,yyV⟩
def yMj:Nat→Option Seg:=fun q=>bif Nat.beq q 61 then some yIX else yMi q
theorem y2t:FrOk Tryz.prog ⟨yyG,67,yMj⟩ ysz:=(y2s).loop (sg:=yIX) yd5 yHW (by decide) y03 yeH yIc (by decide) (fun _=>rfl) (fun x r _ h=>h) y4t
abbrev yiE:List Par:= [.pt tA (.pr .fz (.pr (.pr .fz .fz) (.pr (.ow (.pr (.ow .fz) (.pr (.ow (.pr .fz .fz)) (.pr .fz (.ow .fz))))) (.pr .fz (.pr .fz (.pr .fz (.pr .fz (.pr .fz (.pr (.ow (.pr .fz .fz)) (.pr .fz (.pr .fz .fz))))))))))),.kp tW .fz]
abbrev ys3:List OT:= []
def yuO (a0:dA) (a1:dW):Option (ResD ys3×MutD yiE) :=
 zjY (yyV ((((),()),((),()),((),()),((),()),((),()),()),((a1.1,a1.2,()),(a0.1,a0.2.1.1,a0.2.1.2,(),a0.2.2.2.1,a0.2.2.2.2.1,a0.2.2.2.2.2.1,a0.2.2.2.2.2.2.1,a0.2.2.2.2.2.2.2.1,(),a0.2.2.2.2.2.2.2.2.2.1,a0.2.2.2.2.2.2.2.2.2.2.1,a0.2.2.2.2.2.2.2.2.2.2.2,()),()),(([]:List dW),a0.2.2.1,a0.2.2.2.2.2.2.2.2.1,()))) (fun y0 =>
 bif (!y0.1.2.2.2.1.1) then
 bif (zjQ y0.2.2.1.length ([(y0.2.1.1.1,y0.2.1.1.2.1)]:List dW).length 32) then
 some ((),((y0.2.1.2.1.1,(y0.2.1.2.1.2.1,y0.2.1.2.1.2.2.1),y0.2.2.2.1,y0.2.1.2.1.2.2.2.2.1,y0.2.1.2.1.2.2.2.2.2.1,y0.2.1.2.1.2.2.2.2.2.2.1,y0.2.1.2.1.2.2.2.2.2.2.2.1,y0.2.1.2.1.2.2.2.2.2.2.2.2.1,(y0.2.2.1++([(y0.2.1.1.1,y0.2.1.1.2.1)]:List dW)),y0.2.1.2.1.2.2.2.2.2.2.2.2.2.2.1,y0.2.1.2.1.2.2.2.2.2.2.2.2.2.2.2.1,y0.2.1.2.1.2.2.2.2.2.2.2.2.2.2.2.2.1),()))
 else none
 else
 some ((),((y0.2.1.2.1.1,(y0.2.1.2.1.2.1,y0.2.1.2.1.2.2.1),y0.2.2.2.1,y0.2.1.2.1.2.2.2.2.1,y0.2.1.2.1.2.2.2.2.2.1,y0.2.1.2.1.2.2.2.2.2.2.1,y0.2.1.2.1.2.2.2.2.2.2.2.1,y0.2.1.2.1.2.2.2.2.2.2.2.2.1,y0.2.2.1,y0.2.1.2.1.2.2.2.2.2.2.2.2.2.2.1,y0.2.1.2.1.2.2.2.2.2.2.2.2.2.2.2.1,y0.2.1.2.1.2.2.2.2.2.2.2.2.2.2.2.2.1),()))) (fun y0 =>
 none)
theorem y9J (x:InD yiE):zjw ⟨yyG,67,yMj⟩ Tryz.f246.results.toList ysz yiE ys3 x=yuO x.1 x.2.1:=by kernel_rfl
theorem y6D:ConOk Tryz.prog 246 ⟨yiE,ys3,fun x=>yuO x.1 x.2.1⟩:=zj1 (y2t) Tryz.func246 (by kernel_rfl) (by kernel_rfl) Tryz.ntmps246.symm (by decide) (fun x r h=>(y9J x).trans h)
def yAa (a0:dA) (a1:dW):dA:=yII a0 (yID a0.2.2.2.2.2.2.2.2.1 a1)
def yIG (a0:dA) (a1:dW):Bool:=decide (a0.2.2.2.2.2.2.2.2.1.length≤1000)
theorem y8O (a0:dA) (a1:dW) (hk:zi1 yiE (a0,a1,())) (hq:yIG a0 a1=true):yuO a0 a1=(fun n=>some ((),(n,()))) (yAa a0 a1):=by
 have hq:=of_decide_eq_true hq
 have h1:=zj3 (step:=yeH) a0.2.2.2.2.2.2.2.2.1 (0,[]) (fun i s=>yxH s.1 i a1 a0 s.2) (ycQ a1) (fun i s=>s.2.length≤i * 2) (fun s=> .inl (yYl s.1 a1 a0 s.2)) (fun i s hi hs=>by
  constructor
  ·simp only [yeH,yxH,yx9,zj4 (show (i:Int) < a0.2.2.2.2.2.2.2.2.1.length by omega),cond_true,wr (show -9223372036854775808≤(i:Int)+1 by omega) (by omega),Int.natCast_add,Int.natCast_one,Int.toNat_natCast,zkl hi,zkr,zkm,ycQ,zka.2 (show (s.2.length+ [a1].length) * 32≤140737488355328 by simp only [List.length_cons,List.length_nil]; omega),
    show ∀ x:dW,zjQ s.2.length [x].length 32=true from fun x=>zka.2 (by simp only [List.length_cons,List.length_nil]; omega),show ∀ x:dW,zjQ (s.2++ [a1]).length [x].length 32=true from fun x=>zka.2 (by simp only [List.length_append,List.length_cons,List.length_nil]; omega)]
   cases s.1<;>cases leb a1.1 (a0.2.2.2.2.2.2.2.2.1.getD i (0,[])).1<;>cases ((a0.2.2.2.2.2.2.2.2.1.getD i (0,[])).1 !=a1.1)<;>simp
  ·unfold ycQ
   have: ∀ (b c:Bool) (x:dW),((bif b then s.2++ [a1] else s.2)++(bif c then [x] else [])).length≤(i+1) * 2:=fun b c x=>by
    cases b<;>cases c<;>simp<;>omega
   exact this _ _ _) (fun s hs=>by simp only [yeH,yxH,yx9,zkx (Int.le_refl _),cond_false]) (false,[]) (Nat.zero_le _) 18446744073709551616 (by omega)
 have hl:((a0.2.2.2.2.2.2.2.2.1.foldl (ycQ a1) (false,[])).2).length≤2000:=by
  have: ∀ (l:List dW) (s:Bool×List dW),((l.foldl (ycQ a1) s).2).length≤s.2.length+l.length * 2:=by
   intro l
   induction l with
   | nil=>intro s; simp
   | cons x t ih =>
    intro s
    rw [List.foldl_cons]
    have:=ih (ycQ a1 s x)
    have h2:(ycQ a1 s x).2.length≤s.2.length+2:=by
     unfold ycQ
     cases (!s.1&&leb a1.1 x.1)<;>cases (x.1 !=a1.1)<;>simp
    simp only [List.length_cons]; omega
  have:=this a0.2.2.2.2.2.2.2.2.1 (false,[])
  simp only [List.length_nil]at this
  omega
 unfold yuO yAa yID
 refine (congrArg (fun z=>zjY z _ _) (show yyV (yYz a1 a0 [])=_ from h1)).trans ?_
 generalize a0.2.2.2.2.2.2.2.2.1.foldl (ycQ a1) (false,[])=R at hl
 simp only [zkh,zkr]
 cases hr:R.1
 ·rw [zka.2 (show (R.2.length+ [a1].length) * 32≤140737488355328 by simp only [List.length_cons,List.length_nil]; omega)]; rfl
 ·rfl
def yAc (a0:dA) (a1:dW):Option (ResD ys3×MutD yiE):=bif yIG a0 a1 then (fun n=>some ((),(n,()))) (yAa a0 a1) else none
theorem y83 (a0:dA) (a1:dW) (h:yIG a0 a1=true):yAc a0 a1=(fun n=>some ((),(n,()))) (yAa a0 a1):=by unfold yAc; rw [h]; rfl
def yMN:Con:=⟨yiE,ys3,fun x=>yAc x.1 x.2.1⟩
theorem y80:ConOk Tryz.prog 246 yMN:=(y6D).mono (fun x r hk h=>zks h (fun hq=>y8O x.1 x.2.1 hk hq))
end
section
def yQO:Code:=(Tryz.f182.body).getD .skip
def yQ6:Env:=zj2 TT [(176,yFF),(177,yFD),(178,yHA),(246,yMN)] []
theorem y2u:FrOk Tryz.prog ⟨yQ6,40,fun _=>none⟩ yQO:=zj6 yc yd ⟨yZU,yZS,y34,y80,trivial⟩
def y4L:Nat→Option Seg:=fun _=>none
abbrev yiF:List Par:= [.pt tA (.pr .fz (.pr (.pr .fz .fz) (.pr (.ow (.pr (.ow .fz) (.pr (.ow (.pr .fz .fz)) (.pr .fz (.ow .fz))))) (.pr .fz (.pr .fz (.pr .fz (.pr .fz (.pr .fz (.pr (.ow (.pr .fz .fz)) (.pr .fz (.pr .fz .fz))))))))))),.rd tI,.rd tI]
abbrev ys4:List OT:= [⟨false,tI,.fz⟩]
def yuP (a0:dA) (a1 a2:Int):Option (ResD ys4×MutD yiF) :=
 let r1:=yly a0.2.1 a1
 bnd (yr1 a0 r1) fun r2 =>
 bif (!r2.1.2.1) then
 some ((5,()),(a0,()))
 else
 let r3:=ynS a0.2.1 a1
 bif (inb r3 r2.1.1.length) then
 bnd (yAc a0 (r1,(r2.1.1.set (r3).toNat a2))) fun r4 =>
 some ((0,()),(r4.2.1,()))
 else none
theorem y9K (x:InD yiF):zjw ⟨yQ6,40,y4L⟩ Tryz.f182.results.toList yQO yiF ys4 x=yuP x.1 x.2.1 x.2.2.1:=by kernel_rfl
theorem y6E:ConOk Tryz.prog 182 ⟨yiF,ys4,fun x=>yuP x.1 x.2.1 x.2.2.1⟩:=zj1 (y2u) Tryz.func182 (by kernel_rfl) (by kernel_rfl) Tryz.ntmps182.symm (by decide) (fun x r h=>(y9K x).trans h)
def setOne (a:dA) (b n:Int):Int×dA:=bif (yao a (yav a.2.1 b)).2 then (0,yII a (yID a.2.2.2.2.2.2.2.2.1 (yav a.2.1 b,(yao a (yav a.2.1 b)).1.set (yym a.2.1 b).toNat n))) else (5,a)
def yAb (a0:dA) (a1 a2:Int):Int×dA:=setOne a0 a1 a2
def ytv (a0:dA) (a1 a2:Int):Bool:=yE a0&&(blkOk a0.2.1 a1&&decide (a0.2.2.2.2.2.2.2.2.1.length≤1000))
theorem y8P (a0:dA) (a1 a2:Int) (hk:zi1 yiF (a0,a1,a2,())) (hq:ytv a0 a1 a2=true):yuP a0 a1 a2=(fun n=>some ((n.1,()),(n.2,()))) (yAb a0 a1 a2):=by
 simp only [ytv,Bool.and_eq_true]at hq
 have hs:=yLC hq.2.1
 obtain ⟨hg,_,hi⟩:=yKb hq.2.1
 unfold yuP yAb setOne
 simp only [yly,ynS]
 rw [yZY a0 (yav a0.2.1 a1) hs]
 simp only [zkc,ylz]
 cases hn:(yao a0 (yav a0.2.1 a1)).2
 ·rfl
 ·have hl:=yED hq.1 hs hn
  have hx:yym a0.2.1 a1=a1.tmod (a0.2.1.1 - 1):=by unfold yym; rw [hq.2.1]; rfl
  rw [zjC.2 (show 0≤yym a0.2.1 a1∧yym a0.2.1 a1 < (yao a0 (yav a0.2.1 a1)).1.length by omega),y83 _ _ hq.2.2]
  rfl
def ygv (a0:dA) (a1 a2:Int):Option (ResD ys4×MutD yiF):=bif ytv a0 a1 a2 then (fun n=>some ((n.1,()),(n.2,()))) (yAb a0 a1 a2) else none
theorem y84 (a0:dA) (a1 a2:Int) (h:ytv a0 a1 a2=true):ygv a0 a1 a2=(fun n=>some ((n.1,()),(n.2,()))) (yAb a0 a1 a2):=by unfold ygv; rw [h]; rfl
def yMO:Con:=⟨yiF,ys4,fun x=>ygv x.1 x.2.1 x.2.2.1⟩
theorem y81:ConOk Tryz.prog 182 yMO:=(y6E).mono (fun x r hk h=>zks h (fun hq=>y8P x.1 x.2.1 x.2.2.1 hk hq))
end
section
def yQM:Code:=(Tryz.f209.body).getD .skip
def yQ4:Env:=zj2 TT [(150,ym)] []
theorem y2m:FrOk Tryz.prog ⟨yQ4,10,fun _=>none⟩ yQM:=zj6 yc yd ⟨yv,trivial⟩
def y4J:Nat→Option Seg:=fun _=>none
abbrev ys0:List Par:= [.pt tU .fz]
abbrev yzi:List OT:= [⟨false,tG,(.pr .fz .fz)⟩]
def yiv (a0:dU):Option (ResD yzi×MutD ys0) :=
 bnd (yb a0 3) fun r1 =>
 bnd (yb r1.2.1 4) fun r2 =>
 some ((((IntKind.i64.wrap (3+r1.1.1)),(IntKind.i64.wrap (1+r2.1.1))),()),(r2.2.1,()))
theorem y9F (x:InD ys0):zjw ⟨yQ4,10,y4J⟩ Tryz.f209.results.toList yQM ys0 yzi x=yiv x.1:=by kernel_rfl
theorem y6z:ConOk Tryz.prog 209 ⟨ys0,yzi,fun x=>yiv x.1⟩:=zj1 (y2m) Tryz.func209 (by kernel_rfl) (by kernel_rfl) Tryz.ntmps209.symm (by decide) (fun x r h=>(y9F x).trans h)
def yML:Con:=⟨ys0,yzi,fun x=>yiv x.1⟩
theorem y8Y:ConOk Tryz.prog 209 yML:=y6z
theorem yabV (u:dU) (h:yA u): ∃ (g:dG) (u':dU),yiv u=some ((g,()),(u',()))∧yf g=true∧yA u':=by
 unfold yiv
 obtain ⟨r1,u1,e1,q1,d1⟩:=yp u 3 h
 obtain ⟨r2,u2,e2,q2,d2⟩:=yp u1 4 d1
 simp only [e1,e2,zkc]
 refine ⟨_,_,rfl,?_,d2⟩
 have:=q1.2.1 (by omega); have:=q2.2.1 (by omega); have:=q1.1; have:=q2.1
 rw [wr (by omega) (by omega),wr (by omega) (by omega)]
 exact yk.2 ⟨⟨by show 3≤3+r1; omega,by show 3+r1≤5; omega⟩,by show 1≤1+r2; omega,by show 1+r2≤8; omega⟩
end
section
def yWi:Code:=(Tryz.f263.body).getD .skip
def yWk:Env:=zj2 TT [] []
theorem y5w:FrOk Tryz.prog ⟨yWk,31,fun _=>none⟩ yWi:=zj6 yc yd trivial
def y7J:Nat→Option Seg:=fun _=>none
abbrev yvU:List Par:= [.pt tA (.pr .fz (.pr (.pr .fz .fz) (.pr (.ow (.pr (.ow .fz) (.pr (.ow (.pr .fz .fz)) (.pr .fz (.ow .fz))))) (.pr .fz (.pr .fz (.pr .fz (.pr .fz (.pr .fz (.pr (.ow (.pr .fz .fz)) (.pr .fz (.pr .fz .fz)))))))))))]
abbrev yCA:List OT:= [⟨false,tB,.fz⟩]
def yEB (a0:dA):Option (ResD yCA×MutD yvU) :=
 bif a0.2.2.2.2.2.2.2.2.2.2.1 then
 some ((false,()),(a0,()))
 else
 bif (a0.2.2.2.2.2.2.2.2.2.1==0) then
 some ((false,()),((a0.1,a0.2.1,a0.2.2.1,a0.2.2.2.1,a0.2.2.2.2.1,a0.2.2.2.2.2.1,a0.2.2.2.2.2.2.1,a0.2.2.2.2.2.2.2.1,a0.2.2.2.2.2.2.2.2.1,(-1),true,a0.2.2.2.2.2.2.2.2.2.2.2),()))
 else
 bif (ltb 0 a0.2.2.2.2.2.2.2.2.2.1) then
 some ((true,()),((a0.1,a0.2.1,a0.2.2.1,a0.2.2.2.1,a0.2.2.2.2.1,a0.2.2.2.2.2.1,a0.2.2.2.2.2.2.1,a0.2.2.2.2.2.2.2.1,a0.2.2.2.2.2.2.2.2.1,(IntKind.i64.wrap (a0.2.2.2.2.2.2.2.2.2.1 - 1)),a0.2.2.2.2.2.2.2.2.2.2),()))
 else
 some ((true,()),(a0,()))
theorem yaam (x:InD yvU):zjw ⟨yWk,31,y7J⟩ Tryz.f263.results.toList yWi yvU yCA x=yEB x.1:=by kernel_rfl
theorem y8T:ConOk Tryz.prog 263 ⟨yvU,yCA,fun x=>yEB x.1⟩:=zj1 (y5w) Tryz.func263 (by kernel_rfl) (by kernel_rfl) Tryz.ntmps263.symm (by decide) (fun x r h=>(yaam x).trans h)
def yv1 (a0:dA):Bool×dA :=
 bif a0.2.2.2.2.2.2.2.2.2.2.1 then
 (false,a0)
 else
 bif (a0.2.2.2.2.2.2.2.2.2.1==0) then
 (false,(a0.1,a0.2.1,a0.2.2.1,a0.2.2.2.1,a0.2.2.2.2.1,a0.2.2.2.2.2.1,a0.2.2.2.2.2.2.1,a0.2.2.2.2.2.2.2.1,a0.2.2.2.2.2.2.2.2.1,(-1),true,a0.2.2.2.2.2.2.2.2.2.2.2))
 else
 bif (ltb 0 a0.2.2.2.2.2.2.2.2.2.1) then
 (true,(a0.1,a0.2.1,a0.2.2.1,a0.2.2.2.1,a0.2.2.2.2.1,a0.2.2.2.2.2.1,a0.2.2.2.2.2.2.1,a0.2.2.2.2.2.2.2.1,a0.2.2.2.2.2.2.2.2.1,(IntKind.i64.wrap (a0.2.2.2.2.2.2.2.2.2.1 - 1)),a0.2.2.2.2.2.2.2.2.2.2))
 else
 (true,a0)
def yEn:Con:=⟨yvU,yCA,fun x=>(fun n=>some ((n.1,()),(n.2,()))) (yv1 x.1)⟩
theorem y9Y (a0:dA):yEB a0=(fun n=>some ((n.1,()),(n.2,()))) (yv1 a0):=zkp (p:=fun (n:Bool×dA)=>((n.1,()),(n.2,()))) (zkb (p:=fun (n:Bool×dA)=>((n.1,()),(n.2,()))) rfl (zkb (p:=fun (n:Bool×dA)=>((n.1,()),(n.2,()))) rfl (zkb (p:=fun (n:Bool×dA)=>((n.1,()),(n.2,()))) rfl rfl)))
theorem yS2:ConOk Tryz.prog 263 yEn:=(y8T).mono (fun x r _ h=>(y9Y x.1).trans h)
theorem y4u (a:dA):yv1 a=opA a:=by kernel_rfl
end
section
def yeK:Code:=(Tryz.f152.body).getD .skip
def yjE:Env:=zj2 TT [] [(21056,.fz),(21120,.fz),(37952,(.pr .fz .fz)),(38016,(.pr .fz .fz))]
theorem yXJ:FrOk Tryz.prog ⟨yjE,60,fun _=>none⟩ yeK:=zj6 yc yd trivial
def yJv:Nat→Option Seg:=fun _=>none
def yc2:Shape:=⟨[(1,false,[.ptr 0 0]),(2,false,[.ptr 64 0]),(3,false,[.ptr 4544 0]),(4,false,[.int .i64])],[(0,[.br tL,.br tW,.bool,.br tI]),(64,[.nil,.nil,.bool,.nil]),(4544,[.at 800000001,.nil,.bool,.at 800000000])],[(800000001,tL,.fz),(800000000,tI,.fz)]⟩
def yiX:Shape:=⟨[(1,false,[.ptr 0 0]),(2,false,[.ptr 64 0]),(3,false,[.ptr 4544 0]),(4,false,[.ci .i64 0])],[(0,[.br tL,.br tW,.bool,.br tI]),(64,[.nil,.nil,.bool,.nil]),(4544,[.at 800000001,.nil,.bool,.at 800000000])],[(800000001,tL,.fz),(800000000,tI,.fz)]⟩
def yiK:Shape:=⟨[(1,false,[.ptr 0 0]),(2,false,[.ptr 64 0]),(3,false,[.ptr 4544 0])],[(0,[.br tL,.br tW,.bool,.br tI]),(64,[.nil,.nil,.bool,.nil]),(4544,[.at 800000000,.nil,.bool,.at 800000001])],[(800000000,tL,.fz),(800000001,tI,.fz)]⟩
def yot:Shape:=⟨[],[],[]⟩
abbrev yvo (v0:Int) (v1 v2 v3:dM):(yc2).X:=((((),()),((),()),((),()),(v0,()),()),((v1.1,v1.2.1,v1.2.2.1,v1.2.2.2,()),((),(),v2.2.2.1,(),()),((),(),v3.2.2.1,(),()),()),(v3.1,v3.2.2.2,()))
abbrev yU6 (v0 v1 v2:dM):(yiX).X:=((((),()),((),()),((),()),((),()),()),((v0.1,v0.2.1,v0.2.2.1,v0.2.2.2,()),((),(),v1.2.2.1,(),()),((),(),v2.2.2.1,(),()),()),(v2.1,v2.2.2.2,()))
abbrev yF8 (v0 v1 v2:dM):(yiK).X:=((((),()),((),()),((),()),()),((v0.1,v0.2.1,v0.2.2.1,v0.2.2.2,()),((),(),v1.2.2.1,(),()),((),(),v2.2.2.1,(),()),()),(v2.1,v2.2.2.2,()))
def yvI (v0:Int) (v1:List (List Int)) (v2:List dW) (v3:Bool) (v4:List Int) (v5 v6:Bool) (v7:List (List Int)) (v8:List Int):Option ((yc2).X ⊕ ((yiK).X ⊕ (yot).X)) :=
 bif (ltb v0 (v1.length:Int)) then
 bif (inb v0 v1.length) then
 bif (zjQ ([]:List Int).length (nth v1 v0 []).length 8) then
 bif (zjQ v7.length ([(([]:List Int)++(nth v1 v0 []))]:List (List Int)).length 24) then
 some (.inl ((((),()),((),()),((),()),((IntKind.i64.wrap (v0+1)),()),()),((v1,v2,v3,v4,()),((),(),v5,(),()),((),(),v6,(),()),()),((v7++([(([]:List Int)++(nth v1 v0 []))]:List (List Int))),v8,())))
 else none
 else none
 else none
 else
 some (.inr (.inl ((((),()),((),()),((),()),()),((v1,v2,v3,v4,()),((),(),v5,(),()),((),(),v6,(),()),()),(v7,v8,()))))
def ydE (x:(yc2).X):=yvI x.1.2.2.2.1.1 x.2.1.1.1 x.2.1.1.2.1 x.2.1.1.2.2.1 x.2.1.1.2.2.2.1 x.2.1.2.1.2.2.1 x.2.1.2.2.1.2.2.1 x.2.2.1 x.2.2.2.1
def yFL (x:(yiX).X):(yc2).X:=((((),()),((),()),((),()),(0,()),()),((x.2.1.1.1,x.2.1.1.2.1,x.2.1.1.2.2.1,x.2.1.1.2.2.2.1,()),((),(),x.2.1.2.1.2.2.1,(),()),((),(),x.2.1.2.2.1.2.2.1,(),()),()),(x.2.2.1,x.2.2.2.1,()))
def yHh:Code:=(zdD yeK 64 116).getD .skip
theorem yWS:zdD yeK 64 29=some (.block 0 (.loop yHh)):=by kernel_rfl
theorem yZ5 (x:(yc2).X):zg0 ⟨yjE,60,yJv⟩ 0 yHh 116 yc2 yiK yot x=ydE x:=by kernel_rfl
def yFY (x:(yiX).X):Nat:=18446744073709551616
def yxb (x:(yiX).X):Option ((yiK).X ⊕ (yot).X):=zz ydE (yFY x) (yFL x)
def yGg:Seg:=⟨yiX,yiK,yot,yxb⟩
def yyv:Nat→Option Seg:=fun q=>bif Nat.beq q 29 then some yGg else yJv q
theorem yXK:FrOk Tryz.prog ⟨yjE,60,yyv⟩ yeK:=(yXJ).loop (sg:=yGg) yc2 yFL (by decide) yWS ydE yFY (by decide) (fun _=>rfl) (fun x r _ h=>h) yZ5
def yc3:Shape:=⟨[(1,false,[.ptr 0 0]),(2,false,[.ptr 64 0]),(3,false,[.ptr 4544 0]),(5,false,[.int .i64])],[(0,[.br tL,.br tW,.bool,.br tI]),(64,[.nil,.nil,.bool,.nil]),(4544,[.at 800000000,.at 800000002,.bool,.at 800000001])],[(800000000,tL,.fz),(800000002,tW,(.pr .fz .fz)),(800000001,tI,.fz)]⟩
def yiY:Shape:=⟨[(1,false,[.ptr 0 0]),(2,false,[.ptr 64 0]),(3,false,[.ptr 4544 0]),(5,false,[.ci .i64 0])],[(0,[.br tL,.br tW,.bool,.br tI]),(64,[.nil,.nil,.bool,.nil]),(4544,[.at 800000000,.at 800000002,.bool,.at 800000001])],[(800000000,tL,.fz),(800000002,tW,(.pr .fz .fz)),(800000001,tI,.fz)]⟩
def yiL:Shape:=⟨[(2,false,[.ptr 64 0]),(3,false,[.ptr 4544 0])],[(64,[.nil,.nil,.bool,.nil]),(4544,[.at 800000000,.at 800000001,.bool,.at 800000002])],[(800000000,tL,.fz),(800000001,tW,(.pr .fz .fz)),(800000002,tI,.fz)]⟩
def you:Shape:=⟨[],[],[]⟩
abbrev yvp (v0:Int) (v1 v2 v3:dM):(yc3).X:=((((),()),((),()),((),()),(v0,()),()),((v1.1,v1.2.1,v1.2.2.1,v1.2.2.2,()),((),(),v2.2.2.1,(),()),((),(),v3.2.2.1,(),()),()),(v3.1,v3.2.1,v3.2.2.2,()))
abbrev yU7 (v0 v1 v2:dM):(yiY).X:=((((),()),((),()),((),()),((),()),()),((v0.1,v0.2.1,v0.2.2.1,v0.2.2.2,()),((),(),v1.2.2.1,(),()),((),(),v2.2.2.1,(),()),()),(v2.1,v2.2.1,v2.2.2.2,()))
abbrev yF9 (v0 v1:dM):(yiL).X:=((((),()),((),()),()),(((),(),v0.2.2.1,(),()),((),(),v1.2.2.1,(),()),()),(v1.1,v1.2.1,v1.2.2.2,()))
def yvJ (v0:Int) (v1:List (List Int)) (v2:List dW) (v3:Bool) (v4:List Int) (v5 v6:Bool) (v7:List (List Int)) (v8:List dW) (v9:List Int):Option ((yc3).X ⊕ ((yiL).X ⊕ (you).X)) :=
 bif (ltb v0 (v2.length:Int)) then
 bif (inb v0 v2.length) then
 bif (inb v0 v2.length) then
 bif (zjQ ([]:List Int).length ((nth v2 v0 (0,[])).2).length 8) then
 bif (zjQ v8.length ([((nth v2 v0 (0,[])).1,(([]:List Int)++((nth v2 v0 (0,[])).2)))]:List dW).length 32) then
 some (.inl ((((),()),((),()),((),()),((IntKind.i64.wrap (v0+1)),()),()),((v1,v2,v3,v4,()),((),(),v5,(),()),((),(),v6,(),()),()),(v7,(v8++([((nth v2 v0 (0,[])).1,(([]:List Int)++((nth v2 v0 (0,[])).2)))]:List dW)),v9,())))
 else none
 else none
 else none
 else none
 else
 some (.inr (.inl ((((),()),((),()),()),(((),(),v5,(),()),((),(),v6,(),()),()),(v7,v8,v9,()))))
def ydF (x:(yc3).X):=yvJ x.1.2.2.2.1.1 x.2.1.1.1 x.2.1.1.2.1 x.2.1.1.2.2.1 x.2.1.1.2.2.2.1 x.2.1.2.1.2.2.1 x.2.1.2.2.1.2.2.1 x.2.2.1 x.2.2.2.1 x.2.2.2.2.1
def yFM (x:(yiY).X):(yc3).X:=((((),()),((),()),((),()),(0,()),()),((x.2.1.1.1,x.2.1.1.2.1,x.2.1.1.2.2.1,x.2.1.1.2.2.2.1,()),((),(),x.2.1.2.1.2.2.1,(),()),((),(),x.2.1.2.2.1.2.2.1,(),()),()),(x.2.2.1,x.2.2.2.1,x.2.2.2.2.1,()))
def yHi:Code:=(zdD yeK 64 244).getD .skip
theorem yWT:zdD yeK 64 61=some (.block 2 (.loop yHi)):=by kernel_rfl
theorem yZ6 (x:(yc3).X):zg0 ⟨yjE,60,yyv⟩ 2 yHi 244 yc3 yiL you x=ydF x:=by kernel_rfl
def yFZ (x:(yiY).X):Nat:=18446744073709551616
def yxc (x:(yiY).X):Option ((yiL).X ⊕ (you).X):=zz ydF (yFZ x) (yFM x)
def yGh:Seg:=⟨yiY,yiL,you,yxc⟩
def yJw:Nat→Option Seg:=fun q=>bif Nat.beq q 61 then some yGh else yyv q
theorem yXL:FrOk Tryz.prog ⟨yjE,60,yJw⟩ yeK:=(yXK).loop (sg:=yGh) yc3 yFM (by decide) yWT ydF yFZ (by decide) (fun _=>rfl) (fun x r _ h=>h) yZ6
abbrev yjS:List Par:= [.rd tM]
abbrev ywH:List OT:= [⟨false,tM,(.pr (.ow .fz) (.pr (.ow (.pr .fz .fz)) (.pr .fz (.ow .fz))))⟩]
def ysh (a0:dM):Option (ResD ywH×MutD yjS) :=
 bif (zjQ ([]:List Int).length a0.2.2.2.length 8) then
 zjY (yxb ((((),()),((),()),((),()),((),()),()),((a0.1,a0.2.1,a0.2.2.1,a0.2.2.2,()),((),(),false,(),()),((),(),a0.2.2.1,(),()),()),([],(([]:List Int)++a0.2.2.2),()))) (fun y0 =>
 zjY (yxc ((((),()),((),()),((),()),((),()),()),((y0.2.1.1.1,y0.2.1.1.2.1,y0.2.1.1.2.2.1,y0.2.1.1.2.2.2.1,()),((),(),y0.2.1.2.1.2.2.1,(),()),((),(),y0.2.1.2.2.1.2.2.1,(),()),()),(y0.2.2.1,[],y0.2.2.2.1,()))) (fun y1 =>
 some (((y1.2.2.1,y1.2.2.2.1,y1.2.1.2.1.2.2.1,y1.2.2.2.2.1),()),())) (fun y1 =>
 none)) (fun y0 =>
 none)
 else none
theorem y8d (x:InD yjS):zjw ⟨yjE,60,yJw⟩ Tryz.f152.results.toList yeK yjS ywH x=ysh x.1:=by kernel_rfl
theorem y3E:ConOk Tryz.prog 152 ⟨yjS,ywH,fun x=>ysh x.1⟩:=zj1 (yXL) Tryz.func152 (by kernel_rfl) (by kernel_rfl) Tryz.ntmps152.symm (by decide) (fun x r h=>(y8d x).trans h)
def yD (a0:dM):dM:=a0
theorem y53 (a0:dM) (hk:zi1 yjS (a0,())):ysh a0=(fun n=>some ((n,()),())) (yD a0):=by
 have hb1:a0.1.length * 24≤2 ^ 47:=hk.1.1.1
 have hb2:a0.2.1.length * 32≤2 ^ 47:=hk.1.2.1.1
 have hb3:a0.2.2.2.length * 8≤2 ^ 47:=hk.1.2.2.2.1
 have hs: ∀ i,i < a0.1.length→(a0.1.getD i []).length * 8≤2 ^ 47:=fun i hi=>by rw [zkd hi]; exact (hk.1.1.2 _ (List.getElem_mem hi)).1
 have hc: ∀ i,i < a0.2.1.length→(a0.2.1.getD i (0,[])).2.length * 8≤2 ^ 47:=fun i hi=>by rw [zkd hi]; exact (hk.1.2.1.2 _ (List.getElem_mem hi)).2.1
 have h1:yxb (yU6 a0 noMem ([],[],a0.2.2.1,a0.2.2.2))=some (.inl (yF8 a0 noMem (a0.1,[],a0.2.2.1,a0.2.2.2))):=by
  have:=zj3 (step:=ydE) a0.1 [] (fun i s=>yvo i a0 noMem (s,[],a0.2.2.1,a0.2.2.2)) (fun s x=>s++ [x]) (fun i s=>s.length=i) (fun s=> .inl (yF8 a0 noMem (s,[],a0.2.2.1,a0.2.2.2))) (fun i s hi hs2=>⟨by
   have:=hs i hi
   simp only [ydE,yvo,yvI,zj4 (show (i:Int) < a0.1.length by omega),cond_true,wr (show -9223372036854775808≤(i:Int)+1 by omega) (by omega),Int.natCast_add,Int.natCast_one,Int.toNat_natCast,zkl hi,zkm,List.nil_append]
   rw [zka.2 (show (([]:List Int).length+(a0.1.getD i []).length) * 8≤140737488355328 by rw [List.length_nil]; omega),zka.2 (show (s.length+ [a0.1.getD i []].length) * 24≤140737488355328 by simp only [List.length_cons,List.length_nil]; omega)]; rfl,by simp [hs2]⟩) (fun s _=>by simp only [ydE,yvo,yvI,zkx (Int.le_refl _),cond_false]) [] rfl 18446744073709551616 (by omega)
  rw [yxt]at this
  exact this
 have h2:yxc (yU7 a0 noMem (a0.1,[],a0.2.2.1,a0.2.2.2))=some (.inl (yF9 noMem a0)):=by
  have:=zj3 (step:=ydF) a0.2.1 (0,[]) (fun i s=>yvp i a0 noMem (a0.1,s,a0.2.2.1,a0.2.2.2)) (fun s x=>s++ [x]) (fun i s=>s.length=i) (fun s=> .inl (yF9 noMem (a0.1,s,a0.2.2.1,a0.2.2.2))) (fun i s hi hs2=>⟨by
   have:=hc i hi
   simp only [ydF,yvp,yvJ,zj4 (show (i:Int) < a0.2.1.length by omega),cond_true,wr (show -9223372036854775808≤(i:Int)+1 by omega) (by omega),Int.natCast_add,Int.natCast_one,Int.toNat_natCast,zkl hi,zkm,List.nil_append,zkr]
   rw [zka.2 (show (([]:List Int).length+(a0.2.1.getD i (0,[])).2.length) * 8≤140737488355328 by rw [List.length_nil]; omega),zka.2 (show (s.length+ [a0.2.1.getD i (0,[])].length) * 32≤140737488355328 by simp only [List.length_cons,List.length_nil]; omega)]; rfl,by simp [hs2]⟩) (fun s _=>by simp only [ydF,yvp,yvJ,zkx (Int.le_refl _),cond_false]) [] rfl 18446744073709551616 (by omega)
  rw [yxt]at this
  exact this
 unfold ysh yD
 rw [zka.2 (show (([]:List Int).length+a0.2.2.2.length) * 8≤140737488355328 by rw [List.length_nil]; omega)]
 simp only [cond_true,List.nil_append,h1,zkh,h2]
def ycq:Con:=⟨yjS,ywH,fun x=>(fun n=>some ((n,()),())) (yD x.1)⟩
theorem yfK:ConOk Tryz.prog 152 ycq:=(y3E).mono (fun x r hk h=>(y53 x.1 hk).trans h)
end
section
def yiz:Code:=(Tryz.f287.body).getD .skip
def yoi:Env:=zj2 TT [] []
theorem yPY:FrOk Tryz.prog ⟨yoi,28,fun _=>none⟩ yiz:=zj6 yc yd trivial
def yCR:Nat→Option Seg:=fun _=>none
def ya7:Shape:=⟨[(0,false,[.br tI]),(1,false,[.int .i64]),(5,false,[.at 800000000]),(6,false,[.int .i64])],[],[(800000000,tI,.fz)]⟩
def yfd:Shape:=⟨[(0,false,[.br tI]),(1,false,[.int .i64]),(5,false,[.at 800000000]),(6,false,[.ci .i64 0])],[],[(800000000,tI,.fz)]⟩
def ye4:Shape:=⟨[(5,false,[.at 800000000])],[],[(800000000,tI,.fz)]⟩
def yjy:Shape:=⟨[],[],[]⟩
abbrev yoP (v0:List Int) (v1 v2:Int) (v3:List Int):(ya7).X:=(((v0,()),(v1,()),((),()),(v2,()),()),(),(v3,()))
abbrev yNW (v0:List Int) (v1:Int) (v2:List Int):(yfd).X:=(((v0,()),(v1,()),((),()),((),()),()),(),(v2,()))
abbrev yNN (v0:List Int):(ye4).X:=((((),()),()),(),(v0,()))
def ypo (v0:List Int) (v1 v2:Int) (v3:List Int):Option ((ya7).X ⊕ ((ye4).X ⊕ (yjy).X)) :=
 bif (ltb v2 (v0.length:Int)) then
 bif (inb v2 v0.length) then
 bif ((nth v0 v2 0) !=v1) then
 bif (inb v2 v0.length) then
 bif (zjQ v3.length ([(nth v0 v2 0)]:List Int).length 8) then
 some (.inl (((v0,()),(v1,()),((),()),((IntKind.i64.wrap (v2+1)),()),()),(),((v3++([(nth v0 v2 0)]:List Int)),())))
 else none
 else none
 else
 some (.inl (((v0,()),(v1,()),((),()),((IntKind.i64.wrap (v2+1)),()),()),(),(v3,())))
 else none
 else
 some (.inr (.inl ((((),()),()),(),(v3,()))))
def ybq (x:(ya7).X):=ypo x.1.1.1 x.1.2.1.1 x.1.2.2.2.1.1 x.2.2.1
def yzM (x:(yfd).X):(ya7).X:=(((x.1.1.1,()),(x.1.2.1.1,()),((),()),(0,()),()),(),(x.2.2.1,()))
def yA2:Code:=(zdD yiz 64 116).getD .skip
theorem yPJ:zdD yiz 64 29=some (.block 0 (.loop yA2)):=by kernel_rfl
theorem yQz (x:(ya7).X):zg0 ⟨yoi,28,yCR⟩ 0 yA2 116 ya7 ye4 yjy x=ybq x:=by kernel_rfl
def yzX (x:(yfd).X):Nat:=18446744073709551616
def yqC (x:(yfd).X):Option ((ye4).X ⊕ (yjy).X):=zz ybq (yzX x) (yzM x)
def yAH:Seg:=⟨yfd,ye4,yjy,yqC⟩
def yCS:Nat→Option Seg:=fun q=>bif Nat.beq q 29 then some yAH else yCR q
theorem yPZ:FrOk Tryz.prog ⟨yoi,28,yCS⟩ yiz:=(yPY).loop (sg:=yAH) ya7 yzM (by decide) yPJ ybq yzX (by decide) (fun _=>rfl) (fun x r _ h=>h) yQz
abbrev yfq:List Par:= [.rd tL,.rd tI]
abbrev yoq:List OT:= [⟨false,tL,(.ow .fz)⟩]
def ylL (a0:List Int) (a1:Int):Option (ResD yoq×MutD yfq) :=
 zjY (yqC (((a0,()),(a1,()),((),()),((),()),()),(),(([]:List Int),()))) (fun y0 =>
 some ((y0.2.2.1,()),())) (fun y0 =>
 none)
theorem yXb (x:InD yfq):zjw ⟨yoi,28,yCS⟩ Tryz.f287.results.toList yiz yfq yoq x=ylL x.1 x.2.1:=by kernel_rfl
theorem ySU:ConOk Tryz.prog 287 ⟨yfq,yoq,fun x=>ylL x.1 x.2.1⟩:=zj1 (yPZ) Tryz.func287 (by kernel_rfl) (by kernel_rfl) Tryz.ntmps287.symm (by decide) (fun x r h=>(yXb x).trans h)
def yjl (a0:List Int) (a1:Int):List Int:=y66 a0 a1
theorem yRv {α:Type} (p:α→Bool): ∀ (l:List α) (s:List α),l.foldl (fun s x=>bif p x then s++ [x] else s) s=s++l.filter p
 | [],s=>by simp
 | x::l,s=>by
  rw [List.foldl_cons,yRv p l,List.filter_cons]
  cases p x<;>simp
theorem yVm (a0:List Int) (a1:Int) (hk:zi1 yfq (a0,a1,())):ylL a0 a1=(fun n=>some ((n,()),())) (yjl a0 a1):=by
 have hb:a0.length * 8≤2 ^ 47:=hk.1.1
 have h1:=zj3 (step:=ybq) a0 0 (fun i s=>yoP a0 a1 i s) (fun s x=>bif x !=a1 then s++ [x] else s) (fun i s=>s.length≤i) (fun s=> .inl (yNN s)) (fun i s hi hs=>by
   constructor
   ·simp only [ybq,yoP,ypo,zj4 (show (i:Int) < a0.length by omega),cond_true,wr (show -9223372036854775808≤(i:Int)+1 by omega) (by omega),Int.natCast_add,Int.natCast_one,Int.toNat_natCast,zkl hi,zkm]
    rw [zka.2 (show (s.length+ [a0.getD i 0].length) * 8≤140737488355328 by simp only [List.length_cons,List.length_nil]; omega)]
    cases (a0.getD i 0 !=a1)<;>rfl
   ·cases (a0.getD i 0 !=a1)
    ·show s.length≤_; omega
    ·simp only [cond_true,List.length_append,List.length_cons,List.length_nil]; omega) (fun s _=>by simp only [ybq,yoP,ypo,zkx (Int.le_refl _),cond_false]) [] (Nat.le_refl _) 18446744073709551616 (by omega)
 unfold ylL yjl y66
 rw [show yqC (yNW a0 a1 [])=_ from h1,yRv]; rfl
def yDg:Con:=⟨yfq,yoq,fun x=>(fun n=>some ((n,()),())) (yjl x.1 x.2.1)⟩
theorem yVX:ConOk Tryz.prog 287 yDg:=(ySU).mono (fun x r hk h=>(yVm x.1 x.2.1 hk).trans h)
end
section
def yJl:Code:=(Tryz.f264.body).getD .skip
def yJ6:Env:=zj2 TT [(135,yq),(152,ycq),(224,yfB),(269,yB0),(287,yDg)] [(16832,(.pr .fz .fz))]
theorem yR6:FrOk Tryz.prog ⟨yJ6,55,fun _=>none⟩ yJl:=zj6 yc yd ⟨yy,yfK,yj1,yPr,yVX,trivial⟩
def yTH:Nat→Option Seg:=fun _=>none
abbrev ygP:List Par:= [.rd tM,.rd tI,.rd tL]
abbrev yrF:List OT:= [⟨false,tM,(.pr (.ow .fz) (.pr (.ow (.pr .fz .fz)) (.pr .fz (.ow .fz))))⟩,⟨false,tB,.fz⟩]
def ymG (a0:dM) (a1:Int) (a2:List Int):Option (ResD yrF×MutD ygP) :=
 let r1:=yD a0
 let r2:=yab a0
 bif (!(!r2)) then
 bif (!a0.2.2.1) then
 let r3:=ya a1 0 (IntKind.i64.wrap ((a0.1.length:Int) - 1))
 bif (!(!r3)) then
 let r4:=yjj a2
 bif (!(!r4)) then
 bif (leb 60 (a0.2.1.length:Int)) then
 some ((r1,false,()),())
 else
 bif (zjQ ([]:List Int).length a2.length 8) then
 bif (zjQ r1.2.1.length ([(a1,(([]:List Int)++a2))]:List dW).length 32) then
 let r5:=yjl a0.2.2.2 a1
 some (((r1.1,(r1.2.1++([(a1,(([]:List Int)++a2))]:List dW)),r1.2.2.1,r5),true,()),())
 else none
 else none
 else
 some ((r1,false,()),())
 else
 some ((r1,false,()),())
 else
 some ((r1,false,()),())
 else
 some ((r1,false,()),())
theorem y1B (x:InD ygP):zjw ⟨yJ6,55,yTH⟩ Tryz.f264.results.toList yJl ygP yrF x=ymG x.1 x.2.1 x.2.2.1:=by kernel_rfl
theorem yVM:ConOk Tryz.prog 264 ⟨ygP,yrF,fun x=>ymG x.1 x.2.1 x.2.2.1⟩:=zj1 (yR6) Tryz.func264 (by kernel_rfl) (by kernel_rfl) Tryz.ntmps264.symm (by decide) (fun x r h=>(y1B x).trans h)
def yel (a0:dM) (a1:Int) (a2:List Int):dM×Bool:=yhd a0 a1 a2
theorem yY5 (a0:dM) (a1:Int) (a2:List Int) (hk:zi1 ygP (a0,a1,a2,())):ymG a0 a1 a2=(fun n=>some ((n.1,n.2,()),())) (yel a0 a1 a2):=by
 have hb1:a0.1.length * 24≤2 ^ 47:=hk.1.1.1
 have hb2:a2.length * 8≤2 ^ 47:=hk.2.2.1.1
 unfold ymG yel yhd yBW
 simp only [yD,yab,yvZ (show a0.1.length≤1152921504606846976 by omega),yLB,yjl,List.nil_append]
 cases yu a0
 ·rfl
 cases a0.2.2.1
 ·cases inb a1 a0.1.length
  ·rfl
  cases yal a2
  ·rfl
  by_cases h:(a0.2.1.length:Int) < 60
  ·rw [zj4 h,zkv h,zka.2 (show (([]:List Int).length+a2.length) * 8≤140737488355328 by rw [List.length_nil]; omega),zka.2 (show (a0.2.1.length+ [(a1,a2)].length) * 32≤140737488355328 by simp only [List.length_cons,List.length_nil]; omega)]; rfl
  ·rw [zkx (by omega),zkw (by omega)]; rfl
 ·rfl
def yvi:Con:=⟨ygP,yrF,fun x=>(fun n=>some ((n.1,n.2,()),())) (yel x.1 x.2.1 x.2.2.1)⟩
theorem yIA:ConOk Tryz.prog 264 yvi:=(yVM).mono (fun x r hk h=>(yY5 x.1 x.2.1 x.2.2.1 hk).trans h)
end
section
def yQN:Code:=(Tryz.f207.body).getD .skip
def yQ5:Env:=zj2 TT [(263,yEn),(264,yvi)] []
theorem y2n:FrOk Tryz.prog ⟨yQ5,43,fun _=>none⟩ yQN:=zj6 yc yd ⟨yS2,yIA,trivial⟩
def y4K:Nat→Option Seg:=fun _=>none
abbrev yiC:List Par:= [.pt tA (.pr .fz (.pr (.pr .fz .fz) (.pr (.ow (.pr (.ow .fz) (.pr (.ow (.pr .fz .fz)) (.pr .fz (.ow .fz))))) (.pr .fz (.pr .fz (.pr .fz (.pr .fz (.pr .fz (.pr (.ow (.pr .fz .fz)) (.pr .fz (.pr .fz .fz))))))))))),.rd tI,.rd tI,.rd tL]
abbrev ys1:List OT:= []
def yuL (a0:dA) (a1 a2:Int) (a3:List Int):Option (ResD ys1×MutD yiC) :=
 bif (inb a1 a0.2.2.1.length) then
 bif (!((((nth a0.2.2.1 a1 ([],[],false,[])).2).2).1)) then
 let r1:=yv1 a0
 bif (!r1.1) then
 some ((),(r1.2,()))
 else
 bif (inb a1 r1.2.2.2.1.length) then
 let r2:=yel ((nth r1.2.2.2.1 a1 ([],[],false,[])).1,((nth r1.2.2.2.1 a1 ([],[],false,[])).2).1,(((nth r1.2.2.2.1 a1 ([],[],false,[])).2).2)) a2 a3
 bif (inb a1 r1.2.2.2.1.length) then
 some ((),((r1.2.1,r1.2.2.1,(r1.2.2.2.1.set (a1).toNat r2.1),r1.2.2.2.2),()))
 else none
 else none
 else
 some ((),(a0,()))
 else none
theorem y9G (x:InD yiC):zjw ⟨yQ5,43,y4K⟩ Tryz.f207.results.toList yQN yiC ys1 x=yuL x.1 x.2.1 x.2.2.1 x.2.2.2.1:=by kernel_rfl
theorem y6A:ConOk Tryz.prog 207 ⟨yiC,ys1,fun x=>yuL x.1 x.2.1 x.2.2.1 x.2.2.2.1⟩:=zj1 (y2n) Tryz.func207 (by kernel_rfl) (by kernel_rfl) Tryz.ntmps207.symm (by decide) (fun x r h=>(y9G x).trans h)
def ytr (a0:dA) (a1 a2:Int) (a3:List Int):dA:=ydM a0 a1 a2 a3
def yIE (a0:dA) (a1 a2:Int) (a3:List Int):Bool:=inb a1 a0.2.2.1.length
theorem y8L (a0:dA) (a1 a2:Int) (a3:List Int) (hk:zi1 yiC (a0,a1,a2,a3,())) (hq:yIE a0 a1 a2 a3=true):yuL a0 a1 a2 a3=(fun n=>some ((),(n,()))) (ytr a0 a1 a2 a3):=by
 have hq:inb a1 a0.2.2.1.length=true:=hq
 unfold yuL ytr ydM setMem
 simp only [y4u,yaT,hq,zkr,yel]
 cases (nth a0.2.2.1 a1 noMem).2.2.1<;>cases (opA a0).1<;>rfl
def ygu (a0:dA) (a1 a2:Int) (a3:List Int):Option (ResD ys1×MutD yiC):=bif yIE a0 a1 a2 a3 then (fun n=>some ((),(n,()))) (ytr a0 a1 a2 a3) else none
theorem yqk (a0:dA) (a1 a2:Int) (a3:List Int) (h:yIE a0 a1 a2 a3=true):ygu a0 a1 a2 a3=(fun n=>some ((),(n,()))) (ytr a0 a1 a2 a3):=by unfold ygu; rw [h]; rfl
def ynG:Con:=⟨yiC,ys1,fun x=>ygu x.1 x.2.1 x.2.2.1 x.2.2.2.1⟩
theorem yw0:ConOk Tryz.prog 207 ynG:=(y6A).mono (fun x r hk h=>zks h (fun hq=>y8L x.1 x.2.1 x.2.2.1 x.2.2.2.1 hk hq))
end
section
def yka:Code:=(Tryz.f286.body).getD .skip
def yrc:Env:=zj2 TT [(152,ycq),(224,yfB)] [(32768,(.pr .fz .fz))]
theorem yRX:FrOk Tryz.prog ⟨yrc,40,fun _=>none⟩ yka:=zj6 yc yd ⟨yfK,yj1,trivial⟩
def yEY:Nat→Option Seg:=fun _=>none
def ybD:Shape:=⟨[(2,false,[.ptr 64 0]),(3,false,[.ptr 4224 0]),(4,false,[.int .i64])],[(64,[.nil,.nil,.bool,.nil]),(4224,[.at 800000000,.at 800000001,.bool,.at 800000002])],[(800000000,tL,.fz),(800000001,tW,(.pr .fz .fz)),(800000002,tI,.fz)]⟩
def ygk:Shape:=⟨[(2,false,[.ptr 64 0]),(3,false,[.ptr 4224 0]),(4,false,[.ci .i64 0])],[(64,[.nil,.nil,.bool,.nil]),(4224,[.at 800000000,.at 800000001,.bool,.at 800000002])],[(800000000,tL,.fz),(800000001,tW,(.pr .fz .fz)),(800000002,tI,.fz)]⟩
def yf9:Shape:=⟨[(2,false,[.ptr 64 0]),(3,false,[.ptr 4224 0])],[(64,[.nil,.nil,.bool,.nil]),(4224,[.at 800000000,.at 800000001,.bool,.at 800000002])],[(800000000,tL,.fz),(800000001,tW,(.pr .fz .fz)),(800000002,tI,.fz)]⟩
def ylf:Shape:=⟨[],[],[]⟩
abbrev yqL (v0:Int) (v1 v2:dM):(ybD).X:=((((),()),((),()),(v0,()),()),(((),(),v1.2.2.1,(),()),((),(),v2.2.2.1,(),()),()),(v2.1,v2.2.1,v2.2.2.2,()))
abbrev yQb (v0 v1:dM):(ygk).X:=((((),()),((),()),((),()),()),(((),(),v0.2.2.1,(),()),((),(),v1.2.2.1,(),()),()),(v1.1,v1.2.1,v1.2.2.2,()))
abbrev yBA (v0 v1:dM):(yf9).X:=((((),()),((),()),()),(((),(),v0.2.2.1,(),()),((),(),v1.2.2.1,(),()),()),(v1.1,v1.2.1,v1.2.2.2,()))
def yq2 (v0:Int) (v1 v2:Bool) (v3:List (List Int)) (v4:List dW) (v5:List Int):Option ((ybD).X ⊕ ((yf9).X ⊕ (ylf).X)) :=
 bif (ltb v0 (v4.length:Int)) then
 bif (inb v0 v4.length) then
 bif (inb v0 v4.length) then
 bif (inb ((nth v4 v0 (0,[])).1) v3.length) then
 let r4:=(v3.set ((nth v4 v0 (0,[])).1).toNat ((nth v4 v0 (0,[])).2))
 some (.inl ((((),()),((),()),((IntKind.i64.wrap (v0+1)),()),()),(((),(),v1,(),()),((),(),v2,(),()),()),(r4,v4,v5,())))
 else none
 else none
 else none
 else
 some (.inr (.inl ((((),()),((),()),()),(((),(),v1,(),()),((),(),v2,(),()),()),(v3,v4,v5,()))))
def yb3 (x:(ybD).X):=yq2 x.1.2.2.1.1 x.2.1.1.2.2.1 x.2.1.2.1.2.2.1 x.2.2.1 x.2.2.2.1 x.2.2.2.2.1
def yBg (x:(ygk).X):(ybD).X:=((((),()),((),()),(0,()),()),(((),(),x.2.1.1.2.2.1,(),()),((),(),x.2.1.2.1.2.2.1,(),()),()),(x.2.2.1,x.2.2.2.1,x.2.2.2.2.1,()))
def yC8:Code:=(zdD yka 64 244).getD .skip
theorem yRg:zdD yka 64 61=some (.block 0 (.loop yC8)):=by kernel_rfl
theorem yTe (x:(ybD).X):zg0 ⟨yrc,40,yEY⟩ 0 yC8 244 ybD yf9 ylf x=yb3 x:=by kernel_rfl
def yBs (x:(ygk).X):Nat:=18446744073709551616
def ysK (x:(ygk).X):Option ((yf9).X ⊕ (ylf).X):=zz yb3 (yBs x) (yBg x)
def yBK:Seg:=⟨ygk,yf9,ylf,ysK⟩
def yEZ:Nat→Option Seg:=fun q=>bif Nat.beq q 61 then some yBK else yEY q
theorem yRY:FrOk Tryz.prog ⟨yrc,40,yEZ⟩ yka:=(yRX).loop (sg:=yBK) ybD yBg (by decide) yRg yb3 yBs (by decide) (fun _=>rfl) (fun x r _ h=>h) yTe
abbrev ygJ:List Par:= [.rd tM]
abbrev yry:List OT:= [⟨false,tM,(.pr (.ow .fz) (.pr (.ow (.pr .fz .fz)) (.pr .fz (.ow .fz))))⟩]
def ymA (a0:dM):Option (ResD yry×MutD ygJ) :=
 let r1:=yD a0
 let r2:=yab a0
 bif (!(!r2)) then
 bif a0.2.2.1 then
 some ((r1,()),())
 else
 zjY (ysK ((((),()),((),()),((),()),()),(((),(),false,(),()),((),(),r1.2.2.1,(),()),()),(r1.1,r1.2.1,r1.2.2.2,()))) (fun y4 =>
 some (((y4.2.2.1,([]:List dW),y4.2.1.2.1.2.2.1,y4.2.2.2.2.1),()),())) (fun y4 =>
 none)
 else
 some ((r1,()),())
theorem y1u (x:InD ygJ):zjw ⟨yrc,40,yEZ⟩ Tryz.f286.results.toList yka ygJ yry x=ymA x.1:=by kernel_rfl
theorem yVF:ConOk Tryz.prog 286 ⟨ygJ,yry,fun x=>ymA x.1⟩:=zj1 (yRY) Tryz.func286 (by kernel_rfl) (by kernel_rfl) Tryz.ntmps286.symm (by decide) (fun x r h=>(y1u x).trans h)
def yej (a0:dM):dM:=yfC a0
theorem yYY (a0:dM) (hk:zi1 ygJ (a0,())):ymA a0=(fun n=>some ((n,()),())) (yej a0):=by
 have hb2:a0.2.1.length * 32≤2 ^ 47:=hk.1.2.1.1
 unfold ymA yej yfC
 simp only [yD,yab]
 cases hm:yu a0
 ·rfl
 have h1:ysK (yQb noMem a0)=some (.inl (yBA noMem (ybP (fun _=>true) a0.2.1 a0.1,a0.2))) :=
  zj8 (step:=yb3) a0.2.1.length (fun i s=>yqL i noMem (s,a0.2)) (ybH (fun _=>true) a0.2.1) (fun i s=>s.length=a0.1.length) (fun s=> .inl (yBA noMem (s,a0.2))) (fun i s hi hs=>by
   have hw:=(yNI hm hi).1
   refine ⟨?_,yzZ.trans hs⟩
   simp only [yb3,yqL,yq2,zj4 (show (i:Int) < a0.2.1.length by omega),cond_true,wr (show -9223372036854775808≤(i:Int)+1 by omega) (by omega),Int.natCast_add,Int.natCast_one,Int.toNat_natCast,zkl hi,hs,hw,ybH]) (fun s hs=>by simp only [yb3,yqL,yq2,zkx (Int.le_refl _),cond_false]) a0.1 rfl _ (by show _ < 18446744073709551616; omega)
 rw [h1]
 cases hf:a0.2.2.1
 ·exact congrArg (fun z=>some (((ybP (fun _=>true) a0.2.1 a0.1,([]:List dW),z,a0.2.2.2),()),())) hf
 ·rfl
def yvf:Con:=⟨ygJ,yry,fun x=>(fun n=>some ((n,()),())) (yej x.1)⟩
theorem yIx:ConOk Tryz.prog 286 yvf:=(yVF).mono (fun x r hk h=>(yYY x.1 hk).trans h)
end
section
def ypx:Code:=(Tryz.f261.body).getD .skip
def ywc:Env:=zj2 TT [(263,yEn),(286,yvf)] []
theorem yX7:FrOk Tryz.prog ⟨ywc,39,fun _=>none⟩ ypx:=zj6 yc yd ⟨yS2,yIx,trivial⟩
def yJL:Nat→Option Seg:=fun _=>none
def yd4:Shape:=⟨[(0,false,[.ptr 1000000000 0]),(2,false,[.int .i64])],[(1000000000,[.int .i64,.int .i64,.int .i64,.at 800000000,.int .i64,.int .i64,.int .i64,.int .i64,.int .i64,.at 800000001,.int .i64,.bool,.bool])],[(800000000,tM,(.pr (.ow .fz) (.pr (.ow (.pr .fz .fz)) (.pr .fz (.ow .fz))))),(800000001,tW,(.pr .fz .fz))]⟩
def ykS:Shape:=⟨[(0,false,[.ptr 1000000000 0]),(2,false,[.ci .i64 0])],[(1000000000,[.int .i64,.int .i64,.int .i64,.at 800000000,.int .i64,.int .i64,.int .i64,.int .i64,.int .i64,.at 800000001,.int .i64,.bool,.bool])],[(800000000,tM,(.pr (.ow .fz) (.pr (.ow (.pr .fz .fz)) (.pr .fz (.ow .fz))))),(800000001,tW,(.pr .fz .fz))]⟩
def ykD:Shape:=⟨[],[(1000000000,[.int .i64,.int .i64,.int .i64,.at 800000000,.int .i64,.int .i64,.int .i64,.int .i64,.int .i64,.at 800000001,.int .i64,.bool,.bool])],[(800000000,tM,(.pr (.ow .fz) (.pr (.ow (.pr .fz .fz)) (.pr .fz (.ow .fz))))),(800000001,tW,(.pr .fz .fz))]⟩
def yrO:Shape:=⟨[],[],[]⟩
abbrev yxG (v0:Int) (v1:dA):(yd4).X:=((((),()),(v0,()),()),((v1.1,v1.2.1.1,v1.2.1.2,(),v1.2.2.2.1,v1.2.2.2.2.1,v1.2.2.2.2.2.1,v1.2.2.2.2.2.2.1,v1.2.2.2.2.2.2.2.1,(),v1.2.2.2.2.2.2.2.2.2.1,v1.2.2.2.2.2.2.2.2.2.2.1,v1.2.2.2.2.2.2.2.2.2.2.2,()),()),(v1.2.2.1,v1.2.2.2.2.2.2.2.2.1,()))
abbrev yYy (v0:dA):(ykS).X:=((((),()),((),()),()),((v0.1,v0.2.1.1,v0.2.1.2,(),v0.2.2.2.1,v0.2.2.2.2.1,v0.2.2.2.2.2.1,v0.2.2.2.2.2.2.1,v0.2.2.2.2.2.2.2.1,(),v0.2.2.2.2.2.2.2.2.2.1,v0.2.2.2.2.2.2.2.2.2.2.1,v0.2.2.2.2.2.2.2.2.2.2.2,()),()),(v0.2.2.1,v0.2.2.2.2.2.2.2.2.1,()))
abbrev yIn (v0:dA):(ykD).X:=((),((v0.1,v0.2.1.1,v0.2.1.2,(),v0.2.2.2.1,v0.2.2.2.2.1,v0.2.2.2.2.2.1,v0.2.2.2.2.2.2.1,v0.2.2.2.2.2.2.2.1,(),v0.2.2.2.2.2.2.2.2.2.1,v0.2.2.2.2.2.2.2.2.2.2.1,v0.2.2.2.2.2.2.2.2.2.2.2,()),()),(v0.2.2.1,v0.2.2.2.2.2.2.2.2.1,()))
def yx8 (v0 v1 v2 v3 v4 v5 v6 v7 v8 v9:Int) (v10 v11:Bool) (v12:List dM) (v13:List dW):Option ((yd4).X ⊕ ((ykD).X ⊕ (yrO).X)) :=
 bif (ltb v0 (v12.length:Int)) then
 bif (inb v0 v12.length) then
 bif (!((((nth v12 v0 ([],[],false,[])).2).2).1)) then
 let r3:=yv1 (v1,(v2,v3),v12,v4,v5,v6,v7,v8,v13,v9,v10,v11)
 bif r3.1 then
 bif (inb v0 r3.2.2.2.1.length) then
 let r4:=yej ((nth r3.2.2.2.1 v0 ([],[],false,[])).1,((nth r3.2.2.2.1 v0 ([],[],false,[])).2).1,(((nth r3.2.2.2.1 v0 ([],[],false,[])).2).2))
 bif (inb v0 r3.2.2.2.1.length) then
 some (.inl ((((),()),((IntKind.i64.wrap (v0+1)),()),()),((r3.2.1,r3.2.2.1.1,r3.2.2.1.2,(),r3.2.2.2.2.1,r3.2.2.2.2.2.1,r3.2.2.2.2.2.2.1,r3.2.2.2.2.2.2.2.1,r3.2.2.2.2.2.2.2.2.1,(),r3.2.2.2.2.2.2.2.2.2.2.1,r3.2.2.2.2.2.2.2.2.2.2.2.1,r3.2.2.2.2.2.2.2.2.2.2.2.2,()),()),((r3.2.2.2.1.set (v0).toNat r4),r3.2.2.2.2.2.2.2.2.2.1,())))
 else none
 else none
 else
 some (.inl ((((),()),((IntKind.i64.wrap (v0+1)),()),()),((r3.2.1,r3.2.2.1.1,r3.2.2.1.2,(),r3.2.2.2.2.1,r3.2.2.2.2.2.1,r3.2.2.2.2.2.2.1,r3.2.2.2.2.2.2.2.1,r3.2.2.2.2.2.2.2.2.1,(),r3.2.2.2.2.2.2.2.2.2.2.1,r3.2.2.2.2.2.2.2.2.2.2.2.1,r3.2.2.2.2.2.2.2.2.2.2.2.2,()),()),(r3.2.2.2.1,r3.2.2.2.2.2.2.2.2.2.1,())))
 else
 some (.inl ((((),()),((IntKind.i64.wrap (v0+1)),()),()),((v1,v2,v3,(),v4,v5,v6,v7,v8,(),v9,v10,v11,()),()),(v12,v13,())))
 else none
 else
 some (.inr (.inl ((),((v1,v2,v3,(),v4,v5,v6,v7,v8,(),v9,v10,v11,()),()),(v12,v13,()))))
def yeG (x:(yd4).X):=yx8 x.1.2.1.1 x.2.1.1.1 x.2.1.1.2.1 x.2.1.1.2.2.1 x.2.1.1.2.2.2.2.1 x.2.1.1.2.2.2.2.2.1 x.2.1.1.2.2.2.2.2.2.1 x.2.1.1.2.2.2.2.2.2.2.1 x.2.1.1.2.2.2.2.2.2.2.2.1 x.2.1.1.2.2.2.2.2.2.2.2.2.2.1 x.2.1.1.2.2.2.2.2.2.2.2.2.2.2.1 x.2.1.1.2.2.2.2.2.2.2.2.2.2.2.2.1 x.2.2.1 x.2.2.2.1
def yHV (x:(ykS).X):(yd4).X:=((((),()),(0,()),()),((x.2.1.1.1,x.2.1.1.2.1,x.2.1.1.2.2.1,(),x.2.1.1.2.2.2.2.1,x.2.1.1.2.2.2.2.2.1,x.2.1.1.2.2.2.2.2.2.1,x.2.1.1.2.2.2.2.2.2.2.1,x.2.1.1.2.2.2.2.2.2.2.2.1,(),x.2.1.1.2.2.2.2.2.2.2.2.2.2.1,x.2.1.1.2.2.2.2.2.2.2.2.2.2.2.1,x.2.1.1.2.2.2.2.2.2.2.2.2.2.2.2.1,()),()),(x.2.2.1,x.2.2.2.1,()))
def yKp:Code:=(zdD ypx 64 12).getD .skip
theorem y02:zdD ypx 64 3=some (.block 0 (.loop yKp)):=by kernel_rfl
theorem y4s (x:(yd4).X):zg0 ⟨ywc,39,yJL⟩ 0 yKp 12 yd4 ykD yrO x=yeG x:=by kernel_rfl
def yIb (x:(ykS).X):Nat:=18446744073709551616
def yyU (x:(ykS).X):Option ((ykD).X ⊕ (yrO).X):=zz yeG (yIb x) (yHV x)
def yIW:Seg:=⟨ykS,ykD,yrO,yyU⟩
def yJM:Nat→Option Seg:=fun q=>bif Nat.beq q 3 then some yIW else yJL q
theorem yX8:FrOk Tryz.prog ⟨ywc,39,yJM⟩ ypx:=(yX7).loop (sg:=yIW) yd4 yHV (by decide) y02 yeG yIb (by decide) (fun _=>rfl) (fun x r _ h=>h) y4s
abbrev yjW:List Par:= [.pt tA (.pr .fz (.pr (.pr .fz .fz) (.pr (.ow (.pr (.ow .fz) (.pr (.ow (.pr .fz .fz)) (.pr .fz (.ow .fz))))) (.pr .fz (.pr .fz (.pr .fz (.pr .fz (.pr .fz (.pr (.ow (.pr .fz .fz)) (.pr .fz (.pr .fz .fz)))))))))))]
abbrev ywR:List OT:= []
def yso (a0:dA):Option (ResD ywR×MutD yjW) :=
 zjY (yyU ((((),()),((),()),()),((a0.1,a0.2.1.1,a0.2.1.2,(),a0.2.2.2.1,a0.2.2.2.2.1,a0.2.2.2.2.2.1,a0.2.2.2.2.2.2.1,a0.2.2.2.2.2.2.2.1,(),a0.2.2.2.2.2.2.2.2.2.1,a0.2.2.2.2.2.2.2.2.2.2.1,a0.2.2.2.2.2.2.2.2.2.2.2,()),()),(a0.2.2.1,a0.2.2.2.2.2.2.2.2.1,()))) (fun y4 =>
 some ((),((y4.2.1.1.1,(y4.2.1.1.2.1,y4.2.1.1.2.2.1),y4.2.2.1,y4.2.1.1.2.2.2.2.1,y4.2.1.1.2.2.2.2.2.1,y4.2.1.1.2.2.2.2.2.2.1,y4.2.1.1.2.2.2.2.2.2.2.1,y4.2.1.1.2.2.2.2.2.2.2.2.1,y4.2.2.2.1,y4.2.1.1.2.2.2.2.2.2.2.2.2.2.1,y4.2.1.1.2.2.2.2.2.2.2.2.2.2.2.1,y4.2.1.1.2.2.2.2.2.2.2.2.2.2.2.2.1),()))) (fun y4 =>
 none)
theorem y8r (x:InD yjW):zjw ⟨ywc,39,yJM⟩ Tryz.f261.results.toList ypx yjW ywR x=yso x.1:=by kernel_rfl
theorem y3S:ConOk Tryz.prog 261 ⟨yjW,ywR,fun x=>yso x.1⟩:=zj1 (yX8) Tryz.func261 (by kernel_rfl) (by kernel_rfl) Tryz.ntmps261.symm (by decide) (fun x r h=>(y8r x).trans h)
def yeP (a0:dA):dA:=yz a0
theorem y6c (a0:dA) (hk:zi1 yjW (a0,())):yso a0=(fun n=>some ((),(n,()))) (yeP a0):=by
 have hb:a0.2.2.1.length * 80≤2 ^ 47:=hk.1.2.2.1.1
 have h1:yyU (yYy a0)=some (.inl (yIn (yz a0))) :=
  zj8 (step:=yeG) a0.2.2.1.length (fun i s=>yxG i s) yM (fun _ s=>s.2.2.1.length=a0.2.2.1.length) (fun s=> .inl (yIn s)) (fun i s hi hs=>⟨by
   simp only [yeG,yxG,yx8,hs,zj4 (show (i:Int) < a0.2.2.1.length by omega),cond_true,wr (show -9223372036854775808≤(i:Int)+1 by omega) (by omega),Int.natCast_add,Int.natCast_one,Int.toNat_natCast,zkl hi,zkr,y4u,yaT,yej,yM,setMem]
   cases (nth s.2.2.1 i noMem).2.2.1<;>cases (opA s).1<;>simp only [cond_true,cond_false,Bool.not_true,Bool.not_false,yaT,Int.toNat_natCast],(yqt s i).trans hs⟩) (fun s hs=>by simp only [yeG,yxG,yx8,hs,zkx (Int.le_refl _),cond_false]) a0 rfl _ (by show _ < 18446744073709551616; omega)
 unfold yso yeP
 rw [h1]; rfl
def yrX:Con:=⟨yjW,ywR,fun x=>(fun n=>some ((),(n,()))) (yeP x.1)⟩
theorem yCf:ConOk Tryz.prog 261 yrX:=(y3S).mono (fun x r hk h=>(y6c x.1 hk).trans h)
end
section
def ypw:Code:=(Tryz.f203.body).getD .skip
def ywb:Env:=zj2 TT [(140,ymi),(207,ynG),(261,yrX)] []
theorem yX5:FrOk Tryz.prog ⟨ywb,63,fun _=>none⟩ ypw:=zj6 yc yd ⟨yxL,yw0,yCf,trivial⟩
def yJJ:Nat→Option Seg:=fun _=>none
def yc9:Shape:=⟨[(0,false,[.ptr 1000000000 0]),(2,false,[.int .i64])],[(1000000000,[.int .i64,.int .i64,.int .i64,.at 800000000,.int .i64,.int .i64,.int .i64,.int .i64,.int .i64,.at 800000001,.int .i64,.bool,.bool])],[(800000000,tM,(.pr (.ow .fz) (.pr (.ow (.pr .fz .fz)) (.pr .fz (.ow .fz))))),(800000001,tW,(.pr .fz .fz))]⟩
def yi4:Shape:=⟨[(0,false,[.ptr 1000000000 0]),(2,false,[.ci .i64 0])],[(1000000000,[.int .i64,.int .i64,.int .i64,.at 800000000,.int .i64,.int .i64,.int .i64,.int .i64,.int .i64,.at 800000001,.int .i64,.bool,.bool])],[(800000000,tM,(.pr (.ow .fz) (.pr (.ow (.pr .fz .fz)) (.pr .fz (.ow .fz))))),(800000001,tW,(.pr .fz .fz))]⟩
def yiR:Shape:=⟨[(0,false,[.ptr 1000000000 0])],[(1000000000,[.int .i64,.int .i64,.int .i64,.at 800000000,.int .i64,.int .i64,.int .i64,.int .i64,.int .i64,.at 800000001,.int .i64,.bool,.bool])],[(800000000,tM,(.pr (.ow .fz) (.pr (.ow (.pr .fz .fz)) (.pr .fz (.ow .fz))))),(800000001,tW,(.pr .fz .fz))]⟩
def yoz:Shape:=⟨[],[],[]⟩
abbrev yvt (v0:Int) (v1:dA):(yc9).X:=((((),()),(v0,()),()),((v1.1,v1.2.1.1,v1.2.1.2,(),v1.2.2.2.1,v1.2.2.2.2.1,v1.2.2.2.2.2.1,v1.2.2.2.2.2.2.1,v1.2.2.2.2.2.2.2.1,(),v1.2.2.2.2.2.2.2.2.2.1,v1.2.2.2.2.2.2.2.2.2.2.1,v1.2.2.2.2.2.2.2.2.2.2.2,()),()),(v1.2.2.1,v1.2.2.2.2.2.2.2.2.1,()))
abbrev yVc (v0:dA):(yi4).X:=((((),()),((),()),()),((v0.1,v0.2.1.1,v0.2.1.2,(),v0.2.2.2.1,v0.2.2.2.2.1,v0.2.2.2.2.2.1,v0.2.2.2.2.2.2.1,v0.2.2.2.2.2.2.2.1,(),v0.2.2.2.2.2.2.2.2.2.1,v0.2.2.2.2.2.2.2.2.2.2.1,v0.2.2.2.2.2.2.2.2.2.2.2,()),()),(v0.2.2.1,v0.2.2.2.2.2.2.2.2.1,()))
abbrev yGa (v0:dA):(yiR).X:=((((),()),()),((v0.1,v0.2.1.1,v0.2.1.2,(),v0.2.2.2.1,v0.2.2.2.2.1,v0.2.2.2.2.2.1,v0.2.2.2.2.2.2.1,v0.2.2.2.2.2.2.2.1,(),v0.2.2.2.2.2.2.2.2.2.1,v0.2.2.2.2.2.2.2.2.2.2.1,v0.2.2.2.2.2.2.2.2.2.2.2,()),()),(v0.2.2.1,v0.2.2.2.2.2.2.2.2.1,()))
def yvO (v0 v1 v2 v3 v4 v5 v6 v7 v8 v9:Int) (v10 v11:Bool) (v12:List dM) (v13:List dW):Option ((yc9).X ⊕ ((yiR).X ⊕ (yoz).X)) :=
 bif (ltb v0 (v12.length:Int)) then
 let r3:=yJ (v1,v8,v0,v2,v3,v7,v4,v5)
 bnd (ygu (v1,(v2,v3),v12,v4,v5,v6,v7,v8,v13,v9,v10,v11) v0 (v8.tmod 2) r3) fun r4 =>
 some (.inl ((((),()),((IntKind.i64.wrap (v0+1)),()),()),((r4.2.1.1,r4.2.1.2.1.1,r4.2.1.2.1.2,(),r4.2.1.2.2.2.1,r4.2.1.2.2.2.2.1,r4.2.1.2.2.2.2.2.1,r4.2.1.2.2.2.2.2.2.1,r4.2.1.2.2.2.2.2.2.2.1,(),r4.2.1.2.2.2.2.2.2.2.2.2.1,r4.2.1.2.2.2.2.2.2.2.2.2.2.1,r4.2.1.2.2.2.2.2.2.2.2.2.2.2,()),()),(r4.2.1.2.2.1,r4.2.1.2.2.2.2.2.2.2.2.1,())))
 else
 some (.inr (.inl ((((),()),()),((v1,v2,v3,(),v4,v5,v6,v7,v8,(),v9,v10,v11,()),()),(v12,v13,()))))
def ydJ (x:(yc9).X):=yvO x.1.2.1.1 x.2.1.1.1 x.2.1.1.2.1 x.2.1.1.2.2.1 x.2.1.1.2.2.2.2.1 x.2.1.1.2.2.2.2.2.1 x.2.1.1.2.2.2.2.2.2.1 x.2.1.1.2.2.2.2.2.2.2.1 x.2.1.1.2.2.2.2.2.2.2.2.1 x.2.1.1.2.2.2.2.2.2.2.2.2.2.1 x.2.1.1.2.2.2.2.2.2.2.2.2.2.2.1 x.2.1.1.2.2.2.2.2.2.2.2.2.2.2.2.1 x.2.2.1 x.2.2.2.1
def yFS (x:(yi4).X):(yc9).X:=((((),()),(0,()),()),((x.2.1.1.1,x.2.1.1.2.1,x.2.1.1.2.2.1,(),x.2.1.1.2.2.2.2.1,x.2.1.1.2.2.2.2.2.1,x.2.1.1.2.2.2.2.2.2.1,x.2.1.1.2.2.2.2.2.2.2.1,x.2.1.1.2.2.2.2.2.2.2.2.1,(),x.2.1.1.2.2.2.2.2.2.2.2.2.2.1,x.2.1.1.2.2.2.2.2.2.2.2.2.2.2.1,x.2.1.1.2.2.2.2.2.2.2.2.2.2.2.2.1,()),()),(x.2.2.1,x.2.2.2.1,()))
def yHo:Code:=(zdD ypw 64 52).getD .skip
theorem yWZ:zdD ypw 64 13=some (.block 0 (.loop yHo)):=by kernel_rfl
theorem y0c (x:(yc9).X):zg0 ⟨ywb,63,yJJ⟩ 0 yHo 52 yc9 yiR yoz x=ydJ x:=by kernel_rfl
def yF5 (x:(yi4).X):Nat:=18446744073709551616
def yxh (x:(yi4).X):Option ((yiR).X ⊕ (yoz).X):=zz ydJ (yF5 x) (yFS x)
def yGn:Seg:=⟨yi4,yiR,yoz,yxh⟩
def yJK:Nat→Option Seg:=fun q=>bif Nat.beq q 13 then some yGn else yJJ q
theorem yX6:FrOk Tryz.prog ⟨ywb,63,yJK⟩ ypw:=(yX5).loop (sg:=yGn) yc9 yFS (by decide) yWZ ydJ yF5 (by decide) (fun _=>rfl) (fun x r _ h=>h) y0c
abbrev yjV:List Par:= [.pt tA (.pr .fz (.pr (.pr .fz .fz) (.pr (.ow (.pr (.ow .fz) (.pr (.ow (.pr .fz .fz)) (.pr .fz (.ow .fz))))) (.pr .fz (.pr .fz (.pr .fz (.pr .fz (.pr .fz (.pr (.ow (.pr .fz .fz)) (.pr .fz (.pr .fz .fz)))))))))))]
abbrev ywQ:List OT:= []
def ysn (a0:dA):Option (ResD ywQ×MutD yjV) :=
 zjY (yxh ((((),()),((),()),()),((a0.1,a0.2.1.1,a0.2.1.2,(),a0.2.2.2.1,a0.2.2.2.2.1,a0.2.2.2.2.2.1,a0.2.2.2.2.2.2.1,(IntKind.i64.wrap (a0.2.2.2.2.2.2.2.1+1)),(),a0.2.2.2.2.2.2.2.2.2.1,a0.2.2.2.2.2.2.2.2.2.2.1,a0.2.2.2.2.2.2.2.2.2.2.2,()),()),(a0.2.2.1,a0.2.2.2.2.2.2.2.2.1,()))) (fun y4 =>
 let r6:=yeP (y4.2.1.1.1,(y4.2.1.1.2.1,y4.2.1.1.2.2.1),y4.2.2.1,y4.2.1.1.2.2.2.2.1,y4.2.1.1.2.2.2.2.2.1,y4.2.1.1.2.2.2.2.2.2.1,y4.2.1.1.2.2.2.2.2.2.2.1,y4.2.1.1.2.2.2.2.2.2.2.2.1,y4.2.2.2.1,y4.2.1.1.2.2.2.2.2.2.2.2.2.2.1,y4.2.1.1.2.2.2.2.2.2.2.2.2.2.2.1,y4.2.1.1.2.2.2.2.2.2.2.2.2.2.2.2.1)
 some ((),(r6,()))) (fun y4 =>
 none)
theorem y8q (x:InD yjV):zjw ⟨ywb,63,yJK⟩ Tryz.f203.results.toList ypw yjV ywQ x=ysn x.1:=by kernel_rfl
theorem y3R:ConOk Tryz.prog 203 ⟨yjV,ywQ,fun x=>ysn x.1⟩:=zj1 (yX6) Tryz.func203 (by kernel_rfl) (by kernel_rfl) Tryz.ntmps203.symm (by decide) (fun x r h=>(y8q x).trans h)
def yaP (a0:dA):dA:=markA a0
theorem yWt (a:dA) (i:Nat):(yaS a i).2.2.1.length=a.2.2.1.length:=yuD _ _ _ _
theorem y6b (a0:dA) (hk:zi1 yjV (a0,())):ysn a0=(fun n=>some ((),(n,()))) (yaP a0):=by
 have hb:a0.2.2.1.length * 80≤2 ^ 47:=hk.1.2.2.1.1
 have h1:yxh (yVc (ygV a0))=some (.inl (yGa ((List.range a0.2.2.1.length).foldl yaS (ygV a0)))) :=
  zj8 (step:=ydJ) a0.2.2.1.length (fun i s=>yvt i s) yaS (fun _ s=>s.2.2.1.length=a0.2.2.1.length) (fun s=> .inl (yGa s)) (fun i s hi hs=>⟨by
   simp only [ydJ,yvt,yvO,hs,zj4 (show (i:Int) < a0.2.2.1.length by omega),cond_true,wr (show -9223372036854775808≤(i:Int)+1 by omega) (by omega),Int.natCast_add,Int.natCast_one,Int.toNat_natCast,zkr]
   rw [yqk s i (s.2.2.2.2.2.2.2.1.tmod 2) (yJ (s.1,s.2.2.2.2.2.2.2.1,(i:Int),s.2.1.1,s.2.1.2,s.2.2.2.2.2.2.1,s.2.2.2.1,s.2.2.2.2.1)) (zkl (by rw [hs]; exact hi))]
   rfl,(yWt s i).trans hs⟩) (fun s hs=>by simp only [ydJ,yvt,yvO,hs,zkx (Int.le_refl _),cond_false]) (ygV a0) rfl _ (by show _ < 18446744073709551616; omega)
 unfold ysn yaP markA
 exact (congrArg (fun z=>zjY z _ _) h1).trans rfl
def yrW:Con:=⟨yjV,ywQ,fun x=>(fun n=>some ((),(n,()))) (yaP x.1)⟩
theorem yCe:ConOk Tryz.prog 203 yrW:=(y3R).mono (fun x r hk h=>(y6b x.1 hk).trans h)
end
section
def yJm:Code:=(Tryz.f105.body).getD .skip
def yJ7:Env:=zj2 TT [(138,yrU),(139,yrV),(203,yrW)] []
theorem yR7:FrOk Tryz.prog ⟨yJ7,27,fun _=>none⟩ yJm:=zj6 yc yd ⟨yCc,yCd,yCe,trivial⟩
def yTI:Nat→Option Seg:=fun _=>none
abbrev ydP:List Par:= [.pt tA (.pr .fz (.pr (.pr .fz .fz) (.pr (.ow (.pr (.ow .fz) (.pr (.ow (.pr .fz .fz)) (.pr .fz (.ow .fz))))) (.pr .fz (.pr .fz (.pr .fz (.pr .fz (.pr .fz (.pr (.ow (.pr .fz .fz)) (.pr .fz (.pr .fz .fz)))))))))))]
abbrev yk1:List OT:= [⟨false,tI,.fz⟩]
def ymH (a0:dA):Option (ResD yk1×MutD ydP) :=
 let r1:=ycT a0.2.1
 let r2:=ybN r1
 bif (inb a0.2.2.2.1 a0.2.2.1.length) then
 let r3:=yaP (a0.1,a0.2.1,(a0.2.2.1.set (a0.2.2.2.1).toNat r2),a0.2.2.2.1,0,a0.2.2.2.2.2)
 bif r3.2.2.2.2.2.2.2.2.2.2.1 then
 some ((6,()),(r3,()))
 else
 some ((0,()),(r3,()))
 else none
theorem y1C (x:InD ydP):zjw ⟨yJ7,27,yTI⟩ Tryz.f105.results.toList yJm ydP yk1 x=ymH x.1:=by kernel_rfl
theorem yVN:ConOk Tryz.prog 105 ⟨ydP,yk1,fun x=>ymH x.1⟩:=zj1 (yR7) Tryz.func105 (by kernel_rfl) (by kernel_rfl) Tryz.ntmps105.symm (by decide) (fun x r h=>(y1C x).trans h)
def yr0 (a0:dA):Int×dA:=(bif ye (markA (spareNew a0)) then 6 else 0,markA (spareNew a0))
def ylE (a0:dA):Bool:=yf a0.2.1&&inb a0.2.2.2.1 a0.2.2.1.length
theorem yY6 (a0:dA) (hk:zi1 ydP (a0,())) (hq:ylE a0=true):ymH a0=(fun n=>some ((n.1,()),(n.2,()))) (yr0 a0):=by
 simp only [ylE,Bool.and_eq_true]at hq
 have hg:=yk.1 hq.1
 unfold ymH yr0
 simp only [ycT,wr (show -9223372036854775808≤6+a0.2.1.2 by omega) (by omega),hq.2,ybN,yaP]
 show (bif ye (markA (spareNew a0)) then some ((6,()),(markA (spareNew a0),())) else some ((0,()),(markA (spareNew a0),())))=_
 cases ye (markA (spareNew a0))<;>rfl
def ylC (a0:dA):Option (ResD yk1×MutD ydP):=bif ylE a0 then (fun n=>some ((n.1,()),(n.2,()))) (yr0 a0) else none
theorem yZX (a0:dA) (h:ylE a0=true):ylC a0=(fun n=>some ((n.1,()),(n.2,()))) (yr0 a0):=by unfold ylC; rw [h]; rfl
def yFE:Con:=⟨ydP,yk1,fun x=>ylC x.1⟩
theorem yZT:ConOk Tryz.prog 105 yFE:=(yVN).mono (fun x r hk h=>zks h (fun hq=>yY6 x.1 hk hq))
end
section
def yLO:Code:=(Tryz.f109.body).getD .skip
def yMv:Env:=zj2 TT [(141,yed),(206,yxp),(207,ynG)] []
theorem yUG:FrOk Tryz.prog ⟨yMv,49,fun _=>none⟩ yLO:=zj6 yc yd ⟨yis,yLb,yw0,trivial⟩
def yWI:Nat→Option Seg:=fun _=>none
abbrev yfp:List Par:= [.pt tA (.pr .fz (.pr (.pr .fz .fz) (.pr (.ow (.pr (.ow .fz) (.pr (.ow (.pr .fz .fz)) (.pr .fz (.ow .fz))))) (.pr .fz (.pr .fz (.pr .fz (.pr .fz (.pr .fz (.pr (.ow (.pr .fz .fz)) (.pr .fz (.pr .fz .fz)))))))))))]
abbrev ynw:List OT:= [⟨false,tI,.fz⟩]
def yo9 (a0:dA):Option (ResD ynw×MutD yfp) :=
 bnd (yn2 a0 a0.2.2.2.2.1) fun r1 =>
 bif (!r1.1.2.1) then
 some ((5,()),(a0,()))
 else
 let r2:=yaN a0.2.2.2.2.1
 bif (inb a0.2.2.2.1 r1.1.1.length) then
 bnd (ygu a0 a0.2.2.2.1 r2 ([(nth r1.1.1 a0.2.2.2.1 0)]:List Int)) fun r3 =>
 bif r3.2.1.2.2.2.2.2.2.2.2.2.2.1 then
 some ((6,()),(r3.2.1,()))
 else
 some ((0,()),((r3.2.1.1,r3.2.1.2.1,r3.2.1.2.2.1,r3.2.1.2.2.2.1,(IntKind.i64.wrap (r3.2.1.2.2.2.2.1+1)),r3.2.1.2.2.2.2.2),()))
 else none
theorem y5g (x:InD yfp):zjw ⟨yMv,49,yWI⟩ Tryz.f109.results.toList yLO yfp ynw x=yo9 x.1:=by kernel_rfl
theorem yZw:ConOk Tryz.prog 109 ⟨yfp,ynw,fun x=>yo9 x.1⟩:=zj1 (yUG) Tryz.func109 (by kernel_rfl) (by kernel_rfl) Tryz.ntmps109.symm (by decide) (fun x r h=>(y5g x).trans h)
def yuy (a0:dA):Int×dA:=stepOne a0
def yn6 (a0:dA):Bool:=yf a0.2.1&&(inb a0.2.2.2.1 a0.2.2.1.length&&inb a0.2.2.2.1 a0.2.1.1.toNat)
theorem y24 (a0:dA) (hk:zi1 yfp (a0,())) (hq:yn6 a0=true):yo9 a0=(fun n=>some ((n.1,()),(n.2,()))) (yuy a0):=by
 simp only [yn6,Bool.and_eq_true]at hq
 unfold yo9 yuy stepOne
 rw [yLh a0 a0.2.2.2.2.1 hq.1]
 simp only [zkc,yiq,yfO]
 cases hw:(yax a0 a0.2.2.2.2.1).2
 ·rfl
 ·rw [y7G hw,hq.2.2,yqk a0 a0.2.2.2.1 (dataAt a0.2.2.2.2.1) [nth (yax a0 a0.2.2.2.2.1).1 a0.2.2.2.1 0] hq.2.1]
  simp only [zkc,ytr,Bool.not_true,cond_false,cond_true]
  show (bif ye (yag a0) then some ((6,()),(yag a0,())) else some ((0,()),(yabC (yag a0),())))=_
  cases ye (yag a0)<;>rfl
def yn1 (a0:dA):Option (ResD ynw×MutD yfp):=bif yn6 a0 then (fun n=>some ((n.1,()),(n.2,()))) (yuy a0) else none
theorem y4c (a0:dA) (h:yn6 a0=true):yn1 a0=(fun n=>some ((n.1,()),(n.2,()))) (yuy a0):=by unfold yn1; rw [h]; rfl
def yHD:Con:=⟨yfp,ynw,fun x=>yn1 x.1⟩
theorem y37:ConOk Tryz.prog 109 yHD:=(yZw).mono (fun x r hk h=>zks h (fun hq=>y24 x.1 hk hq))
end
section
def yOC:Code:=(Tryz.f110.body).getD .skip
def yPd:Env:=zj2 TT [(150,ym)] []
theorem yXG:FrOk Tryz.prog ⟨yPd,9,fun _=>none⟩ yOC:=zj6 yc yd ⟨yv,trivial⟩
def y0F:Nat→Option Seg:=fun _=>none
abbrev ypN:List Par:= [.pt tU .fz,.rd tI]
abbrev ywE:List OT:= [⟨false,tB,.fz⟩]
def yZ (a0:dU) (a1:Int):Option (ResD ywE×MutD ypN) :=
 bnd (yb a0 a1) fun r1 =>
 some (((r1.1.1==0),()),(r1.2.1,()))
theorem y8a (x:InD ypN):zjw ⟨yPd,9,y0F⟩ Tryz.f110.results.toList yOC ypN ywE x=yZ x.1 x.2.1:=by kernel_rfl
theorem y3B:ConOk Tryz.prog 110 ⟨ypN,ywE,fun x=>yZ x.1 x.2.1⟩:=zj1 (yXG) Tryz.func110 (by kernel_rfl) (by kernel_rfl) Tryz.ntmps110.symm (by decide) (fun x r h=>(y8a x).trans h)
def ylo:Con:=⟨ypN,ywE,fun x=>yZ x.1 x.2.1⟩
theorem yuC:ConOk Tryz.prog 110 ylo:=y3B
theorem yMP (u:dU) (n:Int) (h:yA u): ∃ (r:Bool) (u':dU),yZ u n=some ((r,()),(u',()))∧yA u':=by
 unfold yZ
 obtain ⟨r,u1,e1,_,d1⟩:=yp u n h
 simp only [e1,zkc]
 exact ⟨_,_,rfl,d1⟩
end
end
end Go.Tf
