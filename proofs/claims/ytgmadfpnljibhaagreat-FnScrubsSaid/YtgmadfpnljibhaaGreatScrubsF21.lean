/- Functions of the program, and what they come to. -/
import Derived.Test.YtgmadfpnljibhaaGreatScrubsF20
namespace Go.Tf
noncomputable section
open Go.Proofs
set_option synthInstance.maxHeartbeats 400000
set_option synthInstance.maxSize 10000
set_option linter.unusedVariables false
set_option linter.unusedSimpArgs false
set_option maxRecDepth 100000
section
def yAB:Code:=(Tryz.f78.body).getD .skip
def yBe:Env:=zki TT [(175,yBY),(176,ypy),(177,ypv),(178,yrv)] []
theorem yHV:FrOk Tryz.prog ⟨yBe,33,fun _=>none⟩ yAB:=zkp yc yd ⟨yUz,yzX,yzU,yCm,trivial⟩
def yI0:Nat→Option Seg:=fun _=>none
abbrev yeq:List Par:= [.rd tA,.rd tI]
abbrev ymA:List OT:= [⟨false,tI,.fz⟩,⟨false,tI,.fz⟩]
def yiM (a0:dA) (a1:Int):Option (ResD ymA×MutD yeq) :=
  let r1:=ylJ a0 a1
  bif (r1 !=0) then
    some ((0,r1,()),())
  else
    let r2:=ycJ a0.2.1 a1
    bnd (yic a0 r2) fun r3 =>
    bif (!r3.1.2.1) then
      some ((0,5,()),())
    else
      let r4:=ydE a0.2.1 a1
      bif (inb r4 r3.1.1.length) then
        some (((nth r3.1.1 r4 0),0,()),())
      else none
theorem yPa (x:InD yeq):zjH ⟨yBe,33,yI0⟩ Tryz.f78.results.toList yAB yeq ymA x=yiM x.1 x.2.1:=by kernel_rfl
theorem yKq:ConOk Tryz.prog 78 ⟨yeq,ymA,fun x=>yiM x.1 x.2.1⟩:=zkh (yHV) Tryz.func78 (by kernel_rfl) (by kernel_rfl) Tryz.ntmps78.symm (by decide) (fun x r h=>(yPa x).trans h)
def yia (a0:dA) (a1:Int):Int×Int:=yah a0 a1
theorem yM9 (a0:dA) (a1:Int) (hk:zi9 yeq (a0,a1,())):yiM a0 a1=(fun n=>some ((n.1,n.2,()),())) (yia a0 a1):=by
  unfold yiM yia yah ycJ ydE
  simp only [yXV]
  cases hc:(yfm a0 a1 !=0)
  · obtain ⟨h1,h2,_⟩:=yUQ (bne_eq_false_iff_eq.1 hc)
    have hs:=yqg h2
    rw [yzY a0 (yQ a0.2.1 a1) hs]
    simp only [zky,cond_false,yeC]
    cases hn:(yK a0 (yQ a0.2.1 a1)).2
    · rfl
    · have hl:=ylT h1 hs hn
      obtain ⟨_,_,h5⟩:=ykg h2
      have h6:ybm a0.2.1 a1=a1.tmod (a0.2.1.1 - 1):=by unfold ybm; rw [h2]; rfl
      rw [zjP.2 (show 0≤ybm a0.2.1 a1∧ybm a0.2.1 a1 < (yK a0 (yQ a0.2.1 a1)).1.length by omega)]; rfl
  · rfl
def yxf:Con:=⟨yeq,ymA,fun x=>(fun n=>some ((n.1,n.2,()),())) (yia x.1 x.2.1)⟩
theorem yNO:ConOk Tryz.prog 78 yxf:=(yKq).mono (fun x r hk h=>(yM9 x.1 x.2.1 hk).trans h)
end
section
def yg3:Code:=(Tryz.f38.body).getD .skip
def ymi:Env:=zki TT [(78,yxf),(121,yey)] []
theorem yHP:FrOk Tryz.prog ⟨ymi,29,fun _=>none⟩ yg3:=zkp yc yd ⟨yNO,yj9,trivial⟩
def ywQ:Nat→Option Seg:=fun _=>none
def yaW:Shape:=⟨[(1,false,[.ptr 0 0]),(3,false,[.at 800000000]),(4,false,[.int .i64])],[(0,[.int .i64,.int .i64,.int .i64,.br tM,.int .i64,.int .i64,.int .i64,.int .i64,.int .i64,.br tW,.int .i64,.bool,.bool])],[(800000000,tI,.fz)]⟩
def yd2:Shape:=⟨[(1,false,[.ptr 0 0]),(3,false,[.at 800000000]),(4,false,[.ci .i64 0])],[(0,[.int .i64,.int .i64,.int .i64,.br tM,.int .i64,.int .i64,.int .i64,.int .i64,.int .i64,.br tW,.int .i64,.bool,.bool])],[(800000000,tI,.fz)]⟩
def ydY:Shape:=⟨[(3,false,[.at 800000000])],[],[(800000000,tI,.fz)]⟩
def yd6:Shape:=⟨[(2,false,[.at 800000000])],[],[(800000000,tI,.fz)]⟩
abbrev yl8 (v0:Int) (v1:dA) (v2:List Int):(yaW).X:=((((),()),((),()),(v0,()),()),((v1.1,v1.2.1.1,v1.2.1.2,v1.2.2.1,v1.2.2.2.1,v1.2.2.2.2.1,v1.2.2.2.2.2.1,v1.2.2.2.2.2.2.1,v1.2.2.2.2.2.2.2.1,v1.2.2.2.2.2.2.2.2.1,v1.2.2.2.2.2.2.2.2.2.1,v1.2.2.2.2.2.2.2.2.2.2.1,v1.2.2.2.2.2.2.2.2.2.2.2,()),()),(v2,()))
abbrev yGB (v0:dA) (v1:List Int):(yd2).X:=((((),()),((),()),((),()),()),((v0.1,v0.2.1.1,v0.2.1.2,v0.2.2.1,v0.2.2.2.1,v0.2.2.2.2.1,v0.2.2.2.2.2.1,v0.2.2.2.2.2.2.1,v0.2.2.2.2.2.2.2.1,v0.2.2.2.2.2.2.2.2.1,v0.2.2.2.2.2.2.2.2.2.1,v0.2.2.2.2.2.2.2.2.2.2.1,v0.2.2.2.2.2.2.2.2.2.2.2,()),()),(v1,()))
abbrev yuC (v0:List Int):(ydY).X:=((((),()),()),(),(v0,()))
abbrev yGF (v0:List Int):(yd6).X:=((((),()),()),(),(v0,()))
def ymd (v0:Int) (v1:Int) (v2:Int) (v3:Int) (v4:List dM) (v5:Int) (v6:Int) (v7:Int) (v8:Int) (v9:Int) (v10:List dW) (v11:Int) (v12:Bool) (v13:Bool) (v14:List Int):Option ((yaW).X ⊕ ((ydY).X ⊕ (yd6).X)) :=
  let r3:=yf (v2,v3)
  bif (ltb v0 r3) then
    let r4:=yia (v1,(v2,v3),v4,v5,v6,v7,v8,v9,v10,v11,v12,v13) v0
    bif (r4.2 !=0) then
      some (.inr (.inr ((((),()),()),(),(([]:List Int),()))))
    else
      bif (zj4 v14.length ([r4.1]:List Int).length 8) then
        some (.inl ((((),()),((),()),((IntKind.i64.wrap (v0+1)),()),()),((v1,v2,v3,v4,v5,v6,v7,v8,v9,v10,v11,v12,v13,()),()),((v14++([r4.1]:List Int)),())))
      else none
  else
    some (.inr (.inl ((((),()),()),(),(v14,()))))
def ya9 (x:(yaW).X):=ymd x.1.2.2.1.1 x.2.1.1.1 x.2.1.1.2.1 x.2.1.1.2.2.1 x.2.1.1.2.2.2.1 x.2.1.1.2.2.2.2.1 x.2.1.1.2.2.2.2.2.1 x.2.1.1.2.2.2.2.2.2.1 x.2.1.1.2.2.2.2.2.2.2.1 x.2.1.1.2.2.2.2.2.2.2.2.1 x.2.1.1.2.2.2.2.2.2.2.2.2.1 x.2.1.1.2.2.2.2.2.2.2.2.2.2.1 x.2.1.1.2.2.2.2.2.2.2.2.2.2.2.1 x.2.1.1.2.2.2.2.2.2.2.2.2.2.2.2.1 x.2.2.1
def yut (x:(yd2).X):(yaW).X:=((((),()),((),()),(0,()),()),((x.2.1.1.1,x.2.1.1.2.1,x.2.1.1.2.2.1,x.2.1.1.2.2.2.1,x.2.1.1.2.2.2.2.1,x.2.1.1.2.2.2.2.2.1,x.2.1.1.2.2.2.2.2.2.1,x.2.1.1.2.2.2.2.2.2.2.1,x.2.1.1.2.2.2.2.2.2.2.2.1,x.2.1.1.2.2.2.2.2.2.2.2.2.1,x.2.1.1.2.2.2.2.2.2.2.2.2.2.1,x.2.1.1.2.2.2.2.2.2.2.2.2.2.2.1,x.2.1.1.2.2.2.2.2.2.2.2.2.2.2.2.1,()),()),(x.2.2.1,()))
def yvL:Code:=(zdI yg3 64 116).getD .skip
theorem yHp:zdI yg3 64 29=some (.block 0 (.loop yvL)):=by kernel_rfl
theorem yIA (x:(yaW).X):zg7 ⟨ymi,29,ywQ⟩ 0 yvL 116 yaW ydY yd6 x=ya9 x:=by kernel_rfl
def yuy (x:(yd2).X):Nat:=(fun (u0:Int) (u1:Int) (u2:Int) (u3:List dM) (u4:Int) (u5:Int) (u6:Int) (u7:Int) (u8:Int) (u9:List dW) (u10:Int) (u11:Bool) (u12:Bool) (u13:List Int)=>18446744073709551616) x.2.1.1.1 x.2.1.1.2.1 x.2.1.1.2.2.1 x.2.1.1.2.2.2.1 x.2.1.1.2.2.2.2.1 x.2.1.1.2.2.2.2.2.1 x.2.1.1.2.2.2.2.2.2.1 x.2.1.1.2.2.2.2.2.2.2.1 x.2.1.1.2.2.2.2.2.2.2.2.1 x.2.1.1.2.2.2.2.2.2.2.2.2.1 x.2.1.1.2.2.2.2.2.2.2.2.2.2.1 x.2.1.1.2.2.2.2.2.2.2.2.2.2.2.1 x.2.1.1.2.2.2.2.2.2.2.2.2.2.2.2.1 x.2.2.1
def ynz (x:(yd2).X):Option ((ydY).X ⊕ (yd6).X):=zr ya9 (yuy x) (yut x)
def yuG:Seg:=⟨yd2,ydY,yd6,ynz⟩
def ywR:Nat→Option Seg:=fun q=>bif Nat.beq q 29 then some yuG else ywQ q
theorem yHQ:FrOk Tryz.prog ⟨ymi,29,ywR⟩ yg3:=(yHP).loop (sg:=yuG) yaW yut (by decide) yHp ya9 yuy (by decide) (fun _=>rfl) (fun x r _ h=>h) yIA
abbrev yeo:List Par:= [.rd tA]
abbrev ymw:List OT:= [⟨false,tL,(.ow .fz)⟩]
def yiK (a0:dA):Option (ResD ymw×MutD yeo) :=
  zjw (ynz ((((),()),((),()),((),()),()),((a0.1,a0.2.1.1,a0.2.1.2,a0.2.2.1,a0.2.2.2.1,a0.2.2.2.2.1,a0.2.2.2.2.2.1,a0.2.2.2.2.2.2.1,a0.2.2.2.2.2.2.2.1,a0.2.2.2.2.2.2.2.2.1,a0.2.2.2.2.2.2.2.2.2.1,a0.2.2.2.2.2.2.2.2.2.2.1,a0.2.2.2.2.2.2.2.2.2.2.2,()),()),(([]:List Int),()))) (fun y4 =>
    some ((y4.2.2.1,()),())) (fun y4 =>
    some ((y4.2.2.1,()),()))
theorem yO6 (x:InD yeo):zjH ⟨ymi,29,ywR⟩ Tryz.f38.results.toList yg3 yeo ymw x=yiK x.1:=by kernel_rfl
theorem yKm:ConOk Tryz.prog 38 ⟨yeo,ymw,fun x=>yiK x.1⟩:=zkh (yHQ) Tryz.func38 (by kernel_rfl) (by kernel_rfl) Tryz.ntmps38.symm (by decide) (fun x r h=>(yO6 x).trans h)
def yh9 (a0:dA):List Int:=yEE a0
theorem yM7 (a0:dA) (hk:zi9 yeo (a0,())):yiK a0=(fun n=>some ((n,()),())) (yh9 a0):=by
  have hB:=yvm a0.2.1
  have h1:ynz (yGB a0 [])=some (bif (List.range (yf a0.2.1).toNat).all (fun (b:Nat)=> !((yah a0 b).2 !=0)) then .inl (yuC ((List.range (yf a0.2.1).toNat).foldl (fun l (b:Nat)=>l++ [(yah a0 b).1]) [])) else .inr (yGF [])) :=
    zhx (step:=ya9) (yf a0.2.1).toNat (fun i s=>yl8 i a0 s) (fun (b:Nat)=> !((yah a0 b).2 !=0)) (fun l (b:Nat)=>l++ [(yah a0 b).1]) (fun i s=>s.length=i) (fun s=> .inl (yuC s)) _ (fun i s hi hs=>by
      refine ⟨?_,fun _=>by simp [hs]⟩
      simp only [ya9,yl8,ymd,zjI (show (i:Int) < yf a0.2.1 by omega),cond_true,wr (show -9223372036854775808≤(i:Int)+1 by omega) (by omega),Int.natCast_add,Int.natCast_one,Int.toNat_natCast,zkV,yia,zkw.2 (show (s.length+ [(yah a0 i).1].length) * 8≤140737488355328 by simp only [List.length_cons,List.length_nil]; omega)]
      cases ((yah a0 i).2 !=0)<;>rfl) (fun s hs=>by simp only [ya9,yl8,ymd,zkV,zkm (show yf a0.2.1≤((yf a0.2.1).toNat:Int) by omega),cond_false]) [] rfl _ (by show _ < 18446744073709551616; omega)
  unfold yiK yh9 yEE
  rw [h1,ykz]
  cases (List.range (yf a0.2.1).toNat).all (fun (b:Nat)=> !((yah a0 b).2 !=0))<;>rfl
def yxc:Con:=⟨yeo,ymw,fun x=>(fun n=>some ((n,()),())) (yh9 x.1)⟩
theorem yNL:ConOk Tryz.prog 38 yxc:=(yKm).mono (fun x r hk h=>(yM7 x.1 hk).trans h)
end
section
def yFn:Code:=(Tryz.f123.body).getD .skip
def yFY:Env:=zki TT [(46,yfw),(135,yq),(216,ytC)] []
theorem yLP:FrOk Tryz.prog ⟨yFY,28,fun _=>none⟩ yFn:=zkp yc yd ⟨ylL,yu,yEp,trivial⟩
def yOj:Nat→Option Seg:=fun _=>none
abbrev ygM:List Par:= [.rd tA,.rd tI]
abbrev yqF:List OT:= [⟨false,tL,(.ow .fz)⟩,⟨false,tB,.fz⟩]
def ym5 (a0:dA) (a1:Int):Option (ResD yqF×MutD ygM) :=
  let r1:=yD a0
  bif (!(!r1)) then
    bif (!a0.2.2.2.2.2.2.2.2.2.2.2) then
      let r2:=ya a1 0 (IntKind.i64.wrap (a0.2.1.2 - 1))
      bif (!r2) then
        some ((([]:List Int),false,()),())
      else
        bnd (ylK a0 a1) fun r3 =>
        some ((r3.1.1,r3.1.2.1,()),())
    else
      some ((([]:List Int),false,()),())
  else
    some ((([]:List Int),false,()),())
theorem yVC (x:InD ygM):zjH ⟨yFY,28,yOj⟩ Tryz.f123.results.toList yFn ygM yqF x=ym5 x.1 x.2.1:=by kernel_rfl
theorem yQ6:ConOk Tryz.prog 123 ⟨ygM,yqF,fun x=>ym5 x.1 x.2.1⟩:=zkh (yLP) Tryz.func123 (by kernel_rfl) (by kernel_rfl) Tryz.ntmps123.symm (by decide) (fun x r h=>(yVC x).trans h)
def ylF (a0:dA) (a1:Int):List Int×Bool:=yY a0 a1
theorem yTu (a0:dA) (a1:Int) (hk:zi9 ygM (a0,a1,())):ym5 a0 a1=(fun n=>some ((n.1,n.2,()),())) (ylF a0 a1):=by
  unfold ym5 ylF yY yD
  cases ha:yo a0
  · rfl
  have hg:=yg.1 (yam ha)
  rw [ybC,wr (show -9223372036854775808≤a0.2.1.2 - 1 by omega) (by omega)]
  cases a0.2.2.2.2.2.2.2.2.2.2.2
  · cases hs:(leb 0 a1&&leb a1 (a0.2.1.2 - 1))
    · rw [show yO a0.2.1 a1=false by unfold yO; rw [hs,Bool.and_false]]; rfl
    · have hs2:yO a0.2.1 a1=true:=by unfold yO; rw [hs,yam ha]; rfl
      rw [hs2,yEt a0 a1 hs2]; rfl
  · rfl
def yBN:Con:=⟨ygM,yqF,fun x=>(fun n=>some ((n.1,n.2,()),())) (ylF x.1 x.2.1)⟩
theorem yUo:ConOk Tryz.prog 123 yBN:=(yQ6).mono (fun x r hk h=>(yTu x.1 x.2.1 hk).trans h)
end
section
def yiY:Code:=(Tryz.f40.body).getD .skip
def yor:Env:=zki TT [(46,yfw),(123,yBN)] []
theorem yJx:FrOk Tryz.prog ⟨yor,32,fun _=>none⟩ yiY:=zkp yc yd ⟨ylL,yUo,trivial⟩
def yyj:Nat→Option Seg:=fun _=>none
def ybf:Shape:=⟨[(1,false,[.ptr 0 0]),(3,false,[.at 800000000]),(4,false,[.int .i64])],[(0,[.int .i64,.int .i64,.int .i64,.br tM,.int .i64,.int .i64,.int .i64,.int .i64,.int .i64,.br tW,.int .i64,.bool,.bool])],[(800000000,tI,.fz)]⟩
def ye2:Shape:=⟨[(1,false,[.ptr 0 0]),(3,false,[.at 800000000]),(4,false,[.ci .i64 0])],[(0,[.int .i64,.int .i64,.int .i64,.br tM,.int .i64,.int .i64,.int .i64,.int .i64,.int .i64,.br tW,.int .i64,.bool,.bool])],[(800000000,tI,.fz)]⟩
def yeU:Shape:=⟨[(3,false,[.at 800000000])],[],[(800000000,tI,.fz)]⟩
def ye8:Shape:=⟨[(2,false,[.at 800000000])],[],[(800000000,tI,.fz)]⟩
abbrev yd7 (v0:Int) (v1:dA) (v2:List Int):(ybf).X:=((((),()),((),()),(v0,()),()),((v1.1,v1.2.1.1,v1.2.1.2,v1.2.2.1,v1.2.2.2.1,v1.2.2.2.2.1,v1.2.2.2.2.2.1,v1.2.2.2.2.2.2.1,v1.2.2.2.2.2.2.2.1,v1.2.2.2.2.2.2.2.2.1,v1.2.2.2.2.2.2.2.2.2.1,v1.2.2.2.2.2.2.2.2.2.2.1,v1.2.2.2.2.2.2.2.2.2.2.2,()),()),(v2,()))
abbrev ywl (v0:dA) (v1:List Int):(ye2).X:=((((),()),((),()),((),()),()),((v0.1,v0.2.1.1,v0.2.1.2,v0.2.2.1,v0.2.2.2.1,v0.2.2.2.2.1,v0.2.2.2.2.2.1,v0.2.2.2.2.2.2.1,v0.2.2.2.2.2.2.2.1,v0.2.2.2.2.2.2.2.2.1,v0.2.2.2.2.2.2.2.2.2.1,v0.2.2.2.2.2.2.2.2.2.2.1,v0.2.2.2.2.2.2.2.2.2.2.2,()),()),(v1,()))
abbrev yn4 (v0:List Int):(yeU).X:=((((),()),()),(),(v0,()))
abbrev yIl (v0:List Int):(ye8).X:=((((),()),()),(),(v0,()))
def yif (v0:Int) (v1:Int) (v2:Int) (v3:Int) (v4:List dM) (v5:Int) (v6:Int) (v7:Int) (v8:Int) (v9:Int) (v10:List dW) (v11:Int) (v12:Bool) (v13:Bool) (v14:List Int):Option ((ybf).X ⊕ ((yeU).X ⊕ (ye8).X)) :=
  bif (ltb v0 v3) then
    let r3:=yD (v1,(v2,v3),v4,v5,v6,v7,v8,v9,v10,v11,v12,v13)
    bif r3 then
      let r4:=ylF (v1,(v2,v3),v4,v5,v6,v7,v8,v9,v10,v11,v12,v13) v0
      bif (!r4.2) then
        some (.inr (.inr ((((),()),()),(),(([]:List Int),()))))
      else
        bif (zj4 v14.length r4.1.length 8) then
          some (.inl ((((),()),((),()),((IntKind.i64.wrap (v0+1)),()),()),((v1,v2,v3,v4,v5,v6,v7,v8,v9,v10,v11,v12,v13,()),()),((v14++r4.1),())))
        else none
    else
      some (.inr (.inl ((((),()),()),(),(v14,()))))
  else
    some (.inr (.inl ((((),()),()),(),(v14,()))))
def y5 (x:(ybf).X):=yif x.1.2.2.1.1 x.2.1.1.1 x.2.1.1.2.1 x.2.1.1.2.2.1 x.2.1.1.2.2.2.1 x.2.1.1.2.2.2.2.1 x.2.1.1.2.2.2.2.2.1 x.2.1.1.2.2.2.2.2.2.1 x.2.1.1.2.2.2.2.2.2.2.1 x.2.1.1.2.2.2.2.2.2.2.2.1 x.2.1.1.2.2.2.2.2.2.2.2.2.1 x.2.1.1.2.2.2.2.2.2.2.2.2.2.1 x.2.1.1.2.2.2.2.2.2.2.2.2.2.2.1 x.2.1.1.2.2.2.2.2.2.2.2.2.2.2.2.1 x.2.2.1
def yvX (x:(ye2).X):(ybf).X:=((((),()),((),()),(0,()),()),((x.2.1.1.1,x.2.1.1.2.1,x.2.1.1.2.2.1,x.2.1.1.2.2.2.1,x.2.1.1.2.2.2.2.1,x.2.1.1.2.2.2.2.2.1,x.2.1.1.2.2.2.2.2.2.1,x.2.1.1.2.2.2.2.2.2.2.1,x.2.1.1.2.2.2.2.2.2.2.2.1,x.2.1.1.2.2.2.2.2.2.2.2.2.1,x.2.1.1.2.2.2.2.2.2.2.2.2.2.1,x.2.1.1.2.2.2.2.2.2.2.2.2.2.2.1,x.2.1.1.2.2.2.2.2.2.2.2.2.2.2.2.1,()),()),(x.2.2.1,()))
def yw2:Code:=(zdI yiY 64 116).getD .skip
theorem yJd:zdI yiY 64 29=some (.block 0 (.loop yw2)):=by kernel_rfl
theorem yKG (x:(ybf).X):zg7 ⟨yor,32,yyj⟩ 0 yw2 116 ybf yeU ye8 x=y5 x:=by kernel_rfl
def ywa (x:(ye2).X):Nat:=(fun (u0:Int) (u1:Int) (u2:Int) (u3:List dM) (u4:Int) (u5:Int) (u6:Int) (u7:Int) (u8:Int) (u9:List dW) (u10:Int) (u11:Bool) (u12:Bool) (u13:List Int)=>18446744073709551616) x.2.1.1.1 x.2.1.1.2.1 x.2.1.1.2.2.1 x.2.1.1.2.2.2.1 x.2.1.1.2.2.2.2.1 x.2.1.1.2.2.2.2.2.1 x.2.1.1.2.2.2.2.2.2.1 x.2.1.1.2.2.2.2.2.2.2.1 x.2.1.1.2.2.2.2.2.2.2.2.1 x.2.1.1.2.2.2.2.2.2.2.2.2.1 x.2.1.1.2.2.2.2.2.2.2.2.2.2.1 x.2.1.1.2.2.2.2.2.2.2.2.2.2.2.1 x.2.1.1.2.2.2.2.2.2.2.2.2.2.2.2.1 x.2.2.1
def yip (x:(ye2).X):Option ((yeU).X ⊕ (ye8).X):=zr y5 (ywa x) (yvX x)
def ywr:Seg:=⟨ye2,yeU,ye8,yip⟩
def yyk:Nat→Option Seg:=fun q=>bif Nat.beq q 29 then some ywr else yyj q
theorem yJy:FrOk Tryz.prog ⟨yor,32,yyk⟩ yiY:=(yJx).loop (sg:=ywr) ybf yvX (by decide) yJd y5 ywa (by decide) (fun _=>rfl) (fun x r _ h=>h) yKG
abbrev yfs:List Par:= [.rd tA]
abbrev yoF:List OT:= [⟨false,tL,(.ow .fz)⟩]
def ykJ (a0:dA):Option (ResD yoF×MutD yfs) :=
  zjw (yip ((((),()),((),()),((),()),()),((a0.1,a0.2.1.1,a0.2.1.2,a0.2.2.1,a0.2.2.2.1,a0.2.2.2.2.1,a0.2.2.2.2.2.1,a0.2.2.2.2.2.2.1,a0.2.2.2.2.2.2.2.1,a0.2.2.2.2.2.2.2.2.1,a0.2.2.2.2.2.2.2.2.2.1,a0.2.2.2.2.2.2.2.2.2.2.1,a0.2.2.2.2.2.2.2.2.2.2.2,()),()),(([]:List Int),()))) (fun y4 =>
    some ((y4.2.2.1,()),())) (fun y4 =>
    some ((y4.2.2.1,()),()))
theorem ySM (x:InD yfs):zjH ⟨yor,32,yyk⟩ Tryz.f40.results.toList yiY yfs yoF x=ykJ x.1:=by kernel_rfl
theorem yNr:ConOk Tryz.prog 40 ⟨yfs,yoF,fun x=>ykJ x.1⟩:=zkh (yJy) Tryz.func40 (by kernel_rfl) (by kernel_rfl) Tryz.ntmps40.symm (by decide) (fun x r h=>(ySM x).trans h)
def yjX (a0:dA):List Int:=yIL a0
theorem yOV {a:dA} (s:Int) (hg:ye a.2.1=true):(yY a s).1.length≤4:=by
  have:=yg.1 hg
  unfold yY
  cases (yo a&&(!a.2.2.2.2.2.2.2.2.2.2.2&&yO a.2.1 s))
  · exact Nat.zero_le _
  · have:=yY4 a s
    show (yqZ a s).1.length≤4
    omega
theorem yQE (a0:dA) (hk:zi9 yfs (a0,())):ykJ a0=(fun n=>some ((n,()),())) (yjX a0):=by
  unfold ykJ yjX yIL
  cases ha:yo a0
  · have h1:yip (ywl a0 [])=some (.inl (yn4 [])) :=
      zjs (step:=y5) (fun i=>yd7 i a0 []) 0 _ (fun i hi=>absurd hi (Nat.not_lt_zero _)) (by
        simp only [y5,yd7,yif,zkV,yD,ha]
        cases ltb ((0:Nat):Int) a0.2.1.2<;>rfl) _ (by show _ < 18446744073709551616; omega)
    rw [h1]; rfl
  have hg:=yg.1 (yam ha)
  have h1:yip (ywl a0 [])=some (bif (List.range a0.2.1.2.toNat).all (fun (s:Nat)=>(yY a0 s).2) then .inl (yn4 ((List.range a0.2.1.2.toNat).foldl (fun l (s:Nat)=>l++(yY a0 s).1) [])) else .inr (yIl [])) :=
    zhx (step:=y5) a0.2.1.2.toNat (fun i s=>yd7 i a0 s) (fun (s:Nat)=>(yY a0 s).2) (fun l (s:Nat)=>l++(yY a0 s).1) (fun i s=>s.length≤4 * i) (fun s=> .inl (yn4 s)) _ (fun i s hi hs=>by
      have:=yOV i (yam ha)
      refine ⟨?_,fun _=>by rw [List.length_append]; omega⟩
      simp only [y5,yd7,yif,zjI (show (i:Int) < a0.2.1.2 by omega),cond_true,wr (show -9223372036854775808≤(i:Int)+1 by omega) (by omega),Int.natCast_add,Int.natCast_one,Int.toNat_natCast,zkV,yD,ha,ylF,zkw.2 (show (s.length+(yY a0 i).1.length) * 8≤140737488355328 by omega)]
      cases (yY a0 i).2<;>rfl) (fun s hs=>by simp only [y5,yd7,yif,zkm (show a0.2.1.2≤(a0.2.1.2.toNat:Int) by omega),cond_false]) [] (Nat.zero_le _) _ (by show _ < 18446744073709551616; omega)
  rw [h1,yHC]
  cases (List.range a0.2.1.2.toNat).all (fun (s:Nat)=>(yY a0 s).2)<;>rfl
def yyV:Con:=⟨yfs,yoF,fun x=>(fun n=>some ((n,()),())) (yjX x.1)⟩
theorem yRC:ConOk Tryz.prog 40 yyV:=(yNr).mono (fun x r hk h=>(yQE x.1 hk).trans h)
end
section
def yiU:Code:=(Tryz.f39.body).getD .skip
def yon:Env:=zki TT [(55,ytu),(122,yjN)] []
theorem yJk:FrOk Tryz.prog ⟨yon,32,fun _=>none⟩ yiU:=zkp yc yd ⟨yEl,yq6,trivial⟩
def yyb:Nat→Option Seg:=fun _=>none
def ybc:Shape:=⟨[(1,false,[.ptr 0 0]),(3,false,[.at 800000000]),(15,false,[.int .i64]),(16,false,[.int .i64])],[(0,[.int .i64,.int .i64,.int .i64,.br tM,.int .i64,.int .i64,.int .i64,.int .i64,.int .i64,.br tW,.int .i64,.bool,.bool])],[(800000000,tI,.fz)]⟩
def yeZ:Shape:=⟨[(1,false,[.ptr 0 0]),(3,false,[.at 800000000]),(15,false,[.int .i64]),(16,false,[.ci .i64 0])],[(0,[.int .i64,.int .i64,.int .i64,.br tM,.int .i64,.int .i64,.int .i64,.int .i64,.int .i64,.br tW,.int .i64,.bool,.bool])],[(800000000,tI,.fz)]⟩
def yeR:Shape:=⟨[(3,false,[.at 800000000])],[],[(800000000,tI,.fz)]⟩
def ye6:Shape:=⟨[(2,false,[.nil])],[],[]⟩
abbrev ynY (v0:Int) (v1:Int) (v2:dA) (v3:List Int):(ybc).X:=((((),()),((),()),(v0,()),(v1,()),()),((v2.1,v2.2.1.1,v2.2.1.2,v2.2.2.1,v2.2.2.2.1,v2.2.2.2.2.1,v2.2.2.2.2.2.1,v2.2.2.2.2.2.2.1,v2.2.2.2.2.2.2.2.1,v2.2.2.2.2.2.2.2.2.1,v2.2.2.2.2.2.2.2.2.2.1,v2.2.2.2.2.2.2.2.2.2.2.1,v2.2.2.2.2.2.2.2.2.2.2.2,()),()),(v3,()))
abbrev yId (v0:Int) (v1:dA) (v2:List Int):(yeZ).X:=((((),()),((),()),(v0,()),((),()),()),((v1.1,v1.2.1.1,v1.2.1.2,v1.2.2.1,v1.2.2.2.1,v1.2.2.2.2.1,v1.2.2.2.2.2.1,v1.2.2.2.2.2.2.1,v1.2.2.2.2.2.2.2.1,v1.2.2.2.2.2.2.2.2.1,v1.2.2.2.2.2.2.2.2.2.1,v1.2.2.2.2.2.2.2.2.2.2.1,v1.2.2.2.2.2.2.2.2.2.2.2,()),()),(v2,()))
abbrev ywi (v0:List Int):(yeR).X:=((((),()),()),(),(v0,()))
abbrev yIj  :(ye6).X:=((((),()),()),(),())
def yoe (v0:Int) (v1:Int) (v2:Int) (v3:Int) (v4:Int) (v5:List dM) (v6:Int) (v7:Int) (v8:Int) (v9:Int) (v10:Int) (v11:List dW) (v12:Int) (v13:Bool) (v14:Bool) (v15:List Int):Option ((ybc).X ⊕ ((yeR).X ⊕ (ye6).X)) :=
  bif (ltb v1 v0) then
    let r3:=yeL (v2,(v3,v4),v5,v6,v7,v8,v9,v10,v11,v12,v13,v14) v1
    bif (!r3.2) then
      some (.inr (.inr ((((),()),()),(),())))
    else
      bif (zj4 v15.length r3.1.length 8) then
        some (.inl ((((),()),((),()),(v0,()),((IntKind.i64.wrap (v1+1)),()),()),((v2,v3,v4,v5,v6,v7,v8,v9,v10,v11,v12,v13,v14,()),()),((v15++r3.1),())))
      else none
  else
    some (.inr (.inl ((((),()),()),(),(v15,()))))
def ybo (x:(ybc).X):=yoe x.1.2.2.1.1 x.1.2.2.2.1.1 x.2.1.1.1 x.2.1.1.2.1 x.2.1.1.2.2.1 x.2.1.1.2.2.2.1 x.2.1.1.2.2.2.2.1 x.2.1.1.2.2.2.2.2.1 x.2.1.1.2.2.2.2.2.2.1 x.2.1.1.2.2.2.2.2.2.2.1 x.2.1.1.2.2.2.2.2.2.2.2.1 x.2.1.1.2.2.2.2.2.2.2.2.2.1 x.2.1.1.2.2.2.2.2.2.2.2.2.2.1 x.2.1.1.2.2.2.2.2.2.2.2.2.2.2.1 x.2.1.1.2.2.2.2.2.2.2.2.2.2.2.2.1 x.2.2.1
def yvT (x:(yeZ).X):(ybc).X:=((((),()),((),()),(x.1.2.2.1.1,()),(0,()),()),((x.2.1.1.1,x.2.1.1.2.1,x.2.1.1.2.2.1,x.2.1.1.2.2.2.1,x.2.1.1.2.2.2.2.1,x.2.1.1.2.2.2.2.2.1,x.2.1.1.2.2.2.2.2.2.1,x.2.1.1.2.2.2.2.2.2.2.1,x.2.1.1.2.2.2.2.2.2.2.2.1,x.2.1.1.2.2.2.2.2.2.2.2.2.1,x.2.1.1.2.2.2.2.2.2.2.2.2.2.1,x.2.1.1.2.2.2.2.2.2.2.2.2.2.2.1,x.2.1.1.2.2.2.2.2.2.2.2.2.2.2.2.1,()),()),(x.2.2.1,()))
def ywY:Code:=(zdI yiU 64 244).getD .skip
theorem yI9:zdI yiU 64 61=some (.block 0 (.loop ywY)):=by kernel_rfl
theorem yKC (x:(ybc).X):zg7 ⟨yon,32,yyb⟩ 0 ywY 244 ybc yeR ye6 x=ybo x:=by kernel_rfl
def yv6 (x:(yeZ).X):Nat:=(fun (u0:Int) (u1:Int) (u2:Int) (u3:Int) (u4:List dM) (u5:Int) (u6:Int) (u7:Int) (u8:Int) (u9:Int) (u10:List dW) (u11:Int) (u12:Bool) (u13:Bool) (u14:List Int)=>18446744073709551616) x.1.2.2.1.1 x.2.1.1.1 x.2.1.1.2.1 x.2.1.1.2.2.1 x.2.1.1.2.2.2.1 x.2.1.1.2.2.2.2.1 x.2.1.1.2.2.2.2.2.1 x.2.1.1.2.2.2.2.2.2.1 x.2.1.1.2.2.2.2.2.2.2.1 x.2.1.1.2.2.2.2.2.2.2.2.1 x.2.1.1.2.2.2.2.2.2.2.2.2.1 x.2.1.1.2.2.2.2.2.2.2.2.2.2.1 x.2.1.1.2.2.2.2.2.2.2.2.2.2.2.1 x.2.1.1.2.2.2.2.2.2.2.2.2.2.2.2.1 x.2.2.1
def ypi (x:(yeZ).X):Option ((yeR).X ⊕ (ye6).X):=zr ybo (yv6 x) (yvT x)
def ywn:Seg:=⟨yeZ,yeR,ye6,ypi⟩
def yyc:Nat→Option Seg:=fun q=>bif Nat.beq q 61 then some ywn else yyb q
theorem yJl:FrOk Tryz.prog ⟨yon,32,yyc⟩ yiU:=(yJk).loop (sg:=ywn) ybc yvT (by decide) yI9 ybo yv6 (by decide) (fun _=>rfl) (fun x r _ h=>h) yKC
abbrev yfn:List Par:= [.rd tA]
abbrev yox:List OT:= [⟨false,tL,(.ow .fz)⟩]
def ykD (a0:dA):Option (ResD yox×MutD yfn) :=
  let r1:=ycE a0.2.1
  bif (!r1) then
    some ((([]:List Int),()),())
  else
    zjw (ypi ((((),()),((),()),(a0.2.1.2,()),((),()),()),((a0.1,a0.2.1.1,a0.2.1.2,a0.2.2.1,a0.2.2.2.1,a0.2.2.2.2.1,a0.2.2.2.2.2.1,a0.2.2.2.2.2.2.1,a0.2.2.2.2.2.2.2.1,a0.2.2.2.2.2.2.2.2.1,a0.2.2.2.2.2.2.2.2.2.1,a0.2.2.2.2.2.2.2.2.2.2.1,a0.2.2.2.2.2.2.2.2.2.2.2,()),()),(([]:List Int),()))) (fun y3 =>
      some ((y3.2.2.1,()),())) (fun y3 =>
      some (([],()),()))
theorem ySD (x:InD yfn):zjH ⟨yon,32,yyc⟩ Tryz.f39.results.toList yiU yfn yox x=ykD x.1:=by kernel_rfl
theorem yNi:ConOk Tryz.prog 39 ⟨yfn,yox,fun x=>ykD x.1⟩:=zkh (yJl) Tryz.func39 (by kernel_rfl) (by kernel_rfl) Tryz.ntmps39.symm (by decide) (fun x r h=>(ySD x).trans h)
def yjS (a0:dA):List Int:=yIL a0
theorem yQw (a0:dA) (hk:zi9 yfn (a0,())):ykD a0=(fun n=>some ((n,()),())) (yjS a0):=by
  unfold ykD yjS yIL
  rw [yH5]
  cases hg0:ye a0.2.1
  · rw [show yo a0=false by unfold yo; rw [hg0]; rfl]; rfl
  have hg:=yg.1 hg0
  have h1:ypi (yId a0.2.1.2 a0 [])=some (bif (List.range a0.2.1.2.toNat).all (fun (s:Nat)=>(yY a0 s).2) then .inl (ywi ((List.range a0.2.1.2.toNat).foldl (fun l (s:Nat)=>l++(yY a0 s).1) [])) else .inr (yIj)) :=
    zhx (step:=ybo) a0.2.1.2.toNat (fun i s=>ynY a0.2.1.2 i a0 s) (fun (s:Nat)=>(yY a0 s).2) (fun l (s:Nat)=>l++(yY a0 s).1) (fun i s=>s.length≤4 * i) (fun s=> .inl (ywi s)) _ (fun i s hi hs=>by
      have:=yOV i hg0
      refine ⟨?_,fun _=>by rw [List.length_append]; omega⟩
      simp only [ybo,ynY,yoe,zjI (show (i:Int) < a0.2.1.2 by omega),cond_true,wr (show -9223372036854775808≤(i:Int)+1 by omega) (by omega),Int.natCast_add,Int.natCast_one,Int.toNat_natCast,zkV,yeL,zkw.2 (show (s.length+(yY a0 i).1.length) * 8≤140737488355328 by omega)]
      cases (yY a0 i).2<;>rfl) (fun s hs=>by simp only [ybo,ynY,yoe,zkm (show a0.2.1.2≤(a0.2.1.2.toNat:Int) by omega),cond_false]) [] (Nat.zero_le _) _ (by show _ < 18446744073709551616; omega)
  rw [h1,yHC]
  cases ha:yo a0
  · have:(List.range a0.2.1.2.toNat).all (fun (s:Nat)=>(yY a0 s).2)=false:=by
      rw [List.all_eq_false]
      refine ⟨0,List.mem_range.2 (by omega),?_⟩
      unfold yY
      rw [ha]; simp
    rw [this]; rfl
  · cases (List.range a0.2.1.2.toNat).all (fun (s:Nat)=>(yY a0 s).2)<;>rfl
def yyN:Con:=⟨yfn,yox,fun x=>(fun n=>some ((n,()),())) (yjS x.1)⟩
theorem yRu:ConOk Tryz.prog 39 yyN:=(yNi).mono (fun x r hk h=>(yQw x.1 hk).trans h)
end
section
def yg1:Code:=(Tryz.f4.body).getD .skip
def ymg:Env:=zki TT [(12,yHu),(26,yyU),(27,yxe),(28,yxd),(29,ysi),(30,yty),(31,yBI),(32,yGe),(33,yGd),(34,yGg),(35,yGf),(36,yxb),(37,yw7),(38,yxc),(39,yyN),(40,yyV)] []
theorem yHL:FrOk Tryz.prog ⟨ymg,71,fun _=>none⟩ yg1:=zkp yc yd ⟨yYn,yRB,yNN,yNM,yE4,yGM,yUj,yXO,yXN,yXQ,yXP,yNK,yNF,yNL,yRu,yRC,trivial⟩
def ywM:Nat→Option Seg:=fun _=>none
def yas:Shape:=⟨[(3,false,[.ptr 12416 0]),(4,false,[.ptr 16512 0]),(5,false,[.ptr 20608 0]),(6,false,[.ptr 24704 0]),(7,false,[.ptr 28800 0]),(8,false,[.int .i64]),(9,false,[.int .i64])],[(12416,[.int .i64,.int .i64,.int .i64,.at 800000000,.int .i64,.int .i64,.int .i64,.int .i64,.int .i64,.at 800000001,.int .i64,.bool,.bool]),(16512,[.int .i64,.int .i64,.int .i64,.at 800000002,.int .i64,.int .i64,.int .i64,.int .i64,.int .i64,.at 800000003,.int .i64,.bool,.bool]),(20608,[.int .i64,.int .i64,.int .i64,.at 800000004,.int .i64,.int .i64,.int .i64,.int .i64,.int .i64,.at 800000005,.int .i64,.bool,.bool]),(24704,[.int .i64,.int .i64,.int .i64,.at 800000006,.int .i64,.int .i64,.int .i64,.int .i64,.int .i64,.at 800000007,.int .i64,.bool,.bool]),(28800,[.int .i64,.int .i64,.int .i64,.at 800000008,.int .i64,.int .i64,.int .i64,.int .i64,.int .i64,.at 800000009,.int .i64,.bool,.bool])],[(800000000,tM,(.pr (.ow .fz) (.pr (.ow (.pr .fz .fz)) (.pr .fz (.ow .fz))))),(800000001,tW,(.pr .fz .fz)),(800000002,tM,(.pr (.ow .fz) (.pr (.ow (.pr .fz .fz)) (.pr .fz (.ow .fz))))),(800000003,tW,(.pr .fz .fz)),(800000004,tM,(.pr (.ow .fz) (.pr (.ow (.pr .fz .fz)) (.pr .fz (.ow .fz))))),(800000005,tW,(.pr .fz .fz)),(800000006,tM,(.pr (.ow .fz) (.pr (.ow (.pr .fz .fz)) (.pr .fz (.ow .fz))))),(800000007,tW,(.pr .fz .fz)),(800000008,tM,(.pr (.ow .fz) (.pr (.ow (.pr .fz .fz)) (.pr .fz (.ow .fz))))),(800000009,tW,(.pr .fz .fz))]⟩
def ycC:Shape:=⟨[(3,false,[.ptr 12416 0]),(4,false,[.ptr 16512 0]),(5,false,[.ptr 20608 0]),(6,false,[.ptr 24704 0]),(7,false,[.ptr 28800 0]),(8,false,[.ci .i64 0]),(9,false,[.ci .i64 0])],[(12416,[.int .i64,.int .i64,.int .i64,.at 800000000,.int .i64,.int .i64,.int .i64,.int .i64,.int .i64,.at 800000001,.int .i64,.bool,.bool]),(16512,[.int .i64,.int .i64,.int .i64,.at 800000002,.int .i64,.int .i64,.int .i64,.int .i64,.int .i64,.at 800000003,.int .i64,.bool,.bool]),(20608,[.int .i64,.int .i64,.int .i64,.at 800000004,.int .i64,.int .i64,.int .i64,.int .i64,.int .i64,.at 800000005,.int .i64,.bool,.bool]),(24704,[.int .i64,.int .i64,.int .i64,.at 800000006,.int .i64,.int .i64,.int .i64,.int .i64,.int .i64,.at 800000007,.int .i64,.bool,.bool]),(28800,[.int .i64,.int .i64,.int .i64,.at 800000008,.int .i64,.int .i64,.int .i64,.int .i64,.int .i64,.at 800000009,.int .i64,.bool,.bool])],[(800000000,tM,(.pr (.ow .fz) (.pr (.ow (.pr .fz .fz)) (.pr .fz (.ow .fz))))),(800000001,tW,(.pr .fz .fz)),(800000002,tM,(.pr (.ow .fz) (.pr (.ow (.pr .fz .fz)) (.pr .fz (.ow .fz))))),(800000003,tW,(.pr .fz .fz)),(800000004,tM,(.pr (.ow .fz) (.pr (.ow (.pr .fz .fz)) (.pr .fz (.ow .fz))))),(800000005,tW,(.pr .fz .fz)),(800000006,tM,(.pr (.ow .fz) (.pr (.ow (.pr .fz .fz)) (.pr .fz (.ow .fz))))),(800000007,tW,(.pr .fz .fz)),(800000008,tM,(.pr (.ow .fz) (.pr (.ow (.pr .fz .fz)) (.pr .fz (.ow .fz))))),(800000009,tW,(.pr .fz .fz))]⟩
def ycB:Shape:=⟨[(3,false,[.ptr 12416 0]),(4,false,[.ptr 16512 0]),(5,false,[.ptr 20608 0]),(6,false,[.ptr 24704 0]),(7,false,[.ptr 28800 0]),(8,false,[.int .i64])],[(12416,[.int .i64,.int .i64,.int .i64,.at 800000000,.int .i64,.int .i64,.int .i64,.int .i64,.int .i64,.at 800000001,.int .i64,.bool,.bool]),(16512,[.int .i64,.int .i64,.int .i64,.at 800000002,.int .i64,.int .i64,.int .i64,.int .i64,.int .i64,.at 800000003,.int .i64,.bool,.bool]),(20608,[.int .i64,.int .i64,.int .i64,.at 800000004,.int .i64,.int .i64,.int .i64,.int .i64,.int .i64,.at 800000005,.int .i64,.bool,.bool]),(24704,[.int .i64,.int .i64,.int .i64,.at 800000006,.int .i64,.int .i64,.int .i64,.int .i64,.int .i64,.at 800000007,.int .i64,.bool,.bool]),(28800,[.int .i64,.int .i64,.int .i64,.at 800000008,.int .i64,.int .i64,.int .i64,.int .i64,.int .i64,.at 800000009,.int .i64,.bool,.bool])],[(800000000,tM,(.pr (.ow .fz) (.pr (.ow (.pr .fz .fz)) (.pr .fz (.ow .fz))))),(800000001,tW,(.pr .fz .fz)),(800000002,tM,(.pr (.ow .fz) (.pr (.ow (.pr .fz .fz)) (.pr .fz (.ow .fz))))),(800000003,tW,(.pr .fz .fz)),(800000004,tM,(.pr (.ow .fz) (.pr (.ow (.pr .fz .fz)) (.pr .fz (.ow .fz))))),(800000005,tW,(.pr .fz .fz)),(800000006,tM,(.pr (.ow .fz) (.pr (.ow (.pr .fz .fz)) (.pr .fz (.ow .fz))))),(800000007,tW,(.pr .fz .fz)),(800000008,tM,(.pr (.ow .fz) (.pr (.ow (.pr .fz .fz)) (.pr .fz (.ow .fz))))),(800000009,tW,(.pr .fz .fz))]⟩
def yfg:Shape:=⟨[],[],[]⟩
abbrev yjR (v0:Int) (v1:Int) (v2:dA) (v3:dA) (v4:dA) (v5:dA) (v6:dA):(yas).X:=((((),()),((),()),((),()),((),()),((),()),(v0,()),(v1,()),()),((v2.1,v2.2.1.1,v2.2.1.2,(),v2.2.2.2.1,v2.2.2.2.2.1,v2.2.2.2.2.2.1,v2.2.2.2.2.2.2.1,v2.2.2.2.2.2.2.2.1,(),v2.2.2.2.2.2.2.2.2.2.1,v2.2.2.2.2.2.2.2.2.2.2.1,v2.2.2.2.2.2.2.2.2.2.2.2,()),(v3.1,v3.2.1.1,v3.2.1.2,(),v3.2.2.2.1,v3.2.2.2.2.1,v3.2.2.2.2.2.1,v3.2.2.2.2.2.2.1,v3.2.2.2.2.2.2.2.1,(),v3.2.2.2.2.2.2.2.2.2.1,v3.2.2.2.2.2.2.2.2.2.2.1,v3.2.2.2.2.2.2.2.2.2.2.2,()),(v4.1,v4.2.1.1,v4.2.1.2,(),v4.2.2.2.1,v4.2.2.2.2.1,v4.2.2.2.2.2.1,v4.2.2.2.2.2.2.1,v4.2.2.2.2.2.2.2.1,(),v4.2.2.2.2.2.2.2.2.2.1,v4.2.2.2.2.2.2.2.2.2.2.1,v4.2.2.2.2.2.2.2.2.2.2.2,()),(v5.1,v5.2.1.1,v5.2.1.2,(),v5.2.2.2.1,v5.2.2.2.2.1,v5.2.2.2.2.2.1,v5.2.2.2.2.2.2.1,v5.2.2.2.2.2.2.2.1,(),v5.2.2.2.2.2.2.2.2.2.1,v5.2.2.2.2.2.2.2.2.2.2.1,v5.2.2.2.2.2.2.2.2.2.2.2,()),(v6.1,v6.2.1.1,v6.2.1.2,(),v6.2.2.2.1,v6.2.2.2.2.1,v6.2.2.2.2.2.1,v6.2.2.2.2.2.2.1,v6.2.2.2.2.2.2.2.1,(),v6.2.2.2.2.2.2.2.2.2.1,v6.2.2.2.2.2.2.2.2.2.2.1,v6.2.2.2.2.2.2.2.2.2.2.2,()),()),(v2.2.2.1,v2.2.2.2.2.2.2.2.2.1,v3.2.2.1,v3.2.2.2.2.2.2.2.2.1,v4.2.2.1,v4.2.2.2.2.2.2.2.2.1,v5.2.2.1,v5.2.2.2.2.2.2.2.2.1,v6.2.2.1,v6.2.2.2.2.2.2.2.2.1,()))
abbrev yEi (v0:dA) (v1:dA) (v2:dA) (v3:dA) (v4:dA):(ycC).X:=((((),()),((),()),((),()),((),()),((),()),((),()),((),()),()),((v0.1,v0.2.1.1,v0.2.1.2,(),v0.2.2.2.1,v0.2.2.2.2.1,v0.2.2.2.2.2.1,v0.2.2.2.2.2.2.1,v0.2.2.2.2.2.2.2.1,(),v0.2.2.2.2.2.2.2.2.2.1,v0.2.2.2.2.2.2.2.2.2.2.1,v0.2.2.2.2.2.2.2.2.2.2.2,()),(v1.1,v1.2.1.1,v1.2.1.2,(),v1.2.2.2.1,v1.2.2.2.2.1,v1.2.2.2.2.2.1,v1.2.2.2.2.2.2.1,v1.2.2.2.2.2.2.2.1,(),v1.2.2.2.2.2.2.2.2.2.1,v1.2.2.2.2.2.2.2.2.2.2.1,v1.2.2.2.2.2.2.2.2.2.2.2,()),(v2.1,v2.2.1.1,v2.2.1.2,(),v2.2.2.2.1,v2.2.2.2.2.1,v2.2.2.2.2.2.1,v2.2.2.2.2.2.2.1,v2.2.2.2.2.2.2.2.1,(),v2.2.2.2.2.2.2.2.2.2.1,v2.2.2.2.2.2.2.2.2.2.2.1,v2.2.2.2.2.2.2.2.2.2.2.2,()),(v3.1,v3.2.1.1,v3.2.1.2,(),v3.2.2.2.1,v3.2.2.2.2.1,v3.2.2.2.2.2.1,v3.2.2.2.2.2.2.1,v3.2.2.2.2.2.2.2.1,(),v3.2.2.2.2.2.2.2.2.2.1,v3.2.2.2.2.2.2.2.2.2.2.1,v3.2.2.2.2.2.2.2.2.2.2.2,()),(v4.1,v4.2.1.1,v4.2.1.2,(),v4.2.2.2.1,v4.2.2.2.2.1,v4.2.2.2.2.2.1,v4.2.2.2.2.2.2.1,v4.2.2.2.2.2.2.2.1,(),v4.2.2.2.2.2.2.2.2.2.1,v4.2.2.2.2.2.2.2.2.2.2.1,v4.2.2.2.2.2.2.2.2.2.2.2,()),()),(v0.2.2.1,v0.2.2.2.2.2.2.2.2.1,v1.2.2.1,v1.2.2.2.2.2.2.2.2.1,v2.2.2.1,v2.2.2.2.2.2.2.2.2.1,v3.2.2.1,v3.2.2.2.2.2.2.2.2.1,v4.2.2.1,v4.2.2.2.2.2.2.2.2.1,()))
abbrev yEh (v0:Int) (v1:dA) (v2:dA) (v3:dA) (v4:dA) (v5:dA):(ycB).X:=((((),()),((),()),((),()),((),()),((),()),(v0,()),()),((v1.1,v1.2.1.1,v1.2.1.2,(),v1.2.2.2.1,v1.2.2.2.2.1,v1.2.2.2.2.2.1,v1.2.2.2.2.2.2.1,v1.2.2.2.2.2.2.2.1,(),v1.2.2.2.2.2.2.2.2.2.1,v1.2.2.2.2.2.2.2.2.2.2.1,v1.2.2.2.2.2.2.2.2.2.2.2,()),(v2.1,v2.2.1.1,v2.2.1.2,(),v2.2.2.2.1,v2.2.2.2.2.1,v2.2.2.2.2.2.1,v2.2.2.2.2.2.2.1,v2.2.2.2.2.2.2.2.1,(),v2.2.2.2.2.2.2.2.2.2.1,v2.2.2.2.2.2.2.2.2.2.2.1,v2.2.2.2.2.2.2.2.2.2.2.2,()),(v3.1,v3.2.1.1,v3.2.1.2,(),v3.2.2.2.1,v3.2.2.2.2.1,v3.2.2.2.2.2.1,v3.2.2.2.2.2.2.1,v3.2.2.2.2.2.2.2.1,(),v3.2.2.2.2.2.2.2.2.2.1,v3.2.2.2.2.2.2.2.2.2.2.1,v3.2.2.2.2.2.2.2.2.2.2.2,()),(v4.1,v4.2.1.1,v4.2.1.2,(),v4.2.2.2.1,v4.2.2.2.2.1,v4.2.2.2.2.2.1,v4.2.2.2.2.2.2.1,v4.2.2.2.2.2.2.2.1,(),v4.2.2.2.2.2.2.2.2.2.1,v4.2.2.2.2.2.2.2.2.2.2.1,v4.2.2.2.2.2.2.2.2.2.2.2,()),(v5.1,v5.2.1.1,v5.2.1.2,(),v5.2.2.2.1,v5.2.2.2.2.1,v5.2.2.2.2.2.1,v5.2.2.2.2.2.2.1,v5.2.2.2.2.2.2.2.1,(),v5.2.2.2.2.2.2.2.2.2.1,v5.2.2.2.2.2.2.2.2.2.2.1,v5.2.2.2.2.2.2.2.2.2.2.2,()),()),(v1.2.2.1,v1.2.2.2.2.2.2.2.2.1,v2.2.2.1,v2.2.2.2.2.2.2.2.2.1,v3.2.2.1,v3.2.2.2.2.2.2.2.2.1,v4.2.2.1,v4.2.2.2.2.2.2.2.2.1,v5.2.2.1,v5.2.2.2.2.2.2.2.2.1,()))
def yke (v0:Int) (v1:Int) (v2:Int) (v3:Int) (v4:Int) (v5:Int) (v6:Int) (v7:Int) (v8:Int) (v9:Int) (v10:Int) (v11:Bool) (v12:Bool) (v13:Int) (v14:Int) (v15:Int) (v16:Int) (v17:Int) (v18:Int) (v19:Int) (v20:Int) (v21:Int) (v22:Bool) (v23:Bool) (v24:Int) (v25:Int) (v26:Int) (v27:Int) (v28:Int) (v29:Int) (v30:Int) (v31:Int) (v32:Int) (v33:Bool) (v34:Bool) (v35:Int) (v36:Int) (v37:Int) (v38:Int) (v39:Int) (v40:Int) (v41:Int) (v42:Int) (v43:Int) (v44:Bool) (v45:Bool) (v46:Int) (v47:Int) (v48:Int) (v49:Int) (v50:Int) (v51:Int) (v52:Int) (v53:Int) (v54:Int) (v55:Bool) (v56:Bool) (v57:List dM) (v58:List dW) (v59:List dM) (v60:List dW) (v61:List dM) (v62:List dW) (v63:List dM) (v64:List dW) (v65:List dM) (v66:List dW):Option ((yas).X ⊕ ((ycB).X ⊕ (yfg).X)) :=
  bif (ltb v1 v4) then
    let r8:=ylC (v2,(v3,v4),v57,v5,v6,v7,v8,v9,v58,v10,v11,v12) v1
    bif (ltb 0 r8) then
      some (.inl ((((),()),((),()),((),()),((),()),((),()),((IntKind.i64.wrap (v0+1)),()),((IntKind.i64.wrap (v1+1)),()),()),((v2,v3,v4,(),v5,v6,v7,v8,v9,(),v10,v11,v12,()),(v13,v14,v15,(),v16,v17,v18,v19,v20,(),v21,v22,v23,()),(v24,v25,v26,(),v27,v28,v29,v30,v31,(),v32,v33,v34,()),(v35,v36,v37,(),v38,v39,v40,v41,v42,(),v43,v44,v45,()),(v46,v47,v48,(),v49,v50,v51,v52,v53,(),v54,v55,v56,()),()),(v57,v58,v59,v60,v61,v62,v63,v64,v65,v66,())))
    else
      some (.inl ((((),()),((),()),((),()),((),()),((),()),(v0,()),((IntKind.i64.wrap (v1+1)),()),()),((v2,v3,v4,(),v5,v6,v7,v8,v9,(),v10,v11,v12,()),(v13,v14,v15,(),v16,v17,v18,v19,v20,(),v21,v22,v23,()),(v24,v25,v26,(),v27,v28,v29,v30,v31,(),v32,v33,v34,()),(v35,v36,v37,(),v38,v39,v40,v41,v42,(),v43,v44,v45,()),(v46,v47,v48,(),v49,v50,v51,v52,v53,(),v54,v55,v56,()),()),(v57,v58,v59,v60,v61,v62,v63,v64,v65,v66,())))
  else
    some (.inr (.inl ((((),()),((),()),((),()),((),()),((),()),(v0,()),()),((v2,v3,v4,(),v5,v6,v7,v8,v9,(),v10,v11,v12,()),(v13,v14,v15,(),v16,v17,v18,v19,v20,(),v21,v22,v23,()),(v24,v25,v26,(),v27,v28,v29,v30,v31,(),v32,v33,v34,()),(v35,v36,v37,(),v38,v39,v40,v41,v42,(),v43,v44,v45,()),(v46,v47,v48,(),v49,v50,v51,v52,v53,(),v54,v55,v56,()),()),(v57,v58,v59,v60,v61,v62,v63,v64,v65,v66,()))))
def yaB (x:(yas).X):=yke x.1.2.2.2.2.2.1.1 x.1.2.2.2.2.2.2.1.1 x.2.1.1.1 x.2.1.1.2.1 x.2.1.1.2.2.1 x.2.1.1.2.2.2.2.1 x.2.1.1.2.2.2.2.2.1 x.2.1.1.2.2.2.2.2.2.1 x.2.1.1.2.2.2.2.2.2.2.1 x.2.1.1.2.2.2.2.2.2.2.2.1 x.2.1.1.2.2.2.2.2.2.2.2.2.2.1 x.2.1.1.2.2.2.2.2.2.2.2.2.2.2.1 x.2.1.1.2.2.2.2.2.2.2.2.2.2.2.2.1 x.2.1.2.1.1 x.2.1.2.1.2.1 x.2.1.2.1.2.2.1 x.2.1.2.1.2.2.2.2.1 x.2.1.2.1.2.2.2.2.2.1 x.2.1.2.1.2.2.2.2.2.2.1 x.2.1.2.1.2.2.2.2.2.2.2.1 x.2.1.2.1.2.2.2.2.2.2.2.2.1 x.2.1.2.1.2.2.2.2.2.2.2.2.2.2.1 x.2.1.2.1.2.2.2.2.2.2.2.2.2.2.2.1 x.2.1.2.1.2.2.2.2.2.2.2.2.2.2.2.2.1 x.2.1.2.2.1.1 x.2.1.2.2.1.2.1 x.2.1.2.2.1.2.2.1 x.2.1.2.2.1.2.2.2.2.1 x.2.1.2.2.1.2.2.2.2.2.1 x.2.1.2.2.1.2.2.2.2.2.2.1 x.2.1.2.2.1.2.2.2.2.2.2.2.1 x.2.1.2.2.1.2.2.2.2.2.2.2.2.1 x.2.1.2.2.1.2.2.2.2.2.2.2.2.2.2.1 x.2.1.2.2.1.2.2.2.2.2.2.2.2.2.2.2.1 x.2.1.2.2.1.2.2.2.2.2.2.2.2.2.2.2.2.1 x.2.1.2.2.2.1.1 x.2.1.2.2.2.1.2.1 x.2.1.2.2.2.1.2.2.1 x.2.1.2.2.2.1.2.2.2.2.1 x.2.1.2.2.2.1.2.2.2.2.2.1 x.2.1.2.2.2.1.2.2.2.2.2.2.1 x.2.1.2.2.2.1.2.2.2.2.2.2.2.1 x.2.1.2.2.2.1.2.2.2.2.2.2.2.2.1 x.2.1.2.2.2.1.2.2.2.2.2.2.2.2.2.2.1 x.2.1.2.2.2.1.2.2.2.2.2.2.2.2.2.2.2.1 x.2.1.2.2.2.1.2.2.2.2.2.2.2.2.2.2.2.2.1 x.2.1.2.2.2.2.1.1 x.2.1.2.2.2.2.1.2.1 x.2.1.2.2.2.2.1.2.2.1 x.2.1.2.2.2.2.1.2.2.2.2.1 x.2.1.2.2.2.2.1.2.2.2.2.2.1 x.2.1.2.2.2.2.1.2.2.2.2.2.2.1 x.2.1.2.2.2.2.1.2.2.2.2.2.2.2.1 x.2.1.2.2.2.2.1.2.2.2.2.2.2.2.2.1 x.2.1.2.2.2.2.1.2.2.2.2.2.2.2.2.2.2.1 x.2.1.2.2.2.2.1.2.2.2.2.2.2.2.2.2.2.2.1 x.2.1.2.2.2.2.1.2.2.2.2.2.2.2.2.2.2.2.2.1 x.2.2.1 x.2.2.2.1 x.2.2.2.2.1 x.2.2.2.2.2.1 x.2.2.2.2.2.2.1 x.2.2.2.2.2.2.2.1 x.2.2.2.2.2.2.2.2.1 x.2.2.2.2.2.2.2.2.2.1 x.2.2.2.2.2.2.2.2.2.2.1 x.2.2.2.2.2.2.2.2.2.2.2.1
def ysl (x:(ycC).X):(yas).X:=((((),()),((),()),((),()),((),()),((),()),(0,()),(0,()),()),((x.2.1.1.1,x.2.1.1.2.1,x.2.1.1.2.2.1,(),x.2.1.1.2.2.2.2.1,x.2.1.1.2.2.2.2.2.1,x.2.1.1.2.2.2.2.2.2.1,x.2.1.1.2.2.2.2.2.2.2.1,x.2.1.1.2.2.2.2.2.2.2.2.1,(),x.2.1.1.2.2.2.2.2.2.2.2.2.2.1,x.2.1.1.2.2.2.2.2.2.2.2.2.2.2.1,x.2.1.1.2.2.2.2.2.2.2.2.2.2.2.2.1,()),(x.2.1.2.1.1,x.2.1.2.1.2.1,x.2.1.2.1.2.2.1,(),x.2.1.2.1.2.2.2.2.1,x.2.1.2.1.2.2.2.2.2.1,x.2.1.2.1.2.2.2.2.2.2.1,x.2.1.2.1.2.2.2.2.2.2.2.1,x.2.1.2.1.2.2.2.2.2.2.2.2.1,(),x.2.1.2.1.2.2.2.2.2.2.2.2.2.2.1,x.2.1.2.1.2.2.2.2.2.2.2.2.2.2.2.1,x.2.1.2.1.2.2.2.2.2.2.2.2.2.2.2.2.1,()),(x.2.1.2.2.1.1,x.2.1.2.2.1.2.1,x.2.1.2.2.1.2.2.1,(),x.2.1.2.2.1.2.2.2.2.1,x.2.1.2.2.1.2.2.2.2.2.1,x.2.1.2.2.1.2.2.2.2.2.2.1,x.2.1.2.2.1.2.2.2.2.2.2.2.1,x.2.1.2.2.1.2.2.2.2.2.2.2.2.1,(),x.2.1.2.2.1.2.2.2.2.2.2.2.2.2.2.1,x.2.1.2.2.1.2.2.2.2.2.2.2.2.2.2.2.1,x.2.1.2.2.1.2.2.2.2.2.2.2.2.2.2.2.2.1,()),(x.2.1.2.2.2.1.1,x.2.1.2.2.2.1.2.1,x.2.1.2.2.2.1.2.2.1,(),x.2.1.2.2.2.1.2.2.2.2.1,x.2.1.2.2.2.1.2.2.2.2.2.1,x.2.1.2.2.2.1.2.2.2.2.2.2.1,x.2.1.2.2.2.1.2.2.2.2.2.2.2.1,x.2.1.2.2.2.1.2.2.2.2.2.2.2.2.1,(),x.2.1.2.2.2.1.2.2.2.2.2.2.2.2.2.2.1,x.2.1.2.2.2.1.2.2.2.2.2.2.2.2.2.2.2.1,x.2.1.2.2.2.1.2.2.2.2.2.2.2.2.2.2.2.2.1,()),(x.2.1.2.2.2.2.1.1,x.2.1.2.2.2.2.1.2.1,x.2.1.2.2.2.2.1.2.2.1,(),x.2.1.2.2.2.2.1.2.2.2.2.1,x.2.1.2.2.2.2.1.2.2.2.2.2.1,x.2.1.2.2.2.2.1.2.2.2.2.2.2.1,x.2.1.2.2.2.2.1.2.2.2.2.2.2.2.1,x.2.1.2.2.2.2.1.2.2.2.2.2.2.2.2.1,(),x.2.1.2.2.2.2.1.2.2.2.2.2.2.2.2.2.2.1,x.2.1.2.2.2.2.1.2.2.2.2.2.2.2.2.2.2.2.1,x.2.1.2.2.2.2.1.2.2.2.2.2.2.2.2.2.2.2.2.1,()),()),(x.2.2.1,x.2.2.2.1,x.2.2.2.2.1,x.2.2.2.2.2.1,x.2.2.2.2.2.2.1,x.2.2.2.2.2.2.2.1,x.2.2.2.2.2.2.2.2.1,x.2.2.2.2.2.2.2.2.2.1,x.2.2.2.2.2.2.2.2.2.2.1,x.2.2.2.2.2.2.2.2.2.2.2.1,()))
def yts:Code:=(zdI yg1 64 8180).getD .skip
theorem yEz:zdI yg1 64 2045=some (.block 0 (.loop yts)):=by kernel_rfl
theorem yE6 (x:(yas).X):zg7 ⟨ymg,71,ywM⟩ 0 yts 8180 yas ycB yfg x=yaB x:=by kernel_rfl
def ysm (x:(ycC).X):Nat:=(fun (u0:Int) (u1:Int) (u2:Int) (u3:Int) (u4:Int) (u5:Int) (u6:Int) (u7:Int) (u8:Int) (u9:Bool) (u10:Bool) (u11:Int) (u12:Int) (u13:Int) (u14:Int) (u15:Int) (u16:Int) (u17:Int) (u18:Int) (u19:Int) (u20:Bool) (u21:Bool) (u22:Int) (u23:Int) (u24:Int) (u25:Int) (u26:Int) (u27:Int) (u28:Int) (u29:Int) (u30:Int) (u31:Bool) (u32:Bool) (u33:Int) (u34:Int) (u35:Int) (u36:Int) (u37:Int) (u38:Int) (u39:Int) (u40:Int) (u41:Int) (u42:Bool) (u43:Bool) (u44:Int) (u45:Int) (u46:Int) (u47:Int) (u48:Int) (u49:Int) (u50:Int) (u51:Int) (u52:Int) (u53:Bool) (u54:Bool) (u55:List dM) (u56:List dW) (u57:List dM) (u58:List dW) (u59:List dM) (u60:List dW) (u61:List dM) (u62:List dW) (u63:List dM) (u64:List dW)=>18446744073709551616) x.2.1.1.1 x.2.1.1.2.1 x.2.1.1.2.2.1 x.2.1.1.2.2.2.2.1 x.2.1.1.2.2.2.2.2.1 x.2.1.1.2.2.2.2.2.2.1 x.2.1.1.2.2.2.2.2.2.2.1 x.2.1.1.2.2.2.2.2.2.2.2.1 x.2.1.1.2.2.2.2.2.2.2.2.2.2.1 x.2.1.1.2.2.2.2.2.2.2.2.2.2.2.1 x.2.1.1.2.2.2.2.2.2.2.2.2.2.2.2.1 x.2.1.2.1.1 x.2.1.2.1.2.1 x.2.1.2.1.2.2.1 x.2.1.2.1.2.2.2.2.1 x.2.1.2.1.2.2.2.2.2.1 x.2.1.2.1.2.2.2.2.2.2.1 x.2.1.2.1.2.2.2.2.2.2.2.1 x.2.1.2.1.2.2.2.2.2.2.2.2.1 x.2.1.2.1.2.2.2.2.2.2.2.2.2.2.1 x.2.1.2.1.2.2.2.2.2.2.2.2.2.2.2.1 x.2.1.2.1.2.2.2.2.2.2.2.2.2.2.2.2.1 x.2.1.2.2.1.1 x.2.1.2.2.1.2.1 x.2.1.2.2.1.2.2.1 x.2.1.2.2.1.2.2.2.2.1 x.2.1.2.2.1.2.2.2.2.2.1 x.2.1.2.2.1.2.2.2.2.2.2.1 x.2.1.2.2.1.2.2.2.2.2.2.2.1 x.2.1.2.2.1.2.2.2.2.2.2.2.2.1 x.2.1.2.2.1.2.2.2.2.2.2.2.2.2.2.1 x.2.1.2.2.1.2.2.2.2.2.2.2.2.2.2.2.1 x.2.1.2.2.1.2.2.2.2.2.2.2.2.2.2.2.2.1 x.2.1.2.2.2.1.1 x.2.1.2.2.2.1.2.1 x.2.1.2.2.2.1.2.2.1 x.2.1.2.2.2.1.2.2.2.2.1 x.2.1.2.2.2.1.2.2.2.2.2.1 x.2.1.2.2.2.1.2.2.2.2.2.2.1 x.2.1.2.2.2.1.2.2.2.2.2.2.2.1 x.2.1.2.2.2.1.2.2.2.2.2.2.2.2.1 x.2.1.2.2.2.1.2.2.2.2.2.2.2.2.2.2.1 x.2.1.2.2.2.1.2.2.2.2.2.2.2.2.2.2.2.1 x.2.1.2.2.2.1.2.2.2.2.2.2.2.2.2.2.2.2.1 x.2.1.2.2.2.2.1.1 x.2.1.2.2.2.2.1.2.1 x.2.1.2.2.2.2.1.2.2.1 x.2.1.2.2.2.2.1.2.2.2.2.1 x.2.1.2.2.2.2.1.2.2.2.2.2.1 x.2.1.2.2.2.2.1.2.2.2.2.2.2.1 x.2.1.2.2.2.2.1.2.2.2.2.2.2.2.1 x.2.1.2.2.2.2.1.2.2.2.2.2.2.2.2.1 x.2.1.2.2.2.2.1.2.2.2.2.2.2.2.2.2.2.1 x.2.1.2.2.2.2.1.2.2.2.2.2.2.2.2.2.2.2.1 x.2.1.2.2.2.2.1.2.2.2.2.2.2.2.2.2.2.2.2.1 x.2.2.1 x.2.2.2.1 x.2.2.2.2.1 x.2.2.2.2.2.1 x.2.2.2.2.2.2.1 x.2.2.2.2.2.2.2.1 x.2.2.2.2.2.2.2.2.1 x.2.2.2.2.2.2.2.2.2.1 x.2.2.2.2.2.2.2.2.2.2.1 x.2.2.2.2.2.2.2.2.2.2.2.1
def ykj (x:(ycC).X):Option ((ycB).X ⊕ (yfg).X):=zr yaB (ysm x) (ysl x)
def ysq:Seg:=⟨ycC,ycB,yfg,ykj⟩
def ywN:Nat→Option Seg:=fun q=>bif Nat.beq q 2045 then some ysq else ywM q
theorem yHM:FrOk Tryz.prog ⟨ymg,71,ywN⟩ yg1:=(yHL).loop (sg:=ysq) yas ysl (by decide) yEz yaB ysm (by decide) (fun _=>rfl) (fun x r _ h=>h) yE6
abbrev yem:List Par:= [.kp tYs .fz]
abbrev ymu:List OT:= [⟨false,tB,.fz⟩]
def yiI (a0:List Int):Option (ResD ymu×MutD yem) :=
  let r1:=yx2 a0
  bif r1 then
    some ((true,()),())
  else
    bnd (ydF a0) fun r2 =>
    bnd (ycQ a0) fun r3 =>
    bnd (ycP a0) fun r4 =>
    bnd (yaO a0) fun r5 =>
    bnd (ya5 a0) fun r6 =>
    zjw (ykj ((((),()),((),()),((),()),((),()),((),()),((),()),((),()),()),((r2.1.1.1,r2.1.1.2.1.1,r2.1.1.2.1.2,(),r2.1.1.2.2.2.1,r2.1.1.2.2.2.2.1,r2.1.1.2.2.2.2.2.1,r2.1.1.2.2.2.2.2.2.1,r2.1.1.2.2.2.2.2.2.2.1,(),r2.1.1.2.2.2.2.2.2.2.2.2.1,r2.1.1.2.2.2.2.2.2.2.2.2.2.1,r2.1.1.2.2.2.2.2.2.2.2.2.2.2,()),(r3.1.1.1,r3.1.1.2.1.1,r3.1.1.2.1.2,(),r3.1.1.2.2.2.1,r3.1.1.2.2.2.2.1,r3.1.1.2.2.2.2.2.1,r3.1.1.2.2.2.2.2.2.1,r3.1.1.2.2.2.2.2.2.2.1,(),r3.1.1.2.2.2.2.2.2.2.2.2.1,r3.1.1.2.2.2.2.2.2.2.2.2.2.1,r3.1.1.2.2.2.2.2.2.2.2.2.2.2,()),(r4.1.1.1,r4.1.1.2.1.1,r4.1.1.2.1.2,(),r4.1.1.2.2.2.1,r4.1.1.2.2.2.2.1,r4.1.1.2.2.2.2.2.1,r4.1.1.2.2.2.2.2.2.1,r4.1.1.2.2.2.2.2.2.2.1,(),r4.1.1.2.2.2.2.2.2.2.2.2.1,r4.1.1.2.2.2.2.2.2.2.2.2.2.1,r4.1.1.2.2.2.2.2.2.2.2.2.2.2,()),(r5.1.1.1,r5.1.1.2.1.1,r5.1.1.2.1.2,(),r5.1.1.2.2.2.1,r5.1.1.2.2.2.2.1,r5.1.1.2.2.2.2.2.1,r5.1.1.2.2.2.2.2.2.1,r5.1.1.2.2.2.2.2.2.2.1,(),r5.1.1.2.2.2.2.2.2.2.2.2.1,r5.1.1.2.2.2.2.2.2.2.2.2.2.1,r5.1.1.2.2.2.2.2.2.2.2.2.2.2,()),(r6.1.1.1,r6.1.1.2.1.1,r6.1.1.2.1.2,(),r6.1.1.2.2.2.1,r6.1.1.2.2.2.2.1,r6.1.1.2.2.2.2.2.1,r6.1.1.2.2.2.2.2.2.1,r6.1.1.2.2.2.2.2.2.2.1,(),r6.1.1.2.2.2.2.2.2.2.2.2.1,r6.1.1.2.2.2.2.2.2.2.2.2.2.1,r6.1.1.2.2.2.2.2.2.2.2.2.2.2,()),()),(r2.1.1.2.2.1,r2.1.1.2.2.2.2.2.2.2.2.1,r3.1.1.2.2.1,r3.1.1.2.2.2.2.2.2.2.2.1,r4.1.1.2.2.1,r4.1.1.2.2.2.2.2.2.2.2.1,r5.1.1.2.2.1,r5.1.1.2.2.2.2.2.2.2.2.1,r6.1.1.2.2.1,r6.1.1.2.2.2.2.2.2.2.2.1,()))) (fun y8 =>
      let r10:=yl1 (y8.2.1.1.1,(y8.2.1.1.2.1,y8.2.1.1.2.2.1),y8.2.2.1,y8.2.1.1.2.2.2.2.1,y8.2.1.1.2.2.2.2.2.1,y8.2.1.1.2.2.2.2.2.2.1,y8.2.1.1.2.2.2.2.2.2.2.1,y8.2.1.1.2.2.2.2.2.2.2.2.1,y8.2.2.2.1,y8.2.1.1.2.2.2.2.2.2.2.2.2.2.1,y8.2.1.1.2.2.2.2.2.2.2.2.2.2.2.1,y8.2.1.1.2.2.2.2.2.2.2.2.2.2.2.2.1)
      bif r10 then
        let r11:=yl0 (y8.2.1.1.1,(y8.2.1.1.2.1,y8.2.1.1.2.2.1),y8.2.2.1,y8.2.1.1.2.2.2.2.1,y8.2.1.1.2.2.2.2.2.1,y8.2.1.1.2.2.2.2.2.2.1,y8.2.1.1.2.2.2.2.2.2.2.1,y8.2.1.1.2.2.2.2.2.2.2.2.1,y8.2.2.2.1,y8.2.1.1.2.2.2.2.2.2.2.2.2.2.1,y8.2.1.1.2.2.2.2.2.2.2.2.2.2.2.1,y8.2.1.1.2.2.2.2.2.2.2.2.2.2.2.2.1)
        bif (r11==y8.1.2.2.2.2.2.1.1) then
          let r12:=yl1 (y8.2.1.2.1.1,(y8.2.1.2.1.2.1,y8.2.1.2.1.2.2.1),y8.2.2.2.2.1,y8.2.1.2.1.2.2.2.2.1,y8.2.1.2.1.2.2.2.2.2.1,y8.2.1.2.1.2.2.2.2.2.2.1,y8.2.1.2.1.2.2.2.2.2.2.2.1,y8.2.1.2.1.2.2.2.2.2.2.2.2.1,y8.2.2.2.2.2.1,y8.2.1.2.1.2.2.2.2.2.2.2.2.2.2.1,y8.2.1.2.1.2.2.2.2.2.2.2.2.2.2.2.1,y8.2.1.2.1.2.2.2.2.2.2.2.2.2.2.2.2.1)
          let r13:=yqc (y8.2.1.2.1.1,(y8.2.1.2.1.2.1,y8.2.1.2.1.2.2.1),y8.2.2.2.2.1,y8.2.1.2.1.2.2.2.2.1,y8.2.1.2.1.2.2.2.2.2.1,y8.2.1.2.1.2.2.2.2.2.2.1,y8.2.1.2.1.2.2.2.2.2.2.2.1,y8.2.1.2.1.2.2.2.2.2.2.2.2.1,y8.2.2.2.2.2.1,y8.2.1.2.1.2.2.2.2.2.2.2.2.2.2.1,y8.2.1.2.1.2.2.2.2.2.2.2.2.2.2.2.1,y8.2.1.2.1.2.2.2.2.2.2.2.2.2.2.2.2.1)
          bif (r12==r13) then
            let r14:=yl0 (y8.2.1.2.2.1.1,(y8.2.1.2.2.1.2.1,y8.2.1.2.2.1.2.2.1),y8.2.2.2.2.2.2.1,y8.2.1.2.2.1.2.2.2.2.1,y8.2.1.2.2.1.2.2.2.2.2.1,y8.2.1.2.2.1.2.2.2.2.2.2.1,y8.2.1.2.2.1.2.2.2.2.2.2.2.1,y8.2.1.2.2.1.2.2.2.2.2.2.2.2.1,y8.2.2.2.2.2.2.2.1,y8.2.1.2.2.1.2.2.2.2.2.2.2.2.2.2.1,y8.2.1.2.2.1.2.2.2.2.2.2.2.2.2.2.2.1,y8.2.1.2.2.1.2.2.2.2.2.2.2.2.2.2.2.2.1)
            let r15:=yqb (y8.2.1.2.2.1.1,(y8.2.1.2.2.1.2.1,y8.2.1.2.2.1.2.2.1),y8.2.2.2.2.2.2.1,y8.2.1.2.2.1.2.2.2.2.1,y8.2.1.2.2.1.2.2.2.2.2.1,y8.2.1.2.2.1.2.2.2.2.2.2.1,y8.2.1.2.2.1.2.2.2.2.2.2.2.1,y8.2.1.2.2.1.2.2.2.2.2.2.2.2.1,y8.2.2.2.2.2.2.2.1,y8.2.1.2.2.1.2.2.2.2.2.2.2.2.2.2.1,y8.2.1.2.2.1.2.2.2.2.2.2.2.2.2.2.2.1,y8.2.1.2.2.1.2.2.2.2.2.2.2.2.2.2.2.2.1)
            bif (r14==r15) then
              let r16:=yh5 (y8.2.1.2.2.2.1.1,(y8.2.1.2.2.2.1.2.1,y8.2.1.2.2.2.1.2.2.1),y8.2.2.2.2.2.2.2.2.1,y8.2.1.2.2.2.1.2.2.2.2.1,y8.2.1.2.2.2.1.2.2.2.2.2.1,y8.2.1.2.2.2.1.2.2.2.2.2.2.1,y8.2.1.2.2.2.1.2.2.2.2.2.2.2.1,y8.2.1.2.2.2.1.2.2.2.2.2.2.2.2.1,y8.2.2.2.2.2.2.2.2.2.1,y8.2.1.2.2.2.1.2.2.2.2.2.2.2.2.2.2.1,y8.2.1.2.2.2.1.2.2.2.2.2.2.2.2.2.2.2.1,y8.2.1.2.2.2.1.2.2.2.2.2.2.2.2.2.2.2.2.1)
              let r17:=yh9 (y8.2.1.2.2.2.1.1,(y8.2.1.2.2.2.1.2.1,y8.2.1.2.2.2.1.2.2.1),y8.2.2.2.2.2.2.2.2.1,y8.2.1.2.2.2.1.2.2.2.2.1,y8.2.1.2.2.2.1.2.2.2.2.2.1,y8.2.1.2.2.2.1.2.2.2.2.2.2.1,y8.2.1.2.2.2.1.2.2.2.2.2.2.2.1,y8.2.1.2.2.2.1.2.2.2.2.2.2.2.2.1,y8.2.2.2.2.2.2.2.2.2.1,y8.2.1.2.2.2.1.2.2.2.2.2.2.2.2.2.2.1,y8.2.1.2.2.2.1.2.2.2.2.2.2.2.2.2.2.2.1,y8.2.1.2.2.2.1.2.2.2.2.2.2.2.2.2.2.2.2.1)
              let r18:=ycG r16 r17
              bif r18 then
                let r19:=yjS (y8.2.1.2.2.2.2.1.1,(y8.2.1.2.2.2.2.1.2.1,y8.2.1.2.2.2.2.1.2.2.1),y8.2.2.2.2.2.2.2.2.2.2.1,y8.2.1.2.2.2.2.1.2.2.2.2.1,y8.2.1.2.2.2.2.1.2.2.2.2.2.1,y8.2.1.2.2.2.2.1.2.2.2.2.2.2.1,y8.2.1.2.2.2.2.1.2.2.2.2.2.2.2.1,y8.2.1.2.2.2.2.1.2.2.2.2.2.2.2.2.1,y8.2.2.2.2.2.2.2.2.2.2.2.1,y8.2.1.2.2.2.2.1.2.2.2.2.2.2.2.2.2.2.1,y8.2.1.2.2.2.2.1.2.2.2.2.2.2.2.2.2.2.2.1,y8.2.1.2.2.2.2.1.2.2.2.2.2.2.2.2.2.2.2.2.1)
                let r20:=yjX (y8.2.1.2.2.2.2.1.1,(y8.2.1.2.2.2.2.1.2.1,y8.2.1.2.2.2.2.1.2.2.1),y8.2.2.2.2.2.2.2.2.2.2.1,y8.2.1.2.2.2.2.1.2.2.2.2.1,y8.2.1.2.2.2.2.1.2.2.2.2.2.1,y8.2.1.2.2.2.2.1.2.2.2.2.2.2.1,y8.2.1.2.2.2.2.1.2.2.2.2.2.2.2.1,y8.2.1.2.2.2.2.1.2.2.2.2.2.2.2.2.1,y8.2.2.2.2.2.2.2.2.2.2.2.1,y8.2.1.2.2.2.2.1.2.2.2.2.2.2.2.2.2.2.1,y8.2.1.2.2.2.2.1.2.2.2.2.2.2.2.2.2.2.2.1,y8.2.1.2.2.2.2.1.2.2.2.2.2.2.2.2.2.2.2.2.1)
                let r21:=ycG r19 r20
                some ((r21,()),())
              else
                some ((false,()),())
            else
              some ((false,()),())
          else
            some ((false,()),())
        else
          some ((false,()),())
      else
        some ((false,()),())) (fun y8 =>
      none)
theorem yO4 (x:InD yem):zjH ⟨ymg,71,ywN⟩ Tryz.f4.results.toList yg1 yem ymu x=yiI x.1:=by kernel_rfl
theorem yKk:ConOk Tryz.prog 4 ⟨yem,ymu,fun x=>yiI x.1⟩:=zkh (yHM) Tryz.func4 (by kernel_rfl) (by kernel_rfl) Tryz.ntmps4.symm (by decide) (fun x r h=>(yO4 x).trans h)
def ytS (a0:List Int):Bool:=true
theorem yM5 (a0:List Int) (hk:zi9 yem (a0,())):yiI a0=(fun n=>some ((n,()),())) (ytS a0):=by
  have hb:a0.length≤140737488355328:=by have:a0.length * 1≤2 ^ 47:=hk.1.1; omega
  obtain ⟨a,V,e,hw,hi⟩:=yYN a0 hb
  obtain ⟨b,e2⟩:=yX7 a0 hb
  obtain ⟨c,e3⟩:=yX6 a0 hb
  obtain ⟨d,e4⟩:=yOW a0 hb
  obtain ⟨f,e5⟩:=ySz a0 hb
  have hg:=yg.1 hi.xc.1
  have l1:ykj (yEi a b c d f)=some (.inl (yEh ((yaS (fun (s:Nat)=>decide (ydO a s=0)) a.2.1.2.toNat:Nat):Int) a b c d f)) :=
    zjs (step:=yaB) (fun i=>yjR ((yaS (fun (s:Nat)=>decide (ydO a s=0)) i:Nat):Int) i a b c d f) a.2.1.2.toNat _ (fun i hi2=>by
      have:=yEL (fun (s:Nat)=>decide (ydO a s=0)) i
      simp only [yaB,yjR,yke,zjI (show (i:Int) < a.2.1.2 by omega),cond_true,wr (show -9223372036854775808≤(i:Int)+1 by omega) (by omega),Int.natCast_add,Int.natCast_one,Int.toNat_natCast,zkV,ylC,y0j hi (show (0:Int)≤(i:Int) by omega) (show (i:Int) < a.2.1.2 by omega),ydP,wr (show -9223372036854775808≤((yaS (fun (s:Nat)=>decide (ydO a s=0)) i:Nat):Int)+1 by omega) (by omega)]
      by_cases h0:ydO a i=0
      · rw [decide_eq_true h0,zkm (show ((ydO a i:Nat):Int)≤0 by omega)]; rfl
      · rw [decide_eq_false h0,zjI (show 0 < ((ydO a i:Nat):Int) by omega)]; rfl) (by simp only [yaB,yjR,yke,zkm (show a.2.1.2≤((a.2.1.2.toNat:Nat):Int) by omega),cond_false]) 18446744073709551616 (by omega)
  unfold yiI ytS
  simp only [e,e2,e3,e4,e5,zky]
  cases yx2 a0
  · simp only [cond_false]
    refine (congrArg (fun z=>zjw z _ _) l1).trans ?_
    simp only [zkJ,zkV,yl1,yqc,yl0,yqb,yh5,yh9,yjS,yjX,y0h hi,y0f hi,beq_self_eq_true,yWL,cond_true]
  · rfl
def yJi:Con:=⟨yem,ymu,fun x=>(fun n=>some ((n,()),())) (ytS x.1)⟩
theorem yNJ:ConOk Tryz.prog 4 yJi:=(yKk).mono (fun x r hk h=>(yM5 x.1 hk).trans h)
end
end
end Go.Tf
