/- Functions of the program, and what they come to. -/
import Derived.Test.YtgmadfpnljibhaaGreatBuiltBentF6
namespace Go.Tf
noncomputable section
open Go.Proofs
set_option synthInstance.maxHeartbeats 400000
set_option synthInstance.maxSize 10000
set_option linter.unusedVariables false
set_option linter.unusedSimpArgs false
set_option maxRecDepth 100000
section
def yDi:Code:=(Tryz.f288.body).getD .skip
def yDP:Env:=zki TT [(134,ygy),(135,yq)] []
theorem yKB:FrOk Tryz.prog ⟨yDP,14,fun _=>none⟩ yDi:=zkp yc yd ⟨ym7,yz,trivial⟩
def yLJ:Nat→Option Seg:=fun _=>none
abbrev yir:List Par:= [.rd tG,.rd tI]
abbrev yn7:List OT:= [⟨false,tB,.fz⟩]
def yrA (a0:dG) (a1:Int):Option (ResD yn7×MutD yir) :=
  let r1:=yf a0
  bif r1 then
    let r2:=ya a1 0 (IntKind.i64.wrap (a0.2 - 1))
    some ((r2,()),())
  else
    some ((false,()),())
theorem ySa (x:InD yir):zjH ⟨yDP,14,yLJ⟩ Tryz.f288.results.toList yDi yir yn7 x=yrA x.1 x.2.1:=by kernel_rfl
theorem yNl:ConOk Tryz.prog 288 ⟨yir,yn7,fun x=>yrA x.1 x.2.1⟩:=zkh (yKB) Tryz.func288 (by kernel_rfl) (by kernel_rfl) Tryz.ntmps288.symm (by decide) (fun x r h=>(ySa x).trans h)
def yfs (a0:dG) (a1:Int):Bool :=
  let r1:=yf a0
  bif r1 then
    let r2:=ya a1 0 (IntKind.i64.wrap (a0.2 - 1))
    r2
  else
    false
def yrl:Con:=⟨yir,yn7,fun x=>(fun n=>some ((n,()),())) (yfs x.1 x.2.1)⟩
theorem yQb (a0:dG) (a1:Int):yrA a0 a1=(fun n=>some ((n,()),())) (yfs a0 a1):=zkS (p:=fun (n:Bool)=>((n,()),())) (zkx (p:=fun (n:Bool)=>((n,()),())) rfl rfl)
theorem yCF:ConOk Tryz.prog 288 yrl:=(yNl).mono (fun x r _ h=>(yQb x.1 x.2.1).trans h)
theorem yNO (g:dG) (s:Int):yfs g s=ycW g s:=by
  unfold yfs ycW
  cases hg:yf g
  · rfl
  have:=yk.1 hg
  rw [ydj,wr (by omega) (by omega)]; rfl
end
section
def yDc:Code:=(Tryz.f272.body).getD .skip
def yDJ:Env:=zki TT [(288,yrl)] []
theorem yKt:FrOk Tryz.prog ⟨yDJ,17,fun _=>none⟩ yDc:=zkp yc yd ⟨yCF,trivial⟩
def yLD:Nat→Option Seg:=fun _=>none
abbrev yfi:List Par:= [.rd tG,.rd tI]
abbrev yn1:List OT:= [⟨false,tI,.fz⟩]
def ykc (a0:dG) (a1:Int):Option (ResD yn1×MutD yfi) :=
  let r1:=yfs a0 a1
  bif (!r1) then
    some (((-1),()),())
  else
    bif (a0.1 !=0) then
      some (((IntKind.i64.wrap ((IntKind.i64.wrap (a0.1 - 1)) - (a1.tmod a0.1))),()),())
    else none
theorem yR3 (x:InD yfi):zjH ⟨yDJ,17,yLD⟩ Tryz.f272.results.toList yDc yfi yn1 x=ykc x.1 x.2.1:=by kernel_rfl
theorem yNe:ConOk Tryz.prog 272 ⟨yfi,yn1,fun x=>ykc x.1 x.2.1⟩:=zkh (yKt) Tryz.func272 (by kernel_rfl) (by kernel_rfl) Tryz.ntmps272.symm (by decide) (fun x r h=>(yR3 x).trans h)
def ydm (a0:dG) (a1:Int):Int:=yu a0 a1
theorem yP4 (a0:dG) (a1:Int) (hk:zi9 yfi (a0,a1,())):ykc a0 a1=(fun n=>some ((n,()),())) (ydm a0 a1):=by
  unfold ykc ydm
  rw [yNO]
  cases hs:ycW a0 a1
  · unfold yu; rw [hs]; rfl
  · have h1:=ye8.1 hs
    have h2:=yk.1 h1.1
    have h3:=yEK hs
    have h4:yu a0 a1=a0.1 - 1 - a1.tmod a0.1:=by unfold yu; rw [hs]; rfl
    rw [show (a0.1 !=0)=true from bne_iff_ne.2 (by omega),wr (show -9223372036854775808≤a0.1 - 1 by omega) (by omega),wr (show -9223372036854775808≤a0.1 - 1 - a1.tmod a0.1 by omega) (by omega),h4]; rfl
def yrh:Con:=⟨yfi,yn1,fun x=>(fun n=>some ((n,()),())) (ydm x.1 x.2.1)⟩
theorem yCB:ConOk Tryz.prog 272 yrh:=(yNe).mono (fun x r hk h=>(yP4 x.1 x.2.1 hk).trans h)
end
section
def yHp:Code:=(Tryz.f267.body).getD .skip
def yHS:Env:=zki TT [(135,yq),(272,yrh),(288,yrl)] []
theorem yOM:FrOk Tryz.prog ⟨yHS,28,fun _=>none⟩ yHp:=zkp yc yd ⟨yz,yCB,yCF,trivial⟩
def yRg:Nat→Option Seg:=fun _=>none
abbrev yhY:List Par:= [.rd tG,.rd tI,.rd tI]
abbrev ysm:List OT:= [⟨false,tI,.fz⟩]
def yoy (a0:dG) (a1:Int) (a2:Int):Option (ResD ysm×MutD yhY) :=
  let r1:=yfs a0 a1
  bif (!(!r1)) then
    let r2:=ya a2 0 (IntKind.i64.wrap (a0.1 - 2))
    bif (!r2) then
      some (((-1),()),())
    else
      let r3:=ydm a0 a1
      bif (a0.1 !=0) then
        some ((((IntKind.i64.wrap ((IntKind.i64.wrap (r3+1))+a2)).tmod a0.1),()),())
      else none
  else
    some (((-1),()),())
theorem yXK (x:InD yhY):zjH ⟨yHS,28,yRg⟩ Tryz.f267.results.toList yHp yhY ysm x=yoy x.1 x.2.1 x.2.2.1:=by kernel_rfl
theorem yTJ:ConOk Tryz.prog 267 ⟨yhY,ysm,fun x=>yoy x.1 x.2.1 x.2.2.1⟩:=zkh (yOM) Tryz.func267 (by kernel_rfl) (by kernel_rfl) Tryz.ntmps267.symm (by decide) (fun x r h=>(yXK x).trans h)
def ym2 (a0:dG) (a1 a2:Int):Int:=ypw a0 a1 a2
theorem yVM (a0:dG) (a1 a2:Int) (hk:zi9 yhY (a0,a1,a2,())):yoy a0 a1 a2=(fun n=>some ((n,()),())) (ym2 a0 a1 a2):=by
  unfold yoy ym2 ypw ydm
  rw [yNO]
  cases hs:ycW a0 a1
  · rfl
  · have h1:=ye8.1 hs
    have h2:=yk.1 h1.1
    have h3:=yEK hs
    rw [ydj,wr (show -9223372036854775808≤a0.1 - 2 by omega) (by omega)]
    cases hi:(leb 0 a2&&leb a2 (a0.1 - 2))
    · rfl
    · rw [Bool.and_eq_true,zjQ,zjQ]at hi
      rw [show (a0.1 !=0)=true from bne_iff_ne.2 (by omega)]
      show some (((IntKind.i64.wrap (IntKind.i64.wrap (yu a0 a1+1)+a2)).tmod a0.1,()),())=some (((yu a0 a1+1+a2).tmod a0.1,()),())
      rw [wr (show -9223372036854775808≤yu a0 a1+1 by omega) (by omega),wr (show -9223372036854775808≤yu a0 a1+1+a2 by omega) (by omega)]
def yEf:Con:=⟨yhY,ysm,fun x=>(fun n=>some ((n,()),())) (ym2 x.1 x.2.1 x.2.2.1)⟩
theorem yWG:ConOk Tryz.prog 267 yEf:=(yTJ).mono (fun x r hk h=>(yVM x.1 x.2.1 x.2.2.1 hk).trans h)
end
section
def ymm:Code:=(Tryz.f216.body).getD .skip
def yr3:Env:=zki TT [(206,ys9),(267,yEf)] []
theorem yO5:FrOk Tryz.prog ⟨yr3,41,fun _=>none⟩ ymm:=zkp yc yd ⟨yEF,yWG,trivial⟩
def yDu:Nat→Option Seg:=fun _=>none
def ycg:Shape:=⟨[(1,false,[.int .i64]),(2,false,[.ptr 0 0]),(6,false,[.at 800000000]),(7,false,[.bool]),(8,false,[.at 800000001]),(9,false,[.int .i64])],[(0,[.int .i64,.int .i64,.int .i64,.br tM,.int .i64,.int .i64,.int .i64,.int .i64,.int .i64,.br tW,.int .i64,.bool,.bool])],[(800000000,tI,.fz),(800000001,tI,.fz)]⟩
def yhi:Shape:=⟨[(1,false,[.int .i64]),(2,false,[.ptr 0 0]),(6,false,[.at 800000000]),(7,false,[.bool]),(8,false,[.at 800000001]),(9,false,[.ci .i64 0])],[(0,[.int .i64,.int .i64,.int .i64,.br tM,.int .i64,.int .i64,.int .i64,.int .i64,.int .i64,.br tW,.int .i64,.bool,.bool])],[(800000000,tI,.fz),(800000001,tI,.fz)]⟩
def yg6:Shape:=⟨[(7,false,[.bool]),(8,false,[.at 800000000])],[],[(800000000,tI,.fz)]⟩
def ylM:Shape:=⟨[],[],[]⟩
abbrev ygb (v0:Int) (v1:Bool) (v2:Int) (v3:dA) (v4:List Int) (v5:List Int):(ycg).X:=(((v0,()),((),()),((),()),(v1,()),((),()),(v2,()),()),((v3.1,v3.2.1.1,v3.2.1.2,v3.2.2.1,v3.2.2.2.1,v3.2.2.2.2.1,v3.2.2.2.2.2.1,v3.2.2.2.2.2.2.1,v3.2.2.2.2.2.2.2.1,v3.2.2.2.2.2.2.2.2.1,v3.2.2.2.2.2.2.2.2.2.1,v3.2.2.2.2.2.2.2.2.2.2.1,v3.2.2.2.2.2.2.2.2.2.2.2,()),()),(v4,v5,()))
abbrev yAj (v0:Int) (v1:Bool) (v2:dA) (v3:List Int) (v4:List Int):(yhi).X:=(((v0,()),((),()),((),()),(v1,()),((),()),((),()),()),((v2.1,v2.2.1.1,v2.2.1.2,v2.2.2.1,v2.2.2.2.1,v2.2.2.2.2.1,v2.2.2.2.2.2.1,v2.2.2.2.2.2.2.1,v2.2.2.2.2.2.2.2.1,v2.2.2.2.2.2.2.2.2.1,v2.2.2.2.2.2.2.2.2.2.1,v2.2.2.2.2.2.2.2.2.2.2.1,v2.2.2.2.2.2.2.2.2.2.2.2,()),()),(v3,v4,()))
abbrev yrv (v0:Bool) (v1:List Int):(yg6).X:=(((v0,()),((),()),()),(),(v1,()))
def yki (v0:Int) (v1:Bool) (v2:Int) (v3:Int) (v4:Int) (v5:Int) (v6:List dM) (v7:Int) (v8:Int) (v9:Int) (v10:Int) (v11:Int) (v12:List dW) (v13:Int) (v14:Bool) (v15:Bool) (v16:List Int) (v17:List Int):Option ((ycg).X ⊕ ((yg6).X ⊕ (ylM).X)) :=
  bif (ltb v2 (IntKind.i64.wrap (v4 - 1))) then
    bif v1 then
      let r3:=ym2 (v4,v5) v0 v2
      bif (inb r3 v16.length) then
        bif (zj4 v17.length ([(nth v16 r3 0)]:List Int).length 8) then
          some (.inl (((v0,()),((),()),((),()),(v1,()),((),()),((IntKind.i64.wrap (v2+1)),()),()),((v3,v4,v5,v6,v7,v8,v9,v10,v11,v12,v13,v14,v15,()),()),(v16,(v17++([(nth v16 r3 0)]:List Int)),())))
        else none
      else none
    else
      some (.inr (.inl (((v1,()),((),()),()),(),(v17,()))))
  else
    some (.inr (.inl (((v1,()),((),()),()),(),(v17,()))))
def yaq (x:(ycg).X):=yki x.1.1.1 x.1.2.2.2.1.1 x.1.2.2.2.2.2.1.1 x.2.1.1.1 x.2.1.1.2.1 x.2.1.1.2.2.1 x.2.1.1.2.2.2.1 x.2.1.1.2.2.2.2.1 x.2.1.1.2.2.2.2.2.1 x.2.1.1.2.2.2.2.2.2.1 x.2.1.1.2.2.2.2.2.2.2.1 x.2.1.1.2.2.2.2.2.2.2.2.1 x.2.1.1.2.2.2.2.2.2.2.2.2.1 x.2.1.1.2.2.2.2.2.2.2.2.2.2.1 x.2.1.1.2.2.2.2.2.2.2.2.2.2.2.1 x.2.1.1.2.2.2.2.2.2.2.2.2.2.2.2.1 x.2.2.1 x.2.2.2.1
def yzZ (x:(yhi).X):(ycg).X:=(((x.1.1.1,()),((),()),((),()),(x.1.2.2.2.1.1,()),((),()),(0,()),()),((x.2.1.1.1,x.2.1.1.2.1,x.2.1.1.2.2.1,x.2.1.1.2.2.2.1,x.2.1.1.2.2.2.2.1,x.2.1.1.2.2.2.2.2.1,x.2.1.1.2.2.2.2.2.2.1,x.2.1.1.2.2.2.2.2.2.2.1,x.2.1.1.2.2.2.2.2.2.2.2.1,x.2.1.1.2.2.2.2.2.2.2.2.2.1,x.2.1.1.2.2.2.2.2.2.2.2.2.2.1,x.2.1.1.2.2.2.2.2.2.2.2.2.2.2.1,x.2.1.1.2.2.2.2.2.2.2.2.2.2.2.2.1,()),()),(x.2.2.1,x.2.2.2.1,()))
def yBC:Code:=(zdI ymm 64 244).getD .skip
theorem yOc:zdI ymm 64 61=some (.block 0 (.loop yBC)):=by kernel_rfl
theorem yQV (x:(ycg).X):zg7 ⟨yr3,41,yDu⟩ 0 yBC 244 ycg yg6 ylM x=yaq x:=by kernel_rfl
def yAb (x:(yhi).X):Nat:=(fun (u0:Int) (u1:Bool) (u2:Int) (u3:Int) (u4:Int) (u5:List dM) (u6:Int) (u7:Int) (u8:Int) (u9:Int) (u10:Int) (u11:List dW) (u12:Int) (u13:Bool) (u14:Bool) (u15:List Int) (u16:List Int)=>18446744073709551616) x.1.1.1 x.1.2.2.2.1.1 x.2.1.1.1 x.2.1.1.2.1 x.2.1.1.2.2.1 x.2.1.1.2.2.2.1 x.2.1.1.2.2.2.2.1 x.2.1.1.2.2.2.2.2.1 x.2.1.1.2.2.2.2.2.2.1 x.2.1.1.2.2.2.2.2.2.2.1 x.2.1.1.2.2.2.2.2.2.2.2.1 x.2.1.1.2.2.2.2.2.2.2.2.2.1 x.2.1.1.2.2.2.2.2.2.2.2.2.2.1 x.2.1.1.2.2.2.2.2.2.2.2.2.2.2.1 x.2.1.1.2.2.2.2.2.2.2.2.2.2.2.2.1 x.2.2.1 x.2.2.2.1
def ylz (x:(yhi).X):Option ((yg6).X ⊕ (ylM).X):=zr yaq (yAb x) (yzZ x)
def yAx:Seg:=⟨yhi,yg6,ylM,ylz⟩
def yDv:Nat→Option Seg:=fun q=>bif Nat.beq q 61 then some yAx else yDu q
theorem yO6:FrOk Tryz.prog ⟨yr3,41,yDv⟩ ymm:=(yO5).loop (sg:=yAx) ycg yzZ (by decide) yOc yaq yAb (by decide) (fun _=>rfl) (fun x r _ h=>h) yQV
abbrev yfy:List Par:= [.rd tA,.rd tI]
abbrev ymO:List OT:= [⟨false,tL,(.ow .fz)⟩,⟨false,tB,.fz⟩]
def yoE (a0:dA) (a1:Int):Option (ResD ymO×MutD yfy) :=
  bnd (ylm a0 a1) fun r1 =>
  zjw (ylz (((a1,()),((),()),((),()),(r1.1.2.1,()),((),()),((),()),()),((a0.1,a0.2.1.1,a0.2.1.2,a0.2.2.1,a0.2.2.2.1,a0.2.2.2.2.1,a0.2.2.2.2.2.1,a0.2.2.2.2.2.2.1,a0.2.2.2.2.2.2.2.1,a0.2.2.2.2.2.2.2.2.1,a0.2.2.2.2.2.2.2.2.2.1,a0.2.2.2.2.2.2.2.2.2.2.1,a0.2.2.2.2.2.2.2.2.2.2.2,()),()),(r1.1.1,([]:List Int),()))) (fun y3 =>
    some ((y3.2.2.1,y3.1.1.1,()),())) (fun y3 =>
    none)
theorem yXX (x:InD yfy):zjH ⟨yr3,41,yDv⟩ Tryz.f216.results.toList ymm yfy ymO x=yoE x.1 x.2.1:=by kernel_rfl
theorem yTW:ConOk Tryz.prog 216 ⟨yfy,ymO,fun x=>yoE x.1 x.2.1⟩:=zkh (yO6) Tryz.func216 (by kernel_rfl) (by kernel_rfl) Tryz.ntmps216.symm (by decide) (fun x r h=>(yXX x).trans h)
def ysG (a0:dA) (a1:Int):List Int×Bool:=yAE a0 a1
def yyZ (a0:dA) (a1:Int):Bool:=ycW a0.2.1 a1
theorem yVV (a0:dA) (a1:Int) (hk:zi9 yfy (a0,a1,())) (hq:yyZ a0 a1=true):yoE a0 a1=(fun n=>some ((n.1,n.2,()),())) (ysG a0 a1):=by
  have hs:ycW a0.2.1 a1=true:=hq
  have hg:=yk.1 (ye8.1 hs).1
  unfold yoE ysG yAE
  rw [yEI a0 a1 (ye8.1 hs).1,ygE]
  simp only [zky]
  cases hw:(yZ a0 a1).2
  · have h1:ylz (yAj a1 false a0 (yZ a0 a1).1 [])=some (.inl (yrv false [])) :=
      zjs (step:=yaq) (fun i=>ygb a1 false i a0 (yZ a0 a1).1 []) 0 _ (fun i hi=>absurd hi (Nat.not_lt_zero _)) (by
        simp only [yaq,ygb,yki,cond_false]
        cases ltb ((0:Nat):Int) (IntKind.i64.wrap (a0.2.1.1 - 1))<;>rfl) _ (by show _ < 18446744073709551616; omega)
    rw [h1]; rfl
  · have hL:=yLs hw
    have h1:ylz (yAj a1 true a0 (yZ a0 a1).1 [])=some (.inl (yrv true ((List.range (a0.2.1.1 - 1).toNat).foldl (fun l (i:Nat)=>l++ [nth (yZ a0 a1).1 (ypw a0.2.1 a1 i) 0]) []))) :=
      zks (step:=yaq) (a0.2.1.1 - 1).toNat (fun i s=>ygb a1 true i a0 (yZ a0 a1).1 s) (fun l (i:Nat)=>l++ [nth (yZ a0 a1).1 (ypw a0.2.1 a1 i) 0]) (fun i s=>s.length=i) (fun s=> .inl (yrv true s)) (fun i s hi hs2=>⟨by
        have hd:=y1S hs (show (0:Int)≤i by omega) (show (i:Int)≤a0.2.1.1 - 2 by omega)
        simp only [yaq,ygb,yki,wr (show -9223372036854775808≤a0.2.1.1 - 1 by omega) (by omega),zjI (show (i:Int) < a0.2.1.1 - 1 by omega),cond_true,wr (show -9223372036854775808≤(i:Int)+1 by omega) (by omega),Int.natCast_add,Int.natCast_one,Int.toNat_natCast,zkV,ym2,zjP.2 (show 0≤ypw a0.2.1 a1 i∧ypw a0.2.1 a1 i < (yZ a0 a1).1.length by omega)]
        rw [zkw.2 (show (s.length+ [nth (yZ a0 a1).1 (ypw a0.2.1 a1 i) 0].length) * 8≤140737488355328 by simp only [List.length_cons,List.length_nil]; omega)]; rfl,by simp [hs2]⟩) (fun s hs2=>by simp only [yaq,ygb,yki,wr (show -9223372036854775808≤a0.2.1.1 - 1 by omega) (by omega),zkm (show a0.2.1.1 - 1≤((a0.2.1.1 - 1).toNat:Int) by omega),cond_false]) [] rfl _ (by show _ < 18446744073709551616; omega)
    rw [h1,yGJ]; rfl
def ysJ (a0:dA) (a1:Int):Option (ResD ymO×MutD yfy):=bif yyZ a0 a1 then (fun n=>some ((n.1,n.2,()),())) (ysG a0 a1) else none
theorem yWV (a0:dA) (a1:Int) (h:yyZ a0 a1=true):ysJ a0 a1=(fun n=>some ((n.1,n.2,()),())) (ysG a0 a1):=by unfold ysJ; rw [h]; rfl
def yEl:Con:=⟨yfy,ymO,fun x=>ysJ x.1 x.2.1⟩
theorem yWM:ConOk Tryz.prog 216 yEl:=(yTW).mono (fun x r hk h=>zkW h (fun hq=>yVV x.1 x.2.1 hk hq))
end
section
def yrM:Code:=(Tryz.f243.body).getD .skip
def yxm:Env:=zki TT [] []
theorem yVt:FrOk Tryz.prog ⟨yxm,22,fun _=>none⟩ yrM:=zkp yc yd trivial
def yHD:Nat→Option Seg:=fun _=>none
def yem:Shape:=⟨[(1,false,[.int .i64]),(2,false,[.ptr 0 0]),(5,false,[.int .i64])],[(0,[.int .i64,.int .i64,.int .i64,.br tM,.int .i64,.int .i64,.int .i64,.int .i64,.int .i64,.br tW,.int .i64,.bool,.bool])],[]⟩
def ykU:Shape:=⟨[(1,false,[.int .i64]),(2,false,[.ptr 0 0]),(5,false,[.ci .i64 0])],[(0,[.int .i64,.int .i64,.int .i64,.br tM,.int .i64,.int .i64,.int .i64,.int .i64,.int .i64,.br tW,.int .i64,.bool,.bool])],[]⟩
def ykS:Shape:=⟨[],[],[]⟩
def yk4:Shape:=⟨[(4,false,[.int .i64])],[],[]⟩
abbrev yvq (v0:Int) (v1:Int) (v2:dA):(yem).X:=(((v0,()),((),()),(v1,()),()),((v2.1,v2.2.1.1,v2.2.1.2,v2.2.2.1,v2.2.2.2.1,v2.2.2.2.2.1,v2.2.2.2.2.2.1,v2.2.2.2.2.2.2.1,v2.2.2.2.2.2.2.2.1,v2.2.2.2.2.2.2.2.2.1,v2.2.2.2.2.2.2.2.2.2.1,v2.2.2.2.2.2.2.2.2.2.2.1,v2.2.2.2.2.2.2.2.2.2.2.2,()),()),())
abbrev yS7 (v0:Int) (v1:dA):(ykU).X:=(((v0,()),((),()),((),()),()),((v1.1,v1.2.1.1,v1.2.1.2,v1.2.2.1,v1.2.2.2.1,v1.2.2.2.2.1,v1.2.2.2.2.2.1,v1.2.2.2.2.2.2.1,v1.2.2.2.2.2.2.2.1,v1.2.2.2.2.2.2.2.2.1,v1.2.2.2.2.2.2.2.2.2.1,v1.2.2.2.2.2.2.2.2.2.2.1,v1.2.2.2.2.2.2.2.2.2.2.2,()),()),())
abbrev yS5  :(ykS).X:=((),(),())
abbrev yEz (v0:Int):(yk4).X:=(((v0,()),()),(),())
def yvY (v0:Int) (v1:Int) (v2:Int) (v3:Int) (v4:Int) (v5:List dM) (v6:Int) (v7:Int) (v8:Int) (v9:Int) (v10:Int) (v11:List dW) (v12:Int) (v13:Bool) (v14:Bool):Option ((yem).X ⊕ ((ykS).X ⊕ (yk4).X)) :=
  bif (ltb v1 (v11.length:Int)) then
    bif (inb v1 v11.length) then
      bif ((nth v11 v1 (0,[])).1==v0) then
        some (.inr (.inr (((v1,()),()),(),())))
      else
        some (.inl (((v0,()),((),()),((IntKind.i64.wrap (v1+1)),()),()),((v2,v3,v4,v5,v6,v7,v8,v9,v10,v11,v12,v13,v14,()),()),()))
    else none
  else
    some (.inr (.inl ((),(),())))
def yev (x:(yem).X):=yvY x.1.1.1 x.1.2.2.1.1 x.2.1.1.1 x.2.1.1.2.1 x.2.1.1.2.2.1 x.2.1.1.2.2.2.1 x.2.1.1.2.2.2.2.1 x.2.1.1.2.2.2.2.2.1 x.2.1.1.2.2.2.2.2.2.1 x.2.1.1.2.2.2.2.2.2.2.1 x.2.1.1.2.2.2.2.2.2.2.2.1 x.2.1.1.2.2.2.2.2.2.2.2.2.1 x.2.1.1.2.2.2.2.2.2.2.2.2.2.1 x.2.1.1.2.2.2.2.2.2.2.2.2.2.2.1 x.2.1.1.2.2.2.2.2.2.2.2.2.2.2.2.1
def yEu (x:(ykU).X):(yem).X:=(((x.1.1.1,()),((),()),(0,()),()),((x.2.1.1.1,x.2.1.1.2.1,x.2.1.1.2.2.1,x.2.1.1.2.2.2.1,x.2.1.1.2.2.2.2.1,x.2.1.1.2.2.2.2.2.1,x.2.1.1.2.2.2.2.2.2.1,x.2.1.1.2.2.2.2.2.2.2.1,x.2.1.1.2.2.2.2.2.2.2.2.1,x.2.1.1.2.2.2.2.2.2.2.2.2.1,x.2.1.1.2.2.2.2.2.2.2.2.2.2.1,x.2.1.1.2.2.2.2.2.2.2.2.2.2.2.1,x.2.1.1.2.2.2.2.2.2.2.2.2.2.2.2.1,()),()),())
def yFW:Code:=(zdI yrM 64 52).getD .skip
theorem yU2:zdI yrM 64 13=some (.block 0 (.loop yFW)):=by kernel_rfl
theorem yWZ (x:(yem).X):zg7 ⟨yxm,22,yHD⟩ 0 yFW 52 yem ykS yk4 x=yev x:=by kernel_rfl
def yEw (x:(ykU).X):Nat:=(fun (u0:Int) (u1:Int) (u2:Int) (u3:Int) (u4:List dM) (u5:Int) (u6:Int) (u7:Int) (u8:Int) (u9:Int) (u10:List dW) (u11:Int) (u12:Bool) (u13:Bool)=>18446744073709551616) x.1.1.1 x.2.1.1.1 x.2.1.1.2.1 x.2.1.1.2.2.1 x.2.1.1.2.2.2.1 x.2.1.1.2.2.2.2.1 x.2.1.1.2.2.2.2.2.1 x.2.1.1.2.2.2.2.2.2.1 x.2.1.1.2.2.2.2.2.2.2.1 x.2.1.1.2.2.2.2.2.2.2.2.1 x.2.1.1.2.2.2.2.2.2.2.2.2.1 x.2.1.1.2.2.2.2.2.2.2.2.2.2.1 x.2.1.1.2.2.2.2.2.2.2.2.2.2.2.1 x.2.1.1.2.2.2.2.2.2.2.2.2.2.2.2.1
def ywM (x:(ykU).X):Option ((ykS).X ⊕ (yk4).X):=zr yev (yEw x) (yEu x)
def yEM:Seg:=⟨ykU,ykS,yk4,ywM⟩
def yHE:Nat→Option Seg:=fun q=>bif Nat.beq q 13 then some yEM else yHD q
theorem yVu:FrOk Tryz.prog ⟨yxm,22,yHE⟩ yrM:=(yVt).loop (sg:=yEM) yem yEu (by decide) yU2 yev yEw (by decide) (fun _=>rfl) (fun x r _ h=>h) yWZ
abbrev yne:List Par:= [.rd tA,.rd tI]
abbrev yxp:List OT:= [⟨false,tI,.fz⟩]
def ysP (a0:dA) (a1:Int):Option (ResD yxp×MutD yne) :=
  zjw (ywM (((a1,()),((),()),((),()),()),((a0.1,a0.2.1.1,a0.2.1.2,a0.2.2.1,a0.2.2.2.1,a0.2.2.2.2.1,a0.2.2.2.2.2.1,a0.2.2.2.2.2.2.1,a0.2.2.2.2.2.2.2.1,a0.2.2.2.2.2.2.2.2.1,a0.2.2.2.2.2.2.2.2.2.1,a0.2.2.2.2.2.2.2.2.2.2.1,a0.2.2.2.2.2.2.2.2.2.2.2,()),()),())) (fun y0 =>
    some (((-1),()),())) (fun y0 =>
    some ((y0.1.1.1,()),()))
theorem yZ3 (x:InD yne):zjH ⟨yxm,22,yHE⟩ Tryz.f243.results.toList yrM yne yxp x=ysP x.1 x.2.1:=by kernel_rfl
theorem yYC:ConOk Tryz.prog 243 ⟨yne,yxp,fun x=>ysP x.1 x.2.1⟩:=zkh (yVu) Tryz.func243 (by kernel_rfl) (by kernel_rfl) Tryz.ntmps243.symm (by decide) (fun x r h=>(yZ3 x).trans h)
def yjE (a0:dA) (a1:Int):Int:=yah a0.2.2.2.2.2.2.2.2.1 a1
theorem yZL (a0:dA) (a1:Int) (hk:zi9 yne (a0,a1,())):ysP a0 a1=(fun n=>some ((n,()),())) (yjE a0 a1):=by
  have hb:a0.2.2.2.2.2.2.2.2.1.length * 32≤2 ^ 47:=hk.1.2.2.2.2.2.2.2.2.1.1
  have h1:ywM (yS7 a1 a0)=some (bif leb 0 (yah a0.2.2.2.2.2.2.2.2.1 a1) then .inr (yEz (yah a0.2.2.2.2.2.2.2.2.1 a1)) else .inl yS5) :=
    yXi (step:=yev) a0.2.2.2.2.2.2.2.2.1 (0,[]) (fun i=>yvq a1 i a0) (fun e:dW=>e.1==a1) (fun i=> .inr (yEz i)) _ (fun i hi=>by
      simp only [yev,yvq,yvY,zjI (show (i:Int) < a0.2.2.2.2.2.2.2.2.1.length by omega),cond_true,wr (show -9223372036854775808≤(i:Int)+1 by omega) (by omega),Int.natCast_add,Int.natCast_one,Int.toNat_natCast,zkO hi,zjW]
      cases ((a0.2.2.2.2.2.2.2.2.1.getD i (0,[])).1==a1)<;>rfl) (by simp only [yev,yvq,yvY,zkm (Int.le_refl _),cond_false]) _ (by show _ < 18446744073709551616; omega)
  unfold ysP yjE
  rw [h1]
  cases h:leb 0 (yah a0.2.2.2.2.2.2.2.2.1 a1)
  · rw [show yah a0.2.2.2.2.2.2.2.2.1 a1= -1 from yVv h]; rfl
  · rfl
def yyQ:Con:=⟨yne,yxp,fun x=>(fun n=>some ((n,()),())) (yjE x.1 x.2.1)⟩
theorem yLe:ConOk Tryz.prog 243 yyQ:=(yYC).mono (fun x r hk h=>(yZL x.1 x.2.1 hk).trans h)
end
section
def yDj:Code:=(Tryz.f176.body).getD .skip
def yDQ:Env:=zki TT [(216,yEl),(243,yyQ)] []
theorem yKC:FrOk Tryz.prog ⟨yDQ,28,fun _=>none⟩ yDj:=zkp yc yd ⟨yWM,yLe,trivial⟩
def yLK:Nat→Option Seg:=fun _=>none
abbrev yc1:List Par:= [.rd tA,.rd tI]
abbrev yi3:List OT:= [⟨false,tL,(.ow .fz)⟩,⟨false,tB,.fz⟩]
def ykh (a0:dA) (a1:Int):Option (ResD yi3×MutD yc1) :=
  let r1:=yjE a0 a1
  bif (leb 0 r1) then
    bif (inb r1 a0.2.2.2.2.2.2.2.2.1.length) then
      bif (zj4 ([]:List Int).length ((nth a0.2.2.2.2.2.2.2.2.1 r1 (0,[])).2).length 8) then
        some (((([]:List Int)++((nth a0.2.2.2.2.2.2.2.2.1 r1 (0,[])).2)),true,()),())
      else none
    else none
  else
    bif a0.2.2.2.2.2.2.2.2.2.2.2 then
      some ((([]:List Int),false,()),())
    else
      bnd (ysJ a0 a1) fun r2 =>
      some ((r2.1.1,r2.1.2.1,()),())
theorem ySb (x:InD yc1):zjH ⟨yDQ,28,yLK⟩ Tryz.f176.results.toList yDj yc1 yi3 x=ykh x.1 x.2.1:=by kernel_rfl
theorem yNm:ConOk Tryz.prog 176 ⟨yc1,yi3,fun x=>ykh x.1 x.2.1⟩:=zkh (yKC) Tryz.func176 (by kernel_rfl) (by kernel_rfl) Tryz.ntmps176.symm (by decide) (fun x r h=>(ySb x).trans h)
def yju (a0:dA) (a1:Int):List Int×Bool:=ycK a0 a1
def yvB (a0:dA) (a1:Int):Bool:=ycW a0.2.1 a1
theorem yQc (a0:dA) (a1:Int) (hk:zi9 yc1 (a0,a1,())) (hq:yvB a0 a1=true):ykh a0 a1=(fun n=>some ((n.1,n.2,()),())) (yju a0 a1):=by
  unfold ykh yju ycK yjE
  rw [yWV a0 a1 hq]
  simp only [List.nil_append]
  cases h:leb 0 (yah a0.2.2.2.2.2.2.2.2.1 a1)
  · cases a0.2.2.2.2.2.2.2.2.2.2.2<;>rfl
  · have h1:=(ywX (d:=((0,[]):dW)) h).1
    have h2:(nth a0.2.2.2.2.2.2.2.2.1 (yah a0.2.2.2.2.2.2.2.2.1 a1) (0,[])).2.length * 8≤2 ^ 47:=yw2 (P:=fun x:dW=>x.2.length * 8≤2 ^ 47) h1 (fun x hx=>(hk.1.2.2.2.2.2.2.2.2.1.2 x hx).2.1)
    rw [show inb (yah a0.2.2.2.2.2.2.2.2.1 a1) a0.2.2.2.2.2.2.2.2.1.length=true from h1,zkw.2 (show (([]:List Int).length+(nth a0.2.2.2.2.2.2.2.2.1 (yah a0.2.2.2.2.2.2.2.2.1 a1) (0,[])).2.length) * 8≤140737488355328 by rw [List.length_nil]; omega)]; rfl
def yoq (a0:dA) (a1:Int):Option (ResD yi3×MutD yc1):=bif yvB a0 a1 then (fun n=>some ((n.1,n.2,()),())) (yju a0 a1) else none
theorem yQL (a0:dA) (a1:Int) (h:yvB a0 a1=true):yoq a0 a1=(fun n=>some ((n.1,n.2,()),())) (yju a0 a1):=by unfold yoq; rw [h]; rfl
def yzQ:Con:=⟨yc1,yi3,fun x=>yoq x.1 x.2.1⟩
theorem yQK:ConOk Tryz.prog 176 yzQ:=(yNm).mono (fun x r hk h=>zkW h (fun hq=>yQc x.1 x.2.1 hk hq))
end
end
end Go.Tf
