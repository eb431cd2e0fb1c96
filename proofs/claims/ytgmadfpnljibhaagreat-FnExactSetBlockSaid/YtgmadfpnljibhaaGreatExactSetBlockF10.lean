/- Functions of the program, and what they come to. -/
import Derived.Test.YtgmadfpnljibhaaGreatExactSetBlockF9
namespace Go.Tf
noncomputable section
open Go.Proofs
set_option synthInstance.maxHeartbeats 400000
set_option synthInstance.maxSize 10000
set_option linter.unusedVariables false
set_option linter.unusedSimpArgs false
set_option maxRecDepth 100000
section
def yyc:Code:=(Tryz.f288.body).getD .skip
def yyM:Env:=zki TT [(134,yif),(135,yl)] []
theorem yDT:FrOk Tryz.prog ⟨yyM,14,fun _=>none⟩ yyc:=zkp yb yc ⟨ypg,yv,trivial⟩
def yEI:Nat→Option Seg:=fun _=>none
abbrev yfK:List Par:= [.rd tG,.rd tI]
abbrev ykS:List OT:= [⟨false,tB,.fz⟩]
def ynY (a0:dG) (a1:Int):Option (ResD ykS×MutD yfK) :=
 let r1:=yd a0
 bif r1 then
 let r2:=ya a1 0 (IntKind.i64.wrap (a0.2 - 1))
 some ((r2,()),())
 else
 some ((false,()),())
theorem yKx (x:InD yfK):zjH ⟨yyM,14,yEI⟩ Tryz.f288.results.toList yyc yfK ykS x=ynY x.1 x.2.1:=by kernel_rfl
theorem yGa:ConOk Tryz.prog 288 ⟨yfK,ykS,fun x=>ynY x.1 x.2.1⟩:=zkh (yDT) Tryz.func288 (by kernel_rfl) (by kernel_rfl) Tryz.ntmps288.symm (by decide) (fun x r h=>(yKx x).trans h)
def ydw (a0:dG) (a1:Int):Bool :=
 let r1:=yd a0
 bif r1 then
 let r2:=ya a1 0 (IntKind.i64.wrap (a0.2 - 1))
 r2
 else
 false
def ynM:Con:=⟨yfK,ykS,fun x=>(fun n=>some ((n,()),())) (ydw x.1 x.2.1)⟩
theorem yII (a0:dG) (a1:Int):ynY a0 a1=(fun n=>some ((n,()),())) (ydw a0 a1):=zkS (p:=fun (n:Bool)=>((n,()),())) (zkx (p:=fun (n:Bool)=>((n,()),())) rfl rfl)
theorem yxF:ConOk Tryz.prog 288 ynM:=(yGa).mono (fun x r _ h=>(yII x.1 x.2.1).trans h)
theorem yGJ (g:dG) (s:Int):ydw g s=yaO g s:=by
 unfold ydw yaO
 cases hg:yd g
 ·rfl
 have:=yo.1 hg
 rw [ydr,wr (by omega) (by omega)]; rfl
end
section
def yx8:Code:=(Tryz.f272.body).getD .skip
def yyI:Env:=zki TT [(288,ynM)] []
theorem yDP:FrOk Tryz.prog ⟨yyI,17,fun _=>none⟩ yx8:=zkp yb yc ⟨yxF,trivial⟩
def yEE:Nat→Option Seg:=fun _=>none
abbrev ydj:List Par:= [.rd tG,.rd tI]
abbrev ykO:List OT:= [⟨false,tI,.fz⟩]
def yhz (a0:dG) (a1:Int):Option (ResD ykO×MutD ydj) :=
 let r1:=ydw a0 a1
 bif (!r1) then
 some (((-1),()),())
 else
 bif (a0.1 !=0) then
 some (((IntKind.i64.wrap ((IntKind.i64.wrap (a0.1 - 1)) - (a1.tmod a0.1))),()),())
 else none
theorem yKt (x:InD ydj):zjH ⟨yyI,17,yEE⟩ Tryz.f272.results.toList yx8 ydj ykO x=yhz x.1 x.2.1:=by kernel_rfl
theorem yF6:ConOk Tryz.prog 272 ⟨ydj,ykO,fun x=>yhz x.1 x.2.1⟩:=zkh (yDP) Tryz.func272 (by kernel_rfl) (by kernel_rfl) Tryz.ntmps272.symm (by decide) (fun x r h=>(yKt x).trans h)
def ygE (a0:dG) (a1:Int):Int:=yA a0 a1
theorem yIE (a0:dG) (a1:Int) (hk:zi9 ydj (a0,a1,())):yhz a0 a1=(fun n=>some ((n,()),())) (ygE a0 a1):=by
 unfold yhz ygE
 rw [yGJ]
 cases hs:yaO a0 a1
 ·unfold yA; rw [hs]; rfl
 ·have h1:=ygK.1 hs
  have h2:=yo.1 h1.1
  have h3:=ytL hs
  have h4:yA a0 a1=a0.1 - 1 - a1.tmod a0.1:=by unfold yA; rw [hs]; rfl
  rw [show (a0.1 !=0)=true from bne_iff_ne.2 (by omega),wr (show -9223372036854775808≤a0.1 - 1 by omega) (by omega),wr (show -9223372036854775808≤a0.1 - 1 - a1.tmod a0.1 by omega) (by omega),h4]; rfl
def yuV:Con:=⟨ydj,ykO,fun x=>(fun n=>some ((n,()),())) (ygE x.1 x.2.1)⟩
theorem yJe:ConOk Tryz.prog 272 yuV:=(yF6).mono (fun x r hk h=>(yIE x.1 x.2.1 hk).trans h)
end
section
def yBF:Code:=(Tryz.f267.body).getD .skip
def yB2:Env:=zki TT [(135,yl),(272,yuV),(288,ynM)] []
theorem yHJ:FrOk Tryz.prog ⟨yB2,28,fun _=>none⟩ yBF:=zkp yb yc ⟨yv,yJe,yxF,trivial⟩
def yJP:Nat→Option Seg:=fun _=>none
abbrev yfp:List Par:= [.rd tG,.rd tI,.rd tI]
abbrev yoZ:List OT:= [⟨false,tI,.fz⟩]
def ylg (a0:dG) (a1 a2:Int):Option (ResD yoZ×MutD yfp) :=
 let r1:=ydw a0 a1
 bif (!(!r1)) then
 let r2:=ya a2 0 (IntKind.i64.wrap (a0.1 - 2))
 bif (!r2) then
 some (((-1),()),())
 else
 let r3:=ygE a0 a1
 bif (a0.1 !=0) then
 some ((((IntKind.i64.wrap ((IntKind.i64.wrap (r3+1))+a2)).tmod a0.1),()),())
 else none
 else
 some (((-1),()),())
theorem yP6 (x:InD yfp):zjH ⟨yB2,28,yJP⟩ Tryz.f267.results.toList yBF yfp yoZ x=ylg x.1 x.2.1 x.2.2.1:=by kernel_rfl
theorem yL7:ConOk Tryz.prog 267 ⟨yfp,yoZ,fun x=>ylg x.1 x.2.1 x.2.2.1⟩:=zkh (yHJ) Tryz.func267 (by kernel_rfl) (by kernel_rfl) Tryz.ntmps267.symm (by decide) (fun x r h=>(yP6 x).trans h)
def yj5 (a0:dG) (a1 a2:Int):Int:=ycu a0 a1 a2
theorem yOh (a0:dG) (a1 a2:Int) (hk:zi9 yfp (a0,a1,a2,())):ylg a0 a1 a2=(fun n=>some ((n,()),())) (yj5 a0 a1 a2):=by
 unfold ylg yj5 ycu ygE
 rw [yGJ]
 cases hs:yaO a0 a1
 ·rfl
 ·have h1:=ygK.1 hs
  have h2:=yo.1 h1.1
  have h3:=ytL hs
  rw [ydr,wr (show -9223372036854775808≤a0.1 - 2 by omega) (by omega)]
  cases hi:(leb 0 a2&&leb a2 (a0.1 - 2))
  ·rfl
  ·rw [Bool.and_eq_true,zjQ,zjQ]at hi
   rw [show (a0.1 !=0)=true from bne_iff_ne.2 (by omega)]
   show some (((IntKind.i64.wrap (IntKind.i64.wrap (yA a0 a1+1)+a2)).tmod a0.1,()),())=some (((yA a0 a1+1+a2).tmod a0.1,()),())
   rw [wr (show -9223372036854775808≤yA a0 a1+1 by omega) (by omega),wr (show -9223372036854775808≤yA a0 a1+1+a2 by omega) (by omega)]
def yzi:Con:=⟨yfp,yoZ,fun x=>(fun n=>some ((n,()),())) (yj5 x.1 x.2.1 x.2.2.1)⟩
theorem yPc:ConOk Tryz.prog 267 yzi:=(yL7).mono (fun x r hk h=>(yOh x.1 x.2.1 x.2.2.1 hk).trans h)
end
section
def yjA:Code:=(Tryz.f216.body).getD .skip
def yoC:Env:=zki TT [(206,yw5),(267,yzi)] []
theorem yHT:FrOk Tryz.prog ⟨yoC,41,fun _=>none⟩ yjA:=zkp yb yc ⟨yMD,yPc,trivial⟩
def yyA:Nat→Option Seg:=fun _=>none
def ybh:Shape:=⟨[(1,false,[.int .i64]),(2,false,[.ptr 0 0]),(6,false,[.at 800000000]),(7,false,[.bool]),(8,false,[.at 800000001]),(9,false,[.int .i64])],[(0,[.int .i64,.int .i64,.int .i64,.br tM,.int .i64,.int .i64,.int .i64,.int .i64,.int .i64,.br tW,.int .i64,.bool,.bool])],[(800000000,tI,.fz),(800000001,tI,.fz)]⟩
def yeP:Shape:=⟨[(1,false,[.int .i64]),(2,false,[.ptr 0 0]),(6,false,[.at 800000000]),(7,false,[.bool]),(8,false,[.at 800000001]),(9,false,[.ci .i64 0])],[(0,[.int .i64,.int .i64,.int .i64,.br tM,.int .i64,.int .i64,.int .i64,.int .i64,.int .i64,.br tW,.int .i64,.bool,.bool])],[(800000000,tI,.fz),(800000001,tI,.fz)]⟩
def yeI:Shape:=⟨[(7,false,[.bool]),(8,false,[.at 800000000])],[],[(800000000,tI,.fz)]⟩
def yi4:Shape:=⟨[],[],[]⟩
abbrev yd5 (v0:Int) (v1:Bool) (v2:Int) (v3:dA) (v4 v5:List Int):(ybh).X:=(((v0,()),((),()),((),()),(v1,()),((),()),(v2,()),()),((v3.1,v3.2.1.1,v3.2.1.2,v3.2.2.1,v3.2.2.2.1,v3.2.2.2.2.1,v3.2.2.2.2.2.1,v3.2.2.2.2.2.2.1,v3.2.2.2.2.2.2.2.1,v3.2.2.2.2.2.2.2.2.1,v3.2.2.2.2.2.2.2.2.2.1,v3.2.2.2.2.2.2.2.2.2.2.1,v3.2.2.2.2.2.2.2.2.2.2.2,()),()),(v4,v5,()))
abbrev yvv (v0:Int) (v1:Bool) (v2:dA) (v3 v4:List Int):(yeP).X:=(((v0,()),((),()),((),()),(v1,()),((),()),((),()),()),((v2.1,v2.2.1.1,v2.2.1.2,v2.2.2.1,v2.2.2.2.1,v2.2.2.2.2.1,v2.2.2.2.2.2.1,v2.2.2.2.2.2.2.1,v2.2.2.2.2.2.2.2.1,v2.2.2.2.2.2.2.2.2.1,v2.2.2.2.2.2.2.2.2.2.1,v2.2.2.2.2.2.2.2.2.2.2.1,v2.2.2.2.2.2.2.2.2.2.2.2,()),()),(v3,v4,()))
abbrev ynU (v0:Bool) (v1:List Int):(yeI).X:=(((v0,()),((),()),()),(),(v1,()))
def yhD (v0:Int) (v1:Bool) (v2 v3 v4 v5:Int) (v6:List dM) (v7 v8 v9 v10 v11:Int) (v12:List dW) (v13:Int) (v14 v15:Bool) (v16 v17:List Int):Option ((ybh).X ⊕ ((yeI).X ⊕ (yi4).X)) :=
 bif (ltb v2 (IntKind.i64.wrap (v4 - 1))) then
 bif v1 then
 let r3:=yj5 (v4,v5) v0 v2
 bif (inb r3 v16.length) then
 bif (zj4 v17.length ([(nth v16 r3 0)]:List Int).length 8) then
 some (.inl (((v0,()),((),()),((),()),(v1,()),((),()),((IntKind.i64.wrap (v2+1)),()),()),((v3,v4,v5,v6,v7,v8,v9,v10,v11,v12,v13,v14,v15,()),()),(v16,(v17++([(nth v16 r3 0)]:List Int)),())))
 else none
 else none
 else
 some (.inr (.inl (((v1,()),((),()),()),(),(v17,()))))
 else
 some (.inr (.inl (((v1,()),((),()),()),(),(v17,()))))
def yT (x:(ybh).X):=yhD x.1.1.1 x.1.2.2.2.1.1 x.1.2.2.2.2.2.1.1 x.2.1.1.1 x.2.1.1.2.1 x.2.1.1.2.2.1 x.2.1.1.2.2.2.1 x.2.1.1.2.2.2.2.1 x.2.1.1.2.2.2.2.2.1 x.2.1.1.2.2.2.2.2.2.1 x.2.1.1.2.2.2.2.2.2.2.1 x.2.1.1.2.2.2.2.2.2.2.2.1 x.2.1.1.2.2.2.2.2.2.2.2.2.1 x.2.1.1.2.2.2.2.2.2.2.2.2.2.1 x.2.1.1.2.2.2.2.2.2.2.2.2.2.2.1 x.2.1.1.2.2.2.2.2.2.2.2.2.2.2.2.1 x.2.2.1 x.2.2.2.1
def yvc (x:(yeP).X):(ybh).X:=(((x.1.1.1,()),((),()),((),()),(x.1.2.2.2.1.1,()),((),()),(0,()),()),((x.2.1.1.1,x.2.1.1.2.1,x.2.1.1.2.2.1,x.2.1.1.2.2.2.1,x.2.1.1.2.2.2.2.1,x.2.1.1.2.2.2.2.2.1,x.2.1.1.2.2.2.2.2.2.1,x.2.1.1.2.2.2.2.2.2.2.1,x.2.1.1.2.2.2.2.2.2.2.2.1,x.2.1.1.2.2.2.2.2.2.2.2.2.1,x.2.1.1.2.2.2.2.2.2.2.2.2.2.1,x.2.1.1.2.2.2.2.2.2.2.2.2.2.2.1,x.2.1.1.2.2.2.2.2.2.2.2.2.2.2.2.1,()),()),(x.2.2.1,x.2.2.2.1,()))
def ywJ:Code:=(zdI yjA 64 244).getD .skip
theorem yG6:zdI yjA 64 61=some (.block 0 (.loop ywJ)):=by kernel_rfl
theorem yJx (x:(ybh).X):zg7 ⟨yoC,41,yyA⟩ 0 ywJ 244 ybh yeI yi4 x=yT x:=by kernel_rfl
def yvr (x:(yeP).X):Nat:=18446744073709551616
def yiy (x:(yeP).X):Option ((yeI).X ⊕ (yi4).X):=zr yT (yvr x) (yvc x)
def yvJ:Seg:=⟨yeP,yeI,yi4,yiy⟩
def yyB:Nat→Option Seg:=fun q=>bif Nat.beq q 61 then some yvJ else yyA q
theorem yHU:FrOk Tryz.prog ⟨yoC,41,yyB⟩ yjA:=(yHT).loop (sg:=yvJ) ybh yvc (by decide) yG6 yT yvr (by decide) (fun _=>rfl) (fun x r _ h=>h) yJx
abbrev ydz:List Par:= [.rd tA,.rd tI]
abbrev yjS:List OT:= [⟨false,tL,(.ow .fz)⟩,⟨false,tB,.fz⟩]
def ylk (a0:dA) (a1:Int):Option (ResD yjS×MutD ydz) :=
 bnd (yne a0 a1) fun r1 =>
 zjw (yiy (((a1,()),((),()),((),()),(r1.1.2.1,()),((),()),((),()),()),((a0.1,a0.2.1.1,a0.2.1.2,a0.2.2.1,a0.2.2.2.1,a0.2.2.2.2.1,a0.2.2.2.2.2.1,a0.2.2.2.2.2.2.1,a0.2.2.2.2.2.2.2.1,a0.2.2.2.2.2.2.2.2.1,a0.2.2.2.2.2.2.2.2.2.1,a0.2.2.2.2.2.2.2.2.2.2.1,a0.2.2.2.2.2.2.2.2.2.2.2,()),()),(r1.1.1,([]:List Int),()))) (fun y3 =>
 some ((y3.2.2.1,y3.1.1.1,()),())) (fun y3 =>
 none)
theorem yQc (x:InD ydz):zjH ⟨yoC,41,yyB⟩ Tryz.f216.results.toList yjA ydz yjS x=ylk x.1 x.2.1:=by kernel_rfl
theorem yMd:ConOk Tryz.prog 216 ⟨ydz,yjS,fun x=>ylk x.1 x.2.1⟩:=zkh (yHU) Tryz.func216 (by kernel_rfl) (by kernel_rfl) Tryz.ntmps216.symm (by decide) (fun x r h=>(yQc x).trans h)
def ypb (a0:dA) (a1:Int):List Int×Bool:=yzr a0 a1
def yt8 (a0:dA) (a1:Int):Bool:=yaO a0.2.1 a1
theorem yOn (a0:dA) (a1:Int) (hk:zi9 ydz (a0,a1,())) (hq:yt8 a0 a1=true):ylk a0 a1=(fun n=>some ((n.1,n.2,()),())) (ypb a0 a1):=by
 have hs:yaO a0.2.1 a1=true:=hq
 have hg:=yo.1 (ygK.1 hs).1
 unfold ylk ypb yzr
 rw [yMG a0 a1 (ygK.1 hs).1,yiu]
 simp only [zky]
 cases hw:(yaA a0 a1).2
 ·have h1:yiy (yvv a1 false a0 (yaA a0 a1).1 [])=some (.inl (ynU false [])) :=
   zjs (step:=yT) (fun i=>yd5 a1 false i a0 (yaA a0 a1).1 []) 0 _ (fun i hi=>absurd hi (Nat.not_lt_zero _)) (by
    simp only [yT,yd5,yhD,cond_false]
    cases ltb ((0:Nat):Int) (IntKind.i64.wrap (a0.2.1.1 - 1))<;>rfl) _ (by show _ < 18446744073709551616; omega)
  rw [h1]; rfl
 ·have hL:=yPF hw
  have h1:yiy (yvv a1 true a0 (yaA a0 a1).1 [])=some (.inl (ynU true ((List.range (a0.2.1.1 - 1).toNat).foldl (fun l (i:Nat)=>l++ [nth (yaA a0 a1).1 (ycu a0.2.1 a1 i) 0]) []))) :=
   zks (step:=yT) (a0.2.1.1 - 1).toNat (fun i s=>yd5 a1 true i a0 (yaA a0 a1).1 s) (fun l (i:Nat)=>l++ [nth (yaA a0 a1).1 (ycu a0.2.1 a1 i) 0]) (fun i s=>s.length=i) (fun s=> .inl (ynU true s)) (fun i s hi hs2=>⟨by
    have hd:=ySn hs (show (0:Int)≤i by omega) (show (i:Int)≤a0.2.1.1 - 2 by omega)
    simp only [yT,yd5,yhD,wr (show -9223372036854775808≤a0.2.1.1 - 1 by omega) (by omega),zjI (show (i:Int) < a0.2.1.1 - 1 by omega),cond_true,wr (show -9223372036854775808≤(i:Int)+1 by omega) (by omega),Int.natCast_add,Int.natCast_one,Int.toNat_natCast,zkV,yj5,zjP.2 (show 0≤ycu a0.2.1 a1 i∧ycu a0.2.1 a1 i < (yaA a0 a1).1.length by omega)]
    rw [zkw.2 (show (s.length+ [nth (yaA a0 a1).1 (ycu a0.2.1 a1 i) 0].length) * 8≤140737488355328 by simp only [List.length_cons,List.length_nil]; omega)]; rfl,by simp [hs2]⟩) (fun s hs2=>by simp only [yT,yd5,yhD,wr (show -9223372036854775808≤a0.2.1.1 - 1 by omega) (by omega),zkm (show a0.2.1.1 - 1≤((a0.2.1.1 - 1).toNat:Int) by omega),cond_false]) [] rfl _ (by show _ < 18446744073709551616; omega)
  rw [h1,yvM]; rfl
def ype (a0:dA) (a1:Int):Option (ResD yjS×MutD ydz):=bif yt8 a0 a1 then (fun n=>some ((n.1,n.2,()),())) (ypb a0 a1) else none
theorem yPm (a0:dA) (a1:Int) (h:yt8 a0 a1=true):ype a0 a1=(fun n=>some ((n.1,n.2,()),())) (ypb a0 a1):=by unfold ype; rw [h]; rfl
def yzm:Con:=⟨ydz,yjS,fun x=>ype x.1 x.2.1⟩
theorem yPg:ConOk Tryz.prog 216 yzm:=(yMd).mono (fun x r hk h=>zkW h (fun hq=>yOn x.1 x.2.1 hk hq))
end
section
def yoe:Code:=(Tryz.f243.body).getD .skip
def ysG:Env:=zki TT [] []
theorem yNO:FrOk Tryz.prog ⟨ysG,22,fun _=>none⟩ yoe:=zkp yb yc trivial
def yBN:Nat→Option Seg:=fun _=>none
def ycI:Shape:=⟨[(1,false,[.int .i64]),(2,false,[.ptr 0 0]),(5,false,[.int .i64])],[(0,[.int .i64,.int .i64,.int .i64,.br tM,.int .i64,.int .i64,.int .i64,.int .i64,.int .i64,.br tW,.int .i64,.bool,.bool])],[]⟩
def yia:Shape:=⟨[(1,false,[.int .i64]),(2,false,[.ptr 0 0]),(5,false,[.ci .i64 0])],[(0,[.int .i64,.int .i64,.int .i64,.br tM,.int .i64,.int .i64,.int .i64,.int .i64,.int .i64,.br tW,.int .i64,.bool,.bool])],[]⟩
def yh9:Shape:=⟨[],[],[]⟩
def yie:Shape:=⟨[(4,false,[.int .i64])],[],[]⟩
abbrev yrj (v0 v1:Int) (v2:dA):(ycI).X:=(((v0,()),((),()),(v1,()),()),((v2.1,v2.2.1.1,v2.2.1.2,v2.2.2.1,v2.2.2.2.1,v2.2.2.2.2.1,v2.2.2.2.2.2.1,v2.2.2.2.2.2.2.1,v2.2.2.2.2.2.2.2.1,v2.2.2.2.2.2.2.2.2.1,v2.2.2.2.2.2.2.2.2.2.1,v2.2.2.2.2.2.2.2.2.2.2.1,v2.2.2.2.2.2.2.2.2.2.2.2,()),()),())
abbrev yLm (v0:Int) (v1:dA):(yia).X:=(((v0,()),((),()),((),()),()),((v1.1,v1.2.1.1,v1.2.1.2,v1.2.2.1,v1.2.2.2.1,v1.2.2.2.2.1,v1.2.2.2.2.2.1,v1.2.2.2.2.2.2.1,v1.2.2.2.2.2.2.2.1,v1.2.2.2.2.2.2.2.2.1,v1.2.2.2.2.2.2.2.2.2.1,v1.2.2.2.2.2.2.2.2.2.2.1,v1.2.2.2.2.2.2.2.2.2.2.2,()),()),())
abbrev yLl  :(yh9).X:=((),(),())
abbrev yzx (v0:Int):(yie).X:=(((v0,()),()),(),())
def yrJ (v0 v1 v2 v3 v4:Int) (v5:List dM) (v6 v7 v8 v9 v10:Int) (v11:List dW) (v12:Int) (v13 v14:Bool):Option ((ycI).X ⊕ ((yh9).X ⊕ (yie).X)) :=
 bif (ltb v1 (v11.length:Int)) then
 bif (inb v1 v11.length) then
 bif ((nth v11 v1 (0,[])).1==v0) then
 some (.inr (.inr (((v1,()),()),(),())))
 else
 some (.inl (((v0,()),((),()),((IntKind.i64.wrap (v1+1)),()),()),((v2,v3,v4,v5,v6,v7,v8,v9,v10,v11,v12,v13,v14,()),()),()))
 else none
 else
 some (.inr (.inl ((),(),())))
def ycL (x:(ycI).X):=yrJ x.1.1.1 x.1.2.2.1.1 x.2.1.1.1 x.2.1.1.2.1 x.2.1.1.2.2.1 x.2.1.1.2.2.2.1 x.2.1.1.2.2.2.2.1 x.2.1.1.2.2.2.2.2.1 x.2.1.1.2.2.2.2.2.2.1 x.2.1.1.2.2.2.2.2.2.2.1 x.2.1.1.2.2.2.2.2.2.2.2.1 x.2.1.1.2.2.2.2.2.2.2.2.2.1 x.2.1.1.2.2.2.2.2.2.2.2.2.2.1 x.2.1.1.2.2.2.2.2.2.2.2.2.2.2.1 x.2.1.1.2.2.2.2.2.2.2.2.2.2.2.2.1
def yzt (x:(yia).X):(ycI).X:=(((x.1.1.1,()),((),()),(0,()),()),((x.2.1.1.1,x.2.1.1.2.1,x.2.1.1.2.2.1,x.2.1.1.2.2.2.1,x.2.1.1.2.2.2.2.1,x.2.1.1.2.2.2.2.2.1,x.2.1.1.2.2.2.2.2.2.1,x.2.1.1.2.2.2.2.2.2.2.1,x.2.1.1.2.2.2.2.2.2.2.2.1,x.2.1.1.2.2.2.2.2.2.2.2.2.1,x.2.1.1.2.2.2.2.2.2.2.2.2.2.1,x.2.1.1.2.2.2.2.2.2.2.2.2.2.2.1,x.2.1.1.2.2.2.2.2.2.2.2.2.2.2.2.1,()),()),())
def yAr:Code:=(zdI yoe 64 52).getD .skip
theorem yNi:zdI yoe 64 13=some (.block 0 (.loop yAr)):=by kernel_rfl
theorem yPp (x:(ycI).X):zg7 ⟨ysG,22,yBN⟩ 0 yAr 52 ycI yh9 yie x=ycL x:=by kernel_rfl
def yzw (x:(yia).X):Nat:=18446744073709551616
def ysb (x:(yia).X):Option ((yh9).X ⊕ (yie).X):=zr ycL (yzw x) (yzt x)
def yzA:Seg:=⟨yia,yh9,yie,ysb⟩
def yBO:Nat→Option Seg:=fun q=>bif Nat.beq q 13 then some yzA else yBN q
theorem yNP:FrOk Tryz.prog ⟨ysG,22,yBO⟩ yoe:=(yNO).loop (sg:=yzA) ycI yzt (by decide) yNi ycL yzw (by decide) (fun _=>rfl) (fun x r _ h=>h) yPp
abbrev ykd:List Par:= [.rd tA,.rd tI]
abbrev ysL:List OT:= [⟨false,tI,.fz⟩]
def yph (a0:dA) (a1:Int):Option (ResD ysL×MutD ykd) :=
 zjw (ysb (((a1,()),((),()),((),()),()),((a0.1,a0.2.1.1,a0.2.1.2,a0.2.2.1,a0.2.2.2.1,a0.2.2.2.2.1,a0.2.2.2.2.2.1,a0.2.2.2.2.2.2.1,a0.2.2.2.2.2.2.2.1,a0.2.2.2.2.2.2.2.2.1,a0.2.2.2.2.2.2.2.2.2.1,a0.2.2.2.2.2.2.2.2.2.2.1,a0.2.2.2.2.2.2.2.2.2.2.2,()),()),())) (fun y0 =>
 some (((-1),()),())) (fun y0 =>
 some ((y0.1.1.1,()),()))
theorem ySh (x:InD ykd):zjH ⟨ysG,22,yBO⟩ Tryz.f243.results.toList yoe ykd ysL x=yph x.1 x.2.1:=by kernel_rfl
theorem yQS:ConOk Tryz.prog 243 ⟨ykd,ysL,fun x=>yph x.1 x.2.1⟩:=zkh (yNP) Tryz.func243 (by kernel_rfl) (by kernel_rfl) Tryz.ntmps243.symm (by decide) (fun x r h=>(ySh x).trans h)
def yoq (a0:dA) (a1:Int):Int:=yN a0.2.2.2.2.2.2.2.2.1 a1
theorem yRV (a0:dA) (a1:Int) (hk:zi9 ykd (a0,a1,())):yph a0 a1=(fun n=>some ((n,()),())) (yoq a0 a1):=by
 have hb:a0.2.2.2.2.2.2.2.2.1.length * 32≤2 ^ 47:=hk.1.2.2.2.2.2.2.2.2.1.1
 have h1:ysb (yLm a1 a0)=some (bif leb 0 (yN a0.2.2.2.2.2.2.2.2.1 a1) then .inr (yzx (yN a0.2.2.2.2.2.2.2.2.1 a1)) else .inl yLl) :=
  yDW (step:=ycL) a0.2.2.2.2.2.2.2.2.1 (0,[]) (fun i=>yrj a1 i a0) (fun e:dW=>e.1==a1) (fun i=> .inr (yzx i)) _ (fun i hi=>by
   simp only [ycL,yrj,yrJ,zjI (show (i:Int) < a0.2.2.2.2.2.2.2.2.1.length by omega),cond_true,wr (show -9223372036854775808≤(i:Int)+1 by omega) (by omega),Int.natCast_add,Int.natCast_one,Int.toNat_natCast,zkO hi,zjW]
   cases ((a0.2.2.2.2.2.2.2.2.1.getD i (0,[])).1==a1)<;>rfl) (by simp only [ycL,yrj,yrJ,zkm (Int.le_refl _),cond_false]) _ (by show _ < 18446744073709551616; omega)
 unfold yph yoq
 rw [h1]
 cases h:leb 0 (yN a0.2.2.2.2.2.2.2.2.1 a1)
 ·rw [show yN a0.2.2.2.2.2.2.2.2.1 a1= -1 from ySp h]; rfl
 ·rfl
def yCd:Con:=⟨ykd,ysL,fun x=>(fun n=>some ((n,()),())) (yoq x.1 x.2.1)⟩
theorem yRZ:ConOk Tryz.prog 243 yCd:=(yQS).mono (fun x r hk h=>(yRV x.1 x.2.1 hk).trans h)
end
section
def yyd:Code:=(Tryz.f176.body).getD .skip
def yyN:Env:=zki TT [(216,yzm),(243,yCd)] []
theorem yDU:FrOk Tryz.prog ⟨yyN,28,fun _=>none⟩ yyd:=zkp yb yc ⟨yPg,yRZ,trivial⟩
def yEJ:Nat→Option Seg:=fun _=>none
abbrev ybP:List Par:= [.rd tA,.rd tI]
abbrev ygi:List OT:= [⟨false,tL,(.ow .fz)⟩,⟨false,tB,.fz⟩]
def yhC (a0:dA) (a1:Int):Option (ResD ygi×MutD ybP) :=
 let r1:=yoq a0 a1
 bif (leb 0 r1) then
 bif (inb r1 a0.2.2.2.2.2.2.2.2.1.length) then
 bif (zj4 ([]:List Int).length ((nth a0.2.2.2.2.2.2.2.2.1 r1 (0,[])).2).length 8) then
 some (((([]:List Int)++((nth a0.2.2.2.2.2.2.2.2.1 r1 (0,[])).2)),true,()),())
 else none
 else none
 else
 bif a0.2.2.2.2.2.2.2.2.2.2.2 then
 some ((([]:List Int),false,()),())
 else
 bnd (ype a0 a1) fun r2 =>
 some ((r2.1.1,r2.1.2.1,()),())
theorem yKy (x:InD ybP):zjH ⟨yyN,28,yEJ⟩ Tryz.f176.results.toList yyd ybP ygi x=yhC x.1 x.2.1:=by kernel_rfl
theorem yGb:ConOk Tryz.prog 176 ⟨ybP,ygi,fun x=>yhC x.1 x.2.1⟩:=zkh (yDU) Tryz.func176 (by kernel_rfl) (by kernel_rfl) Tryz.ntmps176.symm (by decide) (fun x r h=>(yKy x).trans h)
def ygH (a0:dA) (a1:Int):List Int×Bool:=yM a0 a1
def yrr (a0:dA) (a1:Int):Bool:=yaO a0.2.1 a1
theorem yIJ (a0:dA) (a1:Int) (hk:zi9 ybP (a0,a1,())) (hq:yrr a0 a1=true):yhC a0 a1=(fun n=>some ((n.1,n.2,()),())) (ygH a0 a1):=by
 unfold yhC ygH yM yoq
 rw [yPm a0 a1 hq]
 simp only [List.nil_append]
 cases h:leb 0 (yN a0.2.2.2.2.2.2.2.2.1 a1)
 ·cases a0.2.2.2.2.2.2.2.2.2.2.2<;>rfl
 ·have h1:=(yBi (d:=((0,[]):dW)) h).1
  have h2:(nth a0.2.2.2.2.2.2.2.2.1 (yN a0.2.2.2.2.2.2.2.2.1 a1) (0,[])).2.length * 8≤2 ^ 47:=yOt (P:=fun x:dW=>x.2.length * 8≤2 ^ 47) h1 (fun x hx=>(hk.1.2.2.2.2.2.2.2.2.1.2 x hx).2.1)
  rw [show inb (yN a0.2.2.2.2.2.2.2.2.1 a1) a0.2.2.2.2.2.2.2.2.1.length=true from h1,zkw.2 (show (([]:List Int).length+(nth a0.2.2.2.2.2.2.2.2.1 (yN a0.2.2.2.2.2.2.2.2.1 a1) (0,[])).2.length) * 8≤140737488355328 by rw [List.length_nil]; omega)]; rfl
def yk2 (a0:dA) (a1:Int):Option (ResD ygi×MutD ybP):=bif yrr a0 a1 then (fun n=>some ((n.1,n.2,()),())) (ygH a0 a1) else none
theorem yJi (a0:dA) (a1:Int) (h:yrr a0 a1=true):yk2 a0 a1=(fun n=>some ((n.1,n.2,()),())) (ygH a0 a1):=by unfold yk2; rw [h]; rfl
def yuY:Con:=⟨ybP,ygi,fun x=>yk2 x.1 x.2.1⟩
theorem yJh:ConOk Tryz.prog 176 yuY:=(yGb).mono (fun x r hk h=>zkW h (fun hq=>yIJ x.1 x.2.1 hk hq))
end
end
end Go.Tf
