/- Functions of the program, and what they come to. -/
import Derived.Test.YtgmadfpnljibhaaGreatScrubsF18
namespace Go.Tf
noncomputable section
open Go.Proofs
set_option synthInstance.maxHeartbeats 400000
set_option synthInstance.maxSize 10000
set_option linter.unusedVariables false
set_option linter.unusedSimpArgs false
set_option maxRecDepth 100000
section
def yAv:Code:=(Tryz.f231.body).getD .skip
def yA8:Env:=zki TT [(116,yb0)] []
theorem yHH:FrOk Tryz.prog ⟨yA8,17,fun _=>none⟩ yAv:=zkp yc yd ⟨yfd,trivial⟩
def yIU:Nat→Option Seg:=fun _=>none
abbrev yej:List Par:= [.rd tG,.rd tI]
abbrev ymq:List OT:= [⟨false,tI,.fz⟩]
def yiF (a0:dG) (a1:Int):Option (ResD ymq×MutD yej) :=
  let r1:=yP a0 a1
  bif (!r1) then
    some (((-1),()),())
  else
    bif (a0.1 !=0) then
      some (((IntKind.i64.wrap ((IntKind.i64.wrap (a0.1 - 1)) - (a1.tmod a0.1))),()),())
    else none
theorem yO0 (x:InD yej):zjH ⟨yA8,17,yIU⟩ Tryz.f231.results.toList yAv yej ymq x=yiF x.1 x.2.1:=by kernel_rfl
theorem yKg:ConOk Tryz.prog 231 ⟨yej,ymq,fun x=>yiF x.1 x.2.1⟩:=zkh (yHH) Tryz.func231 (by kernel_rfl) (by kernel_rfl) Tryz.ntmps231.symm (by decide) (fun x r h=>(yO0 x).trans h)
def yh7 (a0:dG) (a1:Int):Int:=yj a0 a1
theorem yM1 (a0:dG) (a1:Int) (hk:zi9 yej (a0,a1,())):yiF a0 a1=(fun n=>some ((n,()),())) (yh7 a0 a1):=by
  unfold yiF yh7
  rw [yCF]
  cases hs:yO a0 a1
  · unfold yj; rw [hs]; rfl
  · have h1:=yao.1 hs
    have h2:=yg.1 h1.1
    have h3:=ykh hs
    have h4:yj a0 a1=a0.1 - 1 - a1.tmod a0.1:=by unfold yj; rw [hs]; rfl
    rw [show (a0.1 !=0)=true from bne_iff_ne.2 (by omega),wr (show -9223372036854775808≤a0.1 - 1 by omega) (by omega),wr (show -9223372036854775808≤a0.1 - 1 - a1.tmod a0.1 by omega) (by omega),h4]; rfl
def yw9:Con:=⟨yej,ymq,fun x=>(fun n=>some ((n,()),())) (yh7 x.1 x.2.1)⟩
theorem yNH:ConOk Tryz.prog 231 yw9:=(yKg).mono (fun x r hk h=>(yM1 x.1 x.2.1 hk).trans h)
end
section
def yFd:Code:=(Tryz.f148.body).getD .skip
def yFO:Env:=zki TT [(116,yb0),(126,yG),(231,yw9)] []
theorem yLA:FrOk Tryz.prog ⟨yFO,28,fun _=>none⟩ yFd:=zkp yc yd ⟨yfd,yU,yNH,trivial⟩
def yN9:Nat→Option Seg:=fun _=>none
abbrev ygI:List Par:= [.rd tG,.rd tI,.rd tI]
abbrev yqu:List OT:= [⟨false,tI,.fz⟩]
def ym0 (a0:dG) (a1:Int) (a2:Int):Option (ResD yqu×MutD ygI) :=
  let r1:=yP a0 a1
  bif (!(!r1)) then
    let r2:=yi a2 0 (IntKind.i64.wrap (a0.1 - 2))
    bif (!r2) then
      some (((-1),()),())
    else
      let r3:=yh7 a0 a1
      bif (a0.1 !=0) then
        some ((((IntKind.i64.wrap ((IntKind.i64.wrap (r3+1))+a2)).tmod a0.1),()),())
      else none
  else
    some (((-1),()),())
theorem yVq (x:InD ygI):zjH ⟨yFO,28,yN9⟩ Tryz.f148.results.toList yFd ygI yqu x=ym0 x.1 x.2.1 x.2.2.1:=by kernel_rfl
theorem yQU:ConOk Tryz.prog 148 ⟨ygI,yqu,fun x=>ym0 x.1 x.2.1 x.2.2.1⟩:=zkh (yLA) Tryz.func148 (by kernel_rfl) (by kernel_rfl) Tryz.ntmps148.symm (by decide) (fun x r h=>(yVq x).trans h)
def ylA (a0:dG) (a1 a2:Int):Int:=yb1 a0 a1 a2
theorem yTi (a0:dG) (a1 a2:Int) (hk:zi9 ygI (a0,a1,a2,())):ym0 a0 a1 a2=(fun n=>some ((n,()),())) (ylA a0 a1 a2):=by
  unfold ym0 ylA yb1 yh7
  rw [yCF]
  cases hs:yO a0 a1
  · rfl
  · have h1:=yao.1 hs
    have h2:=yg.1 h1.1
    have h3:=ykh hs
    rw [yat,ybC,wr (show -9223372036854775808≤a0.1 - 2 by omega) (by omega)]
    cases hi:(leb 0 a2&&leb a2 (a0.1 - 2))
    · rfl
    · rw [Bool.and_eq_true,zjQ,zjQ]at hi
      rw [show (a0.1 !=0)=true from bne_iff_ne.2 (by omega)]
      show some (((IntKind.i64.wrap (IntKind.i64.wrap (yj a0 a1+1)+a2)).tmod a0.1,()),())=some (((yj a0 a1+1+a2).tmod a0.1,()),())
      rw [wr (show -9223372036854775808≤yj a0 a1+1 by omega) (by omega),wr (show -9223372036854775808≤yj a0 a1+1+a2 by omega) (by omega)]
def yBG:Con:=⟨ygI,yqu,fun x=>(fun n=>some ((n,()),())) (ylA x.1 x.2.1 x.2.2.1)⟩
theorem yUh:ConOk Tryz.prog 148 yBG:=(yQU).mono (fun x r hk h=>(yTi x.1 x.2.1 x.2.2.1 hk).trans h)
end
section
def ykX:Code:=(Tryz.f55.body).getD .skip
def yqh:Env:=zki TT [(106,yDV),(148,yBG)] []
theorem yLy:FrOk Tryz.prog ⟨yqh,39,fun _=>none⟩ ykX:=zkp yc yd ⟨yWw,yUh,trivial⟩
def yAJ:Nat→Option Seg:=fun _=>none
def ybb:Shape:=⟨[(1,false,[.int .i64]),(2,false,[.ptr 0 0]),(6,false,[.at 800000000]),(8,false,[.at 800000001]),(22,false,[.int .i64]),(23,false,[.int .i64])],[(0,[.int .i64,.int .i64,.int .i64,.br tM,.int .i64,.int .i64,.int .i64,.int .i64,.int .i64,.br tW,.int .i64,.bool,.bool])],[(800000000,tI,.fz),(800000001,tI,.fz)]⟩
def yeY:Shape:=⟨[(1,false,[.int .i64]),(2,false,[.ptr 0 0]),(6,false,[.at 800000000]),(8,false,[.at 800000001]),(22,false,[.int .i64]),(23,false,[.ci .i64 0])],[(0,[.int .i64,.int .i64,.int .i64,.br tM,.int .i64,.int .i64,.int .i64,.int .i64,.int .i64,.br tW,.int .i64,.bool,.bool])],[(800000000,tI,.fz),(800000001,tI,.fz)]⟩
def yeQ:Shape:=⟨[(8,false,[.at 800000000])],[],[(800000000,tI,.fz)]⟩
def yiv:Shape:=⟨[],[],[]⟩
abbrev ynX (v0:Int) (v1:Int) (v2:Int) (v3:dA) (v4:List Int) (v5:List Int):(ybb).X:=(((v0,()),((),()),((),()),((),()),(v1,()),(v2,()),()),((v3.1,v3.2.1.1,v3.2.1.2,v3.2.2.1,v3.2.2.2.1,v3.2.2.2.2.1,v3.2.2.2.2.2.1,v3.2.2.2.2.2.2.1,v3.2.2.2.2.2.2.2.1,v3.2.2.2.2.2.2.2.2.1,v3.2.2.2.2.2.2.2.2.2.1,v3.2.2.2.2.2.2.2.2.2.2.1,v3.2.2.2.2.2.2.2.2.2.2.2,()),()),(v4,v5,()))
abbrev yIc (v0:Int) (v1:Int) (v2:dA) (v3:List Int) (v4:List Int):(yeY).X:=(((v0,()),((),()),((),()),((),()),(v1,()),((),()),()),((v2.1,v2.2.1.1,v2.2.1.2,v2.2.2.1,v2.2.2.2.1,v2.2.2.2.2.1,v2.2.2.2.2.2.1,v2.2.2.2.2.2.2.1,v2.2.2.2.2.2.2.2.1,v2.2.2.2.2.2.2.2.2.1,v2.2.2.2.2.2.2.2.2.2.1,v2.2.2.2.2.2.2.2.2.2.2.1,v2.2.2.2.2.2.2.2.2.2.2.2,()),()),(v3,v4,()))
abbrev ywh (v0:List Int):(yeQ).X:=((((),()),()),(),(v0,()))
def yod (v0:Int) (v1:Int) (v2:Int) (v3:Int) (v4:Int) (v5:Int) (v6:List dM) (v7:Int) (v8:Int) (v9:Int) (v10:Int) (v11:Int) (v12:List dW) (v13:Int) (v14:Bool) (v15:Bool) (v16:List Int) (v17:List Int):Option ((ybb).X ⊕ ((yeQ).X ⊕ (yiv).X)) :=
  bif (ltb v2 v1) then
    let r3:=ylA (v4,v5) v0 v2
    bif (inb r3 v16.length) then
      bif (zj4 v17.length ([(nth v16 r3 0)]:List Int).length 8) then
        some (.inl (((v0,()),((),()),((),()),((),()),(v1,()),((IntKind.i64.wrap (v2+1)),()),()),((v3,v4,v5,v6,v7,v8,v9,v10,v11,v12,v13,v14,v15,()),()),(v16,(v17++([(nth v16 r3 0)]:List Int)),())))
      else none
    else none
  else
    some (.inr (.inl ((((),()),()),(),(v17,()))))
def ybn (x:(ybb).X):=yod x.1.1.1 x.1.2.2.2.2.1.1 x.1.2.2.2.2.2.1.1 x.2.1.1.1 x.2.1.1.2.1 x.2.1.1.2.2.1 x.2.1.1.2.2.2.1 x.2.1.1.2.2.2.2.1 x.2.1.1.2.2.2.2.2.1 x.2.1.1.2.2.2.2.2.2.1 x.2.1.1.2.2.2.2.2.2.2.1 x.2.1.1.2.2.2.2.2.2.2.2.1 x.2.1.1.2.2.2.2.2.2.2.2.2.1 x.2.1.1.2.2.2.2.2.2.2.2.2.2.1 x.2.1.1.2.2.2.2.2.2.2.2.2.2.2.1 x.2.1.1.2.2.2.2.2.2.2.2.2.2.2.2.1 x.2.2.1 x.2.2.2.1
def yvS (x:(yeY).X):(ybb).X:=(((x.1.1.1,()),((),()),((),()),((),()),(x.1.2.2.2.2.1.1,()),(0,()),()),((x.2.1.1.1,x.2.1.1.2.1,x.2.1.1.2.2.1,x.2.1.1.2.2.2.1,x.2.1.1.2.2.2.2.1,x.2.1.1.2.2.2.2.2.1,x.2.1.1.2.2.2.2.2.2.1,x.2.1.1.2.2.2.2.2.2.2.1,x.2.1.1.2.2.2.2.2.2.2.2.1,x.2.1.1.2.2.2.2.2.2.2.2.2.1,x.2.1.1.2.2.2.2.2.2.2.2.2.2.1,x.2.1.1.2.2.2.2.2.2.2.2.2.2.2.1,x.2.1.1.2.2.2.2.2.2.2.2.2.2.2.2.1,()),()),(x.2.2.1,x.2.2.2.1,()))
def ywX:Code:=(zdI ykX 64 500).getD .skip
theorem yI8:zdI ykX 64 125=some (.block 0 (.loop ywX)):=by kernel_rfl
theorem yKB (x:(ybb).X):zg7 ⟨yqh,39,yAJ⟩ 0 ywX 500 ybb yeQ yiv x=ybn x:=by kernel_rfl
def yv5 (x:(yeY).X):Nat:=(fun (u0:Int) (u1:Int) (u2:Int) (u3:Int) (u4:Int) (u5:List dM) (u6:Int) (u7:Int) (u8:Int) (u9:Int) (u10:Int) (u11:List dW) (u12:Int) (u13:Bool) (u14:Bool) (u15:List Int) (u16:List Int)=>18446744073709551616) x.1.1.1 x.1.2.2.2.2.1.1 x.2.1.1.1 x.2.1.1.2.1 x.2.1.1.2.2.1 x.2.1.1.2.2.2.1 x.2.1.1.2.2.2.2.1 x.2.1.1.2.2.2.2.2.1 x.2.1.1.2.2.2.2.2.2.1 x.2.1.1.2.2.2.2.2.2.2.1 x.2.1.1.2.2.2.2.2.2.2.2.1 x.2.1.1.2.2.2.2.2.2.2.2.2.1 x.2.1.1.2.2.2.2.2.2.2.2.2.2.1 x.2.1.1.2.2.2.2.2.2.2.2.2.2.2.1 x.2.1.1.2.2.2.2.2.2.2.2.2.2.2.2.1 x.2.2.1 x.2.2.2.1
def yph (x:(yeY).X):Option ((yeQ).X ⊕ (yiv).X):=zr ybn (yv5 x) (yvS x)
def ywm:Seg:=⟨yeY,yeQ,yiv,yph⟩
def yAK:Nat→Option Seg:=fun q=>bif Nat.beq q 125 then some ywm else yAJ q
theorem yLz:FrOk Tryz.prog ⟨yqh,39,yAK⟩ ykX:=(yLy).loop (sg:=ywm) ybb yvS (by decide) yI8 ybn yv5 (by decide) (fun _=>rfl) (fun x r _ h=>h) yKB
abbrev ygH:List Par:= [.rd tA,.rd tI]
abbrev yqt:List OT:= [⟨false,tL,(.ow .fz)⟩,⟨false,tB,.fz⟩]
def ymZ (a0:dA) (a1:Int):Option (ResD yqt×MutD ygH) :=
  let r1:=yn5 a0 a1
  bif (!r1.2) then
    some (([],false,()),())
  else
    zjw (yph (((a1,()),((),()),((),()),((),()),((IntKind.i64.wrap (a0.2.1.1 - 1)),()),((),()),()),((a0.1,a0.2.1.1,a0.2.1.2,a0.2.2.1,a0.2.2.2.1,a0.2.2.2.2.1,a0.2.2.2.2.2.1,a0.2.2.2.2.2.2.1,a0.2.2.2.2.2.2.2.1,a0.2.2.2.2.2.2.2.2.1,a0.2.2.2.2.2.2.2.2.2.1,a0.2.2.2.2.2.2.2.2.2.2.1,a0.2.2.2.2.2.2.2.2.2.2.2,()),()),(r1.1,([]:List Int),()))) (fun y3 =>
      some ((y3.2.2.1,true,()),())) (fun y3 =>
      none)
theorem yVp (x:InD ygH):zjH ⟨yqh,39,yAK⟩ Tryz.f55.results.toList ykX ygH yqt x=ymZ x.1 x.2.1:=by kernel_rfl
theorem yQT:ConOk Tryz.prog 55 ⟨ygH,yqt,fun x=>ymZ x.1 x.2.1⟩:=zkh (yLz) Tryz.func55 (by kernel_rfl) (by kernel_rfl) Tryz.ntmps55.symm (by decide) (fun x r h=>(yVp x).trans h)
def yeL (a0:dA) (a1:Int):List Int×Bool:=yY a0 a1
theorem yTh (a0:dA) (a1:Int) (hk:zi9 ygH (a0,a1,())):ymZ a0 a1=(fun n=>some ((n.1,n.2,()),())) (yeL a0 a1):=by
  unfold ymZ yeL yY yn5
  cases hc:(yo a0&&(!a0.2.2.2.2.2.2.2.2.2.2.2&&yO a0.2.1 a1))
  · rfl
  simp only [Bool.and_eq_true]at hc
  have hg:=yg.1 (yam hc.1)
  have hs:=hc.2.2
  unfold yqZ
  simp only [cond_true]
  cases hw:(yy a0 a1).2
  · rfl
  · have hL:=yIH hw
    have h1:yph (yIc a1 (a0.2.1.1 - 1) a0 (yy a0 a1).1 [])=some (.inl (ywh ((List.range (a0.2.1.1 - 1).toNat).foldl (fun l (i:Nat)=>l++ [nth (yy a0 a1).1 (yb1 a0.2.1 a1 i) 0]) []))) :=
      zks (step:=ybn) (a0.2.1.1 - 1).toNat (fun i s=>ynX a1 (a0.2.1.1 - 1) i a0 (yy a0 a1).1 s) (fun l (i:Nat)=>l++ [nth (yy a0 a1).1 (yb1 a0.2.1 a1 i) 0]) (fun i s=>s.length=i) (fun s=> .inl (ywh s)) (fun i s hi hs2=>⟨by
        have hd:=yYx hs (show (0:Int)≤i by omega) (show (i:Int)≤a0.2.1.1 - 2 by omega)
        simp only [ybn,ynX,yod,zjI (show (i:Int) < a0.2.1.1 - 1 by omega),cond_true,wr (show -9223372036854775808≤(i:Int)+1 by omega) (by omega),Int.natCast_add,Int.natCast_one,Int.toNat_natCast,zkV,ylA,zjP.2 (show 0≤yb1 a0.2.1 a1 i∧yb1 a0.2.1 a1 i < (yy a0 a1).1.length by omega)]
        rw [zkw.2 (show (s.length+ [nth (yy a0 a1).1 (yb1 a0.2.1 a1 i) 0].length) * 8≤140737488355328 by simp only [List.length_cons,List.length_nil]; omega)]; rfl,by simp [hs2]⟩) (fun s hs2=>by simp only [ybn,ynX,yod,zkm (show a0.2.1.1 - 1≤((a0.2.1.1 - 1).toNat:Int) by omega),cond_false]) [] rfl _ (by show _ < 18446744073709551616; omega)
    simp only [wr (show -9223372036854775808≤a0.2.1.1 - 1 by omega) (by omega)]
    rw [h1,ykz]; rfl
def ytu:Con:=⟨ygH,yqt,fun x=>(fun n=>some ((n.1,n.2,()),())) (yeL x.1 x.2.1)⟩
theorem yEl:ConOk Tryz.prog 55 ytu:=(yQT).mono (fun x r hk h=>(yTh x.1 x.2.1 hk).trans h)
end
section
def yCP:Code:=(Tryz.f248.body).getD .skip
def yDy:Env:=zki TT [] []
theorem yJs:FrOk Tryz.prog ⟨yDy,8,fun _=>none⟩ yCP:=zkp yc yd trivial
def yK0:Nat→Option Seg:=fun _=>none
abbrev yjb:List Par:= [.rd tW,.rp tI]
abbrev yoB:List OT:= [⟨false,tB,.fz⟩]
def yrS (a0:dW) (a1:Int):Option (ResD yoB×MutD yjb) :=
  some (((a0.1==a1),()),())
theorem ySI (x:InD yjb):zjH ⟨yDy,8,yK0⟩ Tryz.f248.results.toList yCP yjb yoB x=yrS x.1 x.2.1:=by kernel_rfl
theorem yNn:ConOk Tryz.prog 248 ⟨yjb,yoB,fun x=>yrS x.1 x.2.1⟩:=zkh (yJs) Tryz.func248 (by kernel_rfl) (by kernel_rfl) Tryz.ntmps248.symm (by decide) (fun x r h=>(ySI x).trans h)
def yoR (a0:dW) (a1:Int):Bool :=
  (a0.1==a1)
def yyS:Con:=⟨yjb,yoB,fun x=>(fun n=>some ((n,()),())) (yoR x.1 x.2.1)⟩
theorem yQB (a0:dW) (a1:Int):yrS a0 a1=(fun n=>some ((n,()),())) (yoR a0 a1):=zkS (p:=fun (n:Bool)=>((n,()),())) rfl
theorem yRz:ConOk Tryz.prog 248 yyS:=(yNn).mono (fun x r _ h=>(yQB x.1 x.2.1).trans h)
end
section
def ybx:Code:=(Tryz.f247.body).getD .skip
def ydM:Env:=zki TT [(248,yyS)] []
theorem yxZ:FrOk Tryz.prog ⟨ydM,19,fun _=>none⟩ ybx:=zkp yc yd ⟨yRz,trivial⟩
def ynv:Nat→Option Seg:=fun _=>none
def yJ:Shape:=⟨[(0,false,[.br tW]),(1,false,[.fx 248 tI]),(7,false,[.int .i64]),(8,false,[.int .i64])],[],[]⟩
def yaH:Shape:=⟨[(0,false,[.br tW]),(1,false,[.fx 248 tI]),(7,false,[.int .i64]),(8,false,[.ci .i64 0])],[],[]⟩
def yaG:Shape:=⟨[],[],[]⟩
def yaI:Shape:=⟨[(4,false,[.int .i64])],[],[]⟩
abbrev yeK (v0:List dW) (v1:Int) (v2:Int) (v3:Int):(yJ).X:=(((v0,()),(v1,()),(v2,()),(v3,()),()),(),())
abbrev ywB (v0:List dW) (v1:Int) (v2:Int):(yaH).X:=(((v0,()),(v1,()),(v2,()),((),()),()),(),())
abbrev ywA  :(yaG).X:=((),(),())
abbrev ylz (v0:Int):(yaI).X:=(((v0,()),()),(),())
def yeO (v0:List dW) (v1:Int) (v2:Int) (v3:Int):Option ((yJ).X ⊕ ((yaG).X ⊕ (yaI).X)) :=
  bif (ltb v3 v2) then
    bif (inb v3 v0.length) then
      let r2:=yoR (nth v0 v3 (0,[])) v1
      bif r2 then
        some (.inr (.inr (((v3,()),()),(),())))
      else
        some (.inl (((v0,()),(v1,()),(v2,()),((IntKind.i64.wrap (v3+1)),()),()),(),()))
    else none
  else
    some (.inr (.inl ((),(),())))
def yS (x:(yJ).X):=yeO x.1.1.1 x.1.2.1.1 x.1.2.2.1.1 x.1.2.2.2.1.1
def ylw (x:(yaH).X):(yJ).X:=(((x.1.1.1,()),(x.1.2.1.1,()),(x.1.2.2.1.1,()),(0,()),()),(),())
def ymP:Code:=(zdI ybx 64 52).getD .skip
theorem yxX:zdI ybx 64 13=some (.block 0 (.loop ymP)):=by kernel_rfl
theorem yx4 (x:(yJ).X):zg7 ⟨ydM,19,ynv⟩ 0 ymP 52 yJ yaG yaI x=yS x:=by kernel_rfl
def ylx (x:(yaH).X):Nat:=(fun (u0:List dW) (u1:Int) (u2:Int)=>18446744073709551616) x.1.1.1 x.1.2.1.1 x.1.2.2.1.1
def yff (x:(yaH).X):Option ((yaG).X ⊕ (yaI).X):=zr yS (ylx x) (ylw x)
def ylS:Seg:=⟨yaH,yaG,yaI,yff⟩
def ynw:Nat→Option Seg:=fun q=>bif Nat.beq q 13 then some ylS else ynv q
theorem yx0:FrOk Tryz.prog ⟨ydM,19,ynw⟩ ybx:=(yxZ).loop (sg:=ylS) yJ ylw (by decide) yxX yS ylx (by decide) (fun _=>rfl) (fun x r _ h=>h) yx4
abbrev yay:List Par:= [.rd tWs,.fn 248 tI]
abbrev ydN:List OT:= [⟨false,tI,.fz⟩]
def ycL (a0:List dW) (a1:Int):Option (ResD ydN×MutD yay) :=
  zjw (yff (((a0,()),(a1,()),((a0.length:Int),()),((),()),()),(),())) (fun y2 =>
    some (((-1),()),())) (fun y2 =>
    some ((y2.1.1.1,()),()))
theorem yCC (x:InD yay):zjH ⟨ydM,19,ynw⟩ Tryz.f247.results.toList ybx yay ydN x=ycL x.1 x.2.1:=by kernel_rfl
theorem yzO:ConOk Tryz.prog 247 ⟨yay,ydN,fun x=>ycL x.1 x.2.1⟩:=zkh (yx0) Tryz.func247 (by kernel_rfl) (by kernel_rfl) Tryz.ntmps247.symm (by decide) (fun x r h=>(yCC x).trans h)
def ydR (a0:List dW) (a1:Int):Int:=yw a0 a1
theorem yAr (a0:List dW) (a1:Int) (hk:zi9 yay (a0,a1,())):ycL a0 a1=(fun n=>some ((n,()),())) (ydR a0 a1):=by
  have hb:a0.length * 32≤2 ^ 47:=hk.1.1
  have h1:yff (ywB a0 a1 a0.length)=some (bif leb 0 (yw a0 a1) then .inr (ylz (yw a0 a1)) else .inl ywA) :=
    yU4 (step:=yS) a0 (0,[]) (fun i=>yeK a0 a1 a0.length i) (fun e:dW=>e.1==a1) (fun i=> .inr (ylz i)) _ (fun i hi=>by
      simp only [yS,yeK,yeO,zjI (show (i:Int) < a0.length by omega),cond_true,wr (show -9223372036854775808≤(i:Int)+1 by omega) (by omega),Int.natCast_add,Int.natCast_one,Int.toNat_natCast,zkO hi,zjW,yoR]
      cases ((a0.getD i (0,[])).1==a1)<;>rfl) (by simp only [yS,yeK,yeO,zkm (Int.le_refl _),cond_false]) _ (by show _ < 18446744073709551616; omega)
  unfold ycL ydR
  rw [h1]
  cases h:leb 0 (yw a0 a1)
  · rw [show yw a0 a1= -1 from yYz h]; rfl
  · rfl
def ynT:Con:=⟨yay,ydN,fun x=>(fun n=>some ((n,()),())) (ydR x.1 x.2.1)⟩
theorem yAt:ConOk Tryz.prog 247 ynT:=(yzO).mono (fun x r hk h=>(yAr x.1 x.2.1 hk).trans h)
end
section
def yGT:Code:=(Tryz.f183.body).getD .skip
def yHa:Env:=zki TT [(247,ynT)] []
theorem yPz:FrOk Tryz.prog ⟨yHa,9,fun _=>none⟩ yGT:=zkp yc yd ⟨yAt,trivial⟩
def ySd:Nat→Option Seg:=fun _=>none
abbrev yja:List Par:= [.rd tA,.rd tI]
abbrev ys9:List OT:= [⟨false,tI,.fz⟩]
def yvi (a0:dA) (a1:Int):Option (ResD ys9×MutD yja) :=
  let r1:=ydR a0.2.2.2.2.2.2.2.2.1 a1
  some ((r1,()),())
theorem yW4 (x:InD yja):zjH ⟨yHa,9,ySd⟩ Tryz.f183.results.toList yGT yja ys9 x=yvi x.1 x.2.1:=by kernel_rfl
theorem yTT:ConOk Tryz.prog 183 ⟨yja,ys9,fun x=>yvi x.1 x.2.1⟩:=zkh (yPz) Tryz.func183 (by kernel_rfl) (by kernel_rfl) Tryz.ntmps183.symm (by decide) (fun x r h=>(yW4 x).trans h)
def ytR (a0:dA) (a1:Int):Int:=yw a0.2.2.2.2.2.2.2.2.1 a1
theorem yV9 (a0:dA) (a1:Int) (hk:zi9 yja (a0,a1,())):yvi a0 a1=(fun n=>some ((n,()),())) (ytR a0 a1):=rfl
def yDW:Con:=⟨yja,ys9,fun x=>(fun n=>some ((n,()),())) (ytR x.1 x.2.1)⟩
theorem yWx:ConOk Tryz.prog 183 yDW:=(yTT).mono (fun x r hk h=>(yV9 x.1 x.2.1 hk).trans h)
end
end
end Go.Tf
