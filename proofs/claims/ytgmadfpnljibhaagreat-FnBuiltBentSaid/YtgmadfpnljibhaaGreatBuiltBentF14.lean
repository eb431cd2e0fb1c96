/- Functions of the program, and what they come to. -/
import Derived.Test.YtgmadfpnljibhaaGreatBuiltBentF13
namespace Go.Tf
noncomputable section
open Go.Proofs
set_option synthInstance.maxHeartbeats 400000
set_option synthInstance.maxSize 10000
set_option linter.unusedVariables false
set_option linter.unusedSimpArgs false
set_option maxRecDepth 100000
section
def ykm:Code:=(Tryz.f228.body).getD .skip
def yqa:Env:=zki TT [(179,yEc)] []
theorem yMc:FrOk Tryz.prog ⟨yqa,15,fun _=>none⟩ ykm:=zkp yc yd ⟨yWD,trivial⟩
def yA6:Nat→Option Seg:=fun _=>none
def yds:Shape:=⟨[(5,false,[.br tI]),(6,false,[.int .i64]),(7,false,[.int .i64])],[],[]⟩
def yjK:Shape:=⟨[(5,false,[.br tI]),(6,false,[.int .i64]),(7,false,[.ci .i64 0])],[],[]⟩
def yjI:Shape:=⟨[],[],[]⟩
def yjS:Shape:=⟨[(2,false,[.bool])],[],[]⟩
def ypY (v0:List Int) (v1:Int) (v2:Int):Option ((yds).X ⊕ ((yjI).X ⊕ (yjS).X)) :=
  bif (ltb v2 v1) then
    bif (inb v2 v0.length) then
      let r2:=yai (nth v0 v2 0)
      bif (!r2) then
        some (.inr (.inr (((false,()),()),(),())))
      else
        some (.inl (((v0,()),(v1,()),((IntKind.i64.wrap (v2+1)),()),()),(),()))
    else none
  else
    some (.inr (.inl ((),(),())))
def ybQ (x:(yds).X):=ypY x.1.1.1 x.1.2.1.1 x.1.2.2.1.1
def yx1 (x:(yjK).X):(yds).X:=(((x.1.1.1,()),(x.1.2.1.1,()),(0,()),()),(),())
def yzz:Code:=(zdI ykm 64 52).getD .skip
theorem yLQ:zdI ykm 64 13=some (.block 0 (.loop yzz)):=by kernel_rfl
theorem yNx (x:(yds).X):zg7 ⟨yqa,15,yA6⟩ 0 yzz 52 yds yjI yjS x=ybQ x:=by kernel_rfl
def yyg (x:(yjK).X):Nat:=(fun (u0:List Int) (u1:Int)=>18446744073709551616) x.1.1.1 x.1.2.1.1
def yq6 (x:(yjK).X):Option ((yjI).X ⊕ (yjS).X):=zr ybQ (yyg x) (yx1 x)
def yyG:Seg:=⟨yjK,yjI,yjS,yq6⟩
def yA7:Nat→Option Seg:=fun q=>bif Nat.beq q 13 then some yyG else yA6 q
theorem yMd:FrOk Tryz.prog ⟨yqa,15,yA7⟩ ykm:=(yMc).loop (sg:=yyG) yds yx1 (by decide) yLQ ybQ yyg (by decide) (fun _=>rfl) (fun x r _ h=>h) yNx
abbrev ygt:List Par:= [.rd tL]
abbrev yqm:List OT:= [⟨false,tB,.fz⟩]
def yl6 (a0:List Int):Option (ResD yqm×MutD ygt) :=
  zjw (yq6 (((a0,()),((a0.length:Int),()),((),()),()),(),())) (fun y2 =>
    some ((true,()),())) (fun y2 =>
    some ((y2.1.1.1,()),()))
theorem yVa (x:InD ygt):zjH ⟨yqa,15,yA7⟩ Tryz.f228.results.toList ykm ygt yqm x=yl6 x.1:=by kernel_rfl
theorem yQk:ConOk Tryz.prog 228 ⟨ygt,yqm,fun x=>yl6 x.1⟩:=zkh (yMd) Tryz.func228 (by kernel_rfl) (by kernel_rfl) Tryz.ntmps228.symm (by decide) (fun x r h=>(yVa x).trans h)
def yaG (a0:List Int):Bool:=a0.all yai
theorem yTi (a0:List Int) (hk:zi9 ygt (a0,())):yl6 a0=(fun n=>some ((n,()),())) (yaG a0):=by
  have hb:a0.length * 8≤2 ^ 47:=hk.1.1
  have hl:yq6 (((a0,()),((a0.length:Int),()),((),()),()),(),())=some (bif a0.all yai then .inl ((),(),()) else .inr (((false,()),()),(),())) :=
    zjS (step:=ybQ) a0 0 (fun i=>(((a0,()),((a0.length:Int),()),((i:Int),()),()),(),())) yai _ _ (fun i hi=>by
      simp only [ybQ,ypY,zkO hi,zjW,zjI (show (i:Int) < a0.length by omega),cond_true,wr (show -9223372036854775808≤(i:Int)+1 by omega) (by omega),Int.natCast_add,Int.natCast_one]
      cases yai (a0.getD i 0)<;>rfl) (by simp only [ybQ,ypY,zkm (Int.le_refl _),cond_false]) _ (by show _ < 18446744073709551616; omega)
  unfold yl6 yaG
  rw [hl]
  cases a0.all yai<;>rfl
def ys5:Con:=⟨ygt,yqm,fun x=>(fun n=>some ((n,()),())) (yaG x.1)⟩
theorem yEB:ConOk Tryz.prog 228 ys5:=(yQk).mono (fun x r hk h=>(yTi x.1 hk).trans h)
end
section
def yHg:Code:=(Tryz.f144.body).getD .skip
def yHJ:Env:=zki TT [(228,ys5)] []
theorem yOA:FrOk Tryz.prog ⟨yHJ,15,fun _=>none⟩ yHg:=zkp yc yd ⟨yEB,trivial⟩
def yQ7:Nat→Option Seg:=fun _=>none
abbrev ymu:List Par:= [.rd tG,.rd tL]
abbrev ysd:List OT:= [⟨false,tB,.fz⟩]
def yvE (a0:dG) (a1:List Int):Option (ResD ysd×MutD ymu) :=
  bif ((a1.length:Int)==(IntKind.i64.wrap (a0.1 - 1))) then
    let r1:=yaG a1
    some ((r1,()),())
  else
    some ((false,()),())
theorem yXA (x:InD ymu):zjH ⟨yHJ,15,yQ7⟩ Tryz.f144.results.toList yHg ymu ysd x=yvE x.1 x.2.1:=by kernel_rfl
theorem yTz:ConOk Tryz.prog 144 ⟨ymu,ysd,fun x=>yvE x.1 x.2.1⟩:=zkh (yOA) Tryz.func144 (by kernel_rfl) (by kernel_rfl) Tryz.ntmps144.symm (by decide) (fun x r h=>(yXA x).trans h)
def ymZ (a0:dG) (a1:List Int):Bool :=
  bif ((a1.length:Int)==(IntKind.i64.wrap (a0.1 - 1))) then
    let r1:=yaG a1
    r1
  else
    false
def yEb:Con:=⟨ymu,ysd,fun x=>(fun n=>some ((n,()),())) (ymZ x.1 x.2.1)⟩
theorem yVC (a0:dG) (a1:List Int):yvE a0 a1=(fun n=>some ((n,()),())) (ymZ a0 a1):=zkS (p:=fun (n:Bool)=>((n,()),())) (zkx (p:=fun (n:Bool)=>((n,()),())) rfl rfl)
theorem yWC:ConOk Tryz.prog 144 yEb:=(yTz).mono (fun x r _ h=>(yVC x.1 x.2.1).trans h)
end
section
def ykl:Code:=(Tryz.f132.body).getD .skip
def yp9:Env:=zki TT [(116,ypt),(144,yEb)] []
theorem yL8:FrOk Tryz.prog ⟨yp9,44,fun _=>none⟩ ykl:=zkp yc yd ⟨yAm,yWC,trivial⟩
def yA4:Nat→Option Seg:=fun _=>none
def ybB:Shape:=⟨[(1,false,[.ptr 0 0]),(6,false,[.br tW]),(7,false,[.int .i64]),(8,false,[.int .i64])],[(0,[.int .i64,.int .i64,.int .i64,.br tM,.int .i64,.int .i64,.int .i64,.int .i64,.int .i64,.br tW,.int .i64,.bool,.bool])],[]⟩
def yfZ:Shape:=⟨[(1,false,[.ptr 0 0]),(6,false,[.br tW]),(7,false,[.int .i64]),(8,false,[.ci .i64 0])],[(0,[.int .i64,.int .i64,.int .i64,.br tM,.int .i64,.int .i64,.int .i64,.int .i64,.int .i64,.br tW,.int .i64,.bool,.bool])],[]⟩
def yfO:Shape:=⟨[],[],[]⟩
def yf6:Shape:=⟨[(2,false,[.bool])],[],[]⟩
abbrev ypF (v0:List dW) (v1:Int) (v2:Int) (v3:dA):(ybB).X:=((((),()),(v0,()),(v1,()),(v2,()),()),((v3.1,v3.2.1.1,v3.2.1.2,v3.2.2.1,v3.2.2.2.1,v3.2.2.2.2.1,v3.2.2.2.2.2.1,v3.2.2.2.2.2.2.1,v3.2.2.2.2.2.2.2.1,v3.2.2.2.2.2.2.2.2.1,v3.2.2.2.2.2.2.2.2.2.1,v3.2.2.2.2.2.2.2.2.2.2.1,v3.2.2.2.2.2.2.2.2.2.2.2,()),()),())
abbrev yKN (v0:List dW) (v1:Int) (v2:dA):(yfZ).X:=((((),()),(v0,()),(v1,()),((),()),()),((v2.1,v2.2.1.1,v2.2.1.2,v2.2.2.1,v2.2.2.2.1,v2.2.2.2.2.1,v2.2.2.2.2.2.1,v2.2.2.2.2.2.2.1,v2.2.2.2.2.2.2.2.1,v2.2.2.2.2.2.2.2.2.1,v2.2.2.2.2.2.2.2.2.2.1,v2.2.2.2.2.2.2.2.2.2.2.1,v2.2.2.2.2.2.2.2.2.2.2.2,()),()),())
abbrev yKF  :(yfO).X:=((),(),())
abbrev yKU (v0:Bool):(yf6).X:=(((v0,()),()),(),())
def ypX (v0:List dW) (v1:Int) (v2:Int) (v3:Int) (v4:Int) (v5:Int) (v6:List dM) (v7:Int) (v8:Int) (v9:Int) (v10:Int) (v11:Int) (v12:List dW) (v13:Int) (v14:Bool) (v15:Bool):Option ((ybB).X ⊕ ((yfO).X ⊕ (yf6).X)) :=
  bif (ltb v2 v1) then
    bif (inb v2 v0.length) then
      let r4:=ycl (v4,v5) ((nth v0 v2 (0,[])).1)
      bif (!(!r4)) then
        bif (ltb 0 v2) then
          bif (inb (IntKind.i64.wrap (v2 - 1)) v12.length) then
            bif (!(leb ((nth v0 v2 (0,[])).1) ((nth v12 (IntKind.i64.wrap (v2 - 1)) (0,[])).1))) then
              let r5:=ymZ (v4,v5) ((nth v0 v2 (0,[])).2)
              bif (!r5) then
                some (.inr (.inr (((false,()),()),(),())))
              else
                some (.inl ((((),()),(v0,()),(v1,()),((IntKind.i64.wrap (v2+1)),()),()),((v3,v4,v5,v6,v7,v8,v9,v10,v11,v12,v13,v14,v15,()),()),()))
            else
              some (.inr (.inr (((false,()),()),(),())))
          else none
        else
          let r6:=ymZ (v4,v5) ((nth v0 v2 (0,[])).2)
          bif (!r6) then
            some (.inr (.inr (((false,()),()),(),())))
          else
            some (.inl ((((),()),(v0,()),(v1,()),((IntKind.i64.wrap (v2+1)),()),()),((v3,v4,v5,v6,v7,v8,v9,v10,v11,v12,v13,v14,v15,()),()),()))
      else
        some (.inr (.inr (((false,()),()),(),())))
    else none
  else
    some (.inr (.inl ((),(),())))
def ybP (x:(ybB).X):=ypX x.1.2.1.1 x.1.2.2.1.1 x.1.2.2.2.1.1 x.2.1.1.1 x.2.1.1.2.1 x.2.1.1.2.2.1 x.2.1.1.2.2.2.1 x.2.1.1.2.2.2.2.1 x.2.1.1.2.2.2.2.2.1 x.2.1.1.2.2.2.2.2.2.1 x.2.1.1.2.2.2.2.2.2.2.1 x.2.1.1.2.2.2.2.2.2.2.2.1 x.2.1.1.2.2.2.2.2.2.2.2.2.1 x.2.1.1.2.2.2.2.2.2.2.2.2.2.1 x.2.1.1.2.2.2.2.2.2.2.2.2.2.2.1 x.2.1.1.2.2.2.2.2.2.2.2.2.2.2.2.1
def yx0 (x:(yfZ).X):(ybB).X:=((((),()),(x.1.2.1.1,()),(x.1.2.2.1.1,()),(0,()),()),((x.2.1.1.1,x.2.1.1.2.1,x.2.1.1.2.2.1,x.2.1.1.2.2.2.1,x.2.1.1.2.2.2.2.1,x.2.1.1.2.2.2.2.2.1,x.2.1.1.2.2.2.2.2.2.1,x.2.1.1.2.2.2.2.2.2.2.1,x.2.1.1.2.2.2.2.2.2.2.2.1,x.2.1.1.2.2.2.2.2.2.2.2.2.1,x.2.1.1.2.2.2.2.2.2.2.2.2.2.1,x.2.1.1.2.2.2.2.2.2.2.2.2.2.2.1,x.2.1.1.2.2.2.2.2.2.2.2.2.2.2.2.1,()),()),())
def yzy:Code:=(zdI ykl 64 52).getD .skip
theorem yLP:zdI ykl 64 13=some (.block 0 (.loop yzy)):=by kernel_rfl
theorem yNw (x:(ybB).X):zg7 ⟨yp9,44,yA4⟩ 0 yzy 52 ybB yfO yf6 x=ybP x:=by kernel_rfl
def yyf (x:(yfZ).X):Nat:=(fun (u0:List dW) (u1:Int) (u2:Int) (u3:Int) (u4:Int) (u5:List dM) (u6:Int) (u7:Int) (u8:Int) (u9:Int) (u10:Int) (u11:List dW) (u12:Int) (u13:Bool) (u14:Bool)=>18446744073709551616) x.1.2.1.1 x.1.2.2.1.1 x.2.1.1.1 x.2.1.1.2.1 x.2.1.1.2.2.1 x.2.1.1.2.2.2.1 x.2.1.1.2.2.2.2.1 x.2.1.1.2.2.2.2.2.1 x.2.1.1.2.2.2.2.2.2.1 x.2.1.1.2.2.2.2.2.2.2.1 x.2.1.1.2.2.2.2.2.2.2.2.1 x.2.1.1.2.2.2.2.2.2.2.2.2.1 x.2.1.1.2.2.2.2.2.2.2.2.2.2.1 x.2.1.1.2.2.2.2.2.2.2.2.2.2.2.1 x.2.1.1.2.2.2.2.2.2.2.2.2.2.2.2.1
def yq5 (x:(yfZ).X):Option ((yfO).X ⊕ (yf6).X):=zr ybP (yyf x) (yx0 x)
def yyF:Seg:=⟨yfZ,yfO,yf6,yq5⟩
def yA5:Nat→Option Seg:=fun q=>bif Nat.beq q 13 then some yyF else yA4 q
theorem yL9:FrOk Tryz.prog ⟨yp9,44,yA5⟩ ykl:=(yL8).loop (sg:=yyF) ybB yx0 (by decide) yLP ybP yyf (by decide) (fun _=>rfl) (fun x r _ h=>h) yNw
abbrev yeb:List Par:= [.rd tA]
abbrev ykV:List OT:= [⟨false,tB,.fz⟩]
def yl5 (a0:dA):Option (ResD ykV×MutD yeb) :=
  zjw (yq5 ((((),()),(a0.2.2.2.2.2.2.2.2.1,()),((a0.2.2.2.2.2.2.2.2.1.length:Int),()),((),()),()),((a0.1,a0.2.1.1,a0.2.1.2,a0.2.2.1,a0.2.2.2.1,a0.2.2.2.2.1,a0.2.2.2.2.2.1,a0.2.2.2.2.2.2.1,a0.2.2.2.2.2.2.2.1,a0.2.2.2.2.2.2.2.2.1,a0.2.2.2.2.2.2.2.2.2.1,a0.2.2.2.2.2.2.2.2.2.2.1,a0.2.2.2.2.2.2.2.2.2.2.2,()),()),())) (fun y6 =>
    some ((true,()),())) (fun y6 =>
    some ((y6.1.1.1,()),()))
theorem yU7 (x:InD yeb):zjH ⟨yp9,44,yA5⟩ Tryz.f132.results.toList ykl yeb ykV x=yl5 x.1:=by kernel_rfl
theorem yQh:ConOk Tryz.prog 132 ⟨yeb,ykV,fun x=>yl5 x.1⟩:=zkh (yL9) Tryz.func132 (by kernel_rfl) (by kernel_rfl) Tryz.ntmps132.symm (by decide) (fun x r h=>(yU7 x).trans h)
def ylc (a0:dA):Bool:=yaY a0.2.1 a0.2.2.2.2.2.2.2.2.1
def yw9 (a0:dA):Bool:=yf a0.2.1
theorem yS2 (l:List Int):yaG l=l.all isW:=by
  unfold yaG
  rw [show yai=isW from funext fun x=>by unfold yai; rw [yaw,ydj]; rfl]
theorem yTf (a0:dA) (hk:zi9 yeb (a0,())) (hq:yw9 a0=true):yl5 a0=(fun n=>some ((n,()),())) (ylc a0):=by
  have hb:a0.2.2.2.2.2.2.2.2.1.length * 32≤2 ^ 47:=hk.1.2.2.2.2.2.2.2.2.1.1
  have hg:=yk.1 hq
  have hq':yf a0.2.1=true:=hq
  have h1:yq5 (yKN a0.2.2.2.2.2.2.2.2.1 a0.2.2.2.2.2.2.2.2.1.length a0)=some (bif (List.range a0.2.2.2.2.2.2.2.2.1.length).any (yh7 a0.2.1 a0.2.2.2.2.2.2.2.2.1) then .inr (yKU false) else .inl yKF) :=
    zf4 (step:=ybP) (fun i=>ypF a0.2.2.2.2.2.2.2.2.1 a0.2.2.2.2.2.2.2.2.1.length i a0) a0.2.2.2.2.2.2.2.2.1.length (yh7 a0.2.1 a0.2.2.2.2.2.2.2.2.1) _ _ (fun i hi=>by
      simp only [ybP,ypF,ypX,zjI (show (i:Int) < a0.2.2.2.2.2.2.2.2.1.length by omega),cond_true,wr (show -9223372036854775808≤(i:Int)+1 by omega) (by omega),Int.natCast_add,Int.natCast_one,Int.toNat_natCast,zkO hi,zkV,ycl,ymZ,yS0,hq',yaw,ydj,yS2,wr (show -9223372036854775808≤a0.2.1.2 - 1 by omega) (by omega),wr (show -9223372036854775808≤a0.2.1.1 - 1 by omega) (by omega),yh7,bne]
      rcases Nat.eq_zero_or_pos i with rfl | h0
      · cases (leb 0 (nth a0.2.2.2.2.2.2.2.2.1 ((0:Nat):Int) (0,[])).1&&leb (nth a0.2.2.2.2.2.2.2.2.1 ((0:Nat):Int) (0,[])).1 (a0.2.1.2 - 1))<;>cases (((nth a0.2.2.2.2.2.2.2.2.1 ((0:Nat):Int) (0,[])).2.length:Int)==a0.2.1.1 - 1)<;>cases ((nth a0.2.2.2.2.2.2.2.2.1 ((0:Nat):Int) (0,[])).2.all isW)<;>rfl
      · rw [show IntKind.i64.wrap ((i:Int) - 1)=((i - 1:Nat):Int) by rw [wr (by omega) (by omega)]; omega,zkO (show i - 1 < a0.2.2.2.2.2.2.2.2.1.length by omega),zjI (show (0:Int) < i by omega),decide_eq_true h0]
        cases (leb 0 (nth a0.2.2.2.2.2.2.2.2.1 (i:Int) (0,[])).1&&leb (nth a0.2.2.2.2.2.2.2.2.1 (i:Int) (0,[])).1 (a0.2.1.2 - 1))<;>cases (((nth a0.2.2.2.2.2.2.2.2.1 (i:Int) (0,[])).2.length:Int)==a0.2.1.1 - 1)<;>cases ((nth a0.2.2.2.2.2.2.2.2.1 (i:Int) (0,[])).2.all isW)<;>cases leb (nth a0.2.2.2.2.2.2.2.2.1 (i:Int) (0,[])).1 (nth a0.2.2.2.2.2.2.2.2.1 ((i - 1:Nat):Int) (0,[])).1<;>rfl) (by simp only [ybP,ypF,ypX,zkm (Int.le_refl _),cond_false]) _ (by show _ < 18446744073709551616; omega)
  unfold yl5 ylc yaY
  rw [h1]
  cases (List.range a0.2.2.2.2.2.2.2.2.1.length).any (yh7 a0.2.1 a0.2.2.2.2.2.2.2.2.1)<;>rfl
def yqD (a0:dA):Option (ResD ykV×MutD yeb):=bif yw9 a0 then (fun n=>some ((n,()),())) (ylc a0) else none
theorem yUi (a0:dA) (h:yw9 a0=true):yqD a0=(fun n=>some ((n,()),())) (ylc a0):=by unfold yqD; rw [h]; rfl
def yBI:Con:=⟨yeb,ykV,fun x=>yqD x.1⟩
theorem yT9:ConOk Tryz.prog 132 yBI:=(yQh).mono (fun x r hk h=>zkW h (fun hq=>yTf x.1 hk hq))
end
section
def yHi:Code:=(Tryz.f220.body).getD .skip
def yHL:Env:=zki TT [(126,yJ)] []
theorem yOC:FrOk Tryz.prog ⟨yHL,11,fun _=>none⟩ yHi:=zkp yc yd ⟨yaa,trivial⟩
def yQ9:Nat→Option Seg:=fun _=>none
abbrev ymw:List Par:= [.rd tM,.rd tI]
abbrev ysf:List OT:= [⟨false,tB,.fz⟩]
def yvG (a0:dM) (a1:Int):Option (ResD ysf×MutD ymw) :=
  let r1:=yh a1 0 (IntKind.i64.wrap ((a0.1.length:Int) - 1))
  some ((r1,()),())
theorem yXC (x:InD ymw):zjH ⟨yHL,11,yQ9⟩ Tryz.f220.results.toList yHi ymw ysf x=yvG x.1 x.2.1:=by kernel_rfl
theorem yTB:ConOk Tryz.prog 220 ⟨ymw,ysf,fun x=>yvG x.1 x.2.1⟩:=zkh (yOC) Tryz.func220 (by kernel_rfl) (by kernel_rfl) Tryz.ntmps220.symm (by decide) (fun x r h=>(yXC x).trans h)
def ybj (a0:dM) (a1:Int):Bool :=
  let r1:=yh a1 0 (IntKind.i64.wrap ((a0.1.length:Int) - 1))
  r1
def yoh:Con:=⟨ymw,ysf,fun x=>(fun n=>some ((n,()),())) (ybj x.1 x.2.1)⟩
theorem yVE (a0:dM) (a1:Int):yvG a0 a1=(fun n=>some ((n,()),())) (ybj a0 a1):=zkS (p:=fun (n:Bool)=>((n,()),())) rfl
theorem yw3:ConOk Tryz.prog 220 yoh:=(yTB).mono (fun x r _ h=>(yVE x.1 x.2.1).trans h)
end
section
def yI5:Code:=(Tryz.f221.body).getD .skip
def yJu:Env:=zki TT [(228,ys5)] []
theorem ySl:FrOk Tryz.prog ⟨yJu,10,fun _=>none⟩ yI5:=zkp yc yd ⟨yEB,trivial⟩
def yUK:Nat→Option Seg:=fun _=>none
abbrev yo8:List Par:= [.rd tL]
abbrev yuF:List OT:= [⟨false,tB,.fz⟩]
def yxf (a0:List Int):Option (ResD yuF×MutD yo8) :=
  bif (leb (a0.length:Int) 12) then
    let r1:=yaG a0
    some ((r1,()),())
  else
    some ((false,()),())
theorem yY7 (x:InD yo8):zjH ⟨yJu,10,yUK⟩ Tryz.f221.results.toList yI5 yo8 yuF x=yxf x.1:=by kernel_rfl
theorem yV8:ConOk Tryz.prog 221 ⟨yo8,yuF,fun x=>yxf x.1⟩:=zkh (ySl) Tryz.func221 (by kernel_rfl) (by kernel_rfl) Tryz.ntmps221.symm (by decide) (fun x r h=>(yY7 x).trans h)
def yhx (a0:List Int):Bool :=
  bif (leb (a0.length:Int) 12) then
    let r1:=yaG a0
    r1
  else
    false
def ywP:Con:=⟨yo8,yuF,fun x=>(fun n=>some ((n,()),())) (yhx x.1)⟩
theorem yYg (a0:List Int):yxf a0=(fun n=>some ((n,()),())) (yhx a0):=zkS (p:=fun (n:Bool)=>((n,()),())) (zkx (p:=fun (n:Bool)=>((n,()),())) rfl rfl)
theorem yH8:ConOk Tryz.prog 221 ywP:=(yV8).mono (fun x r _ h=>(yYg x.1).trans h)
theorem yER:yhx=yaf:=funext fun s=>by
  unfold yhx yaf yaG
  rw [show yai=isW from funext fun x=>by unfold yai; rw [yaw,ydj]; rfl]
  cases leb (s.length:Int) 12<;>rfl
end
section
def ya4:Code:=(Tryz.f133.body).getD .skip
def yeC:Env:=zki TT [(126,yJ),(220,yoh),(221,ywP)] []
theorem ySh:FrOk Tryz.prog ⟨yeC,76,fun _=>none⟩ ya4:=zkp yc yd ⟨yaa,yw3,yH8,trivial⟩
def yFg:Nat→Option Seg:=fun _=>none
def yc3:Shape:=⟨[(1,false,[.ptr 0 0]),(10,false,[.br tL]),(11,false,[.int .i64]),(12,false,[.int .i64])],[(0,[.br tL,.br tW,.bool,.br tI])],[]⟩
def yiI:Shape:=⟨[(1,false,[.ptr 0 0]),(10,false,[.br tL]),(11,false,[.int .i64]),(12,false,[.ci .i64 0])],[(0,[.br tL,.br tW,.bool,.br tI])],[]⟩
def yit:Shape:=⟨[(1,false,[.ptr 0 0])],[(0,[.br tL,.br tW,.bool,.br tI])],[]⟩
def yi7:Shape:=⟨[(2,false,[.bool])],[],[]⟩
abbrev ytf (v0:List (List Int)) (v1:Int) (v2:Int) (v3:dM):(yc3).X:=((((),()),(v0,()),(v1,()),(v2,()),()),((v3.1,v3.2.1,v3.2.2.1,v3.2.2.2,()),()),())
abbrev yPx (v0:List (List Int)) (v1:Int) (v2:dM):(yiI).X:=((((),()),(v0,()),(v1,()),((),()),()),((v2.1,v2.2.1,v2.2.2.1,v2.2.2.2,()),()),())
abbrev yPo (v0:dM):(yit).X:=((((),()),()),((v0.1,v0.2.1,v0.2.2.1,v0.2.2.2,()),()),())
abbrev yPL (v0:Bool):(yi7).X:=(((v0,()),()),(),())
def ytE (v0:List (List Int)) (v1:Int) (v2:Int) (v3:List (List Int)) (v4:List dW) (v5:Bool) (v6:List Int):Option ((yc3).X ⊕ ((yit).X ⊕ (yi7).X)) :=
  bif (ltb v2 v1) then
    bif (inb v2 v0.length) then
      let r2:=yhx (nth v0 v2 [])
      bif (!r2) then
        some (.inr (.inr (((false,()),()),(),())))
      else
        some (.inl ((((),()),(v0,()),(v1,()),((IntKind.i64.wrap (v2+1)),()),()),((v3,v4,v5,v6,()),()),()))
    else none
  else
    some (.inr (.inl ((((),()),()),((v3,v4,v5,v6,()),()),())))
def ydA (x:(yc3).X):=ytE x.1.2.1.1 x.1.2.2.1.1 x.1.2.2.2.1.1 x.2.1.1.1 x.2.1.1.2.1 x.2.1.1.2.2.1 x.2.1.1.2.2.2.1
def yBU (x:(yiI).X):(yc3).X:=((((),()),(x.1.2.1.1,()),(x.1.2.2.1.1,()),(0,()),()),((x.2.1.1.1,x.2.1.1.2.1,x.2.1.1.2.2.1,x.2.1.1.2.2.2.1,()),()),())
def yDV:Code:=(zdI ya4 64 52).getD .skip
theorem yRw:zdI ya4 64 13=some (.block 0 (.loop yDV)):=by kernel_rfl
theorem yUn (x:(yc3).X):zg7 ⟨yeC,76,yFg⟩ 0 yDV 52 yc3 yit yi7 x=ydA x:=by kernel_rfl
def yCa (x:(yiI).X):Nat:=(fun (u0:List (List Int)) (u1:Int) (u2:List (List Int)) (u3:List dW) (u4:Bool) (u5:List Int)=>18446744073709551616) x.1.2.1.1 x.1.2.2.1.1 x.2.1.1.1 x.2.1.1.2.1 x.2.1.1.2.2.1 x.2.1.1.2.2.2.1
def yum (x:(yiI).X):Option ((yit).X ⊕ (yi7).X):=zr ydA (yCa x) (yBU x)
def yCM:Seg:=⟨yiI,yit,yi7,yum⟩
def ywH:Nat→Option Seg:=fun q=>bif Nat.beq q 13 then some yCM else yFg q
theorem ySi:FrOk Tryz.prog ⟨yeC,76,ywH⟩ ya4:=(ySh).loop (sg:=yCM) yc3 yBU (by decide) yRw ydA yCa (by decide) (fun _=>rfl) (fun x r _ h=>h) yUn
def yc4:Shape:=⟨[(1,false,[.ptr 0 0]),(21,false,[.br tW]),(22,false,[.int .i64]),(23,false,[.int .i64])],[(0,[.br tL,.br tW,.bool,.br tI])],[]⟩
def yiJ:Shape:=⟨[(1,false,[.ptr 0 0]),(21,false,[.br tW]),(22,false,[.int .i64]),(23,false,[.ci .i64 0])],[(0,[.br tL,.br tW,.bool,.br tI])],[]⟩
def yiu:Shape:=⟨[(1,false,[.ptr 0 0])],[(0,[.br tL,.br tW,.bool,.br tI])],[]⟩
def yi8:Shape:=⟨[(2,false,[.bool])],[],[]⟩
abbrev ytg (v0:List dW) (v1:Int) (v2:Int) (v3:dM):(yc4).X:=((((),()),(v0,()),(v1,()),(v2,()),()),((v3.1,v3.2.1,v3.2.2.1,v3.2.2.2,()),()),())
abbrev yPy (v0:List dW) (v1:Int) (v2:dM):(yiJ).X:=((((),()),(v0,()),(v1,()),((),()),()),((v2.1,v2.2.1,v2.2.2.1,v2.2.2.2,()),()),())
abbrev yPp (v0:dM):(yiu).X:=((((),()),()),((v0.1,v0.2.1,v0.2.2.1,v0.2.2.2,()),()),())
abbrev yPM (v0:Bool):(yi8).X:=(((v0,()),()),(),())
def ytF (v0:List dW) (v1:Int) (v2:Int) (v3:List (List Int)) (v4:List dW) (v5:Bool) (v6:List Int):Option ((yc4).X ⊕ ((yiu).X ⊕ (yi8).X)) :=
  bif (ltb v2 v1) then
    bif (inb v2 v0.length) then
      let r6:=ybj (v3,v4,v5,v6) ((nth v0 v2 (0,[])).1)
      bif (!(!r6)) then
        let r7:=yhx ((nth v0 v2 (0,[])).2)
        bif (!r7) then
          some (.inr (.inr (((false,()),()),(),())))
        else
          some (.inl ((((),()),(v0,()),(v1,()),((IntKind.i64.wrap (v2+1)),()),()),((v3,v4,v5,v6,()),()),()))
      else
        some (.inr (.inr (((false,()),()),(),())))
    else none
  else
    some (.inr (.inl ((((),()),()),((v3,v4,v5,v6,()),()),())))
def ydB (x:(yc4).X):=ytF x.1.2.1.1 x.1.2.2.1.1 x.1.2.2.2.1.1 x.2.1.1.1 x.2.1.1.2.1 x.2.1.1.2.2.1 x.2.1.1.2.2.2.1
def yBV (x:(yiJ).X):(yc4).X:=((((),()),(x.1.2.1.1,()),(x.1.2.2.1.1,()),(0,()),()),((x.2.1.1.1,x.2.1.1.2.1,x.2.1.1.2.2.1,x.2.1.1.2.2.2.1,()),()),())
def yDW:Code:=(zdI ya4 64 116).getD .skip
theorem yRx:zdI ya4 64 29=some (.block 2 (.loop yDW)):=by kernel_rfl
theorem yUo (x:(yc4).X):zg7 ⟨yeC,76,ywH⟩ 2 yDW 116 yc4 yiu yi8 x=ydB x:=by kernel_rfl
def yCb (x:(yiJ).X):Nat:=(fun (u0:List dW) (u1:Int) (u2:List (List Int)) (u3:List dW) (u4:Bool) (u5:List Int)=>18446744073709551616) x.1.2.1.1 x.1.2.2.1.1 x.2.1.1.1 x.2.1.1.2.1 x.2.1.1.2.2.1 x.2.1.1.2.2.2.1
def yun (x:(yiJ).X):Option ((yiu).X ⊕ (yi8).X):=zr ydB (yCb x) (yBV x)
def yCN:Seg:=⟨yiJ,yiu,yi8,yun⟩
def ywI:Nat→Option Seg:=fun q=>bif Nat.beq q 29 then some yCN else ywH q
theorem ySj:FrOk Tryz.prog ⟨yeC,76,ywI⟩ ya4:=(ySi).loop (sg:=yCN) yc4 yBV (by decide) yRx ydB yCb (by decide) (fun _=>rfl) (fun x r _ h=>h) yUo
def yc5:Shape:=⟨[(1,false,[.ptr 0 0]),(40,false,[.br tI]),(41,false,[.int .i64]),(42,false,[.int .i64])],[(0,[.br tL,.br tW,.bool,.br tI])],[]⟩
def yiK:Shape:=⟨[(1,false,[.ptr 0 0]),(40,false,[.br tI]),(41,false,[.int .i64]),(42,false,[.ci .i64 0])],[(0,[.br tL,.br tW,.bool,.br tI])],[]⟩
def yiv:Shape:=⟨[(1,false,[.ptr 0 0])],[(0,[.br tL,.br tW,.bool,.br tI])],[]⟩
def yi9:Shape:=⟨[(2,false,[.bool])],[],[]⟩
abbrev yth (v0:List Int) (v1:Int) (v2:Int) (v3:dM):(yc5).X:=((((),()),(v0,()),(v1,()),(v2,()),()),((v3.1,v3.2.1,v3.2.2.1,v3.2.2.2,()),()),())
abbrev yPz (v0:List Int) (v1:Int) (v2:dM):(yiK).X:=((((),()),(v0,()),(v1,()),((),()),()),((v2.1,v2.2.1,v2.2.2.1,v2.2.2.2,()),()),())
abbrev yPq (v0:dM):(yiv).X:=((((),()),()),((v0.1,v0.2.1,v0.2.2.1,v0.2.2.2,()),()),())
abbrev yPN (v0:Bool):(yi9).X:=(((v0,()),()),(),())
def ytG (v0:List Int) (v1:Int) (v2:Int) (v3:List (List Int)) (v4:List dW) (v5:Bool) (v6:List Int):Option ((yc5).X ⊕ ((yiv).X ⊕ (yi9).X)) :=
  bif (ltb v2 v1) then
    bif (inb v2 v0.length) then
      let r10:=ybj (v3,v4,v5,v6) (nth v0 v2 0)
      bif (!(!r10)) then
        bif (ltb 0 v2) then
          bif (inb (IntKind.i64.wrap (v2 - 1)) v6.length) then
            bif (leb (nth v0 v2 0) (nth v6 (IntKind.i64.wrap (v2 - 1)) 0)) then
              some (.inr (.inr (((false,()),()),(),())))
            else
              some (.inl ((((),()),(v0,()),(v1,()),((IntKind.i64.wrap (v2+1)),()),()),((v3,v4,v5,v6,()),()),()))
          else none
        else
          some (.inl ((((),()),(v0,()),(v1,()),((IntKind.i64.wrap (v2+1)),()),()),((v3,v4,v5,v6,()),()),()))
      else
        some (.inr (.inr (((false,()),()),(),())))
    else none
  else
    some (.inr (.inl ((((),()),()),((v3,v4,v5,v6,()),()),())))
def ydC (x:(yc5).X):=ytG x.1.2.1.1 x.1.2.2.1.1 x.1.2.2.2.1.1 x.2.1.1.1 x.2.1.1.2.1 x.2.1.1.2.2.1 x.2.1.1.2.2.2.1
def yBW (x:(yiK).X):(yc5).X:=((((),()),(x.1.2.1.1,()),(x.1.2.2.1.1,()),(0,()),()),((x.2.1.1.1,x.2.1.1.2.1,x.2.1.1.2.2.1,x.2.1.1.2.2.2.1,()),()),())
def yDX:Code:=(zdI ya4 64 244).getD .skip
theorem yRy:zdI ya4 64 61=some (.block 4 (.loop yDX)):=by kernel_rfl
theorem yUp (x:(yc5).X):zg7 ⟨yeC,76,ywI⟩ 4 yDX 244 yc5 yiv yi9 x=ydC x:=by kernel_rfl
def yCc (x:(yiK).X):Nat:=(fun (u0:List Int) (u1:Int) (u2:List (List Int)) (u3:List dW) (u4:Bool) (u5:List Int)=>18446744073709551616) x.1.2.1.1 x.1.2.2.1.1 x.2.1.1.1 x.2.1.1.2.1 x.2.1.1.2.2.1 x.2.1.1.2.2.2.1
def yuo (x:(yiK).X):Option ((yiv).X ⊕ (yi9).X):=zr ydC (yCc x) (yBW x)
def yCO:Seg:=⟨yiK,yiv,yi9,yuo⟩
def yFh:Nat→Option Seg:=fun q=>bif Nat.beq q 61 then some yCO else ywI q
theorem ySk:FrOk Tryz.prog ⟨yeC,76,yFh⟩ ya4:=(ySj).loop (sg:=yCO) yc5 yBW (by decide) yRy ydC yCc (by decide) (fun _=>rfl) (fun x r _ h=>h) yUp
abbrev ykw:List Par:= [.rd tM]
abbrev yuE:List OT:= [⟨false,tB,.fz⟩]
def yqL (a0:dM):Option (ResD yuE×MutD ykw) :=
  zjw (yum ((((),()),(a0.1,()),((a0.1.length:Int),()),((),()),()),((a0.1,a0.2.1,a0.2.2.1,a0.2.2.2,()),()),())) (fun y2 =>
    zjw (yun ((((),()),(y2.2.1.1.2.1,()),((y2.2.1.1.2.1.length:Int),()),((),()),()),((y2.2.1.1.1,y2.2.1.1.2.1,y2.2.1.1.2.2.1,y2.2.1.1.2.2.2.1,()),()),())) (fun y7 =>
      zjw (yuo ((((),()),(y7.2.1.1.2.2.2.1,()),((y7.2.1.1.2.2.2.1.length:Int),()),((),()),()),((y7.2.1.1.1,y7.2.1.1.2.1,y7.2.1.1.2.2.1,y7.2.1.1.2.2.2.1,()),()),())) (fun y10 =>
        let r12:=yh (y10.2.1.1.1.length:Int) 1 20
        bif r12 then
          some (((leb (y10.2.1.1.2.1.length:Int) 60),()),())
        else
          some ((false,()),())) (fun y10 =>
        some ((y10.1.1.1,()),()))) (fun y7 =>
      some ((y7.1.1.1,()),()))) (fun y2 =>
    some ((y2.1.1.1,()),()))
theorem yY6 (x:InD ykw):zjH ⟨yeC,76,yFh⟩ Tryz.f133.results.toList ya4 ykw yuE x=yqL x.1:=by kernel_rfl
theorem yV7:ConOk Tryz.prog 133 ⟨ykw,yuE,fun x=>yqL x.1⟩:=zkh (ySk) Tryz.func133 (by kernel_rfl) (by kernel_rfl) Tryz.ntmps133.symm (by decide) (fun x r h=>(yY6 x).trans h)
def ybh (a0:dM):Bool:=yp a0
theorem yYf (a0:dM) (hk:zi9 ykw (a0,())):yqL a0=(fun n=>some ((n,()),())) (ybh a0):=by
  have hb1:a0.1.length * 24≤2 ^ 47:=hk.1.1.1
  have hb2:a0.2.1.length * 32≤2 ^ 47:=hk.1.2.1.1
  have hb3:a0.2.2.2.length * 8≤2 ^ 47:=hk.1.2.2.2.1
  have h1:yum (yPx a0.1 a0.1.length a0)=some (bif a0.1.all yaf then .inl (yPo a0) else .inr (yPL false)) :=
    zjS (step:=ydA) a0.1 [] (fun i=>ytf a0.1 a0.1.length i a0) yaf _ _ (fun i hi=>by
      simp only [ydA,ytf,ytE,zjI (show (i:Int) < a0.1.length by omega),cond_true,wr (show -9223372036854775808≤(i:Int)+1 by omega) (by omega),Int.natCast_add,Int.natCast_one,Int.toNat_natCast,zkO hi,zjW,yER]
      cases yaf (a0.1.getD i [])<;>rfl) (by simp only [ydA,ytf,ytE,zkm (Int.le_refl _),cond_false]) _ (by show _ < 18446744073709551616; omega)
  have h2:yun (yPy a0.2.1 a0.2.1.length a0)=some (bif a0.2.1.all (yvZ a0.1.length) then .inl (yPp a0) else .inr (yPM false)) :=
    zjS (step:=ydB) a0.2.1 (0,[]) (fun i=>ytg a0.2.1 a0.2.1.length i a0) (yvZ a0.1.length) _ _ (fun i hi=>by
      simp only [ydB,ytg,ytF,zjI (show (i:Int) < a0.2.1.length by omega),cond_true,wr (show -9223372036854775808≤(i:Int)+1 by omega) (by omega),Int.natCast_add,Int.natCast_one,Int.toNat_natCast,zkO hi,zjW,yER,ybj,yaw,ypz (show a0.1.length≤1152921504606846976 by omega),yvZ]
      cases inb (a0.2.1.getD i (0,[])).1 a0.1.length<;>cases yaf (a0.2.1.getD i (0,[])).2<;>rfl) (by simp only [ydB,ytg,ytF,zkm (Int.le_refl _),cond_false]) _ (by show _ < 18446744073709551616; omega)
  have h3:yuo (yPz a0.2.2.2 a0.2.2.2.length a0)=some (bif (List.range a0.2.2.2.length).any (yDR a0.1.length a0.2.2.2) then .inr (yPN false) else .inl (yPq a0)) :=
    zf4 (step:=ydC) (fun i=>yth a0.2.2.2 a0.2.2.2.length i a0) a0.2.2.2.length (yDR a0.1.length a0.2.2.2) _ _ (fun i hi=>by
      simp only [ydC,yth,ytG,zjI (show (i:Int) < a0.2.2.2.length by omega),cond_true,wr (show -9223372036854775808≤(i:Int)+1 by omega) (by omega),Int.natCast_add,Int.natCast_one,Int.toNat_natCast,zkO hi,zjW,ybj,yaw,ypz (show a0.1.length≤1152921504606846976 by omega),yDR]
      rcases Nat.eq_zero_or_pos i with rfl | h0
      · cases inb (a0.2.2.2.getD 0 0) a0.1.length<;>rfl
      · rw [show IntKind.i64.wrap ((i:Int) - 1)=((i - 1:Nat):Int) by rw [wr (by omega) (by omega)]; omega,zkO (show i - 1 < a0.2.2.2.length by omega),zjW,zjI (show (0:Int) < i by omega),decide_eq_true h0]
        cases inb (a0.2.2.2.getD i 0) a0.1.length<;>cases leb (a0.2.2.2.getD i 0) (a0.2.2.2.getD (i - 1) 0)<;>rfl) (by simp only [ydC,yth,ytG,zkm (Int.le_refl _),cond_false]) _ (by show _ < 18446744073709551616; omega)
  unfold yqL ybh yp
  rw [h1]
  cases a0.1.all yaf
  · rfl
  simp only [cond_true,zkJ,h2]
  cases a0.2.1.all (yvZ a0.1.length)
  · rfl
  simp only [cond_true,zkJ,h3,yW4,yaw,ydj]
  cases yqw a0.1.length a0.2.2.2
  · rfl
  simp only [Bool.not_true,cond_false,zkJ]
  cases leb 1 (a0.1.length:Int)<;>cases leb (a0.1.length:Int) 20<;>rfl
def yk6:Con:=⟨ykw,yuE,fun x=>(fun n=>some ((n,()),())) (ybh x.1)⟩
theorem ysM:ConOk Tryz.prog 133 yk6:=(yV7).mono (fun x r hk h=>(yYf x.1 hk).trans h)
end
end
end Go.Tf
