/- Functions of the program, and what they come to. -/
import Derived.Test.YtgmadfpnljibhaaWordsF14
namespace Go.Tf
noncomputable section
open Go.Proofs
set_option synthInstance.maxHeartbeats 400000
set_option synthInstance.maxSize 10000
set_option linter.unusedVariables false
set_option linter.unusedSimpArgs false
set_option maxRecDepth 100000
section
def yp6:Code:=(Try.f38.body).getD .skip
def yp9:Env:=zki TT [(11,ykX),(39,yD)] []
theorem ywS:FrOk Try.prog ⟨yp9,20,fun _=>none⟩ yp6:=zkp yc yd ⟨yqV,yS,trivial⟩
def yxb:Nat→Option Seg:=fun _=>none
abbrev ybd:List Par:= [.rd tL,.rd tI]
abbrev yfF:List OT:= [⟨false,tI,.fz⟩]
def ydN (a0:List Int) (a1:Int):Option (ResD yfF×MutD ybd) :=
  let r1:=ybV a0
  let r2:=yi a1 0 (IntKind.i64.wrap ((a0.length:Int) - 1))
  bif r2 then
    bif (inb a1 a0.length) then
      some (((IntKind.i64.wrap ((BitVec.ofInt IntKind.i64.bits r1 ^^^ BitVec.ofInt IntKind.i64.bits (nth a0 a1 0)).toNat:Int)),()),())
    else none
  else
    some ((r1,()),())
theorem yzo (x:InD ybd):zjH ⟨yp9,20,yxb⟩ Try.f38.results.toList yp6 ybd yfF x=ydN x.1 x.2.1:=by kernel_rfl
theorem yxz:ConOk Try.prog 38 ⟨ybd,yfF,fun x=>ydN x.1 x.2.1⟩:=zkh (ywS) Try.func38 (by kernel_rfl) (by kernel_rfl) Try.ntmps38.symm (by decide) (fun x r h=>(yzo x).trans h)
def ycU (a0:List Int) (a1:Int):Int:=yke a0 a1
theorem yyM (a0:List Int) (a1:Int) (hk:zi9 ybd (a0,a1,())):ydN a0 a1=(fun n=>some ((n,()),())) (ycU a0 a1):=by
  have hb:a0.length * 8≤2 ^ 47:=hk.1.1
  unfold ydN ycU yke ybV
  rw [yaj,yl3 (show a0.length≤1152921504606846976 by omega)]
  cases inb a1 a0.length<;>rfl
def yoI:Con:=⟨ybd,yfF,fun x=>(fun n=>some ((n,()),())) (ycU x.1 x.2.1)⟩
theorem yyR:ConOk Try.prog 38 yoI:=(yxz).mono (fun x r hk h=>(yyM x.1 x.2.1 hk).trans h)
end
section
def yjS:Code:=(Try.f8.body).getD .skip
def yn2:Env:=zki TT [(15,ykW),(36,ybl),(37,yoK),(38,yoI)] []
theorem yFJ:FrOk Try.prog ⟨yn2,62,fun _=>none⟩ yjS:=zkp yc yd ⟨yqU,ydH,yw3,yyR,trivial⟩
def yv7:Nat→Option Seg:=fun _=>none
def ya1:Shape:=⟨[(1,false,[.int .i64]),(2,false,[.ptr 0 0]),(6,false,[.at 800000000]),(7,false,[.int .i64]),(28,false,[.int .i64]),(29,false,[.int .i64])],[(0,[.int .i64,.int .i64,.int .i64,.br tM,.int .i64,.int .i64,.int .i64,.int .i64,.int .i64,.br tW,.int .i64,.bool,.bool])],[(800000000,tI,.fz)]⟩
def yes:Shape:=⟨[(1,false,[.int .i64]),(2,false,[.ptr 0 0]),(6,false,[.at 800000000]),(7,false,[.ci .i64 (-1)]),(28,false,[.int .i64]),(29,false,[.ci .i64 0])],[(0,[.int .i64,.int .i64,.int .i64,.br tM,.int .i64,.int .i64,.int .i64,.int .i64,.int .i64,.br tW,.int .i64,.bool,.bool])],[(800000000,tI,.fz)]⟩
def yeh:Shape:=⟨[(6,false,[.at 800000000]),(7,false,[.int .i64])],[],[(800000000,tI,.fz)]⟩
def yeC:Shape:=⟨[(4,false,[.nil]),(5,false,[.bool])],[],[]⟩
abbrev ylA (v0:Int) (v1:Int) (v2:Int) (v3:Int) (v4:dA) (v5:List Int):(ya1).X:=(((v0,()),((),()),((),()),(v1,()),(v2,()),(v3,()),()),((v4.1,v4.2.1.1,v4.2.1.2,v4.2.2.1,v4.2.2.2.1,v4.2.2.2.2.1,v4.2.2.2.2.2.1,v4.2.2.2.2.2.2.1,v4.2.2.2.2.2.2.2.1,v4.2.2.2.2.2.2.2.2.1,v4.2.2.2.2.2.2.2.2.2.1,v4.2.2.2.2.2.2.2.2.2.2.1,v4.2.2.2.2.2.2.2.2.2.2.2,()),()),(v5,()))
abbrev yBj (v0:Int) (v1:Int) (v2:dA) (v3:List Int):(yes).X:=(((v0,()),((),()),((),()),((),()),(v1,()),((),()),()),((v2.1,v2.2.1.1,v2.2.1.2,v2.2.2.1,v2.2.2.2.1,v2.2.2.2.2.1,v2.2.2.2.2.2.1,v2.2.2.2.2.2.2.1,v2.2.2.2.2.2.2.2.1,v2.2.2.2.2.2.2.2.2.1,v2.2.2.2.2.2.2.2.2.2.1,v2.2.2.2.2.2.2.2.2.2.2.1,v2.2.2.2.2.2.2.2.2.2.2.2,()),()),(v3,()))
abbrev yBd (v0:Int) (v1:List Int):(yeh).X:=((((),()),(v0,()),()),(),(v1,()))
abbrev yBs (v0:Bool):(yeC).X:=((((),()),(v0,()),()),(),())
def ylM (v0:Int) (v1:Int) (v2:Int) (v3:Int) (v4:Int) (v5:Int) (v6:Int) (v7:List dM) (v8:Int) (v9:Int) (v10:Int) (v11:Int) (v12:Int) (v13:List dW) (v14:Int) (v15:Bool) (v16:Bool) (v17:List Int):Option ((ya1).X ⊕ ((yeh).X ⊕ (yeC).X)) :=
  bif (ltb v3 v2) then
    bnd (yiR (v4,(v5,v6),v7,v8,v9,v10,v11,v12,v13,v14,v15,v16) v3 v0) fun r4 =>
    bif (!r4.1.2.1) then
      bif (leb 0 v1) then
        some (.inr (.inr ((((),()),(false,()),()),(),())))
      else
        bif (!r4.1.2.1) then
          bif (zj4 v17.length ([r4.1.1]:List Int).length 8) then
            some (.inl (((v0,()),((),()),((),()),(v3,()),(v2,()),((IntKind.i64.wrap (v3+1)),()),()),((v4,v5,v6,v7,v8,v9,v10,v11,v12,v13,v14,v15,v16,()),()),((v17++([r4.1.1]:List Int)),())))
          else none
        else
          bif (zj4 v17.length ([r4.1.1]:List Int).length 8) then
            some (.inl (((v0,()),((),()),((),()),(v1,()),(v2,()),((IntKind.i64.wrap (v3+1)),()),()),((v4,v5,v6,v7,v8,v9,v10,v11,v12,v13,v14,v15,v16,()),()),((v17++([r4.1.1]:List Int)),())))
          else none
    else
      bif (!r4.1.2.1) then
        bif (zj4 v17.length ([r4.1.1]:List Int).length 8) then
          some (.inl (((v0,()),((),()),((),()),(v3,()),(v2,()),((IntKind.i64.wrap (v3+1)),()),()),((v4,v5,v6,v7,v8,v9,v10,v11,v12,v13,v14,v15,v16,()),()),((v17++([r4.1.1]:List Int)),())))
        else none
      else
        bif (zj4 v17.length ([r4.1.1]:List Int).length 8) then
          some (.inl (((v0,()),((),()),((),()),(v1,()),(v2,()),((IntKind.i64.wrap (v3+1)),()),()),((v4,v5,v6,v7,v8,v9,v10,v11,v12,v13,v14,v15,v16,()),()),((v17++([r4.1.1]:List Int)),())))
        else none
  else
    some (.inr (.inl ((((),()),(v1,()),()),(),(v17,()))))
def ybr (x:(ya1).X):=ylM x.1.1.1 x.1.2.2.2.1.1 x.1.2.2.2.2.1.1 x.1.2.2.2.2.2.1.1 x.2.1.1.1 x.2.1.1.2.1 x.2.1.1.2.2.1 x.2.1.1.2.2.2.1 x.2.1.1.2.2.2.2.1 x.2.1.1.2.2.2.2.2.1 x.2.1.1.2.2.2.2.2.2.1 x.2.1.1.2.2.2.2.2.2.2.1 x.2.1.1.2.2.2.2.2.2.2.2.1 x.2.1.1.2.2.2.2.2.2.2.2.2.1 x.2.1.1.2.2.2.2.2.2.2.2.2.2.1 x.2.1.1.2.2.2.2.2.2.2.2.2.2.2.1 x.2.1.1.2.2.2.2.2.2.2.2.2.2.2.2.1 x.2.2.1
def yrs (x:(yes).X):(ya1).X:=(((x.1.1.1,()),((),()),((),()),((-1),()),(x.1.2.2.2.2.1.1,()),(0,()),()),((x.2.1.1.1,x.2.1.1.2.1,x.2.1.1.2.2.1,x.2.1.1.2.2.2.1,x.2.1.1.2.2.2.2.1,x.2.1.1.2.2.2.2.2.1,x.2.1.1.2.2.2.2.2.2.1,x.2.1.1.2.2.2.2.2.2.2.1,x.2.1.1.2.2.2.2.2.2.2.2.1,x.2.1.1.2.2.2.2.2.2.2.2.2.1,x.2.1.1.2.2.2.2.2.2.2.2.2.2.1,x.2.1.1.2.2.2.2.2.2.2.2.2.2.2.1,x.2.1.1.2.2.2.2.2.2.2.2.2.2.2.2.1,()),()),(x.2.2.1,()))
def ysB:Code:=(zdI yjS 64 500).getD .skip
theorem yCi:zdI yjS 64 125=some (.block 0 (.loop ysB)):=by kernel_rfl
theorem yEs (x:(ya1).X):zg7 ⟨yn2,62,yv7⟩ 0 ysB 500 ya1 yeh yeC x=ybr x:=by kernel_rfl
def yrD (x:(yes).X):Nat:=(fun (u0:Int) (u1:Int) (u2:Int) (u3:Int) (u4:Int) (u5:List dM) (u6:Int) (u7:Int) (u8:Int) (u9:Int) (u10:Int) (u11:List dW) (u12:Int) (u13:Bool) (u14:Bool) (u15:List Int)=>18446744073709551616) x.1.1.1 x.1.2.2.2.2.1.1 x.2.1.1.1 x.2.1.1.2.1 x.2.1.1.2.2.1 x.2.1.1.2.2.2.1 x.2.1.1.2.2.2.2.1 x.2.1.1.2.2.2.2.2.1 x.2.1.1.2.2.2.2.2.2.1 x.2.1.1.2.2.2.2.2.2.2.1 x.2.1.1.2.2.2.2.2.2.2.2.1 x.2.1.1.2.2.2.2.2.2.2.2.2.1 x.2.1.1.2.2.2.2.2.2.2.2.2.2.1 x.2.1.1.2.2.2.2.2.2.2.2.2.2.2.1 x.2.1.1.2.2.2.2.2.2.2.2.2.2.2.2.1 x.2.2.1
def ymV (x:(yes).X):Option ((yeh).X ⊕ (yeC).X):=zr ybr (yrD x) (yrs x)
def yrT:Seg:=⟨yes,yeh,yeC,ymV⟩
def yv8:Nat→Option Seg:=fun q=>bif Nat.beq q 125 then some yrT else yv7 q
theorem yFK:FrOk Try.prog ⟨yn2,62,yv8⟩ yjS:=(yFJ).loop (sg:=yrT) ya1 yrs (by decide) yCi ybr yrD (by decide) (fun _=>rfl) (fun x r _ h=>h) yEs
abbrev ygM:List Par:= [.rd tA,.rd tI]
abbrev yot:List OT:= [⟨false,tL,(.ow .fz)⟩,⟨false,tB,.fz⟩]
def yk9 (a0:dA) (a1:Int):Option (ResD yot×MutD ygM) :=
  let r1:=ybT a0
  bif (!(!r1)) then
    bif (!a0.2.2.2.2.2.2.2.2.2.2.2) then
      let r2:=yF a0.2.1 a1
      bif (!r2) then
        some (([],false,()),())
      else
        zjw (ymV (((a1,()),((),()),((),()),((),()),((a0.2.2.1.length:Int),()),((),()),()),((a0.1,a0.2.1.1,a0.2.1.2,a0.2.2.1,a0.2.2.2.1,a0.2.2.2.2.1,a0.2.2.2.2.2.1,a0.2.2.2.2.2.2.1,a0.2.2.2.2.2.2.2.1,a0.2.2.2.2.2.2.2.2.1,a0.2.2.2.2.2.2.2.2.2.1,a0.2.2.2.2.2.2.2.2.2.2.1,a0.2.2.2.2.2.2.2.2.2.2.2,()),()),(([]:List Int),()))) (fun y4 =>
          bif (leb 0 y4.1.2.1.1) then
            let r6:=ycU y4.2.2.1 y4.1.2.1.1
            bif (inb y4.1.2.1.1 y4.2.2.1.length) then
              some (((y4.2.2.1.set (y4.1.2.1.1).toNat r6),true,()),())
            else none
          else
            some ((y4.2.2.1,true,()),())) (fun y4 =>
          some (([],y4.1.2.1.1,()),()))
    else
      some (([],false,()),())
  else
    some (([],false,()),())
theorem yLR (x:InD ygM):zjH ⟨yn2,62,yv8⟩ Try.f8.results.toList yjS ygM yot x=yk9 x.1 x.2.1:=by kernel_rfl
theorem yI6:ConOk Try.prog 8 ⟨ygM,yot,fun x=>yk9 x.1 x.2.1⟩:=zkh (yFK) Try.func8 (by kernel_rfl) (by kernel_rfl) Try.ntmps8.symm (by decide) (fun x r h=>(yLR x).trans h)
def ycV (a0:dA) (a1:Int):List Int×Bool:=bif yu a0&&(!a0.2.2.2.2.2.2.2.2.2.2.2&&yV a0.2.1 a1) then yv a0 a1 else ([],false)
theorem yK5 (a0:dA) (a1:Int) (hk:zi9 ygM (a0,a1,())):yk9 a0 a1=(fun n=>some ((n.1,n.2,()),())) (ycV a0 a1):=by
  unfold yk9 ycV ybT
  rw [yvJ]
  cases ha:yu a0
  · rfl
  have hg:=yk.1 (ycT ha)
  have hl:=yqb ha
  have h1:ymV (yBj a1 a0.2.2.1.length a0 [])=some (bif ycM (fun (i:Nat)=>yj a0 i a1) a0.2.1.1.toNat then .inr (yBs false) else .inl (yBd (yn (fun (i:Nat)=>yj a0 i a1) a0.2.1.1.toNat) (yz a0 a1 a0.2.1.1.toNat))) :=
    zf4 (step:=ybr) (fun i=>ylA a1 (yn (fun (i:Nat)=>yj a0 i a1) i) a0.2.2.1.length i a0 (yz a0 a1 i)) a0.2.1.1.toNat (fun i=> !yj a0 i a1&&leb 0 (yn (fun (i:Nat)=>yj a0 i a1) i)) _ _ (fun i hi=>by
      simp only [ybr,ylA,ylM,zjI (show (i:Int) < a0.2.2.1.length by omega),cond_true,wr (show -9223372036854775808≤(i:Int)+1 by omega) (by omega),Int.natCast_add,Int.natCast_one,Int.toNat_natCast,zkV,yw7 a0 i a1 (zkO (show i < a0.2.2.1.length by omega)),ye6,zky,yn]
      rw [zkw.2 (show ((yz a0 a1 i).length+ [ykB a0 i a1].length) * 8≤140737488355328 by simp only [List.length_cons,List.length_nil,yc2]; omega),yyC]
      cases yj a0 i a1<;>cases leb 0 (yn (fun (i:Nat)=>yj a0 i a1) i)<;>rfl) (by simp only [ybr,ylA,ylM,zkm (show (a0.2.2.1.length:Int)≤(a0.2.1.1.toNat:Int) by omega),cond_false]) _ (by show _ < 18446744073709551616; omega)
  rw [h1]
  cases a0.2.2.2.2.2.2.2.2.2.2.2
  · cases yV a0.2.1 a1
    · rfl
    · unfold yv
      cases ycM (fun (i:Nat)=>yj a0 i a1) a0.2.1.1.toNat
      · simp only [cond_false,zkJ,ycU]
        cases hm:leb 0 (yn (fun (i:Nat)=>yj a0 i a1) a0.2.1.1.toNat)
        · rfl
        · obtain ⟨h2,h3⟩:=yKb a0 a1 a0.2.1.1.toNat hm
          rw [h2,h3]; rfl
      · rfl
  · rfl
def ypE:Con:=⟨ygM,yot,fun x=>(fun n=>some ((n.1,n.2,()),())) (ycV x.1 x.2.1)⟩
theorem yyy:ConOk Try.prog 8 ypE:=(yI6).mono (fun x r hk h=>(yK5 x.1 x.2.1 hk).trans h)
end
section
def yt3:Code:=(Try.f12.body).getD .skip
def yuy:Env:=zki TT [(36,ybl)] []
theorem yzt:FrOk Try.prog ⟨yuy,17,fun _=>none⟩ yt3:=zkp yc yd ⟨ydH,trivial⟩
def yAq:Nat→Option Seg:=fun _=>none
abbrev yc3:List Par:= [.rd tG,.rd tI]
abbrev yjb:List OT:= [⟨false,tI,.fz⟩]
def ygr (a0:dG) (a1:Int):Option (ResD yjb×MutD yc3) :=
  let r1:=yF a0 a1
  bif (!r1) then
    some (((-1),()),())
  else
    bif (a0.1 !=0) then
      some (((IntKind.i64.wrap ((IntKind.i64.wrap (a0.1 - 1)) - (a1.tmod a0.1))),()),())
    else none
theorem yFo (x:InD yc3):zjH ⟨yuy,17,yAq⟩ Try.f12.results.toList yt3 yc3 yjb x=ygr x.1 x.2.1:=by kernel_rfl
theorem yBx:ConOk Try.prog 12 ⟨yc3,yjb,fun x=>ygr x.1 x.2.1⟩:=zkh (yzt) Try.func12 (by kernel_rfl) (by kernel_rfl) Try.ntmps12.symm (by decide) (fun x r h=>(yFo x).trans h)
def ybU (a0:dG) (a1:Int):Int:=yf a0 a1
theorem yDO (a0:dG) (a1:Int) (hk:zi9 yc3 (a0,a1,())):ygr a0 a1=(fun n=>some ((n,()),())) (ybU a0 a1):=by
  unfold ygr ybU
  rw [yvJ]
  cases hs:yV a0 a1
  · unfold yf; rw [hs]; rfl
  · have h1:=yX.1 hs
    have h2:=yk.1 h1.1
    have h3:=yf0 hs
    have h4:yf a0 a1=a0.1 - 1 - a1.tmod a0.1:=by unfold yf; rw [hs]; rfl
    rw [show (a0.1 !=0)=true from bne_iff_ne.2 (by omega),wr (show -9223372036854775808≤a0.1 - 1 by omega) (by omega),wr (show -9223372036854775808≤a0.1 - 1 - a1.tmod a0.1 by omega) (by omega),h4]; rfl
def ylv:Con:=⟨yc3,yjb,fun x=>(fun n=>some ((n,()),())) (ybU x.1 x.2.1)⟩
theorem ytz:ConOk Try.prog 12 ylv:=(yBx).mono (fun x r hk h=>(yDO x.1 x.2.1 hk).trans h)
end
section
def yxJ:Code:=(Try.f14.body).getD .skip
def yx9:Env:=zki TT [(12,ylv),(36,ybl),(39,yD)] []
theorem yCz:FrOk Try.prog ⟨yx9,28,fun _=>none⟩ yxJ:=zkp yc yd ⟨ytz,ydH,yS,trivial⟩
def yEH:Nat→Option Seg:=fun _=>none
abbrev yeT:List Par:= [.rd tG,.rd tI,.rd tI]
abbrev ymj:List OT:= [⟨false,tI,.fz⟩]
def yjB (a0:dG) (a1:Int) (a2:Int):Option (ResD ymj×MutD yeT) :=
  let r1:=yF a0 a1
  bif (!(!r1)) then
    let r2:=yi a2 0 (IntKind.i64.wrap (a0.1 - 2))
    bif (!r2) then
      some (((-1),()),())
    else
      let r3:=ybU a0 a1
      bif (a0.1 !=0) then
        some ((((IntKind.i64.wrap ((IntKind.i64.wrap (r3+1))+a2)).tmod a0.1),()),())
      else none
  else
    some (((-1),()),())
theorem yKt (x:InD yeT):zjH ⟨yx9,28,yEH⟩ Try.f14.results.toList yxJ yeT ymj x=yjB x.1 x.2.1 x.2.2.1:=by kernel_rfl
theorem yGJ:ConOk Try.prog 14 ⟨yeT,ymj,fun x=>yjB x.1 x.2.1 x.2.2.1⟩:=zkh (yCz) Try.func14 (by kernel_rfl) (by kernel_rfl) Try.ntmps14.symm (by decide) (fun x r h=>(yKt x).trans h)
def ydm (a0:dG) (a1 a2:Int):Int:=yaB a0 a1 a2
theorem yIA (a0:dG) (a1 a2:Int) (hk:zi9 yeT (a0,a1,a2,())):yjB a0 a1 a2=(fun n=>some ((n,()),())) (ydm a0 a1 a2):=by
  unfold yjB ydm yaB ybU
  rw [yvJ]
  cases hs:yV a0 a1
  · rfl
  · have h1:=yX.1 hs
    have h2:=yk.1 h1.1
    have h3:=yf0 hs
    rw [yaj,ybB,wr (show -9223372036854775808≤a0.1 - 2 by omega) (by omega)]
    cases hi:(leb 0 a2&&leb a2 (a0.1 - 2))
    · rfl
    · rw [Bool.and_eq_true,zjQ,zjQ]at hi
      rw [show (a0.1 !=0)=true from bne_iff_ne.2 (by omega)]
      show some (((IntKind.i64.wrap (IntKind.i64.wrap (yf a0 a1+1)+a2)).tmod a0.1,()),())=some (((yf a0 a1+1+a2).tmod a0.1,()),())
      rw [wr (show -9223372036854775808≤yf a0 a1+1 by omega) (by omega),wr (show -9223372036854775808≤yf a0 a1+1+a2 by omega) (by omega)]
def yoH:Con:=⟨yeT,ymj,fun x=>(fun n=>some ((n,()),())) (ydm x.1 x.2.1 x.2.2.1)⟩
theorem yw1:ConOk Try.prog 14 yoH:=(yGJ).mono (fun x r hk h=>(yIA x.1 x.2.1 x.2.2.1 hk).trans h)
end
section
def yic:Code:=(Try.f9.body).getD .skip
def yl8:Env:=zki TT [(8,ypE),(14,yoH)] []
theorem yCx:FrOk Try.prog ⟨yl8,39,fun _=>none⟩ yic:=zkp yc yd ⟨yyy,yw1,trivial⟩
def yuc:Nat→Option Seg:=fun _=>none
def yaC:Shape:=⟨[(1,false,[.int .i64]),(2,false,[.ptr 0 0]),(6,false,[.at 800000000]),(8,false,[.at 800000001]),(22,false,[.int .i64]),(23,false,[.int .i64])],[(0,[.int .i64,.int .i64,.int .i64,.br tM,.int .i64,.int .i64,.int .i64,.int .i64,.int .i64,.br tW,.int .i64,.bool,.bool])],[(800000000,tI,.fz),(800000001,tI,.fz)]⟩
def ydw:Shape:=⟨[(1,false,[.int .i64]),(2,false,[.ptr 0 0]),(6,false,[.at 800000000]),(8,false,[.at 800000001]),(22,false,[.int .i64]),(23,false,[.ci .i64 0])],[(0,[.int .i64,.int .i64,.int .i64,.br tM,.int .i64,.int .i64,.int .i64,.int .i64,.int .i64,.br tW,.int .i64,.bool,.bool])],[(800000000,tI,.fz),(800000001,tI,.fz)]⟩
def ydp:Shape:=⟨[(8,false,[.at 800000000])],[],[(800000000,tI,.fz)]⟩
def ygi:Shape:=⟨[],[],[]⟩
abbrev ykf (v0:Int) (v1:Int) (v2:Int) (v3:dA) (v4:List Int) (v5:List Int):(yaC).X:=(((v0,()),((),()),((),()),((),()),(v1,()),(v2,()),()),((v3.1,v3.2.1.1,v3.2.1.2,v3.2.2.1,v3.2.2.2.1,v3.2.2.2.2.1,v3.2.2.2.2.2.1,v3.2.2.2.2.2.2.1,v3.2.2.2.2.2.2.2.1,v3.2.2.2.2.2.2.2.2.1,v3.2.2.2.2.2.2.2.2.2.1,v3.2.2.2.2.2.2.2.2.2.2.1,v3.2.2.2.2.2.2.2.2.2.2.2,()),()),(v4,v5,()))
abbrev yzP (v0:Int) (v1:Int) (v2:dA) (v3:List Int) (v4:List Int):(ydw).X:=(((v0,()),((),()),((),()),((),()),(v1,()),((),()),()),((v2.1,v2.2.1.1,v2.2.1.2,v2.2.2.1,v2.2.2.2.1,v2.2.2.2.2.1,v2.2.2.2.2.2.1,v2.2.2.2.2.2.2.1,v2.2.2.2.2.2.2.2.1,v2.2.2.2.2.2.2.2.2.1,v2.2.2.2.2.2.2.2.2.2.1,v2.2.2.2.2.2.2.2.2.2.2.1,v2.2.2.2.2.2.2.2.2.2.2.2,()),()),(v3,v4,()))
abbrev yqE (v0:List Int):(ydp).X:=((((),()),()),(),(v0,()))
def yks (v0:Int) (v1:Int) (v2:Int) (v3:Int) (v4:Int) (v5:Int) (v6:List dM) (v7:Int) (v8:Int) (v9:Int) (v10:Int) (v11:Int) (v12:List dW) (v13:Int) (v14:Bool) (v15:Bool) (v16:List Int) (v17:List Int):Option ((yaC).X ⊕ ((ydp).X ⊕ (ygi).X)) :=
  bif (ltb v2 v1) then
    let r3:=ydm (v4,v5) v0 v2
    bif (inb r3 v16.length) then
      bif (zj4 v17.length ([(nth v16 r3 0)]:List Int).length 8) then
        some (.inl (((v0,()),((),()),((),()),((),()),(v1,()),((IntKind.i64.wrap (v2+1)),()),()),((v3,v4,v5,v6,v7,v8,v9,v10,v11,v12,v13,v14,v15,()),()),(v16,(v17++([(nth v16 r3 0)]:List Int)),())))
      else none
    else none
  else
    some (.inr (.inl ((((),()),()),(),(v17,()))))
def yaL (x:(yaC).X):=yks x.1.1.1 x.1.2.2.2.2.1.1 x.1.2.2.2.2.2.1.1 x.2.1.1.1 x.2.1.1.2.1 x.2.1.1.2.2.1 x.2.1.1.2.2.2.1 x.2.1.1.2.2.2.2.1 x.2.1.1.2.2.2.2.2.1 x.2.1.1.2.2.2.2.2.2.1 x.2.1.1.2.2.2.2.2.2.2.1 x.2.1.1.2.2.2.2.2.2.2.2.1 x.2.1.1.2.2.2.2.2.2.2.2.2.1 x.2.1.1.2.2.2.2.2.2.2.2.2.2.1 x.2.1.1.2.2.2.2.2.2.2.2.2.2.2.1 x.2.1.1.2.2.2.2.2.2.2.2.2.2.2.2.1 x.2.2.1 x.2.2.2.1
def yqh (x:(ydw).X):(yaC).X:=(((x.1.1.1,()),((),()),((),()),((),()),(x.1.2.2.2.2.1.1,()),(0,()),()),((x.2.1.1.1,x.2.1.1.2.1,x.2.1.1.2.2.1,x.2.1.1.2.2.2.1,x.2.1.1.2.2.2.2.1,x.2.1.1.2.2.2.2.2.1,x.2.1.1.2.2.2.2.2.2.1,x.2.1.1.2.2.2.2.2.2.2.1,x.2.1.1.2.2.2.2.2.2.2.2.1,x.2.1.1.2.2.2.2.2.2.2.2.2.1,x.2.1.1.2.2.2.2.2.2.2.2.2.2.1,x.2.1.1.2.2.2.2.2.2.2.2.2.2.2.1,x.2.1.1.2.2.2.2.2.2.2.2.2.2.2.2.1,()),()),(x.2.2.1,x.2.2.2.1,()))
def yrb:Code:=(zdI yic 64 500).getD .skip
theorem yAz:zdI yic 64 125=some (.block 0 (.loop yrb)):=by kernel_rfl
theorem yBJ (x:(yaC).X):zg7 ⟨yl8,39,yuc⟩ 0 yrb 500 yaC ydp ygi x=yaL x:=by kernel_rfl
def yqt (x:(ydw).X):Nat:=(fun (u0:Int) (u1:Int) (u2:Int) (u3:Int) (u4:Int) (u5:List dM) (u6:Int) (u7:Int) (u8:Int) (u9:Int) (u10:Int) (u11:List dW) (u12:Int) (u13:Bool) (u14:Bool) (u15:List Int) (u16:List Int)=>18446744073709551616) x.1.1.1 x.1.2.2.2.2.1.1 x.2.1.1.1 x.2.1.1.2.1 x.2.1.1.2.2.1 x.2.1.1.2.2.2.1 x.2.1.1.2.2.2.2.1 x.2.1.1.2.2.2.2.2.1 x.2.1.1.2.2.2.2.2.2.1 x.2.1.1.2.2.2.2.2.2.2.1 x.2.1.1.2.2.2.2.2.2.2.2.1 x.2.1.1.2.2.2.2.2.2.2.2.2.1 x.2.1.1.2.2.2.2.2.2.2.2.2.2.1 x.2.1.1.2.2.2.2.2.2.2.2.2.2.2.1 x.2.1.1.2.2.2.2.2.2.2.2.2.2.2.2.1 x.2.2.1 x.2.2.2.1
def ylm (x:(ydw).X):Option ((ydp).X ⊕ (ygi).X):=zr yaL (yqt x) (yqh x)
def yqH:Seg:=⟨ydw,ydp,ygi,ylm⟩
def yud:Nat→Option Seg:=fun q=>bif Nat.beq q 125 then some yqH else yuc q
theorem yCy:FrOk Try.prog ⟨yl8,39,yud⟩ yic:=(yCx).loop (sg:=yqH) yaC yqh (by decide) yAz yaL yqt (by decide) (fun _=>rfl) (fun x r _ h=>h) yBJ
abbrev yeS:List Par:= [.rd tA,.rd tI]
abbrev ymi:List OT:= [⟨false,tL,(.ow .fz)⟩,⟨false,tB,.fz⟩]
def yjA (a0:dA) (a1:Int):Option (ResD ymi×MutD yeS) :=
  let r1:=ycV a0 a1
  bif (!r1.2) then
    some (([],false,()),())
  else
    zjw (ylm (((a1,()),((),()),((),()),((),()),((IntKind.i64.wrap (a0.2.1.1 - 1)),()),((),()),()),((a0.1,a0.2.1.1,a0.2.1.2,a0.2.2.1,a0.2.2.2.1,a0.2.2.2.2.1,a0.2.2.2.2.2.1,a0.2.2.2.2.2.2.1,a0.2.2.2.2.2.2.2.1,a0.2.2.2.2.2.2.2.2.1,a0.2.2.2.2.2.2.2.2.2.1,a0.2.2.2.2.2.2.2.2.2.2.1,a0.2.2.2.2.2.2.2.2.2.2.2,()),()),(r1.1,([]:List Int),()))) (fun y3 =>
      some ((y3.2.2.1,true,()),())) (fun y3 =>
      none)
theorem yKs (x:InD yeS):zjH ⟨yl8,39,yud⟩ Try.f9.results.toList yic yeS ymi x=yjA x.1 x.2.1:=by kernel_rfl
theorem yGI:ConOk Try.prog 9 ⟨yeS,ymi,fun x=>yjA x.1 x.2.1⟩:=zkh (yCy) Try.func9 (by kernel_rfl) (by kernel_rfl) Try.ntmps9.symm (by decide) (fun x r h=>(yKs x).trans h)
def yiI (a0:dA) (a1:Int):List Int×Bool:=ywQ a0 a1
theorem yIz (a0:dA) (a1:Int) (hk:zi9 yeS (a0,a1,())):yjA a0 a1=(fun n=>some ((n.1,n.2,()),())) (yiI a0 a1):=by
  unfold yjA yiI ywQ ycV
  cases hc:(yu a0&&(!a0.2.2.2.2.2.2.2.2.2.2.2&&yV a0.2.1 a1))
  · rfl
  simp only [Bool.and_eq_true]at hc
  have hg:=yk.1 (ycT hc.1)
  have hs:=hc.2.2
  unfold yoP
  simp only [cond_true]
  cases hw:(yv a0 a1).2
  · rfl
  · have hL:=yAf hw
    have h1:ylm (yzP a1 (a0.2.1.1 - 1) a0 (yv a0 a1).1 [])=some (.inl (yqE ((List.range (a0.2.1.1 - 1).toNat).foldl (fun l (i:Nat)=>l++ [nth (yv a0 a1).1 (yaB a0.2.1 a1 i) 0]) []))) :=
      zks (step:=yaL) (a0.2.1.1 - 1).toNat (fun i s=>ykf a1 (a0.2.1.1 - 1) i a0 (yv a0 a1).1 s) (fun l (i:Nat)=>l++ [nth (yv a0 a1).1 (yaB a0.2.1 a1 i) 0]) (fun i s=>s.length=i) (fun s=> .inl (yqE s)) (fun i s hi hs2=>⟨by
        have hd:=yH6 hs (show (0:Int)≤i by omega) (show (i:Int)≤a0.2.1.1 - 2 by omega)
        simp only [yaL,ykf,yks,zjI (show (i:Int) < a0.2.1.1 - 1 by omega),cond_true,wr (show -9223372036854775808≤(i:Int)+1 by omega) (by omega),Int.natCast_add,Int.natCast_one,Int.toNat_natCast,zkV,ydm,zjP.2 (show 0≤yaB a0.2.1 a1 i∧yaB a0.2.1 a1 i < (yv a0 a1).1.length by omega)]
        rw [zkw.2 (show (s.length+ [nth (yv a0 a1).1 (yaB a0.2.1 a1 i) 0].length) * 8≤140737488355328 by simp only [List.length_cons,List.length_nil]; omega)]; rfl,by simp [hs2]⟩) (fun s hs2=>by simp only [yaL,ykf,yks,zkm (show a0.2.1.1 - 1≤((a0.2.1.1 - 1).toNat:Int) by omega),cond_false]) [] rfl _ (by show _ < 18446744073709551616; omega)
    simp only [wr (show -9223372036854775808≤a0.2.1.1 - 1 by omega) (by omega)]
    rw [h1,yr5]; rfl
def yu0:Con:=⟨yeS,ymi,fun x=>(fun n=>some ((n.1,n.2,()),())) (yiI x.1 x.2.1)⟩
theorem yJo:ConOk Try.prog 9 yu0:=(yGI).mono (fun x r hk h=>(yIz x.1 x.2.1 hk).trans h)
end
section
def yid:Code:=(Try.f10.body).getD .skip
def yl9:Env:=zki TT [(15,ykW),(36,ybl),(37,yoK)] []
theorem yCB:FrOk Try.prog ⟨yl9,41,fun _=>none⟩ yid:=zkp yc yd ⟨yqU,ydH,yw3,trivial⟩
def yue:Nat→Option Seg:=fun _=>none
def ya0:Shape:=⟨[(1,false,[.int .i64]),(2,false,[.ptr 0 0]),(5,false,[.int .i64]),(24,false,[.int .i64]),(25,false,[.int .i64])],[(0,[.int .i64,.int .i64,.int .i64,.br tM,.int .i64,.int .i64,.int .i64,.int .i64,.int .i64,.br tW,.int .i64,.bool,.bool])],[]⟩
def yer:Shape:=⟨[(1,false,[.int .i64]),(2,false,[.ptr 0 0]),(5,false,[.ci .i64 0]),(24,false,[.int .i64]),(25,false,[.ci .i64 0])],[(0,[.int .i64,.int .i64,.int .i64,.br tM,.int .i64,.int .i64,.int .i64,.int .i64,.int .i64,.br tW,.int .i64,.bool,.bool])],[]⟩
def yeg:Shape:=⟨[(5,false,[.int .i64])],[],[]⟩
def yhH:Shape:=⟨[],[],[]⟩
abbrev ylz (v0:Int) (v1:Int) (v2:Int) (v3:Int) (v4:dA):(ya0).X:=(((v0,()),((),()),(v1,()),(v2,()),(v3,()),()),((v4.1,v4.2.1.1,v4.2.1.2,v4.2.2.1,v4.2.2.2.1,v4.2.2.2.2.1,v4.2.2.2.2.2.1,v4.2.2.2.2.2.2.1,v4.2.2.2.2.2.2.2.1,v4.2.2.2.2.2.2.2.2.1,v4.2.2.2.2.2.2.2.2.2.1,v4.2.2.2.2.2.2.2.2.2.2.1,v4.2.2.2.2.2.2.2.2.2.2.2,()),()),())
abbrev yBi (v0:Int) (v1:Int) (v2:dA):(yer).X:=(((v0,()),((),()),((),()),(v1,()),((),()),()),((v2.1,v2.2.1.1,v2.2.1.2,v2.2.2.1,v2.2.2.2.1,v2.2.2.2.2.1,v2.2.2.2.2.2.1,v2.2.2.2.2.2.2.1,v2.2.2.2.2.2.2.2.1,v2.2.2.2.2.2.2.2.2.1,v2.2.2.2.2.2.2.2.2.2.1,v2.2.2.2.2.2.2.2.2.2.2.1,v2.2.2.2.2.2.2.2.2.2.2.2,()),()),())
abbrev yBc (v0:Int):(yeg).X:=(((v0,()),()),(),())
def ylL (v0:Int) (v1:Int) (v2:Int) (v3:Int) (v4:Int) (v5:Int) (v6:Int) (v7:List dM) (v8:Int) (v9:Int) (v10:Int) (v11:Int) (v12:Int) (v13:List dW) (v14:Int) (v15:Bool) (v16:Bool):Option ((ya0).X ⊕ ((yeg).X ⊕ (yhH).X)) :=
  bif (ltb v3 v2) then
    bnd (yiR (v4,(v5,v6),v7,v8,v9,v10,v11,v12,v13,v14,v15,v16) v3 v0) fun r4 =>
    bif (!r4.1.2.1) then
      some (.inl (((v0,()),((),()),((IntKind.i64.wrap (v1+1)),()),(v2,()),((IntKind.i64.wrap (v3+1)),()),()),((v4,v5,v6,v7,v8,v9,v10,v11,v12,v13,v14,v15,v16,()),()),()))
    else
      some (.inl (((v0,()),((),()),(v1,()),(v2,()),((IntKind.i64.wrap (v3+1)),()),()),((v4,v5,v6,v7,v8,v9,v10,v11,v12,v13,v14,v15,v16,()),()),()))
  else
    some (.inr (.inl (((v1,()),()),(),())))
def ybq (x:(ya0).X):=ylL x.1.1.1 x.1.2.2.1.1 x.1.2.2.2.1.1 x.1.2.2.2.2.1.1 x.2.1.1.1 x.2.1.1.2.1 x.2.1.1.2.2.1 x.2.1.1.2.2.2.1 x.2.1.1.2.2.2.2.1 x.2.1.1.2.2.2.2.2.1 x.2.1.1.2.2.2.2.2.2.1 x.2.1.1.2.2.2.2.2.2.2.1 x.2.1.1.2.2.2.2.2.2.2.2.1 x.2.1.1.2.2.2.2.2.2.2.2.2.1 x.2.1.1.2.2.2.2.2.2.2.2.2.2.1 x.2.1.1.2.2.2.2.2.2.2.2.2.2.2.1 x.2.1.1.2.2.2.2.2.2.2.2.2.2.2.2.1
def yrr (x:(yer).X):(ya0).X:=(((x.1.1.1,()),((),()),(0,()),(x.1.2.2.2.1.1,()),(0,()),()),((x.2.1.1.1,x.2.1.1.2.1,x.2.1.1.2.2.1,x.2.1.1.2.2.2.1,x.2.1.1.2.2.2.2.1,x.2.1.1.2.2.2.2.2.1,x.2.1.1.2.2.2.2.2.2.1,x.2.1.1.2.2.2.2.2.2.2.1,x.2.1.1.2.2.2.2.2.2.2.2.1,x.2.1.1.2.2.2.2.2.2.2.2.2.1,x.2.1.1.2.2.2.2.2.2.2.2.2.2.1,x.2.1.1.2.2.2.2.2.2.2.2.2.2.2.1,x.2.1.1.2.2.2.2.2.2.2.2.2.2.2.2.1,()),()),())
def ysA:Code:=(zdI yid 64 244).getD .skip
theorem yCh:zdI yid 64 61=some (.block 0 (.loop ysA)):=by kernel_rfl
theorem yEr (x:(ya0).X):zg7 ⟨yl9,41,yue⟩ 0 ysA 244 ya0 yeg yhH x=ybq x:=by kernel_rfl
def yrC (x:(yer).X):Nat:=(fun (u0:Int) (u1:Int) (u2:Int) (u3:Int) (u4:Int) (u5:List dM) (u6:Int) (u7:Int) (u8:Int) (u9:Int) (u10:Int) (u11:List dW) (u12:Int) (u13:Bool) (u14:Bool)=>18446744073709551616) x.1.1.1 x.1.2.2.2.1.1 x.2.1.1.1 x.2.1.1.2.1 x.2.1.1.2.2.1 x.2.1.1.2.2.2.1 x.2.1.1.2.2.2.2.1 x.2.1.1.2.2.2.2.2.1 x.2.1.1.2.2.2.2.2.2.1 x.2.1.1.2.2.2.2.2.2.2.1 x.2.1.1.2.2.2.2.2.2.2.2.1 x.2.1.1.2.2.2.2.2.2.2.2.2.1 x.2.1.1.2.2.2.2.2.2.2.2.2.2.1 x.2.1.1.2.2.2.2.2.2.2.2.2.2.2.1 x.2.1.1.2.2.2.2.2.2.2.2.2.2.2.2.1
def ymU (x:(yer).X):Option ((yeg).X ⊕ (yhH).X):=zr ybq (yrC x) (yrr x)
def yrS:Seg:=⟨yer,yeg,yhH,ymU⟩
def yuf:Nat→Option Seg:=fun q=>bif Nat.beq q 61 then some yrS else yue q
theorem yCC:FrOk Try.prog ⟨yl9,41,yuf⟩ yid:=(yCB).loop (sg:=yrS) ya0 yrr (by decide) yCh ybq yrC (by decide) (fun _=>rfl) (fun x r _ h=>h) yEr
abbrev yeV:List Par:= [.rd tA,.rd tI]
abbrev yml:List OT:= [⟨false,tI,.fz⟩]
def yjD (a0:dA) (a1:Int):Option (ResD yml×MutD yeV) :=
  let r1:=ybT a0
  bif (!(!r1)) then
    let r2:=yF a0.2.1 a1
    bif (!r2) then
      some ((a0.2.1.1,()),())
    else
      zjw (ymU (((a1,()),((),()),((),()),((a0.2.2.1.length:Int),()),((),()),()),((a0.1,a0.2.1.1,a0.2.1.2,a0.2.2.1,a0.2.2.2.1,a0.2.2.2.2.1,a0.2.2.2.2.2.1,a0.2.2.2.2.2.2.1,a0.2.2.2.2.2.2.2.1,a0.2.2.2.2.2.2.2.2.1,a0.2.2.2.2.2.2.2.2.2.1,a0.2.2.2.2.2.2.2.2.2.2.1,a0.2.2.2.2.2.2.2.2.2.2.2,()),()),())) (fun y4 =>
        some ((y4.1.1.1,()),())) (fun y4 =>
        none)
  else
    some ((a0.2.1.1,()),())
theorem yKv (x:InD yeV):zjH ⟨yl9,41,yuf⟩ Try.f10.results.toList yid yeV yml x=yjD x.1 x.2.1:=by kernel_rfl
theorem yGL:ConOk Try.prog 10 ⟨yeV,yml,fun x=>yjD x.1 x.2.1⟩:=zkh (yCC) Try.func10 (by kernel_rfl) (by kernel_rfl) Try.ntmps10.symm (by decide) (fun x r h=>(yKv x).trans h)
def yiK (a0:dA) (a1:Int):Int:=yGh a0 a1
theorem yIC (a0:dA) (a1:Int) (hk:zi9 yeV (a0,a1,())):yjD a0 a1=(fun n=>some ((n,()),())) (yiK a0 a1):=by
  unfold yjD yiK yGh ybT
  cases ha:yu a0
  · rfl
  have hg:=yk.1 (ycT ha)
  have hl:=yqb ha
  have h1:ymU (yBi a1 a0.2.2.1.length a0)=some (.inl (yBc ((yhR (fun (i:Nat)=>yj a0 i a1) a0.2.1.1.toNat:Nat):Int))) :=
    zjs (step:=ybq) (fun i=>ylz a1 ((yhR (fun (i:Nat)=>yj a0 i a1) i:Nat):Int) a0.2.2.1.length i a0) a0.2.1.1.toNat _ (fun i hi=>by
      have:=yOh (fun (i:Nat)=>yj a0 i a1) i
      simp only [ybq,ylz,ylL,zjI (show (i:Int) < a0.2.2.1.length by omega),cond_true,wr (show -9223372036854775808≤(i:Int)+1 by omega) (by omega),Int.natCast_add,Int.natCast_one,Int.toNat_natCast,zkV,yw7 a0 i a1 (zkO (show i < a0.2.2.1.length by omega)),ye6,zky,yr7,wr (show -9223372036854775808≤((yhR (fun (i:Nat)=>yj a0 i a1) i:Nat):Int)+1 by omega) (by omega)]
      cases yj a0 i a1<;>rfl) (by simp only [ybq,ylz,ylL,zkm (show (a0.2.2.1.length:Int)≤(a0.2.1.1.toNat:Int) by omega),cond_false]) _ (by show _ < 18446744073709551616; omega)
  rw [h1]
  unfold yF
  simp only [yGc,ycT ha,yaj,ybB,wr (show -9223372036854775808≤a0.2.1.2 - 1 by omega) (by omega)]
  cases (leb 0 a1&&leb a1 (a0.2.1.2 - 1))<;>rfl
def yu2:Con:=⟨yeV,yml,fun x=>(fun n=>some ((n,()),())) (yiK x.1 x.2.1)⟩
theorem yJq:ConOk Try.prog 10 yu2:=(yGL).mono (fun x r hk h=>(yIC x.1 x.2.1 hk).trans h)
end
end
end Go.Tf
