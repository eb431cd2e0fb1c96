/- Functions of the program, and what they come to. -/
import Derived.Test.YtfpjmijaiekbgaaGreatExactRecoverF16
namespace Go.Tf
noncomputable section
open Go.Proofs
set_option synthInstance.maxHeartbeats 400000
set_option synthInstance.maxSize 10000
set_option linter.unusedVariables false
set_option linter.unusedSimpArgs false
set_option maxRecDepth 100000
section
def yIZ:Code:=(Tryz.f165.body).getD .skip
def yJo:Env:=zki TT [] []
theorem yQI:FrOk Tryz.prog ⟨yJo,8,fun _=>none⟩ yIZ:=zkp yb yc trivial
def yTs:Nat→Option Seg:=fun _=>none
abbrev yno:List Par:= [.rd tI]
abbrev ytD:List OT:= [⟨false,tI,.fz⟩]
def ywQ (a0:Int):Option (ResD ytD×MutD yno) :=
  bif (ltb a0 0) then
    some (((-1),()),())
  else
    some (((IntKind.i64.wrap (2+(a0.tmod 4))),()),())
theorem yZG (x:InD yno):zjH ⟨yJo,8,yTs⟩ Tryz.f165.results.toList yIZ yno ytD x=ywQ x.1:=by kernel_rfl
theorem yVL:ConOk Tryz.prog 165 ⟨yno,ytD,fun x=>ywQ x.1⟩:=zkh (yQI) Tryz.func165 (by kernel_rfl) (by kernel_rfl) Tryz.ntmps165.symm (by decide) (fun x r h=>(yZG x).trans h)
def ynK (a0:Int):Int :=
  bif (ltb a0 0) then
    (-1)
  else
    (IntKind.i64.wrap (2+(a0.tmod 4)))
def ywf:Con:=⟨yno,ytD,fun x=>(fun n=>some ((n,()),())) (ynK x.1)⟩
theorem yXX (a0:Int):ywQ a0=(fun n=>some ((n,()),())) (ynK a0):=zkS (p:=fun (n:Int)=>((n,()),())) (zkx (p:=fun (n:Int)=>((n,()),())) rfl rfl)
theorem yIk:ConOk Tryz.prog 165 ywf:=(yVL).mono (fun x r _ h=>(yXX x.1).trans h)
theorem yMb (q:Int):ynK q=yi q:=rfl
end
section
def yKF:Code:=(Tryz.f230.body).getD .skip
def yKW:Env:=zki TT [(114,yn),(199,ymt)] []
theorem yUA:FrOk Tryz.prog ⟨yKW,22,fun _=>none⟩ yKF:=zkp yb yc ⟨yw,ywM,trivial⟩
def yWT:Nat→Option Seg:=fun _=>none
abbrev yqk:List Par:= [.rd tN]
abbrev yvR:List OT:= [⟨false,tB,.fz⟩]
def yyu (a0:dN):Option (ResD yvR×MutD yqk) :=
  let r1:=yd a0.1 0 60000
  bif r1 then
    let r2:=yd a0.2.1 0 7
    bif r2 then
      let r3:=yd (a0.2.2.length:Int) 2 4
      bif r3 then
        let r4:=yI a0.2.2
        some ((r4,()),())
      else
        some ((false,()),())
    else
      some ((false,()),())
  else
    some ((false,()),())
theorem y0Z (x:InD yqk):zjH ⟨yKW,22,yWT⟩ Tryz.f230.results.toList yKF yqk yvR x=yyu x.1:=by kernel_rfl
theorem yYs:ConOk Tryz.prog 230 ⟨yqk,yvR,fun x=>yyu x.1⟩:=zkh (yUA) Tryz.func230 (by kernel_rfl) (by kernel_rfl) Tryz.ntmps230.symm (by decide) (fun x r h=>(y0Z x).trans h)
def ylz (a0:dN):Bool :=
  let r1:=yd a0.1 0 60000
  bif r1 then
    let r2:=yd a0.2.1 0 7
    bif r2 then
      let r3:=yd (a0.2.2.length:Int) 2 4
      bif r3 then
        let r4:=yI a0.2.2
        r4
      else
        false
    else
      false
  else
    false
def yyh:Con:=⟨yqk,yvR,fun x=>(fun n=>some ((n,()),())) (ylz x.1)⟩
theorem y0c (a0:dN):yyu a0=(fun n=>some ((n,()),())) (ylz a0):=zkS (p:=fun (n:Bool)=>((n,()),())) (zkx (p:=fun (n:Bool)=>((n,()),())) (zkx (p:=fun (n:Bool)=>((n,()),())) (zkx (p:=fun (n:Bool)=>((n,()),())) rfl rfl) rfl) rfl)
theorem yJL:ConOk Tryz.prog 230 yyh:=(yYs).mono (fun x r _ h=>(y0c x.1).trans h)
theorem yPW (r:dN):ylz r=ym r:=by
  unfold ylz ym
  simp only [yM,yGN,yAI]
end
section
def yIW:Code:=(Tryz.f166.body).getD .skip
def yJl:Env:=zki TT [(151,yam),(230,yyh)] []
theorem yQD:FrOk Tryz.prog ⟨yJl,39,fun _=>none⟩ yIW:=zkp yb yc ⟨yca,yJL,trivial⟩
def yTp:Nat→Option Seg:=fun _=>none
abbrev yhw:List Par:= [.rd tL]
abbrev ytz:List OT:= [⟨false,tN,(.pr .fz (.pr .fz (.ow .fz)))⟩,⟨false,tB,.fz⟩]
def ypA (a0:List Int):Option (ResD ytz×MutD yhw) :=
  bif (!(ltb (a0.length:Int) 4)) then
    bif (inb 0 a0.length) then
      bif (!((nth a0 0 0) !=21322)) then
        bif (inb 3 a0.length) then
          bif ((nth a0 3 0) !=(IntKind.i64.wrap ((a0.length:Int) - 4))) then
            some (((0,0,[]),false,()),())
          else
            bif (inb 1 a0.length) then
              bif (inb 2 a0.length) then
                bif (zjG 4 (a0.length:Int) a0.length) then
                  let r1:=yj ((a0.drop (4:Int).toNat).take ((a0.length:Int) - 4).toNat)
                  let r2:=ylz ((nth a0 1 0),(nth a0 2 0),r1)
                  bif (!r2) then
                    some (((0,0,[]),false,()),())
                  else
                    some ((((nth a0 1 0),(nth a0 2 0),r1),true,()),())
                else none
              else none
            else none
        else none
      else
        some (((0,0,[]),false,()),())
    else none
  else
    some (((0,0,[]),false,()),())
theorem yZC (x:InD yhw):zjH ⟨yJl,39,yTp⟩ Tryz.f166.results.toList yIW yhw ytz x=ypA x.1:=by kernel_rfl
theorem yVH:ConOk Tryz.prog 166 ⟨yhw,ytz,fun x=>ypA x.1⟩:=zkh (yQD) Tryz.func166 (by kernel_rfl) (by kernel_rfl) Tryz.ntmps166.symm (by decide) (fun x r h=>(yZC x).trans h)
def ynH (a0:List Int):dN×Bool:=yaw a0
theorem yXT (a0:List Int) (hk:zi9 yhw (a0,())):ypA a0=(fun n=>some ((n.1,n.2,()),())) (ynH a0):=by
  have hb:a0.length * 8≤2 ^ 47:=hk.1.1
  unfold ypA ynH yaw yj
  by_cases h:(a0.length:Int) < 4
  · rw [zjI h,zkZ h]; rfl
  · have ht:(a0.drop (4:Int).toNat).take ((a0.length:Int) - 4).toNat=a0.drop 4:=List.take_of_length_le (by rw [List.length_drop]; show a0.length - 4≤_; omega)
    rw [zkm (Int.not_lt.1 h),zk0 (Int.not_lt.1 h)]
    simp only [bne,Bool.not_false,cond_true,zjP.2 (show (0:Int)≤0∧(0:Int) < a0.length by omega),zjP.2 (show (0:Int)≤1∧(1:Int) < a0.length by omega),zjP.2 (show (0:Int)≤2∧(2:Int) < a0.length by omega),zjP.2 (show (0:Int)≤3∧(3:Int) < a0.length by omega),zko.2 (show (0:Int)≤4∧(4:Int)≤a0.length∧(a0.length:Int)≤a0.length by omega),ht,wr (show -9223372036854775808≤(a0.length:Int) - 4 by omega) (by omega),yPW]
    rw [show ym (nth a0 1 0,nth a0 2 0,a0.drop 4)=ym (yGX a0) from rfl]
    cases (nth a0 0 0==21322)<;>cases (nth a0 3 0==(a0.length:Int) - 4)<;>cases ym (yGX a0)<;>rfl
def yGm:Con:=⟨yhw,ytz,fun x=>(fun n=>some ((n.1,n.2,()),())) (ynH x.1)⟩
theorem yYP:ConOk Tryz.prog 166 yGm:=(yVH).mono (fun x r hk h=>(yXT x.1 hk).trans h)
end
section
def ykJ:Code:=(Tryz.f85.body).getD .skip
def yq6:Env:=zki TT [(164,yur),(165,ywf),(166,yGm)] []
theorem yNQ:FrOk Tryz.prog ⟨yq6,67,fun _=>none⟩ ykJ:=zkp yb yc ⟨yGR,yIk,yYP,trivial⟩
def yCS:Nat→Option Seg:=fun _=>none
def ybk:Shape:=⟨[(1,false,[.int .i64]),(2,false,[.ptr 0 0]),(4,false,[.ptr 64 0]),(13,false,[.br tM]),(14,false,[.int .i64]),(15,false,[.int .i64])],[(0,[.int .i64,.int .i64,.int .i64,.br tM,.int .i64,.int .i64,.int .i64,.int .i64,.int .i64,.br tW,.int .i64,.bool,.bool]),(64,[.int .i64,.int .i64,.nil])],[]⟩
def yfI:Shape:=⟨[(1,false,[.int .i64]),(2,false,[.ptr 0 0]),(4,false,[.ptr 64 0]),(13,false,[.br tM]),(14,false,[.int .i64]),(15,false,[.ci .i64 0])],[(0,[.int .i64,.int .i64,.int .i64,.br tM,.int .i64,.int .i64,.int .i64,.int .i64,.int .i64,.br tW,.int .i64,.bool,.bool]),(64,[.int .i64,.int .i64,.nil])],[]⟩
def yfx:Shape:=⟨[(4,false,[.ptr 64 0])],[(64,[.int .i64,.int .i64,.nil])],[]⟩
def yfU:Shape:=⟨[(4,false,[.ptr 64 0]),(5,false,[.bool])],[(64,[.int .i64,.int .i64,.at 800000000])],[(800000000,tI,.fz)]⟩
abbrev yqx (v0:Int) (v1:List dM) (v2:Int) (v3:Int) (v4:dA) (v5:dN):(ybk).X:=(((v0,()),((),()),((),()),(v1,()),(v2,()),(v3,()),()),((v4.1,v4.2.1.1,v4.2.1.2,v4.2.2.1,v4.2.2.2.1,v4.2.2.2.2.1,v4.2.2.2.2.2.1,v4.2.2.2.2.2.2.1,v4.2.2.2.2.2.2.2.1,v4.2.2.2.2.2.2.2.2.1,v4.2.2.2.2.2.2.2.2.2.1,v4.2.2.2.2.2.2.2.2.2.2.1,v4.2.2.2.2.2.2.2.2.2.2.2,()),(v5.1,v5.2.1,(),()),()),())
abbrev yMl (v0:Int) (v1:List dM) (v2:Int) (v3:dA) (v4:dN):(yfI).X:=(((v0,()),((),()),((),()),(v1,()),(v2,()),((),()),()),((v3.1,v3.2.1.1,v3.2.1.2,v3.2.2.1,v3.2.2.2.1,v3.2.2.2.2.1,v3.2.2.2.2.2.1,v3.2.2.2.2.2.2.1,v3.2.2.2.2.2.2.2.1,v3.2.2.2.2.2.2.2.2.1,v3.2.2.2.2.2.2.2.2.2.1,v3.2.2.2.2.2.2.2.2.2.2.1,v3.2.2.2.2.2.2.2.2.2.2.2,()),(v4.1,v4.2.1,(),()),()),())
abbrev yMe (v0:dN):(yfx).X:=((((),()),()),((v0.1,v0.2.1,(),()),()),())
abbrev yMw (v0:Bool) (v1:dN):(yfU).X:=((((),()),(v0,()),()),((v1.1,v1.2.1,(),()),()),(v1.2.2,()))
def yqN (v0:Int) (v1:List dM) (v2:Int) (v3:Int) (v4:Int) (v5:Int) (v6:Int) (v7:List dM) (v8:Int) (v9:Int) (v10:Int) (v11:Int) (v12:Int) (v13:List dW) (v14:Int) (v15:Bool) (v16:Bool) (v17:Int) (v18:Int):Option ((ybk).X ⊕ ((yfx).X ⊕ (yfU).X)) :=
  bif (ltb v3 v2) then
    bif (inb v3 v1.length) then
      let r4:=ynK v0
      let r5:=yed ((nth v1 v3 ([],[],false,[])).1,((nth v1 v3 ([],[],false,[])).2).1,(((nth v1 v3 ([],[],false,[])).2).2)) r4
      let r6:=ynH r5.1
      bif r5.2 then
        bif r6.2 then
          bif (r6.1.1==v0) then
            bif (leb 0 r6.1.2.1) then
              bif (ltb r6.1.2.1 v6) then
                bif ((IntKind.i64.wrap ((r6.1.2.2.length:Int)+1))==v5) then
                  some (.inr (.inr ((((),()),(true,()),()),((r6.1.1,r6.1.2.1,(),()),()),(r6.1.2.2,()))))
                else
                  some (.inl (((v0,()),((),()),((),()),(v1,()),(v2,()),((IntKind.i64.wrap (v3+1)),()),()),((v4,v5,v6,v7,v8,v9,v10,v11,v12,v13,v14,v15,v16,()),(v17,v18,(),()),()),()))
              else
                some (.inl (((v0,()),((),()),((),()),(v1,()),(v2,()),((IntKind.i64.wrap (v3+1)),()),()),((v4,v5,v6,v7,v8,v9,v10,v11,v12,v13,v14,v15,v16,()),(v17,v18,(),()),()),()))
            else
              some (.inl (((v0,()),((),()),((),()),(v1,()),(v2,()),((IntKind.i64.wrap (v3+1)),()),()),((v4,v5,v6,v7,v8,v9,v10,v11,v12,v13,v14,v15,v16,()),(v17,v18,(),()),()),()))
          else
            some (.inl (((v0,()),((),()),((),()),(v1,()),(v2,()),((IntKind.i64.wrap (v3+1)),()),()),((v4,v5,v6,v7,v8,v9,v10,v11,v12,v13,v14,v15,v16,()),(v17,v18,(),()),()),()))
        else
          some (.inl (((v0,()),((),()),((),()),(v1,()),(v2,()),((IntKind.i64.wrap (v3+1)),()),()),((v4,v5,v6,v7,v8,v9,v10,v11,v12,v13,v14,v15,v16,()),(v17,v18,(),()),()),()))
      else
        some (.inl (((v0,()),((),()),((),()),(v1,()),(v2,()),((IntKind.i64.wrap (v3+1)),()),()),((v4,v5,v6,v7,v8,v9,v10,v11,v12,v13,v14,v15,v16,()),(v17,v18,(),()),()),()))
    else none
  else
    some (.inr (.inl ((((),()),()),((v17,v18,(),()),()),())))
def ybC (x:(ybk).X):=yqN x.1.1.1 x.1.2.2.2.1.1 x.1.2.2.2.2.1.1 x.1.2.2.2.2.2.1.1 x.2.1.1.1 x.2.1.1.2.1 x.2.1.1.2.2.1 x.2.1.1.2.2.2.1 x.2.1.1.2.2.2.2.1 x.2.1.1.2.2.2.2.2.1 x.2.1.1.2.2.2.2.2.2.1 x.2.1.1.2.2.2.2.2.2.2.1 x.2.1.1.2.2.2.2.2.2.2.2.1 x.2.1.1.2.2.2.2.2.2.2.2.2.1 x.2.1.1.2.2.2.2.2.2.2.2.2.2.1 x.2.1.1.2.2.2.2.2.2.2.2.2.2.2.1 x.2.1.1.2.2.2.2.2.2.2.2.2.2.2.2.1 x.2.1.2.1.1 x.2.1.2.1.2.1
def yzr (x:(yfI).X):(ybk).X:=(((x.1.1.1,()),((),()),((),()),(x.1.2.2.2.1.1,()),(x.1.2.2.2.2.1.1,()),(0,()),()),((x.2.1.1.1,x.2.1.1.2.1,x.2.1.1.2.2.1,x.2.1.1.2.2.2.1,x.2.1.1.2.2.2.2.1,x.2.1.1.2.2.2.2.2.1,x.2.1.1.2.2.2.2.2.2.1,x.2.1.1.2.2.2.2.2.2.2.1,x.2.1.1.2.2.2.2.2.2.2.2.1,x.2.1.1.2.2.2.2.2.2.2.2.2.1,x.2.1.1.2.2.2.2.2.2.2.2.2.2.1,x.2.1.1.2.2.2.2.2.2.2.2.2.2.2.1,x.2.1.1.2.2.2.2.2.2.2.2.2.2.2.2.1,()),(x.2.1.2.1.1,x.2.1.2.1.2.1,(),()),()),())
def yBh:Code:=(zdI ykJ 64 52).getD .skip
theorem yNs:zdI ykJ 64 13=some (.block 0 (.loop yBh)):=by kernel_rfl
theorem yPu (x:(ybk).X):zg7 ⟨yq6,67,yCS⟩ 0 yBh 52 ybk yfx yfU x=ybC x:=by kernel_rfl
def yzK (x:(yfI).X):Nat:=(fun (u0:Int) (u1:List dM) (u2:Int) (u3:Int) (u4:Int) (u5:Int) (u6:List dM) (u7:Int) (u8:Int) (u9:Int) (u10:Int) (u11:Int) (u12:List dW) (u13:Int) (u14:Bool) (u15:Bool) (u16:Int) (u17:Int)=>18446744073709551616) x.1.1.1 x.1.2.2.2.1.1 x.1.2.2.2.2.1.1 x.2.1.1.1 x.2.1.1.2.1 x.2.1.1.2.2.1 x.2.1.1.2.2.2.1 x.2.1.1.2.2.2.2.1 x.2.1.1.2.2.2.2.2.1 x.2.1.1.2.2.2.2.2.2.1 x.2.1.1.2.2.2.2.2.2.2.1 x.2.1.1.2.2.2.2.2.2.2.2.1 x.2.1.1.2.2.2.2.2.2.2.2.2.1 x.2.1.1.2.2.2.2.2.2.2.2.2.2.1 x.2.1.1.2.2.2.2.2.2.2.2.2.2.2.1 x.2.1.1.2.2.2.2.2.2.2.2.2.2.2.2.1 x.2.1.2.1.1 x.2.1.2.1.2.1
def ysb (x:(yfI).X):Option ((yfx).X ⊕ (yfU).X):=zr ybC (yzK x) (yzr x)
def yAa:Seg:=⟨yfI,yfx,yfU,ysb⟩
def yCT:Nat→Option Seg:=fun q=>bif Nat.beq q 13 then some yAa else yCS q
theorem yNR:FrOk Tryz.prog ⟨yq6,67,yCT⟩ ykJ:=(yNQ).loop (sg:=yAa) ybk yzr (by decide) yNs ybC yzK (by decide) (fun _=>rfl) (fun x r _ h=>h) yPu
abbrev ydU:List Par:= [.rd tA,.rd tI]
abbrev yll:List OT:= [⟨false,tN,(.pr .fz (.pr .fz (.ow .fz)))⟩,⟨false,tB,.fz⟩]
def ymJ (a0:dA) (a1:Int):Option (ResD yll×MutD ydU) :=
  zjw (ysb (((a1,()),((),()),((),()),(a0.2.2.1,()),((a0.2.2.1.length:Int),()),((),()),()),((a0.1,a0.2.1.1,a0.2.1.2,a0.2.2.1,a0.2.2.2.1,a0.2.2.2.2.1,a0.2.2.2.2.2.1,a0.2.2.2.2.2.2.1,a0.2.2.2.2.2.2.2.1,a0.2.2.2.2.2.2.2.2.1,a0.2.2.2.2.2.2.2.2.2.1,a0.2.2.2.2.2.2.2.2.2.2.1,a0.2.2.2.2.2.2.2.2.2.2.2,()),(0,0,(),()),()),())) (fun y6 =>
    some (((0,0,[]),false,()),())) (fun y6 =>
    some (((y6.2.1.1.1,y6.2.1.1.2.1,y6.2.2.1),y6.1.2.1.1,()),()))
theorem yXb (x:InD ydU):zjH ⟨yq6,67,yCT⟩ Tryz.f85.results.toList ykJ ydU yll x=ymJ x.1 x.2.1:=by kernel_rfl
theorem ySj:ConOk Tryz.prog 85 ⟨ydU,yll,fun x=>ymJ x.1 x.2.1⟩:=zkh (yNR) Tryz.func85 (by kernel_rfl) (by kernel_rfl) Tryz.ntmps85.symm (by decide) (fun x r h=>(yXb x).trans h)
def yly (a0:dA) (a1:Int):dN×Bool:=yA a0 a1
def yrV (a0:dA) (a1:Int):Bool:=yg a0.2.1
theorem yVe (a0:dA) (a1:Int) (hk:zi9 ydU (a0,a1,())) (hq:yrV a0 a1=true):ymJ a0 a1=(fun n=>some ((n.1,n.2,()),())) (yly a0 a1):=by
  have hb:a0.2.2.1.length * 80≤2 ^ 47:=hk.1.2.2.1.1
  have hg:=yaZ.1 hq
  have h1:=yMc (step:=ybC) (List.range a0.2.2.1.length) 0 (fun i=>yqx a1 a0.2.2.1 a0.2.2.1.length i a0 yGQ) (ynU a0 a1) (fun k=> .inr (yMw true (yyS a0 a1 k.toNat))) (.inl (yMe yGQ)) (fun i hi=>by
    rw [List.length_range]at hi
    rw [yIR hi]
    simp only [ybC,yqx,yqN,zjI (show (i:Int) < a0.2.2.1.length by omega),cond_true,wr (show -9223372036854775808≤(i:Int)+1 by omega) (by omega),Int.natCast_add,Int.natCast_one,Int.toNat_natCast,zkO hi,zkV,yed,ynH,yMb,ynU,yyS,yM9,yf]
    have e1:ltb (yaw (yk (nth a0.2.2.1 i ([],[],false,[])) (yi a1)).1).1.2.1 a0.2.1.2=leb (yaw (yk (nth a0.2.2.1 i ([],[],false,[])) (yi a1)).1).1.2.1 (a0.2.1.2 - 1):=by rw [Bool.eq_iff_iff,zjT,zjQ]; omega
    cases hr:(yk (nth a0.2.2.1 i ([],[],false,[])) (yi a1)).2
    · rfl
    cases hg2:(yaw (yk (nth a0.2.2.1 i ([],[],false,[])) (yi a1)).1).2
    · rfl
    have hl:=(yM8.1 (y2g hg2).1).2.2.1
    have e2:(IntKind.i64.wrap (((yaw (yk (nth a0.2.2.1 i ([],[],false,[])) (yi a1)).1).1.2.2.length:Int)+1)==a0.2.1.1)=(((yaw (yk (nth a0.2.2.1 i ([],[],false,[])) (yi a1)).1).1.2.2.length:Int)==a0.2.1.1 - 1):=by rw [wr (by omega) (by omega),Bool.eq_iff_iff,beq_iff_eq,beq_iff_eq]; omega
    rw [e1,e2]
    cases ((yaw (yk (nth a0.2.2.1 i ([],[],false,[])) (yi a1)).1).1.1==a1)<;>cases leb 0 (yaw (yk (nth a0.2.2.1 i ([],[],false,[])) (yi a1)).1).1.2.1<;>cases leb (yaw (yk (nth a0.2.2.1 i ([],[],false,[])) (yi a1)).1).1.2.1 (a0.2.1.2 - 1)<;>cases (((yaw (yk (nth a0.2.2.1 i ([],[],false,[])) (yi a1)).1).1.2.2.length:Int)==a0.2.1.1 - 1)<;>rfl) (by
      rw [List.length_range]; simp only [ybC,yqx,yqN,zkm (Int.le_refl _),cond_false]) 18446744073709551616 (by rw [List.length_range]; omega)
  unfold ymJ yly yA
  rw [show ysb (yMl a1 a0.2.2.1 a0.2.2.1.length a0 yGQ)=_ from h1]
  cases leb 0 (yz (ynU a0 a1) (List.range a0.2.2.1.length))<;>rfl
def yrQ (a0:dA) (a1:Int):Option (ResD yll×MutD ydU):=bif yrV a0 a1 then (fun n=>some ((n.1,n.2,()),())) (yly a0 a1) else none
theorem yWx (a0:dA) (a1:Int) (h:yrV a0 a1=true):yrQ a0 a1=(fun n=>some ((n.1,n.2,()),())) (yly a0 a1):=by unfold yrQ; rw [h]; rfl
def yDJ:Con:=⟨ydU,yll,fun x=>yrQ x.1 x.2.1⟩
theorem yWf:ConOk Tryz.prog 85 yDJ:=(ySj).mono (fun x r hk h=>zkW h (fun hq=>yVe x.1 x.2.1 hk hq))
end
section
def yIT:Code:=(Tryz.f154.body).getD .skip
def yJi:Env:=zki TT [] []
theorem yQA:FrOk Tryz.prog ⟨yJi,26,fun _=>none⟩ yIT:=zkp yb yc trivial
def yTm:Nat→Option Seg:=fun _=>none
abbrev ynm:List Par:= [.pt tA (.pr .fz (.pr (.pr .fz .fz) (.pr (.ow (.pr (.ow (.ow .fz)) (.pr (.ow (.pr .fz (.ow .fz))) (.pr .fz (.ow .fz))))) (.pr .fz (.pr .fz (.pr .fz (.pr .fz (.pr .fz (.pr (.ow (.pr .fz (.ow .fz))) (.pr .fz (.pr .fz .fz)))))))))))]
abbrev ytw:List OT:= [⟨false,tB,.fz⟩]
def ywO (a0:dA):Option (ResD ytw×MutD ynm) :=
  bif (a0.2.2.2.2.2.2.2.2.2.1==0) then
    some ((false,()),((a0.1,a0.2.1,a0.2.2.1,a0.2.2.2.1,a0.2.2.2.2.1,a0.2.2.2.2.2.1,a0.2.2.2.2.2.2.1,a0.2.2.2.2.2.2.2.1,a0.2.2.2.2.2.2.2.2.1,(-1),true,a0.2.2.2.2.2.2.2.2.2.2.2),()))
  else
    bif (ltb 0 a0.2.2.2.2.2.2.2.2.2.1) then
      some ((true,()),((a0.1,a0.2.1,a0.2.2.1,a0.2.2.2.1,a0.2.2.2.2.1,a0.2.2.2.2.2.1,a0.2.2.2.2.2.2.1,a0.2.2.2.2.2.2.2.1,a0.2.2.2.2.2.2.2.2.1,(IntKind.i64.wrap (a0.2.2.2.2.2.2.2.2.2.1 - 1)),a0.2.2.2.2.2.2.2.2.2.2),()))
    else
      some ((true,()),(a0,()))
theorem yZz (x:InD ynm):zjH ⟨yJi,26,yTm⟩ Tryz.f154.results.toList yIT ynm ytw x=ywO x.1:=by kernel_rfl
theorem yVE:ConOk Tryz.prog 154 ⟨ynm,ytw,fun x=>ywO x.1⟩:=zkh (yQA) Tryz.func154 (by kernel_rfl) (by kernel_rfl) Tryz.ntmps154.symm (by decide) (fun x r h=>(yZz x).trans h)
def yhQ (a0:dA):Bool×dA :=
  bif (a0.2.2.2.2.2.2.2.2.2.1==0) then
    (false,(a0.1,a0.2.1,a0.2.2.1,a0.2.2.2.1,a0.2.2.2.2.1,a0.2.2.2.2.2.1,a0.2.2.2.2.2.2.1,a0.2.2.2.2.2.2.2.1,a0.2.2.2.2.2.2.2.2.1,(-1),true,a0.2.2.2.2.2.2.2.2.2.2.2))
  else
    bif (ltb 0 a0.2.2.2.2.2.2.2.2.2.1) then
      (true,(a0.1,a0.2.1,a0.2.2.1,a0.2.2.2.1,a0.2.2.2.2.1,a0.2.2.2.2.2.1,a0.2.2.2.2.2.2.1,a0.2.2.2.2.2.2.2.1,a0.2.2.2.2.2.2.2.2.1,(IntKind.i64.wrap (a0.2.2.2.2.2.2.2.2.2.1 - 1)),a0.2.2.2.2.2.2.2.2.2.2))
    else
      (true,a0)
def ywe:Con:=⟨ynm,ytw,fun x=>(fun n=>some ((n.1,()),(n.2,()))) (yhQ x.1)⟩
theorem yXQ (a0:dA):ywO a0=(fun n=>some ((n.1,()),(n.2,()))) (yhQ a0):=zkS (p:=fun (n:Bool×dA)=>((n.1,()),(n.2,()))) (zkx (p:=fun (n:Bool×dA)=>((n.1,()),(n.2,()))) rfl (zkx (p:=fun (n:Bool×dA)=>((n.1,()),(n.2,()))) rfl rfl))
theorem yIj:ConOk Tryz.prog 154 ywe:=(yVE).mono (fun x r _ h=>(yXQ x.1).trans h)
theorem yU6 {a:dA} (h:ye a=false):yhQ a=opA a:=by
  unfold yhQ opA
  rw [h]
  cases (a.2.2.2.2.2.2.2.2.2.1==0)
  · cases ltb 0 a.2.2.2.2.2.2.2.2.2.1
    · rfl
    · show (true,_)=(true,yNf a _ false)
      unfold yNf
      rw [show a.2.2.2.2.2.2.2.2.2.2=(ye a,a.2.2.2.2.2.2.2.2.2.2.2) from rfl,h]
  · rfl
end
section
def yAK:Code:=(Tryz.f217.body).getD .skip
def yBf:Env:=zki TT [] []
theorem yIw:FrOk Tryz.prog ⟨yBf,7,fun _=>none⟩ yAK:=zkp yb yc trivial
def yJR:Nat→Option Seg:=fun _=>none
abbrev yfv:List Par:= [.rd tI,.rp tI]
abbrev yj1:List OT:= [⟨false,tB,.fz⟩]
def yok (a0:Int) (a1:Int):Option (ResD yj1×MutD yfv) :=
  some (((a0==a1),()),())
theorem yNM (x:InD yfv):zjH ⟨yBf,7,yJR⟩ Tryz.f217.results.toList yAK yfv yj1 x=yok x.1 x.2.1:=by kernel_rfl
theorem yKt:ConOk Tryz.prog 217 ⟨yfv,yj1,fun x=>yok x.1 x.2.1⟩:=zkh (yIw) Tryz.func217 (by kernel_rfl) (by kernel_rfl) Tryz.ntmps217.symm (by decide) (fun x r h=>(yNM x).trans h)
def ydg (a0:Int) (a1:Int):Bool :=
  (a0==a1)
def yn6:Con:=⟨yfv,yj1,fun x=>(fun n=>some ((n,()),())) (ydg x.1 x.2.1)⟩
theorem yMD (a0:Int) (a1:Int):yok a0 a1=(fun n=>some ((n,()),())) (ydg a0 a1):=zkS (p:=fun (n:Bool)=>((n,()),())) rfl
theorem yz9:ConOk Tryz.prog 217 yn6:=(yKt).mono (fun x r _ h=>(yMD x.1 x.2.1).trans h)
end
end
end Go.Tf
