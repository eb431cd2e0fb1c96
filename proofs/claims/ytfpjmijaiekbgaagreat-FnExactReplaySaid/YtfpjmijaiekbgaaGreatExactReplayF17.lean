/- Functions of the program, and what they come to. -/
import Derived.Test.YtfpjmijaiekbgaaGreatExactReplayF16
namespace Go.Tf
noncomputable section
open Go.Proofs
set_option synthInstance.maxHeartbeats 400000
set_option synthInstance.maxSize 10000
set_option linter.unusedVariables false
set_option linter.unusedSimpArgs false
set_option maxRecDepth 100000
section
def yGS:Code:=(Tryz.f230.body).getD .skip
def yHe:Env:=zki TT [(114,yp),(199,ykX)] []
theorem yP3:FrOk Tryz.prog ⟨yHe,22,fun _=>none⟩ yGS:=zkp yb yc ⟨yE,yuv,trivial⟩
def ySk:Nat→Option Seg:=fun _=>none
abbrev yoj:List Par:= [.rd tN]
abbrev ytI:List OT:= [⟨false,tB,.fz⟩]
def yvM (a0:dN):Option (ResD ytI×MutD yoj) :=
  let r1:=ye a0.1 0 60000
  bif r1 then
    let r2:=ye a0.2.1 0 7
    bif r2 then
      let r3:=ye (a0.2.2.length:Int) 2 4
      bif r3 then
        let r4:=yC a0.2.2
        some ((r4,()),())
      else
        some ((false,()),())
    else
      some ((false,()),())
  else
    some ((false,()),())
theorem yWG (x:InD yoj):zjH ⟨yHe,22,ySk⟩ Tryz.f230.results.toList yGS yoj ytI x=yvM x.1:=by kernel_rfl
theorem yTP:ConOk Tryz.prog 230 ⟨yoj,ytI,fun x=>yvM x.1⟩:=zkh (yP3) Tryz.func230 (by kernel_rfl) (by kernel_rfl) Tryz.ntmps230.symm (by decide) (fun x r h=>(yWG x).trans h)
def yj4 (a0:dN):Bool :=
  let r1:=ye a0.1 0 60000
  bif r1 then
    let r2:=ye a0.2.1 0 7
    bif r2 then
      let r3:=ye (a0.2.2.length:Int) 2 4
      bif r3 then
        let r4:=yC a0.2.2
        r4
      else
        false
    else
      false
  else
    false
def yvB:Con:=⟨yoj,ytI,fun x=>(fun n=>some ((n,()),())) (yj4 x.1)⟩
theorem yVI (a0:dN):yvM a0=(fun n=>some ((n,()),())) (yj4 a0):=zkS (p:=fun (n:Bool)=>((n,()),())) (zkx (p:=fun (n:Bool)=>((n,()),())) (zkx (p:=fun (n:Bool)=>((n,()),())) (zkx (p:=fun (n:Bool)=>((n,()),())) rfl rfl) rfl) rfl)
theorem yGe:ConOk Tryz.prog 230 yvB:=(yTP).mono (fun x r _ h=>(yVI x.1).trans h)
theorem yLJ (r:dN):yj4 r=ym r:=by
  unfold yj4 ym
  simp only [yV,yDC,yxT]
end
section
def yFx:Code:=(Tryz.f166.body).getD .skip
def yFS:Env:=zki TT [(151,ya8),(230,yvB)] []
theorem yMk:FrOk Tryz.prog ⟨yFS,39,fun _=>none⟩ yFx:=zkp yb yc ⟨ydC,yGe,trivial⟩
def yOX:Nat→Option Seg:=fun _=>none
abbrev ygk:List Par:= [.rd tL]
abbrev yru:List OT:= [⟨false,tN,(.pr .fz (.pr .fz (.ow .fz)))⟩,⟨false,tB,.fz⟩]
def ynz (a0:List Int):Option (ResD yru×MutD ygk) :=
  bif (!(ltb (a0.length:Int) 4)) then
    bif (inb 0 a0.length) then
      bif (!((nth a0 0 0) !=21322)) then
        bif (inb 3 a0.length) then
          bif ((nth a0 3 0) !=(IntKind.i64.wrap ((a0.length:Int) - 4))) then
            some (((0,0,[]),false,()),())
          else
            bif (inb 1 a0.length) then
              bif (inb 2 a0.length) then
                bif (zjG 4 (a0.length:Int) a0.length) then
                  let r1:=yj ((a0.drop (4:Int).toNat).take ((a0.length:Int) - 4).toNat)
                  let r2:=yj4 ((nth a0 1 0),(nth a0 2 0),r1)
                  bif (!r2) then
                    some (((0,0,[]),false,()),())
                  else
                    some ((((nth a0 1 0),(nth a0 2 0),r1),true,()),())
                else none
              else none
            else none
        else none
      else
        some (((0,0,[]),false,()),())
    else none
  else
    some (((0,0,[]),false,()),())
theorem yU4 (x:InD ygk):zjH ⟨yFS,39,yOX⟩ Tryz.f166.results.toList yFx ygk yru x=ynz x.1:=by kernel_rfl
theorem yQ6:ConOk Tryz.prog 166 ⟨ygk,yru,fun x=>ynz x.1⟩:=zkh (yMk) Tryz.func166 (by kernel_rfl) (by kernel_rfl) Tryz.ntmps166.symm (by decide) (fun x r h=>(yU4 x).trans h)
def ylY (a0:List Int):dN×Bool:=yah a0
theorem yTe (a0:List Int) (hk:zi9 ygk (a0,())):ynz a0=(fun n=>some ((n.1,n.2,()),())) (ylY a0):=by
  have hb:a0.length * 8≤2 ^ 47:=hk.1.1
  unfold ynz ylY yah yj
  by_cases h:(a0.length:Int) < 4
  · rw [zjI h,zkZ h]; rfl
  · have ht:(a0.drop (4:Int).toNat).take ((a0.length:Int) - 4).toNat=a0.drop 4:=List.take_of_length_le (by rw [List.length_drop]; show a0.length - 4≤_; omega)
    rw [zkm (Int.not_lt.1 h),zk0 (Int.not_lt.1 h)]
    simp only [bne,Bool.not_false,cond_true,zjP.2 (show (0:Int)≤0∧(0:Int) < a0.length by omega),zjP.2 (show (0:Int)≤1∧(1:Int) < a0.length by omega),zjP.2 (show (0:Int)≤2∧(2:Int) < a0.length by omega),zjP.2 (show (0:Int)≤3∧(3:Int) < a0.length by omega),zko.2 (show (0:Int)≤4∧(4:Int)≤a0.length∧(a0.length:Int)≤a0.length by omega),ht,wr (show -9223372036854775808≤(a0.length:Int) - 4 by omega) (by omega),yLJ]
    rw [show ym (nth a0 1 0,nth a0 2 0,a0.drop 4)=ym (yDE a0) from rfl]
    cases (nth a0 0 0==21322)<;>cases (nth a0 3 0==(a0.length:Int) - 4)<;>cases ym (yDE a0)<;>rfl
def yDd:Con:=⟨ygk,yru,fun x=>(fun n=>some ((n.1,n.2,()),())) (ylY x.1)⟩
theorem yUh:ConOk Tryz.prog 166 yDd:=(yQ6).mono (fun x r hk h=>(yTe x.1 hk).trans h)
end
section
def yji:Code:=(Tryz.f85.body).getD .skip
def ypb:Env:=zki TT [(164,yAK),(165,yub),(166,yDd)] []
theorem yJT:FrOk Tryz.prog ⟨ypb,67,fun _=>none⟩ yji:=zkp yb yc ⟨yRF,yE0,yUh,trivial⟩
def yzW:Nat→Option Seg:=fun _=>none
def yaX:Shape:=⟨[(1,false,[.int .i64]),(2,false,[.ptr 0 0]),(4,false,[.ptr 64 0]),(13,false,[.br tM]),(14,false,[.int .i64]),(15,false,[.int .i64])],[(0,[.int .i64,.int .i64,.int .i64,.br tM,.int .i64,.int .i64,.int .i64,.int .i64,.int .i64,.br tW,.int .i64,.bool,.bool]),(64,[.int .i64,.int .i64,.nil])],[]⟩
def yeM:Shape:=⟨[(1,false,[.int .i64]),(2,false,[.ptr 0 0]),(4,false,[.ptr 64 0]),(13,false,[.br tM]),(14,false,[.int .i64]),(15,false,[.ci .i64 0])],[(0,[.int .i64,.int .i64,.int .i64,.br tM,.int .i64,.int .i64,.int .i64,.int .i64,.int .i64,.br tW,.int .i64,.bool,.bool]),(64,[.int .i64,.int .i64,.nil])],[]⟩
def yeB:Shape:=⟨[(4,false,[.ptr 64 0])],[(64,[.int .i64,.int .i64,.nil])],[]⟩
def yeY:Shape:=⟨[(4,false,[.ptr 64 0]),(5,false,[.bool])],[(64,[.int .i64,.int .i64,.at 800000000])],[(800000000,tI,.fz)]⟩
abbrev yoB (v0:Int) (v1:List dM) (v2:Int) (v3:Int) (v4:dA) (v5:dN):(yaX).X:=(((v0,()),((),()),((),()),(v1,()),(v2,()),(v3,()),()),((v4.1,v4.2.1.1,v4.2.1.2,v4.2.2.1,v4.2.2.2.1,v4.2.2.2.2.1,v4.2.2.2.2.2.1,v4.2.2.2.2.2.2.1,v4.2.2.2.2.2.2.2.1,v4.2.2.2.2.2.2.2.2.1,v4.2.2.2.2.2.2.2.2.2.1,v4.2.2.2.2.2.2.2.2.2.2.1,v4.2.2.2.2.2.2.2.2.2.2.2,()),(v5.1,v5.2.1,(),()),()),())
abbrev yIx (v0:Int) (v1:List dM) (v2:Int) (v3:dA) (v4:dN):(yeM).X:=(((v0,()),((),()),((),()),(v1,()),(v2,()),((),()),()),((v3.1,v3.2.1.1,v3.2.1.2,v3.2.2.1,v3.2.2.2.1,v3.2.2.2.2.1,v3.2.2.2.2.2.1,v3.2.2.2.2.2.2.1,v3.2.2.2.2.2.2.2.1,v3.2.2.2.2.2.2.2.2.1,v3.2.2.2.2.2.2.2.2.2.1,v3.2.2.2.2.2.2.2.2.2.2.1,v3.2.2.2.2.2.2.2.2.2.2.2,()),(v4.1,v4.2.1,(),()),()),())
abbrev yIq (v0:dN):(yeB).X:=((((),()),()),((v0.1,v0.2.1,(),()),()),())
abbrev yII (v0:Bool) (v1:dN):(yeY).X:=((((),()),(v0,()),()),((v1.1,v1.2.1,(),()),()),(v1.2.2,()))
def yoT (v0:Int) (v1:List dM) (v2:Int) (v3:Int) (v4:Int) (v5:Int) (v6:Int) (v7:List dM) (v8:Int) (v9:Int) (v10:Int) (v11:Int) (v12:Int) (v13:List dW) (v14:Int) (v15:Bool) (v16:Bool) (v17:Int) (v18:Int):Option ((yaX).X ⊕ ((yeB).X ⊕ (yeY).X)) :=
  bif (ltb v3 v2) then
    bif (inb v3 v1.length) then
      let r4:=yl1 v0
      let r5:=yj3 ((nth v1 v3 ([],[],false,[])).1,((nth v1 v3 ([],[],false,[])).2).1,(((nth v1 v3 ([],[],false,[])).2).2)) r4
      let r6:=ylY r5.1
      bif r5.2 then
        bif r6.2 then
          bif (r6.1.1==v0) then
            bif (leb 0 r6.1.2.1) then
              bif (ltb r6.1.2.1 v6) then
                bif ((IntKind.i64.wrap ((r6.1.2.2.length:Int)+1))==v5) then
                  some (.inr (.inr ((((),()),(true,()),()),((r6.1.1,r6.1.2.1,(),()),()),(r6.1.2.2,()))))
                else
                  some (.inl (((v0,()),((),()),((),()),(v1,()),(v2,()),((IntKind.i64.wrap (v3+1)),()),()),((v4,v5,v6,v7,v8,v9,v10,v11,v12,v13,v14,v15,v16,()),(v17,v18,(),()),()),()))
              else
                some (.inl (((v0,()),((),()),((),()),(v1,()),(v2,()),((IntKind.i64.wrap (v3+1)),()),()),((v4,v5,v6,v7,v8,v9,v10,v11,v12,v13,v14,v15,v16,()),(v17,v18,(),()),()),()))
            else
              some (.inl (((v0,()),((),()),((),()),(v1,()),(v2,()),((IntKind.i64.wrap (v3+1)),()),()),((v4,v5,v6,v7,v8,v9,v10,v11,v12,v13,v14,v15,v16,()),(v17,v18,(),()),()),()))
          else
            some (.inl (((v0,()),((),()),((),()),(v1,()),(v2,()),((IntKind.i64.wrap (v3+1)),()),()),((v4,v5,v6,v7,v8,v9,v10,v11,v12,v13,v14,v15,v16,()),(v17,v18,(),()),()),()))
        else
          some (.inl (((v0,()),((),()),((),()),(v1,()),(v2,()),((IntKind.i64.wrap (v3+1)),()),()),((v4,v5,v6,v7,v8,v9,v10,v11,v12,v13,v14,v15,v16,()),(v17,v18,(),()),()),()))
      else
        some (.inl (((v0,()),((),()),((),()),(v1,()),(v2,()),((IntKind.i64.wrap (v3+1)),()),()),((v4,v5,v6,v7,v8,v9,v10,v11,v12,v13,v14,v15,v16,()),(v17,v18,(),()),()),()))
    else none
  else
    some (.inr (.inl ((((),()),()),((v17,v18,(),()),()),())))
def ybf (x:(yaX).X):=yoT x.1.1.1 x.1.2.2.2.1.1 x.1.2.2.2.2.1.1 x.1.2.2.2.2.2.1.1 x.2.1.1.1 x.2.1.1.2.1 x.2.1.1.2.2.1 x.2.1.1.2.2.2.1 x.2.1.1.2.2.2.2.1 x.2.1.1.2.2.2.2.2.1 x.2.1.1.2.2.2.2.2.2.1 x.2.1.1.2.2.2.2.2.2.2.1 x.2.1.1.2.2.2.2.2.2.2.2.1 x.2.1.1.2.2.2.2.2.2.2.2.2.1 x.2.1.1.2.2.2.2.2.2.2.2.2.2.1 x.2.1.1.2.2.2.2.2.2.2.2.2.2.2.1 x.2.1.1.2.2.2.2.2.2.2.2.2.2.2.2.1 x.2.1.2.1.1 x.2.1.2.1.2.1
def ywC (x:(yeM).X):(yaX).X:=(((x.1.1.1,()),((),()),((),()),(x.1.2.2.2.1.1,()),(x.1.2.2.2.2.1.1,()),(0,()),()),((x.2.1.1.1,x.2.1.1.2.1,x.2.1.1.2.2.1,x.2.1.1.2.2.2.1,x.2.1.1.2.2.2.2.1,x.2.1.1.2.2.2.2.2.1,x.2.1.1.2.2.2.2.2.2.1,x.2.1.1.2.2.2.2.2.2.2.1,x.2.1.1.2.2.2.2.2.2.2.2.1,x.2.1.1.2.2.2.2.2.2.2.2.2.1,x.2.1.1.2.2.2.2.2.2.2.2.2.2.1,x.2.1.1.2.2.2.2.2.2.2.2.2.2.2.1,x.2.1.1.2.2.2.2.2.2.2.2.2.2.2.2.1,()),(x.2.1.2.1.1,x.2.1.2.1.2.1,(),()),()),())
def yyo:Code:=(zdI yji 64 52).getD .skip
theorem yJx:zdI yji 64 13=some (.block 0 (.loop yyo)):=by kernel_rfl
theorem yLh (x:(yaX).X):zg7 ⟨ypb,67,yzW⟩ 0 yyo 52 yaX yeB yeY x=ybf x:=by kernel_rfl
def ywV (x:(yeM).X):Nat:=(fun (u0:Int) (u1:List dM) (u2:Int) (u3:Int) (u4:Int) (u5:Int) (u6:List dM) (u7:Int) (u8:Int) (u9:Int) (u10:Int) (u11:Int) (u12:List dW) (u13:Int) (u14:Bool) (u15:Bool) (u16:Int) (u17:Int)=>18446744073709551616) x.1.1.1 x.1.2.2.2.1.1 x.1.2.2.2.2.1.1 x.2.1.1.1 x.2.1.1.2.1 x.2.1.1.2.2.1 x.2.1.1.2.2.2.1 x.2.1.1.2.2.2.2.1 x.2.1.1.2.2.2.2.2.1 x.2.1.1.2.2.2.2.2.2.1 x.2.1.1.2.2.2.2.2.2.2.1 x.2.1.1.2.2.2.2.2.2.2.2.1 x.2.1.1.2.2.2.2.2.2.2.2.2.1 x.2.1.1.2.2.2.2.2.2.2.2.2.2.1 x.2.1.1.2.2.2.2.2.2.2.2.2.2.2.1 x.2.1.1.2.2.2.2.2.2.2.2.2.2.2.2.1 x.2.1.2.1.1 x.2.1.2.1.2.1
def yqc (x:(yeM).X):Option ((yeB).X ⊕ (yeY).X):=zr ybf (ywV x) (ywC x)
def yxl:Seg:=⟨yeM,yeB,yeY,yqc⟩
def yzX:Nat→Option Seg:=fun q=>bif Nat.beq q 13 then some yxl else yzW q
theorem yJU:FrOk Tryz.prog ⟨ypb,67,yzX⟩ yji:=(yJT).loop (sg:=yxl) yaX ywC (by decide) yJx ybf ywV (by decide) (fun _=>rfl) (fun x r _ h=>h) yLh
abbrev ydi:List Par:= [.rd tA,.rd tI]
abbrev yjP:List OT:= [⟨false,tN,(.pr .fz (.pr .fz (.ow .fz)))⟩,⟨false,tB,.fz⟩]
def yk8 (a0:dA) (a1:Int):Option (ResD yjP×MutD ydi) :=
  zjw (yqc (((a1,()),((),()),((),()),(a0.2.2.1,()),((a0.2.2.1.length:Int),()),((),()),()),((a0.1,a0.2.1.1,a0.2.1.2,a0.2.2.1,a0.2.2.2.1,a0.2.2.2.2.1,a0.2.2.2.2.2.1,a0.2.2.2.2.2.2.1,a0.2.2.2.2.2.2.2.1,a0.2.2.2.2.2.2.2.2.1,a0.2.2.2.2.2.2.2.2.2.1,a0.2.2.2.2.2.2.2.2.2.2.1,a0.2.2.2.2.2.2.2.2.2.2.2,()),(0,0,(),()),()),())) (fun y6 =>
    some (((0,0,[]),false,()),())) (fun y6 =>
    some (((y6.2.1.1.1,y6.2.1.1.2.1,y6.2.2.1),y6.1.2.1.1,()),()))
theorem ySE (x:InD ydi):zjH ⟨ypb,67,yzX⟩ Tryz.f85.results.toList yji ydi yjP x=yk8 x.1 x.2.1:=by kernel_rfl
theorem yNW:ConOk Tryz.prog 85 ⟨ydi,yjP,fun x=>yk8 x.1 x.2.1⟩:=zkh (yJU) Tryz.func85 (by kernel_rfl) (by kernel_rfl) Tryz.ntmps85.symm (by decide) (fun x r h=>(ySE x).trans h)
def yj2 (a0:dA) (a1:Int):dN×Bool:=yu a0 a1
def ypX (a0:dA) (a1:Int):Bool:=yf a0.2.1
theorem yQH (a0:dA) (a1:Int) (hk:zi9 ydi (a0,a1,())) (hq:ypX a0 a1=true):yk8 a0 a1=(fun n=>some ((n.1,n.2,()),())) (yj2 a0 a1):=by
  have hb:a0.2.2.1.length * 80≤2 ^ 47:=hk.1.2.2.1.1
  have hg:=yaF.1 hq
  have h1:=yIo (step:=ybf) (List.range a0.2.2.1.length) 0 (fun i=>yoB a1 a0.2.2.1 a0.2.2.1.length i a0 yDD) (yma a0 a1) (fun k=> .inr (yII true (ywb a0 a1 k.toNat))) (.inl (yIq yDD)) (fun i hi=>by
    rw [List.length_range]at hi
    rw [yFs hi]
    simp only [ybf,yoB,yoT,zjI (show (i:Int) < a0.2.2.1.length by omega),cond_true,wr (show -9223372036854775808≤(i:Int)+1 by omega) (by omega),Int.natCast_add,Int.natCast_one,Int.toNat_natCast,zkO hi,zkV,yj3,ylY,yIn,yma,ywb,yJg,yh]
    have e1:ltb (yah (yv (nth a0.2.2.1 i ([],[],false,[])) (yi a1)).1).1.2.1 a0.2.1.2=leb (yah (yv (nth a0.2.2.1 i ([],[],false,[])) (yi a1)).1).1.2.1 (a0.2.1.2 - 1):=by rw [Bool.eq_iff_iff,zjT,zjQ]; omega
    cases hr:(yv (nth a0.2.2.1 i ([],[],false,[])) (yi a1)).2
    · rfl
    cases hg2:(yah (yv (nth a0.2.2.1 i ([],[],false,[])) (yi a1)).1).2
    · rfl
    have hl:=(yJf.1 (yXX hg2).1).2.2.1
    have e2:(IntKind.i64.wrap (((yah (yv (nth a0.2.2.1 i ([],[],false,[])) (yi a1)).1).1.2.2.length:Int)+1)==a0.2.1.1)=(((yah (yv (nth a0.2.2.1 i ([],[],false,[])) (yi a1)).1).1.2.2.length:Int)==a0.2.1.1 - 1):=by rw [wr (by omega) (by omega),Bool.eq_iff_iff,beq_iff_eq,beq_iff_eq]; omega
    rw [e1,e2]
    cases ((yah (yv (nth a0.2.2.1 i ([],[],false,[])) (yi a1)).1).1.1==a1)<;>cases leb 0 (yah (yv (nth a0.2.2.1 i ([],[],false,[])) (yi a1)).1).1.2.1<;>cases leb (yah (yv (nth a0.2.2.1 i ([],[],false,[])) (yi a1)).1).1.2.1 (a0.2.1.2 - 1)<;>cases (((yah (yv (nth a0.2.2.1 i ([],[],false,[])) (yi a1)).1).1.2.2.length:Int)==a0.2.1.1 - 1)<;>rfl) (by
      rw [List.length_range]; simp only [ybf,yoB,yoT,zkm (Int.le_refl _),cond_false]) 18446744073709551616 (by rw [List.length_range]; omega)
  unfold yk8 yj2 yu
  rw [show yqc (yIx a1 a0.2.2.1 a0.2.2.1.length a0 yDD)=_ from h1]
  cases leb 0 (yr (yma a0 a1) (List.range a0.2.2.1.length))<;>rfl
def ypQ (a0:dA) (a1:Int):Option (ResD yjP×MutD ydi):=bif ypX a0 a1 then (fun n=>some ((n.1,n.2,()),())) (yj2 a0 a1) else none
theorem yRX (a0:dA) (a1:Int) (h:ypX a0 a1=true):ypQ a0 a1=(fun n=>some ((n.1,n.2,()),())) (yj2 a0 a1):=by unfold ypQ; rw [h]; rfl
def yAJ:Con:=⟨ydi,yjP,fun x=>ypQ x.1 x.2.1⟩
theorem yRE:ConOk Tryz.prog 85 yAJ:=(yNW).mono (fun x r hk h=>zkW h (fun hq=>yQH x.1 x.2.1 hk hq))
end
section
def yFu:Code:=(Tryz.f154.body).getD .skip
def yFP:Env:=zki TT [] []
theorem yMh:FrOk Tryz.prog ⟨yFP,26,fun _=>none⟩ yFu:=zkp yb yc trivial
def yOU:Nat→Option Seg:=fun _=>none
abbrev ylE:List Par:= [.pt tA (.pr .fz (.pr (.pr .fz .fz) (.pr (.ow (.pr (.ow (.ow .fz)) (.pr (.ow (.pr .fz (.ow .fz))) (.pr .fz (.ow .fz))))) (.pr .fz (.pr .fz (.pr .fz (.pr .fz (.pr .fz (.pr (.ow (.pr .fz (.ow .fz))) (.pr .fz (.pr .fz .fz)))))))))))]
abbrev yrr:List OT:= [⟨false,tB,.fz⟩]
def yux (a0:dA):Option (ResD yrr×MutD ylE) :=
  bif (a0.2.2.2.2.2.2.2.2.2.1==0) then
    some ((false,()),((a0.1,a0.2.1,a0.2.2.1,a0.2.2.2.1,a0.2.2.2.2.1,a0.2.2.2.2.2.1,a0.2.2.2.2.2.2.1,a0.2.2.2.2.2.2.2.1,a0.2.2.2.2.2.2.2.2.1,(-1),true,a0.2.2.2.2.2.2.2.2.2.2.2),()))
  else
    bif (ltb 0 a0.2.2.2.2.2.2.2.2.2.1) then
      some ((true,()),((a0.1,a0.2.1,a0.2.2.1,a0.2.2.2.1,a0.2.2.2.2.1,a0.2.2.2.2.2.1,a0.2.2.2.2.2.2.1,a0.2.2.2.2.2.2.2.1,a0.2.2.2.2.2.2.2.2.1,(IntKind.i64.wrap (a0.2.2.2.2.2.2.2.2.2.1 - 1)),a0.2.2.2.2.2.2.2.2.2.2),()))
    else
      some ((true,()),(a0,()))
theorem yU1 (x:InD ylE):zjH ⟨yFP,26,yOU⟩ Tryz.f154.results.toList yFu ylE yrr x=yux x.1:=by kernel_rfl
theorem yQ3:ConOk Tryz.prog 154 ⟨ylE,yrr,fun x=>yux x.1⟩:=zkh (yMh) Tryz.func154 (by kernel_rfl) (by kernel_rfl) Tryz.ntmps154.symm (by decide) (fun x r h=>(yU1 x).trans h)
def ygF (a0:dA):Bool×dA :=
  bif (a0.2.2.2.2.2.2.2.2.2.1==0) then
    (false,(a0.1,a0.2.1,a0.2.2.1,a0.2.2.2.1,a0.2.2.2.2.1,a0.2.2.2.2.2.1,a0.2.2.2.2.2.2.1,a0.2.2.2.2.2.2.2.1,a0.2.2.2.2.2.2.2.2.1,(-1),true,a0.2.2.2.2.2.2.2.2.2.2.2))
  else
    bif (ltb 0 a0.2.2.2.2.2.2.2.2.2.1) then
      (true,(a0.1,a0.2.1,a0.2.2.1,a0.2.2.2.1,a0.2.2.2.2.1,a0.2.2.2.2.2.1,a0.2.2.2.2.2.2.1,a0.2.2.2.2.2.2.2.1,a0.2.2.2.2.2.2.2.2.1,(IntKind.i64.wrap (a0.2.2.2.2.2.2.2.2.2.1 - 1)),a0.2.2.2.2.2.2.2.2.2.2))
    else
      (true,a0)
def yua:Con:=⟨ylE,yrr,fun x=>(fun n=>some ((n.1,()),(n.2,()))) (ygF x.1)⟩
theorem yTb (a0:dA):yux a0=(fun n=>some ((n.1,()),(n.2,()))) (ygF a0):=zkS (p:=fun (n:Bool×dA)=>((n.1,()),(n.2,()))) (zkx (p:=fun (n:Bool×dA)=>((n.1,()),(n.2,()))) rfl (zkx (p:=fun (n:Bool×dA)=>((n.1,()),(n.2,()))) rfl rfl))
theorem yEZ:ConOk Tryz.prog 154 yua:=(yQ3).mono (fun x r _ h=>(yTb x.1).trans h)
theorem yQE {a:dA} (h:yd a=false):ygF a=opA a:=by
  unfold ygF opA
  rw [h]
  cases (a.2.2.2.2.2.2.2.2.2.1==0)
  · cases ltb 0 a.2.2.2.2.2.2.2.2.2.1
    · rfl
    · show (true,_)=(true,yJn a _ false)
      unfold yJn
      rw [show a.2.2.2.2.2.2.2.2.2.2=(yd a,a.2.2.2.2.2.2.2.2.2.2.2) from rfl,h]
  · rfl
end
section
def yxV:Code:=(Tryz.f217.body).getD .skip
def yym:Env:=zki TT [] []
theorem yFd:FrOk Tryz.prog ⟨yym,7,fun _=>none⟩ yxV:=zkp yb yc trivial
def yGj:Nat→Option Seg:=fun _=>none
abbrev yez:List Par:= [.rd tI,.rp tI]
abbrev yiG:List OT:= [⟨false,tB,.fz⟩]
def ymq (a0:Int) (a1:Int):Option (ResD yiG×MutD yez) :=
  some (((a0==a1),()),())
theorem yJR (x:InD yez):zjH ⟨yym,7,yGj⟩ Tryz.f217.results.toList yxV yez yiG x=ymq x.1 x.2.1:=by kernel_rfl
theorem yGK:ConOk Tryz.prog 217 ⟨yez,yiG,fun x=>ymq x.1 x.2.1⟩:=zkh (yFd) Tryz.func217 (by kernel_rfl) (by kernel_rfl) Tryz.ntmps217.symm (by decide) (fun x r h=>(yJR x).trans h)
def ycR (a0:Int) (a1:Int):Bool :=
  (a0==a1)
def ymg:Con:=⟨yez,yiG,fun x=>(fun n=>some ((n,()),())) (ycR x.1 x.2.1)⟩
theorem yIP (a0:Int) (a1:Int):ymq a0 a1=(fun n=>some ((n,()),())) (ycR a0 a1):=zkS (p:=fun (n:Bool)=>((n,()),())) rfl
theorem yxk:ConOk Tryz.prog 217 ymg:=(yGK).mono (fun x r _ h=>(yIP x.1 x.2.1).trans h)
end
section
def ybx:Code:=(Tryz.f251.body).getD .skip
def ydE:Env:=zki TT [(217,ymg)] []
theorem yzK:FrOk Tryz.prog ⟨ydE,19,fun _=>none⟩ ybx:=zkp yb yc ⟨yxk,trivial⟩
def yn5:Nat→Option Seg:=fun _=>none
def yw:Shape:=⟨[(0,false,[.br tI]),(1,false,[.fx 217 tI]),(7,false,[.int .i64]),(8,false,[.int .i64])],[],[]⟩
def yaf:Shape:=⟨[(0,false,[.br tI]),(1,false,[.fx 217 tI]),(7,false,[.int .i64]),(8,false,[.ci .i64 0])],[],[]⟩
def yae:Shape:=⟨[],[],[]⟩
def yag:Shape:=⟨[(4,false,[.int .i64])],[],[]⟩
abbrev yes (v0:List Int) (v1:Int) (v2:Int) (v3:Int):(yw).X:=(((v0,()),(v1,()),(v2,()),(v3,()),()),(),())
abbrev yxI (v0:List Int) (v1:Int) (v2:Int):(yaf).X:=(((v0,()),(v1,()),(v2,()),((),()),()),(),())
abbrev yxH  :(yae).X:=((),(),())
abbrev ylW (v0:Int):(yag).X:=(((v0,()),()),(),())
def yew (v0:List Int) (v1:Int) (v2:Int) (v3:Int):Option ((yw).X ⊕ ((yae).X ⊕ (yag).X)) :=
  bif (ltb v3 v2) then
    bif (inb v3 v0.length) then
      let r2:=ycR (nth v0 v3 0) v1
      bif r2 then
        some (.inr (.inr (((v3,()),()),(),())))
      else
        some (.inl (((v0,()),(v1,()),(v2,()),((IntKind.i64.wrap (v3+1)),()),()),(),()))
    else none
  else
    some (.inr (.inl ((),(),())))
def yB (x:(yw).X):=yew x.1.1.1 x.1.2.1.1 x.1.2.2.1.1 x.1.2.2.2.1.1
def ylU (x:(yaf).X):(yw).X:=(((x.1.1.1,()),(x.1.2.1.1,()),(x.1.2.2.1.1,()),(0,()),()),(),())
def ynn:Code:=(zdI ybx 64 52).getD .skip
theorem yzI:zdI ybx 64 13=some (.block 0 (.loop ynn)):=by kernel_rfl
theorem yzO (x:(yw).X):zg7 ⟨ydE,19,yn5⟩ 0 ynn 52 yw yae yag x=yB x:=by kernel_rfl
def ylV (x:(yaf).X):Nat:=(fun (u0:List Int) (u1:Int) (u2:Int)=>18446744073709551616) x.1.1.1 x.1.2.1.1 x.1.2.2.1.1
def ye9 (x:(yaf).X):Option ((yae).X ⊕ (yag).X):=zr yB (ylV x) (ylU x)
def ymb:Seg:=⟨yaf,yae,yag,ye9⟩
def yn6:Nat→Option Seg:=fun q=>bif Nat.beq q 13 then some ymb else yn5 q
theorem yzL:FrOk Tryz.prog ⟨ydE,19,yn6⟩ ybx:=(yzK).loop (sg:=ymb) yw ylU (by decide) yzI yB ylV (by decide) (fun _=>rfl) (fun x r _ h=>h) yzO
abbrev y9:List Par:= [.rd tL,.fn 217 tI]
abbrev ydF:List OT:= [⟨false,tI,.fz⟩]
def ycJ (a0:List Int) (a1:Int):Option (ResD ydF×MutD y9) :=
  zjw (ye9 (((a0,()),(a1,()),((a0.length:Int),()),((),()),()),(),())) (fun y2 =>
    some (((-1),()),())) (fun y2 =>
    some ((y2.1.1.1,()),()))
theorem yDL (x:InD y9):zjH ⟨ydE,19,yn6⟩ Tryz.f251.results.toList ybx y9 ydF x=ycJ x.1 x.2.1:=by kernel_rfl
theorem yBH:ConOk Tryz.prog 251 ⟨y9,ydF,fun x=>ycJ x.1 x.2.1⟩:=zkh (yzL) Tryz.func251 (by kernel_rfl) (by kernel_rfl) Tryz.ntmps251.symm (by decide) (fun x r h=>(yDL x).trans h)
def ybz (a0:List Int) (a1:Int):Int:=yr (fun e:Int=>e==a1) a0
theorem yB6 (a0:List Int) (a1:Int) (hk:zi9 y9 (a0,a1,())):ycJ a0 a1=(fun n=>some ((n,()),())) (ybz a0 a1):=by
  have hb:a0.length * 8≤2 ^ 47:=hk.1.1
  have h1:ye9 (yxI a0 a1 a0.length)=some (bif leb 0 (yr (fun e:Int=>e==a1) a0) then .inr (ylW (yr (fun e:Int=>e==a1) a0)) else .inl yxH) :=
    yIo (step:=yB) a0 0 (fun i=>yes a0 a1 a0.length i) (fun e:Int=>e==a1) (fun i=> .inr (ylW i)) _ (fun i hi=>by
      simp only [yB,yes,yew,zjI (show (i:Int) < a0.length by omega),cond_true,wr (show -9223372036854775808≤(i:Int)+1 by omega) (by omega),Int.natCast_add,Int.natCast_one,Int.toNat_natCast,zkO hi,zjW,ycR]
      cases (a0.getD i 0==a1)<;>rfl) (by simp only [yB,yes,yew,zkm (Int.le_refl _),cond_false]) _ (by show _ < 18446744073709551616; omega)
  unfold ycJ ybz
  rw [h1]
  cases h:leb 0 (yr (fun e:Int=>e==a1) a0)
  · rw [yXK h]; rfl
  · rfl
def yoA:Con:=⟨y9,ydF,fun x=>(fun n=>some ((n,()),())) (ybz x.1 x.2.1)⟩
theorem yB8:ConOk Tryz.prog 251 yoA:=(yBH).mono (fun x r hk h=>(yB6 x.1 x.2.1 hk).trans h)
end
end
end Go.Tf
