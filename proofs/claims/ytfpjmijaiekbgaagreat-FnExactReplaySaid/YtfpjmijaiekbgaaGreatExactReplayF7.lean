/- Functions of the program, and what they come to. -/
import Derived.Test.YtfpjmijaiekbgaaGreatExactReplayF6
namespace Go.Tf
noncomputable section
open Go.Proofs
set_option synthInstance.maxHeartbeats 400000
set_option synthInstance.maxSize 10000
set_option linter.unusedVariables false
set_option linter.unusedSimpArgs false
set_option maxRecDepth 100000
section
def yc8:Code:=(Tryz.f73.body).getD .skip
def ygi:Env:=zki TT [(147,ynq)] [(8192,(.pr (.ow .fz) (.pr (.ow (.pr .fz .fz)) (.pr .fz (.ow .fz))))),(25088,(.pr (.ow .fz) (.pr (.ow (.pr .fz .fz)) (.pr .fz (.ow .fz))))),(28672,(.pr .fz .fz)),(46144,(.pr .fz .fz))]
theorem yMW:FrOk Tryz.prog ⟨ygi,57,fun _=>none⟩ yc8:=zkp yb yc ⟨yvH,trivial⟩
def yCC:Nat→Option Seg:=fun _=>none
def ybK:Shape:=⟨[(1,false,[.ptr 0 0]),(2,false,[.ptr 64 0]),(3,false,[.ptr 4160 0]),(4,false,[.int .i64])],[(0,[.int .i64,.int .i64,.int .i64,.br tM,.int .i64,.int .i64,.int .i64,.int .i64,.int .i64,.br tW,.int .i64,.bool,.bool]),(64,[.int .i64,.int .i64,.int .i64,.nil,.int .i64,.int .i64,.int .i64,.int .i64,.int .i64,.nil,.int .i64,.bool,.bool]),(4160,[.int .i64,.int .i64,.int .i64,.at 800000000,.int .i64,.int .i64,.int .i64,.int .i64,.int .i64,.br tW,.int .i64,.bool,.bool])],[(800000000,tM,(.pr (.ow .fz) (.pr (.ow (.pr .fz .fz)) (.pr .fz (.ow .fz)))))]⟩
def yfK:Shape:=⟨[(1,false,[.ptr 0 0]),(2,false,[.ptr 64 0]),(3,false,[.ptr 4160 0]),(4,false,[.ci .i64 0])],[(0,[.int .i64,.int .i64,.int .i64,.br tM,.int .i64,.int .i64,.int .i64,.int .i64,.int .i64,.br tW,.int .i64,.bool,.bool]),(64,[.int .i64,.int .i64,.int .i64,.nil,.int .i64,.int .i64,.int .i64,.int .i64,.int .i64,.nil,.int .i64,.bool,.bool]),(4160,[.int .i64,.int .i64,.int .i64,.at 800000000,.int .i64,.int .i64,.int .i64,.int .i64,.int .i64,.br tW,.int .i64,.bool,.bool])],[(800000000,tM,(.pr (.ow .fz) (.pr (.ow (.pr .fz .fz)) (.pr .fz (.ow .fz)))))]⟩
def yfD:Shape:=⟨[(1,false,[.ptr 0 0]),(2,false,[.ptr 64 0]),(3,false,[.ptr 4160 0])],[(0,[.int .i64,.int .i64,.int .i64,.br tM,.int .i64,.int .i64,.int .i64,.int .i64,.int .i64,.br tW,.int .i64,.bool,.bool]),(64,[.int .i64,.int .i64,.int .i64,.nil,.int .i64,.int .i64,.int .i64,.int .i64,.int .i64,.nil,.int .i64,.bool,.bool]),(4160,[.int .i64,.int .i64,.int .i64,.at 800000000,.int .i64,.int .i64,.int .i64,.int .i64,.int .i64,.br tW,.int .i64,.bool,.bool])],[(800000000,tM,(.pr (.ow .fz) (.pr (.ow (.pr .fz .fz)) (.pr .fz (.ow .fz)))))]⟩
def ykU:Shape:=⟨[],[],[]⟩
abbrev yqA (v0:Int) (v1:dA) (v2:dA) (v3:dA):(ybK).X:=((((),()),((),()),((),()),(v0,()),()),((v1.1,v1.2.1.1,v1.2.1.2,v1.2.2.1,v1.2.2.2.1,v1.2.2.2.2.1,v1.2.2.2.2.2.1,v1.2.2.2.2.2.2.1,v1.2.2.2.2.2.2.2.1,v1.2.2.2.2.2.2.2.2.1,v1.2.2.2.2.2.2.2.2.2.1,v1.2.2.2.2.2.2.2.2.2.2.1,v1.2.2.2.2.2.2.2.2.2.2.2,()),(v2.1,v2.2.1.1,v2.2.1.2,(),v2.2.2.2.1,v2.2.2.2.2.1,v2.2.2.2.2.2.1,v2.2.2.2.2.2.2.1,v2.2.2.2.2.2.2.2.1,(),v2.2.2.2.2.2.2.2.2.2.1,v2.2.2.2.2.2.2.2.2.2.2.1,v2.2.2.2.2.2.2.2.2.2.2.2,()),(v3.1,v3.2.1.1,v3.2.1.2,(),v3.2.2.2.1,v3.2.2.2.2.1,v3.2.2.2.2.2.1,v3.2.2.2.2.2.2.1,v3.2.2.2.2.2.2.2.1,v3.2.2.2.2.2.2.2.2.1,v3.2.2.2.2.2.2.2.2.2.1,v3.2.2.2.2.2.2.2.2.2.2.1,v3.2.2.2.2.2.2.2.2.2.2.2,()),()),(v3.2.2.1,()))
abbrev yKD (v0:dA) (v1:dA) (v2:dA):(yfK).X:=((((),()),((),()),((),()),((),()),()),((v0.1,v0.2.1.1,v0.2.1.2,v0.2.2.1,v0.2.2.2.1,v0.2.2.2.2.1,v0.2.2.2.2.2.1,v0.2.2.2.2.2.2.1,v0.2.2.2.2.2.2.2.1,v0.2.2.2.2.2.2.2.2.1,v0.2.2.2.2.2.2.2.2.2.1,v0.2.2.2.2.2.2.2.2.2.2.1,v0.2.2.2.2.2.2.2.2.2.2.2,()),(v1.1,v1.2.1.1,v1.2.1.2,(),v1.2.2.2.1,v1.2.2.2.2.1,v1.2.2.2.2.2.1,v1.2.2.2.2.2.2.1,v1.2.2.2.2.2.2.2.1,(),v1.2.2.2.2.2.2.2.2.2.1,v1.2.2.2.2.2.2.2.2.2.2.1,v1.2.2.2.2.2.2.2.2.2.2.2,()),(v2.1,v2.2.1.1,v2.2.1.2,(),v2.2.2.2.1,v2.2.2.2.2.1,v2.2.2.2.2.2.1,v2.2.2.2.2.2.2.1,v2.2.2.2.2.2.2.2.1,v2.2.2.2.2.2.2.2.2.1,v2.2.2.2.2.2.2.2.2.2.1,v2.2.2.2.2.2.2.2.2.2.2.1,v2.2.2.2.2.2.2.2.2.2.2.2,()),()),(v2.2.2.1,()))
abbrev yKx (v0:dA) (v1:dA) (v2:dA):(yfD).X:=((((),()),((),()),((),()),()),((v0.1,v0.2.1.1,v0.2.1.2,v0.2.2.1,v0.2.2.2.1,v0.2.2.2.2.1,v0.2.2.2.2.2.1,v0.2.2.2.2.2.2.1,v0.2.2.2.2.2.2.2.1,v0.2.2.2.2.2.2.2.2.1,v0.2.2.2.2.2.2.2.2.2.1,v0.2.2.2.2.2.2.2.2.2.2.1,v0.2.2.2.2.2.2.2.2.2.2.2,()),(v1.1,v1.2.1.1,v1.2.1.2,(),v1.2.2.2.1,v1.2.2.2.2.1,v1.2.2.2.2.2.1,v1.2.2.2.2.2.2.1,v1.2.2.2.2.2.2.2.1,(),v1.2.2.2.2.2.2.2.2.2.1,v1.2.2.2.2.2.2.2.2.2.2.1,v1.2.2.2.2.2.2.2.2.2.2.2,()),(v2.1,v2.2.1.1,v2.2.1.2,(),v2.2.2.2.1,v2.2.2.2.2.1,v2.2.2.2.2.2.1,v2.2.2.2.2.2.2.1,v2.2.2.2.2.2.2.2.1,v2.2.2.2.2.2.2.2.2.1,v2.2.2.2.2.2.2.2.2.2.1,v2.2.2.2.2.2.2.2.2.2.2.1,v2.2.2.2.2.2.2.2.2.2.2.2,()),()),(v2.2.2.1,()))
def yqX (v0:Int) (v1:Int) (v2:Int) (v3:Int) (v4:List dM) (v5:Int) (v6:Int) (v7:Int) (v8:Int) (v9:Int) (v10:List dW) (v11:Int) (v12:Bool) (v13:Bool) (v14:Int) (v15:Int) (v16:Int) (v17:Int) (v18:Int) (v19:Int) (v20:Int) (v21:Int) (v22:Int) (v23:Bool) (v24:Bool) (v25:Int) (v26:Int) (v27:Int) (v28:Int) (v29:Int) (v30:Int) (v31:Int) (v32:Int) (v33:List dW) (v34:Int) (v35:Bool) (v36:Bool) (v37:List dM):Option ((ybK).X ⊕ ((yfD).X ⊕ (ykU).X)) :=
  bif (ltb v0 (v4.length:Int)) then
    bif (inb v0 v4.length) then
      let r2:=ybC ((nth v4 v0 ([],[],false,[])).1,((nth v4 v0 ([],[],false,[])).2).1,(((nth v4 v0 ([],[],false,[])).2).2))
      bif (zj4 v37.length ([r2]:List dM).length 80) then
        some (.inl ((((),()),((),()),((),()),((IntKind.i64.wrap (v0+1)),()),()),((v1,v2,v3,v4,v5,v6,v7,v8,v9,v10,v11,v12,v13,()),(v14,v15,v16,(),v17,v18,v19,v20,v21,(),v22,v23,v24,()),(v25,v26,v27,(),v28,v29,v30,v31,v32,v33,v34,v35,v36,()),()),((v37++([r2]:List dM)),())))
      else none
    else none
  else
    some (.inr (.inl ((((),()),((),()),((),()),()),((v1,v2,v3,v4,v5,v6,v7,v8,v9,v10,v11,v12,v13,()),(v14,v15,v16,(),v17,v18,v19,v20,v21,(),v22,v23,v24,()),(v25,v26,v27,(),v28,v29,v30,v31,v32,v33,v34,v35,v36,()),()),(v37,()))))
def ycf (x:(ybK).X):=yqX x.1.2.2.2.1.1 x.2.1.1.1 x.2.1.1.2.1 x.2.1.1.2.2.1 x.2.1.1.2.2.2.1 x.2.1.1.2.2.2.2.1 x.2.1.1.2.2.2.2.2.1 x.2.1.1.2.2.2.2.2.2.1 x.2.1.1.2.2.2.2.2.2.2.1 x.2.1.1.2.2.2.2.2.2.2.2.1 x.2.1.1.2.2.2.2.2.2.2.2.2.1 x.2.1.1.2.2.2.2.2.2.2.2.2.2.1 x.2.1.1.2.2.2.2.2.2.2.2.2.2.2.1 x.2.1.1.2.2.2.2.2.2.2.2.2.2.2.2.1 x.2.1.2.1.1 x.2.1.2.1.2.1 x.2.1.2.1.2.2.1 x.2.1.2.1.2.2.2.2.1 x.2.1.2.1.2.2.2.2.2.1 x.2.1.2.1.2.2.2.2.2.2.1 x.2.1.2.1.2.2.2.2.2.2.2.1 x.2.1.2.1.2.2.2.2.2.2.2.2.1 x.2.1.2.1.2.2.2.2.2.2.2.2.2.2.1 x.2.1.2.1.2.2.2.2.2.2.2.2.2.2.2.1 x.2.1.2.1.2.2.2.2.2.2.2.2.2.2.2.2.1 x.2.1.2.2.1.1 x.2.1.2.2.1.2.1 x.2.1.2.2.1.2.2.1 x.2.1.2.2.1.2.2.2.2.1 x.2.1.2.2.1.2.2.2.2.2.1 x.2.1.2.2.1.2.2.2.2.2.2.1 x.2.1.2.2.1.2.2.2.2.2.2.2.1 x.2.1.2.2.1.2.2.2.2.2.2.2.2.1 x.2.1.2.2.1.2.2.2.2.2.2.2.2.2.1 x.2.1.2.2.1.2.2.2.2.2.2.2.2.2.2.1 x.2.1.2.2.1.2.2.2.2.2.2.2.2.2.2.2.1 x.2.1.2.2.1.2.2.2.2.2.2.2.2.2.2.2.2.1 x.2.2.1
def yy8 (x:(yfK).X):(ybK).X:=((((),()),((),()),((),()),(0,()),()),((x.2.1.1.1,x.2.1.1.2.1,x.2.1.1.2.2.1,x.2.1.1.2.2.2.1,x.2.1.1.2.2.2.2.1,x.2.1.1.2.2.2.2.2.1,x.2.1.1.2.2.2.2.2.2.1,x.2.1.1.2.2.2.2.2.2.2.1,x.2.1.1.2.2.2.2.2.2.2.2.1,x.2.1.1.2.2.2.2.2.2.2.2.2.1,x.2.1.1.2.2.2.2.2.2.2.2.2.2.1,x.2.1.1.2.2.2.2.2.2.2.2.2.2.2.1,x.2.1.1.2.2.2.2.2.2.2.2.2.2.2.2.1,()),(x.2.1.2.1.1,x.2.1.2.1.2.1,x.2.1.2.1.2.2.1,(),x.2.1.2.1.2.2.2.2.1,x.2.1.2.1.2.2.2.2.2.1,x.2.1.2.1.2.2.2.2.2.2.1,x.2.1.2.1.2.2.2.2.2.2.2.1,x.2.1.2.1.2.2.2.2.2.2.2.2.1,(),x.2.1.2.1.2.2.2.2.2.2.2.2.2.2.1,x.2.1.2.1.2.2.2.2.2.2.2.2.2.2.2.1,x.2.1.2.1.2.2.2.2.2.2.2.2.2.2.2.2.1,()),(x.2.1.2.2.1.1,x.2.1.2.2.1.2.1,x.2.1.2.2.1.2.2.1,(),x.2.1.2.2.1.2.2.2.2.1,x.2.1.2.2.1.2.2.2.2.2.1,x.2.1.2.2.1.2.2.2.2.2.2.1,x.2.1.2.2.1.2.2.2.2.2.2.2.1,x.2.1.2.2.1.2.2.2.2.2.2.2.2.1,x.2.1.2.2.1.2.2.2.2.2.2.2.2.2.1,x.2.1.2.2.1.2.2.2.2.2.2.2.2.2.2.1,x.2.1.2.2.1.2.2.2.2.2.2.2.2.2.2.2.1,x.2.1.2.2.1.2.2.2.2.2.2.2.2.2.2.2.2.1,()),()),(x.2.2.1,()))
def yAG:Code:=(zdI yc8 64 244).getD .skip
theorem yL6:zdI yc8 64 61=some (.block 0 (.loop yAG)):=by kernel_rfl
theorem yOO (x:(ybK).X):zg7 ⟨ygi,57,yCC⟩ 0 yAG 244 ybK yfD ykU x=ycf x:=by kernel_rfl
def yzn (x:(yfK).X):Nat:=(fun (u0:Int) (u1:Int) (u2:Int) (u3:List dM) (u4:Int) (u5:Int) (u6:Int) (u7:Int) (u8:Int) (u9:List dW) (u10:Int) (u11:Bool) (u12:Bool) (u13:Int) (u14:Int) (u15:Int) (u16:Int) (u17:Int) (u18:Int) (u19:Int) (u20:Int) (u21:Int) (u22:Bool) (u23:Bool) (u24:Int) (u25:Int) (u26:Int) (u27:Int) (u28:Int) (u29:Int) (u30:Int) (u31:Int) (u32:List dW) (u33:Int) (u34:Bool) (u35:Bool) (u36:List dM)=>18446744073709551616) x.2.1.1.1 x.2.1.1.2.1 x.2.1.1.2.2.1 x.2.1.1.2.2.2.1 x.2.1.1.2.2.2.2.1 x.2.1.1.2.2.2.2.2.1 x.2.1.1.2.2.2.2.2.2.1 x.2.1.1.2.2.2.2.2.2.2.1 x.2.1.1.2.2.2.2.2.2.2.2.1 x.2.1.1.2.2.2.2.2.2.2.2.2.1 x.2.1.1.2.2.2.2.2.2.2.2.2.2.1 x.2.1.1.2.2.2.2.2.2.2.2.2.2.2.1 x.2.1.1.2.2.2.2.2.2.2.2.2.2.2.2.1 x.2.1.2.1.1 x.2.1.2.1.2.1 x.2.1.2.1.2.2.1 x.2.1.2.1.2.2.2.2.1 x.2.1.2.1.2.2.2.2.2.1 x.2.1.2.1.2.2.2.2.2.2.1 x.2.1.2.1.2.2.2.2.2.2.2.1 x.2.1.2.1.2.2.2.2.2.2.2.2.1 x.2.1.2.1.2.2.2.2.2.2.2.2.2.2.1 x.2.1.2.1.2.2.2.2.2.2.2.2.2.2.2.1 x.2.1.2.1.2.2.2.2.2.2.2.2.2.2.2.2.1 x.2.1.2.2.1.1 x.2.1.2.2.1.2.1 x.2.1.2.2.1.2.2.1 x.2.1.2.2.1.2.2.2.2.1 x.2.1.2.2.1.2.2.2.2.2.1 x.2.1.2.2.1.2.2.2.2.2.2.1 x.2.1.2.2.1.2.2.2.2.2.2.2.1 x.2.1.2.2.1.2.2.2.2.2.2.2.2.1 x.2.1.2.2.1.2.2.2.2.2.2.2.2.2.1 x.2.1.2.2.1.2.2.2.2.2.2.2.2.2.2.1 x.2.1.2.2.1.2.2.2.2.2.2.2.2.2.2.2.1 x.2.1.2.2.1.2.2.2.2.2.2.2.2.2.2.2.2.1 x.2.2.1
def ysk (x:(yfK).X):Option ((yfD).X ⊕ (ykU).X):=zr ycf (yzn x) (yy8 x)
def yzF:Seg:=⟨yfK,yfD,ykU,ysk⟩
def ytg:Nat→Option Seg:=fun q=>bif Nat.beq q 61 then some yzF else yCC q
theorem yMX:FrOk Tryz.prog ⟨ygi,57,ytg⟩ yc8:=(yMW).loop (sg:=yzF) ybK yy8 (by decide) yL6 ycf yzn (by decide) (fun _=>rfl) (fun x r _ h=>h) yOO
def ya5:Shape:=⟨[(1,false,[.ptr 0 0]),(2,false,[.ptr 64 0]),(3,false,[.ptr 4160 0]),(5,false,[.int .i64])],[(0,[.int .i64,.int .i64,.int .i64,.br tM,.int .i64,.int .i64,.int .i64,.int .i64,.int .i64,.br tW,.int .i64,.bool,.bool]),(64,[.int .i64,.int .i64,.int .i64,.nil,.int .i64,.int .i64,.int .i64,.int .i64,.int .i64,.nil,.int .i64,.bool,.bool]),(4160,[.int .i64,.int .i64,.int .i64,.at 800000000,.int .i64,.int .i64,.int .i64,.int .i64,.int .i64,.at 800000001,.int .i64,.bool,.bool])],[(800000000,tM,(.pr (.ow .fz) (.pr (.ow (.pr .fz .fz)) (.pr .fz (.ow .fz))))),(800000001,tW,(.pr .fz .fz))]⟩
def yeU:Shape:=⟨[(1,false,[.ptr 0 0]),(2,false,[.ptr 64 0]),(3,false,[.ptr 4160 0]),(5,false,[.ci .i64 0])],[(0,[.int .i64,.int .i64,.int .i64,.br tM,.int .i64,.int .i64,.int .i64,.int .i64,.int .i64,.br tW,.int .i64,.bool,.bool]),(64,[.int .i64,.int .i64,.int .i64,.nil,.int .i64,.int .i64,.int .i64,.int .i64,.int .i64,.nil,.int .i64,.bool,.bool]),(4160,[.int .i64,.int .i64,.int .i64,.at 800000000,.int .i64,.int .i64,.int .i64,.int .i64,.int .i64,.at 800000001,.int .i64,.bool,.bool])],[(800000000,tM,(.pr (.ow .fz) (.pr (.ow (.pr .fz .fz)) (.pr .fz (.ow .fz))))),(800000001,tW,(.pr .fz .fz))]⟩
def yeJ:Shape:=⟨[(2,false,[.ptr 64 0]),(3,false,[.ptr 4160 0])],[(64,[.int .i64,.int .i64,.int .i64,.nil,.int .i64,.int .i64,.int .i64,.int .i64,.int .i64,.nil,.int .i64,.bool,.bool]),(4160,[.int .i64,.int .i64,.int .i64,.at 800000000,.int .i64,.int .i64,.int .i64,.int .i64,.int .i64,.at 800000001,.int .i64,.bool,.bool])],[(800000000,tM,(.pr (.ow .fz) (.pr (.ow (.pr .fz .fz)) (.pr .fz (.ow .fz))))),(800000001,tW,(.pr .fz .fz))]⟩
def yiU:Shape:=⟨[],[],[]⟩
abbrev yoJ (v0:Int) (v1:dA) (v2:dA) (v3:dA):(ya5).X:=((((),()),((),()),((),()),(v0,()),()),((v1.1,v1.2.1.1,v1.2.1.2,v1.2.2.1,v1.2.2.2.1,v1.2.2.2.2.1,v1.2.2.2.2.2.1,v1.2.2.2.2.2.2.1,v1.2.2.2.2.2.2.2.1,v1.2.2.2.2.2.2.2.2.1,v1.2.2.2.2.2.2.2.2.2.1,v1.2.2.2.2.2.2.2.2.2.2.1,v1.2.2.2.2.2.2.2.2.2.2.2,()),(v2.1,v2.2.1.1,v2.2.1.2,(),v2.2.2.2.1,v2.2.2.2.2.1,v2.2.2.2.2.2.1,v2.2.2.2.2.2.2.1,v2.2.2.2.2.2.2.2.1,(),v2.2.2.2.2.2.2.2.2.2.1,v2.2.2.2.2.2.2.2.2.2.2.1,v2.2.2.2.2.2.2.2.2.2.2.2,()),(v3.1,v3.2.1.1,v3.2.1.2,(),v3.2.2.2.1,v3.2.2.2.2.1,v3.2.2.2.2.2.1,v3.2.2.2.2.2.2.1,v3.2.2.2.2.2.2.2.1,(),v3.2.2.2.2.2.2.2.2.2.1,v3.2.2.2.2.2.2.2.2.2.2.1,v3.2.2.2.2.2.2.2.2.2.2.2,()),()),(v3.2.2.1,v3.2.2.2.2.2.2.2.2.1,()))
abbrev yIF (v0:dA) (v1:dA) (v2:dA):(yeU).X:=((((),()),((),()),((),()),((),()),()),((v0.1,v0.2.1.1,v0.2.1.2,v0.2.2.1,v0.2.2.2.1,v0.2.2.2.2.1,v0.2.2.2.2.2.1,v0.2.2.2.2.2.2.1,v0.2.2.2.2.2.2.2.1,v0.2.2.2.2.2.2.2.2.1,v0.2.2.2.2.2.2.2.2.2.1,v0.2.2.2.2.2.2.2.2.2.2.1,v0.2.2.2.2.2.2.2.2.2.2.2,()),(v1.1,v1.2.1.1,v1.2.1.2,(),v1.2.2.2.1,v1.2.2.2.2.1,v1.2.2.2.2.2.1,v1.2.2.2.2.2.2.1,v1.2.2.2.2.2.2.2.1,(),v1.2.2.2.2.2.2.2.2.2.1,v1.2.2.2.2.2.2.2.2.2.2.1,v1.2.2.2.2.2.2.2.2.2.2.2,()),(v2.1,v2.2.1.1,v2.2.1.2,(),v2.2.2.2.1,v2.2.2.2.2.1,v2.2.2.2.2.2.1,v2.2.2.2.2.2.2.1,v2.2.2.2.2.2.2.2.1,(),v2.2.2.2.2.2.2.2.2.2.1,v2.2.2.2.2.2.2.2.2.2.2.1,v2.2.2.2.2.2.2.2.2.2.2.2,()),()),(v2.2.2.1,v2.2.2.2.2.2.2.2.2.1,()))
abbrev yIu (v0:dA) (v1:dA):(yeJ).X:=((((),()),((),()),()),((v0.1,v0.2.1.1,v0.2.1.2,(),v0.2.2.2.1,v0.2.2.2.2.1,v0.2.2.2.2.2.1,v0.2.2.2.2.2.2.1,v0.2.2.2.2.2.2.2.1,(),v0.2.2.2.2.2.2.2.2.2.1,v0.2.2.2.2.2.2.2.2.2.2.1,v0.2.2.2.2.2.2.2.2.2.2.2,()),(v1.1,v1.2.1.1,v1.2.1.2,(),v1.2.2.2.1,v1.2.2.2.2.1,v1.2.2.2.2.2.1,v1.2.2.2.2.2.2.1,v1.2.2.2.2.2.2.2.1,(),v1.2.2.2.2.2.2.2.2.2.1,v1.2.2.2.2.2.2.2.2.2.2.1,v1.2.2.2.2.2.2.2.2.2.2.2,()),()),(v1.2.2.1,v1.2.2.2.2.2.2.2.2.1,()))
def yo8 (v0:Int) (v1:Int) (v2:Int) (v3:Int) (v4:List dM) (v5:Int) (v6:Int) (v7:Int) (v8:Int) (v9:Int) (v10:List dW) (v11:Int) (v12:Bool) (v13:Bool) (v14:Int) (v15:Int) (v16:Int) (v17:Int) (v18:Int) (v19:Int) (v20:Int) (v21:Int) (v22:Int) (v23:Bool) (v24:Bool) (v25:Int) (v26:Int) (v27:Int) (v28:Int) (v29:Int) (v30:Int) (v31:Int) (v32:Int) (v33:Int) (v34:Bool) (v35:Bool) (v36:List dM) (v37:List dW):Option ((ya5).X ⊕ ((yeJ).X ⊕ (yiU).X)) :=
  bif (ltb v0 (v10.length:Int)) then
    bif (inb v0 v10.length) then
      bif (inb v0 v10.length) then
        bif (zj4 ([]:List Int).length ((nth v10 v0 (0,[])).2).length 8) then
          bif (zj4 v37.length ([((nth v10 v0 (0,[])).1,(([]:List Int)++((nth v10 v0 (0,[])).2)))]:List dW).length 32) then
            some (.inl ((((),()),((),()),((),()),((IntKind.i64.wrap (v0+1)),()),()),((v1,v2,v3,v4,v5,v6,v7,v8,v9,v10,v11,v12,v13,()),(v14,v15,v16,(),v17,v18,v19,v20,v21,(),v22,v23,v24,()),(v25,v26,v27,(),v28,v29,v30,v31,v32,(),v33,v34,v35,()),()),(v36,(v37++([((nth v10 v0 (0,[])).1,(([]:List Int)++((nth v10 v0 (0,[])).2)))]:List dW)),())))
          else none
        else none
      else none
    else none
  else
    some (.inr (.inl ((((),()),((),()),()),((v14,v15,v16,(),v17,v18,v19,v20,v21,(),v22,v23,v24,()),(v25,v26,v27,(),v28,v29,v30,v31,v32,(),v33,v34,v35,()),()),(v36,v37,()))))
def ybu (x:(ya5).X):=yo8 x.1.2.2.2.1.1 x.2.1.1.1 x.2.1.1.2.1 x.2.1.1.2.2.1 x.2.1.1.2.2.2.1 x.2.1.1.2.2.2.2.1 x.2.1.1.2.2.2.2.2.1 x.2.1.1.2.2.2.2.2.2.1 x.2.1.1.2.2.2.2.2.2.2.1 x.2.1.1.2.2.2.2.2.2.2.2.1 x.2.1.1.2.2.2.2.2.2.2.2.2.1 x.2.1.1.2.2.2.2.2.2.2.2.2.2.1 x.2.1.1.2.2.2.2.2.2.2.2.2.2.2.1 x.2.1.1.2.2.2.2.2.2.2.2.2.2.2.2.1 x.2.1.2.1.1 x.2.1.2.1.2.1 x.2.1.2.1.2.2.1 x.2.1.2.1.2.2.2.2.1 x.2.1.2.1.2.2.2.2.2.1 x.2.1.2.1.2.2.2.2.2.2.1 x.2.1.2.1.2.2.2.2.2.2.2.1 x.2.1.2.1.2.2.2.2.2.2.2.2.1 x.2.1.2.1.2.2.2.2.2.2.2.2.2.2.1 x.2.1.2.1.2.2.2.2.2.2.2.2.2.2.2.1 x.2.1.2.1.2.2.2.2.2.2.2.2.2.2.2.2.1 x.2.1.2.2.1.1 x.2.1.2.2.1.2.1 x.2.1.2.2.1.2.2.1 x.2.1.2.2.1.2.2.2.2.1 x.2.1.2.2.1.2.2.2.2.2.1 x.2.1.2.2.1.2.2.2.2.2.2.1 x.2.1.2.2.1.2.2.2.2.2.2.2.1 x.2.1.2.2.1.2.2.2.2.2.2.2.2.1 x.2.1.2.2.1.2.2.2.2.2.2.2.2.2.2.1 x.2.1.2.2.1.2.2.2.2.2.2.2.2.2.2.2.1 x.2.1.2.2.1.2.2.2.2.2.2.2.2.2.2.2.2.1 x.2.2.1 x.2.2.2.1
def ywR (x:(yeU).X):(ya5).X:=((((),()),((),()),((),()),(0,()),()),((x.2.1.1.1,x.2.1.1.2.1,x.2.1.1.2.2.1,x.2.1.1.2.2.2.1,x.2.1.1.2.2.2.2.1,x.2.1.1.2.2.2.2.2.1,x.2.1.1.2.2.2.2.2.2.1,x.2.1.1.2.2.2.2.2.2.2.1,x.2.1.1.2.2.2.2.2.2.2.2.1,x.2.1.1.2.2.2.2.2.2.2.2.2.1,x.2.1.1.2.2.2.2.2.2.2.2.2.2.1,x.2.1.1.2.2.2.2.2.2.2.2.2.2.2.1,x.2.1.1.2.2.2.2.2.2.2.2.2.2.2.2.1,()),(x.2.1.2.1.1,x.2.1.2.1.2.1,x.2.1.2.1.2.2.1,(),x.2.1.2.1.2.2.2.2.1,x.2.1.2.1.2.2.2.2.2.1,x.2.1.2.1.2.2.2.2.2.2.1,x.2.1.2.1.2.2.2.2.2.2.2.1,x.2.1.2.1.2.2.2.2.2.2.2.2.1,(),x.2.1.2.1.2.2.2.2.2.2.2.2.2.2.1,x.2.1.2.1.2.2.2.2.2.2.2.2.2.2.2.1,x.2.1.2.1.2.2.2.2.2.2.2.2.2.2.2.2.1,()),(x.2.1.2.2.1.1,x.2.1.2.2.1.2.1,x.2.1.2.2.1.2.2.1,(),x.2.1.2.2.1.2.2.2.2.1,x.2.1.2.2.1.2.2.2.2.2.1,x.2.1.2.2.1.2.2.2.2.2.2.1,x.2.1.2.2.1.2.2.2.2.2.2.2.1,x.2.1.2.2.1.2.2.2.2.2.2.2.2.1,(),x.2.1.2.2.1.2.2.2.2.2.2.2.2.2.2.1,x.2.1.2.2.1.2.2.2.2.2.2.2.2.2.2.2.1,x.2.1.2.2.1.2.2.2.2.2.2.2.2.2.2.2.2.1,()),()),(x.2.2.1,x.2.2.2.1,()))
def yyD:Code:=(zdI yc8 64 1012).getD .skip
theorem yJM:zdI yc8 64 253=some (.block 2 (.loop yyD)):=by kernel_rfl
theorem yLw (x:(ya5).X):zg7 ⟨ygi,57,ytg⟩ 2 yyD 1012 ya5 yeJ yiU x=ybu x:=by kernel_rfl
def yxa (x:(yeU).X):Nat:=(fun (u0:Int) (u1:Int) (u2:Int) (u3:List dM) (u4:Int) (u5:Int) (u6:Int) (u7:Int) (u8:Int) (u9:List dW) (u10:Int) (u11:Bool) (u12:Bool) (u13:Int) (u14:Int) (u15:Int) (u16:Int) (u17:Int) (u18:Int) (u19:Int) (u20:Int) (u21:Int) (u22:Bool) (u23:Bool) (u24:Int) (u25:Int) (u26:Int) (u27:Int) (u28:Int) (u29:Int) (u30:Int) (u31:Int) (u32:Int) (u33:Bool) (u34:Bool) (u35:List dM) (u36:List dW)=>18446744073709551616) x.2.1.1.1 x.2.1.1.2.1 x.2.1.1.2.2.1 x.2.1.1.2.2.2.1 x.2.1.1.2.2.2.2.1 x.2.1.1.2.2.2.2.2.1 x.2.1.1.2.2.2.2.2.2.1 x.2.1.1.2.2.2.2.2.2.2.1 x.2.1.1.2.2.2.2.2.2.2.2.1 x.2.1.1.2.2.2.2.2.2.2.2.2.1 x.2.1.1.2.2.2.2.2.2.2.2.2.2.1 x.2.1.1.2.2.2.2.2.2.2.2.2.2.2.1 x.2.1.1.2.2.2.2.2.2.2.2.2.2.2.2.1 x.2.1.2.1.1 x.2.1.2.1.2.1 x.2.1.2.1.2.2.1 x.2.1.2.1.2.2.2.2.1 x.2.1.2.1.2.2.2.2.2.1 x.2.1.2.1.2.2.2.2.2.2.1 x.2.1.2.1.2.2.2.2.2.2.2.1 x.2.1.2.1.2.2.2.2.2.2.2.2.1 x.2.1.2.1.2.2.2.2.2.2.2.2.2.2.1 x.2.1.2.1.2.2.2.2.2.2.2.2.2.2.2.1 x.2.1.2.1.2.2.2.2.2.2.2.2.2.2.2.2.1 x.2.1.2.2.1.1 x.2.1.2.2.1.2.1 x.2.1.2.2.1.2.2.1 x.2.1.2.2.1.2.2.2.2.1 x.2.1.2.2.1.2.2.2.2.2.1 x.2.1.2.2.1.2.2.2.2.2.2.1 x.2.1.2.2.1.2.2.2.2.2.2.2.1 x.2.1.2.2.1.2.2.2.2.2.2.2.2.1 x.2.1.2.2.1.2.2.2.2.2.2.2.2.2.2.1 x.2.1.2.2.1.2.2.2.2.2.2.2.2.2.2.2.1 x.2.1.2.2.1.2.2.2.2.2.2.2.2.2.2.2.2.1 x.2.2.1 x.2.2.2.1
def yqr (x:(yeU).X):Option ((yeJ).X ⊕ (yiU).X):=zr ybu (yxa x) (ywR x)
def yxA:Seg:=⟨yeU,yeJ,yiU,yqr⟩
def yCD:Nat→Option Seg:=fun q=>bif Nat.beq q 253 then some yxA else ytg q
theorem yMY:FrOk Tryz.prog ⟨ygi,57,yCD⟩ yc8:=(yMX).loop (sg:=yxA) ya5 ywR (by decide) yJM ybu yxa (by decide) (fun _=>rfl) (fun x r _ h=>h) yLw
abbrev ygB:List Par:= [.rd tA]
abbrev yrV:List OT:= [⟨false,tA,(.pr .fz (.pr (.pr .fz .fz) (.pr (.ow (.pr (.ow .fz) (.pr (.ow (.pr .fz .fz)) (.pr .fz (.ow .fz))))) (.pr .fz (.pr .fz (.pr .fz (.pr .fz (.pr .fz (.pr (.ow (.pr .fz .fz)) (.pr .fz (.pr .fz .fz)))))))))))⟩]
def ynQ (a0:dA):Option (ResD yrV×MutD ygB) :=
  zjw (ysk ((((),()),((),()),((),()),((),()),()),((a0.1,a0.2.1.1,a0.2.1.2,a0.2.2.1,a0.2.2.2.1,a0.2.2.2.2.1,a0.2.2.2.2.2.1,a0.2.2.2.2.2.2.1,a0.2.2.2.2.2.2.2.1,a0.2.2.2.2.2.2.2.2.1,a0.2.2.2.2.2.2.2.2.2.1,a0.2.2.2.2.2.2.2.2.2.2.1,a0.2.2.2.2.2.2.2.2.2.2.2,()),(0,0,0,(),0,0,0,0,0,(),0,false,false,()),(a0.1,a0.2.1.1,a0.2.1.2,(),a0.2.2.2.1,a0.2.2.2.2.1,a0.2.2.2.2.2.1,a0.2.2.2.2.2.2.1,a0.2.2.2.2.2.2.2.1,a0.2.2.2.2.2.2.2.2.1,a0.2.2.2.2.2.2.2.2.2.1,a0.2.2.2.2.2.2.2.2.2.2.1,a0.2.2.2.2.2.2.2.2.2.2.2,()),()),(([]:List dM),()))) (fun y2 =>
    zjw (yqr ((((),()),((),()),((),()),((),()),()),((y2.2.1.1.1,y2.2.1.1.2.1,y2.2.1.1.2.2.1,y2.2.1.1.2.2.2.1,y2.2.1.1.2.2.2.2.1,y2.2.1.1.2.2.2.2.2.1,y2.2.1.1.2.2.2.2.2.2.1,y2.2.1.1.2.2.2.2.2.2.2.1,y2.2.1.1.2.2.2.2.2.2.2.2.1,y2.2.1.1.2.2.2.2.2.2.2.2.2.1,y2.2.1.1.2.2.2.2.2.2.2.2.2.2.1,y2.2.1.1.2.2.2.2.2.2.2.2.2.2.2.1,y2.2.1.1.2.2.2.2.2.2.2.2.2.2.2.2.1,()),(y2.2.1.2.1.1,y2.2.1.2.1.2.1,y2.2.1.2.1.2.2.1,(),y2.2.1.2.1.2.2.2.2.1,y2.2.1.2.1.2.2.2.2.2.1,y2.2.1.2.1.2.2.2.2.2.2.1,y2.2.1.2.1.2.2.2.2.2.2.2.1,y2.2.1.2.1.2.2.2.2.2.2.2.2.1,(),y2.2.1.2.1.2.2.2.2.2.2.2.2.2.2.1,y2.2.1.2.1.2.2.2.2.2.2.2.2.2.2.2.1,y2.2.1.2.1.2.2.2.2.2.2.2.2.2.2.2.2.1,()),(y2.2.1.2.2.1.1,y2.2.1.2.2.1.2.1,y2.2.1.2.2.1.2.2.1,(),y2.2.1.2.2.1.2.2.2.2.1,y2.2.1.2.2.1.2.2.2.2.2.1,y2.2.1.2.2.1.2.2.2.2.2.2.1,y2.2.1.2.2.1.2.2.2.2.2.2.2.1,y2.2.1.2.2.1.2.2.2.2.2.2.2.2.1,(),y2.2.1.2.2.1.2.2.2.2.2.2.2.2.2.2.1,y2.2.1.2.2.1.2.2.2.2.2.2.2.2.2.2.2.1,y2.2.1.2.2.1.2.2.2.2.2.2.2.2.2.2.2.2.1,()),()),(y2.2.2.1,([]:List dW),()))) (fun y3 =>
      some (((y3.2.1.2.1.1,(y3.2.1.2.1.2.1,y3.2.1.2.1.2.2.1),y3.2.2.1,y3.2.1.2.1.2.2.2.2.1,y3.2.1.2.1.2.2.2.2.2.1,y3.2.1.2.1.2.2.2.2.2.2.1,y3.2.1.2.1.2.2.2.2.2.2.2.1,y3.2.1.2.1.2.2.2.2.2.2.2.2.1,y3.2.2.2.1,y3.2.1.2.1.2.2.2.2.2.2.2.2.2.2.1,y3.2.1.2.1.2.2.2.2.2.2.2.2.2.2.2.1,y3.2.1.2.1.2.2.2.2.2.2.2.2.2.2.2.2.1),()),())) (fun y3 =>
      none)) (fun y2 =>
    none)
theorem yVv (x:InD ygB):zjH ⟨ygi,57,yCD⟩ Tryz.f73.results.toList yc8 ygB yrV x=ynQ x.1:=by kernel_rfl
theorem yRx:ConOk Tryz.prog 73 ⟨ygB,yrV,fun x=>ynQ x.1⟩:=zkh (yMY) Tryz.func73 (by kernel_rfl) (by kernel_rfl) Tryz.ntmps73.symm (by decide) (fun x r h=>(yVv x).trans h)
def yl6 (a0:dA):dA:=a0
theorem yTF (a0:dA) (hk:zi9 ygB (a0,())):ynQ a0=(fun n=>some ((n,()),())) (yl6 a0):=by
  have hb:a0.2.2.1.length * 80≤2 ^ 47:=hk.1.2.2.1.1
  have hb2:a0.2.2.2.2.2.2.2.2.1.length * 32≤2 ^ 47:=hk.1.2.2.2.2.2.2.2.2.1.1
  have hc: ∀ i,i < a0.2.2.2.2.2.2.2.2.1.length→(a0.2.2.2.2.2.2.2.2.1.getD i (0,[])).2.length * 8≤2 ^ 47:=fun i hi=>by rw [zcq hi]; exact (hk.1.2.2.2.2.2.2.2.2.1.2 _ (List.getElem_mem hi)).2.1
  have h1:=zkk (step:=ycf) a0.2.2.1 yh (fun i s=>yqA i a0 ynw (a0.1,a0.2.1,s,a0.2.2.2)) (fun s x=>s++ [x]) (fun i s=>s.length=i) (fun s=> .inl (yKx a0 ynw (a0.1,a0.2.1,s,a0.2.2.2))) (fun i s hi hs=>⟨by
      simp only [ycf,yqA,yqX,zjI (show (i:Int) < a0.2.2.1.length by omega),cond_true,wr (show -9223372036854775808≤(i:Int)+1 by omega) (by omega),Int.natCast_add,Int.natCast_one,Int.toNat_natCast,zkO hi,zjW,ybC,zkV]
      rw [zkw.2 (show (s.length+ [a0.2.2.1.getD i ([],[],false,[])].length) * 80≤140737488355328 by simp only [List.length_cons,List.length_nil]; omega)]; rfl,by simp [hs]⟩) (fun s hs=>by simp only [ycf,yqA,yqX,zkm (Int.le_refl _),cond_false]) [] rfl 18446744073709551616 (by omega)
  have h2:=zkk (step:=ybu) a0.2.2.2.2.2.2.2.2.1 (0,[]) (fun i s=>yoJ i a0 ynw (a0.1,a0.2.1,a0.2.2.1,a0.2.2.2.1,a0.2.2.2.2.1,a0.2.2.2.2.2.1,a0.2.2.2.2.2.2.1,a0.2.2.2.2.2.2.2.1,s,a0.2.2.2.2.2.2.2.2.2)) (fun s x=>s++ [x]) (fun i s=>s.length=i) (fun s=> .inl (yIu ynw (a0.1,a0.2.1,a0.2.2.1,a0.2.2.2.1,a0.2.2.2.2.1,a0.2.2.2.2.2.1,a0.2.2.2.2.2.2.1,a0.2.2.2.2.2.2.2.1,s,a0.2.2.2.2.2.2.2.2.2))) (fun i s hi hs=>⟨by
      have:=hc i hi
      simp only [ybu,yoJ,yo8,zjI (show (i:Int) < a0.2.2.2.2.2.2.2.2.1.length by omega),cond_true,wr (show -9223372036854775808≤(i:Int)+1 by omega) (by omega),Int.natCast_add,Int.natCast_one,Int.toNat_natCast,zkO hi,zjW,List.nil_append,zkV]
      rw [zkw.2 (show (([]:List Int).length+(a0.2.2.2.2.2.2.2.2.1.getD i (0,[])).2.length) * 8≤140737488355328 by rw [List.length_nil]; omega),zkw.2 (show (s.length+ [a0.2.2.2.2.2.2.2.2.1.getD i (0,[])].length) * 32≤140737488355328 by simp only [List.length_cons,List.length_nil]; omega)]; rfl,by simp [hs]⟩) (fun s hs=>by simp only [ybu,yoJ,yo8,zkm (Int.le_refl _),cond_false]) [] rfl 18446744073709551616 (by omega)
  rw [ysp]at h1 h2
  unfold ynQ yl6
  rw [show ysk (yKD a0 ynw (a0.1,a0.2.1,[],a0.2.2.2))=_ from h1,zkJ]
  refine (congrArg (fun z=>zjw z _ _) (show yqr (yIF a0 ynw (a0.1,a0.2.1,a0.2.2.1,a0.2.2.2.1,a0.2.2.2.2.1,a0.2.2.2.2.2.1,a0.2.2.2.2.2.2.1,a0.2.2.2.2.2.2.2.1,[],a0.2.2.2.2.2.2.2.2.2))=_ from h2)).trans rfl
def yDv:Con:=⟨ygB,yrV,fun x=>(fun n=>some ((n,()),())) (yl6 x.1)⟩
theorem yUz:ConOk Tryz.prog 73 yDv:=(yRx).mono (fun x r hk h=>(yTF x.1 hk).trans h)
end
section
def yLC:Code:=(Tryz.f98.body).getD .skip
def yLH:Env:=zki TT [] []
theorem yS5:FrOk Tryz.prog ⟨yLH,15,fun _=>none⟩ yLC:=zkp yb yc trivial
def yUZ:Nat→Option Seg:=fun _=>none
abbrev yq3:List Par:= [.rd tI,.rd tI,.rd tI]
abbrev yv6:List OT:= [⟨false,tB,.fz⟩]
def yxR (a0:Int) (a1:Int) (a2:Int):Option (ResD yv6×MutD yq3) :=
  bif (leb a1 a0) then
    some (((leb a0 a2),()),())
  else
    some ((false,()),())
theorem yXz (x:InD yq3):zjH ⟨yLH,15,yUZ⟩ Tryz.f98.results.toList yLC yq3 yv6 x=yxR x.1 x.2.1 x.2.2.1:=by kernel_rfl
theorem yWb:ConOk Tryz.prog 98 ⟨yq3,yv6,fun x=>yxR x.1 x.2.1 x.2.2.1⟩:=zkh (yS5) Tryz.func98 (by kernel_rfl) (by kernel_rfl) Tryz.ntmps98.symm (by decide) (fun x r h=>(yXz x).trans h)
def ya (a0:Int) (a1:Int) (a2:Int):Bool :=
  bif (leb a1 a0) then
    (leb a0 a2)
  else
    false
def yz:Con:=⟨yq3,yv6,fun x=>(fun n=>some ((n,()),())) (ya x.1 x.2.1 x.2.2.1)⟩
theorem yXh (a0:Int) (a1:Int) (a2:Int):yxR a0 a1 a2=(fun n=>some ((n,()),())) (ya a0 a1 a2):=zkS (p:=fun (n:Bool)=>((n,()),())) (zkx (p:=fun (n:Bool)=>((n,()),())) rfl rfl)
theorem yP:ConOk Tryz.prog 98 yz:=(yWb).mono (fun x r _ h=>(yXh x.1 x.2.1 x.2.2.1).trans h)
theorem yq7 {a b c:Int}:ya a b c=true↔b≤a∧a≤c:=by
  unfold ya
  cases h:leb b a
  · have:=mt zk0 (by rw [h]; simp: ¬ leb b a=true)
    simp [this]
  · simp [zjQ,zjQ.1 h]
theorem yZy {a b c:Int} (h:b≤a) (h2:a≤c):ya a b c=true:=yq7.2 ⟨h,h2⟩
theorem yZx {a b c:Int} (h: ¬ (b≤a∧a≤c)):ya a b c=false:=by
  cases e:ya a b c
  · rfl
  · exact absurd (yq7.1 e) h
theorem yiW (x a b:Int):ya x a b=(leb a x&&leb x b):=by
  unfold ya; cases leb a x<;>rfl
theorem yq8 {x:Int} {n:Nat} (h:n≤1152921504606846976):ya x 0 (IntKind.i64.wrap ((n:Int) - 1))=inb x n:=by
  rw [wr (by omega) (by omega),Bool.eq_iff_iff,yq7,zjP]; omega
end
section
def yG6:Code:=(Tryz.f141.body).getD .skip
def yHs:Env:=zki TT [(98,yz)] []
theorem yQp:FrOk Tryz.prog ⟨yHs,11,fun _=>none⟩ yG6:=zkp yb yc ⟨yP,trivial⟩
def ySy:Nat→Option Seg:=fun _=>none
abbrev yow:List Par:= [.rd tG]
abbrev yt0:List OT:= [⟨false,tB,.fz⟩]
def yvZ (a0:dG):Option (ResD yt0×MutD yow) :=
  let r1:=ya a0.1 3 5
  bif r1 then
    let r2:=ya a0.2 1 8
    some ((r2,()),())
  else
    some ((false,()),())
theorem yWY (x:InD yow):zjH ⟨yHs,11,ySy⟩ Tryz.f141.results.toList yG6 yow yt0 x=yvZ x.1:=by kernel_rfl
theorem yT7:ConOk Tryz.prog 141 ⟨yow,yt0,fun x=>yvZ x.1⟩:=zkh (yQp) Tryz.func141 (by kernel_rfl) (by kernel_rfl) Tryz.ntmps141.symm (by decide) (fun x r h=>(yWY x).trans h)
def yf (a0:dG):Bool :=
  let r1:=ya a0.1 3 5
  bif r1 then
    let r2:=ya a0.2 1 8
    r2
  else
    false
def ypI:Con:=⟨yow,yt0,fun x=>(fun n=>some ((n,()),())) (yf x.1)⟩
theorem yV0 (a0:dG):yvZ a0=(fun n=>some ((n,()),())) (yf a0):=zkS (p:=fun (n:Bool)=>((n,()),())) (zkx (p:=fun (n:Bool)=>((n,()),())) rfl rfl)
theorem yxK:ConOk Tryz.prog 141 ypI:=(yT7).mono (fun x r _ h=>(yV0 x.1).trans h)
theorem yaF {a:Int×Int}:yf a=true↔(3≤a.1∧a.1≤5)∧1≤a.2∧a.2≤8:=by
  unfold yf
  cases h:ya a.1 3 5
  · have: ¬ (3≤a.1∧a.1≤5):=fun e=>by rw [yq7.2 e]at h; simp at h
    simp [this]
  · simp only [cond_true,yq7]
    exact ⟨fun e=>⟨yq7.1 h,e⟩,fun e=>e.2⟩
def yh3 (a:dA) (i:Nat):Bool:= !(yo (nth a.2.2.1 i yh))||((((nth a.2.2.1 i yh).1.length:Int) !=6+a.2.1.2)||((nth a.2.2.1 i yh).2.2.1&&(((i:Int) !=a.2.2.2.1)&& !a.2.2.2.2.2.2.2.2.2.2.2)))
def yup (a:dA):Bool:= !((List.range a.2.2.1.length).any (yh3 a))&&(a.2.2.1.length:Int)==a.2.1.1
def ypK (g:dG) (l:List dW) (i:Nat):Bool:= !(leb 0 (nth l i (0,[])).1&&leb (nth l i (0,[])).1 (g.2 - 1))||(((nth l i (0,[])).2.length:Int) !=g.1 - 1||(!((nth l i (0,[])).2.all isW)||(decide (0 < i)&&leb (nth l i (0,[])).1 (nth l ((i - 1:Nat):Int) (0,[])).1)))
def ypL (g:dG) (l:List dW):Bool:= !((List.range l.length).any (ypK g l))
def yci (a:dA):Bool :=
  yf a.2.1&&((leb 1 a.1&&leb a.1 60000)&&(yup a&&(ypL a.2.1 a.2.2.2.2.2.2.2.2.1&&((leb (-1) a.2.2.2.1&&leb a.2.2.2.1 (a.2.1.1 - 1))&&((leb 0 a.2.2.2.2.1&&leb a.2.2.2.2.1 a.2.1.2)&&(!(a.2.2.2.1== -1&&a.2.2.2.2.1 !=0) &&
  ((leb 0 a.2.2.2.2.2.2.1&&leb a.2.2.2.2.2.2.1 60000)&&((leb a.2.2.2.2.2.2.1 a.2.2.2.2.2.1&&leb a.2.2.2.2.2.1 60000)&&(leb a.2.2.2.2.2.1 (a.2.2.2.2.2.2.1+4)&&((leb 0 a.2.2.2.2.2.2.2.1&&leb a.2.2.2.2.2.2.2.1 60000)&&(leb (-1) a.2.2.2.2.2.2.2.2.2.1&&leb a.2.2.2.2.2.2.2.2.2.1 1000)))))))))))
theorem yHH {a:dA} (h:yci a=true):yf a.2.1=true:=(Bool.and_eq_true_iff.1 h).1
theorem yZw {a:Int×Int} (h: ¬ yf a=true):yf a=false:=by cases e:yf a<;>simp_all
theorem yPv {a:dA} (h:yci a=true):yup a=true:=by simp only [yci,Bool.and_eq_true]at h; exact h.2.2.1
theorem yHI {a:dA} (h:yci a=true):(a.2.2.1.length:Int)=a.2.1.1:=by have:=yPv h; simp only [yup,Bool.and_eq_true,beq_iff_eq]at this; exact this.2
theorem yX1 {a:dA} (h:yup a=true) {i:Nat} (hi:i < a.2.2.1.length):yo (nth a.2.2.1 i yh)=true∧((nth a.2.2.1 i yh).1.length:Int)=6+a.2.1.2∧((nth a.2.2.1 i yh).2.2.1=true→(i:Int)=a.2.2.2.1∨a.2.2.2.2.2.2.2.2.2.2.2=true):=by
  simp only [yup,Bool.and_eq_true,Bool.not_eq_true',List.any_eq_false,List.mem_range]at h
  have:=h.1 i hi
  simp only [yh3,Bool.not_eq_true,Bool.or_eq_false_iff,Bool.not_eq_false',bne_eq_false_iff_eq,Bool.and_eq_false_iff]at this
  refine ⟨this.1,this.2.1,fun hf=> ?_⟩
  rcases this.2.2 with h1 | h1 | h1
  · rw [hf]at h1; cases h1
  · exact .inl h1
  · exact .inr h1
theorem yXI: ∀ {l:List Int} {lo n:Int},l.Pairwise (· < ·)→(∀ x∈l,lo≤x∧x < n)→lo≤n→(l.length:Int)≤n - lo
  | [],lo,n,_,_,h=>by simp; omega
  | x::l,lo,n,hp,hx,h=>by
    cases hp with
    | cons h1 h2 =>
      have h3:=hx x List.mem_cons_self
      have:=yXI (l:=l) (lo:=x+1) (n:=n) h2 (fun y hy=>⟨h1 y hy,(hx y (List.mem_cons_of_mem _ hy)).2⟩) (by omega)
      rw [List.length_cons]; omega
theorem yHJ {n:Nat} {l:List Int}:yt7 n l=true↔(∀ x∈l,0≤x∧x < n)∧l.Pairwise (· < ·):=by
  simp only [yt7,Bool.and_eq_true,List.all_eq_true,zjP,decide_eq_true_eq]
theorem yNa {m:dM} (h1:m.1.all ybc=true) (h2:m.2.1.all (yv2 m.1.length)=true) (h3:yt7 m.1.length m.2.2.2=true) (h4:1≤m.1.length) (h5:m.1.length≤20) (h6:m.2.1.length≤60):yo m=true:=by
  simp only [yo,h1,h2,h3,Bool.true_and,Bool.and_eq_true,zjQ]
  omega
theorem yXC {m:dM} (h:yo m=true):yqv m≤1041:=by
  obtain ⟨h1,h2,h3,h4,h5,h6⟩:=yfe h
  have a1:=ySg (b:=12) h5 (fun x hx=>(yDF.1 (List.all_eq_true.1 h1 x hx)).1)
  have a2:=zi5 (f:=fun x:dW=>1+x.2.length) (c:=13) (l:=m.2.1) (fun w hw=>by have:=(yDF.1 (Bool.and_eq_true_iff.1 (List.all_eq_true.1 h2 w hw)).2).1; omega)
  have a3:=Nat.mul_le_mul_right 13 h6
  obtain ⟨b1,b2⟩:=yHJ.1 h3
  have a4:=yXI (lo:=0) (n:=m.1.length) b2 b1 (by omega)
  unfold yqv
  omega
theorem yXR {m:dM} (b:Nat→Bool) (h:yo m=true):(ydz b m.2.1 m.1).all ybc=true:=by
  obtain ⟨h1,h2,_⟩:=yfe h
  rw [List.all_eq_true]
  exact yLL (P:=fun x=>ybc x=true) (fun x hx=>List.all_eq_true.1 h1 x hx) (fun w hw=>(Bool.and_eq_true_iff.1 (List.all_eq_true.1 h2 w hw)).2)
theorem yYs {m:dM} (n:Int) (s:List Int) (h:yo m=true):yo (yip m n s).1=true:=by
  unfold yip
  cases hc:yvA m n s
  · exact h
  · simp only [yvA,Bool.and_eq_true,Bool.not_eq_true',zjT]at hc
    obtain ⟨h1,h2,h3,h4,h5,h6⟩:=yfe h
    refine yNa h1 ?_ ?_ h4 h5 (by show (m.2.1++ [(n,s)]).length≤60; rw [List.length_append]; simp only [List.length_cons,List.length_nil]; omega)
    · show (m.2.1++ [(n,s)]).all (yv2 m.1.length)=true
      rw [List.all_append,h2]
      simp [yv2,hc.2.2.1,hc.2.2.2.1]
    · show yt7 m.1.length (yUI m.2.2.2 n)=true
      obtain ⟨b1,b2⟩:=yHJ.1 h3
      exact yHJ.2 ⟨fun x hx=>b1 x (List.mem_filter.1 hx).1,b2.filter _⟩
theorem yZm (m:dM) (n:Int) (s:List Int):(yip m n s).1.1=m.1∧(yip m n s).1.2.2.1=m.2.2.1:=by
  unfold yip
  cases yvA m n s<;>exact ⟨rfl,rfl⟩
theorem yYg {m:dM} (h:yo m=true):yo (yfT m)=true:=by
  unfold yfT
  cases hc:(yo m&& !m.2.2.1)
  · exact h
  · obtain ⟨h1,h2,h3,h4,h5,h6⟩:=yfe h
    refine yNa (yXR _ h) rfl ?_ ?_ ?_ (Nat.zero_le _)
    · show yt7 (ydz _ m.2.1 m.1).length m.2.2.2=true; rw [yq9]; exact h3
    · show 1≤(ydz _ m.2.1 m.1).length; rw [yq9]; exact h4
    · show (ydz _ m.2.1 m.1).length≤20; rw [yq9]; exact h5
theorem yZk (m:dM):(yfT m).1.length=m.1.length∧(yfT m).2.2.1=m.2.2.1:=by
  unfold yfT
  cases (yo m&& !m.2.2.1)
  · exact ⟨rfl,rfl⟩
  · exact ⟨yq9,rfl⟩
theorem yZs {m:dM} (h:yo m=true):yo (yYH m)=true:=by
  obtain ⟨h1,h2,h3,h4,h5,h6⟩:=yfe h
  exact yNa h1 rfl h3 h4 h5 (Nat.zero_le _)
def yZ (l:List dM):Prop:= ∀ m∈l,yo m=true
theorem yRD {l:List dM} {i:Nat} {x:dM} (h:yZ l) (hx:yo x=true):yZ (l.set i x):=fun m hm=>by
  rcases List.mem_or_eq_of_mem_set hm with h1 | rfl
  · exact h m h1
  · exact hx
theorem yUS {l:List dM} {m:Int} (h:yZ l) (hm:inb m l.length=true):yo (nth l m yh)=true:=yXM (P:=fun x=>yo x=true) hm h
theorem yIY {l:List dM} (h:yZ l):ynt l≤l.length * 1041:=zi5 (f:=yqv) (fun x hx=>yXC (h x hx))
theorem yPw {a:dA} (h:yci a=true):yZ a.2.2.1:=fun m hm=>by
  obtain ⟨i,hi,rfl⟩:=List.getElem_of_mem hm
  have:=(yX1 (yPv h) hi).1
  rwa [zjW,zcq hi]at this
def yjh (g:dG) (s:Int):Bool:=yf g&&(leb 0 s&&leb s (g.2 - 1))
def yg (g:dG) (s:Int):Int:=bif yjh g s then g.1 - 1 - s.tmod g.1 else -1
def yug (g:dG) (s i:Int):Int:=bif yjh g s&&(leb 0 i&&leb i (g.1 - 2)) then (yg g s+1+i).tmod g.1 else -1
theorem ykk {g:dG} {s:Int}:yjh g s=true↔yf g=true∧0≤s∧s≤g.2 - 1:=by simp [yjh,zjQ]
theorem ys9 {g:dG} {s:Int} (h:yjh g s=true):0≤yg g s∧yg g s≤g.1 - 1:=by
  have h1:=ykk.1 h
  have h2:=yaF.1 h1.1
  unfold yg
  rw [h,cond_true,Int.tmod_eq_emod_of_nonneg h1.2.1]
  have:=Int.emod_nonneg s (show g.1≠0 by omega)
  have:=Int.emod_lt_of_pos s (show 0 < g.1 by omega)
  omega
theorem yYC {g:dG} {s i:Int} (h:yjh g s=true) (h1:0≤i) (h2:i≤g.1 - 2):0≤yug g s i∧yug g s i≤g.1 - 1:=by
  have h3:=yaF.1 (ykk.1 h).1
  have h4:=ys9 h
  unfold yug
  rw [h,zk0 h1,zk0 h2,Bool.and_self,Bool.and_self,cond_true,Int.tmod_eq_emod_of_nonneg (by omega)]
  have:=Int.emod_nonneg (yg g s+1+i) (show g.1≠0 by omega)
  have:=Int.emod_lt_of_pos (yg g s+1+i) (show 0 < g.1 by omega)
  omega
end
section
def yFN:Code:=(Tryz.f90.body).getD .skip
def yF8:Env:=zki TT [(98,yz)] []
theorem yMS:FrOk Tryz.prog ⟨yF8,5,fun _=>none⟩ yFN:=zkp yb yc ⟨yP,trivial⟩
def yPd:Nat→Option Seg:=fun _=>none
abbrev ylP:List Par:= [.rd tI]
abbrev yrT:List OT:= [⟨false,tB,.fz⟩]
def yuI (a0:Int):Option (ResD yrT×MutD ylP) :=
  let r1:=ya a0 0 65535
  some ((r1,()),())
theorem yVt (x:InD ylP):zjH ⟨yF8,5,yPd⟩ Tryz.f90.results.toList yFN ylP yrT x=yuI x.1:=by kernel_rfl
theorem yRv:ConOk Tryz.prog 90 ⟨ylP,yrT,fun x=>yuI x.1⟩:=zkh (yMS) Tryz.func90 (by kernel_rfl) (by kernel_rfl) Tryz.ntmps90.symm (by decide) (fun x r h=>(yVt x).trans h)
def yK (a0:Int):Bool :=
  let r1:=ya a0 0 65535
  r1
def yDu:Con:=⟨ylP,yrT,fun x=>(fun n=>some ((n,()),())) (yK x.1)⟩
theorem yTD (a0:Int):yuI a0=(fun n=>some ((n,()),())) (yK a0):=zkS (p:=fun (n:Bool)=>((n,()),())) rfl
theorem yUy:ConOk Tryz.prog 90 yDu:=(yRv).mono (fun x r _ h=>(yTD x.1).trans h)
end
section
def yju:Code:=(Tryz.f200.body).getD .skip
def ypn:Env:=zki TT [(90,yDu)] []
theorem yKq:FrOk Tryz.prog ⟨ypn,16,fun _=>none⟩ yju:=zkp yb yc ⟨yUy,trivial⟩
def yAm:Nat→Option Seg:=fun _=>none
def ycQ:Shape:=⟨[(0,false,[.br tI]),(3,false,[.int .i64])],[],[]⟩
def yiE:Shape:=⟨[(0,false,[.br tI]),(3,false,[.ci .i64 0])],[],[]⟩
def yix:Shape:=⟨[],[],[]⟩
def yiT:Shape:=⟨[(2,false,[.bool])],[],[]⟩
def yo7 (v0:List Int) (v1:Int):Option ((ycQ).X ⊕ ((yix).X ⊕ (yiT).X)) :=
  bif (ltb v1 (v0.length:Int)) then
    bif (inb v1 v0.length) then
      let r2:=yK (nth v0 v1 0)
      bif (!r2) then
        some (.inr (.inr (((false,()),()),(),())))
      else
        some (.inl (((v0,()),((IntKind.i64.wrap (v1+1)),()),()),(),()))
    else none
  else
    some (.inr (.inl ((),(),())))
def ybt (x:(ycQ).X):=yo7 x.1.1.1 x.1.2.1.1
def ywQ (x:(yiE).X):(ycQ).X:=(((x.1.1.1,()),(0,()),()),(),())
def yyC:Code:=(zdI yju 64 52).getD .skip
theorem yJL:zdI yju 64 13=some (.block 0 (.loop yyC)):=by kernel_rfl
theorem yLv (x:(ycQ).X):zg7 ⟨ypn,16,yAm⟩ 0 yyC 52 ycQ yix yiT x=ybt x:=by kernel_rfl
def yw9 (x:(yiE).X):Nat:=(fun (u0:List Int)=>18446744073709551616) x.1.1.1
def yqq (x:(yiE).X):Option ((yix).X ⊕ (yiT).X):=zr ybt (yw9 x) (ywQ x)
def yxz:Seg:=⟨yiE,yix,yiT,yqq⟩
def yAn:Nat→Option Seg:=fun q=>bif Nat.beq q 13 then some yxz else yAm q
theorem yKr:FrOk Tryz.prog ⟨ypn,16,yAn⟩ yju:=(yKq).loop (sg:=yxz) ycQ ywQ (by decide) yJL ybt yw9 (by decide) (fun _=>rfl) (fun x r _ h=>h) yLv
abbrev yfr:List Par:= [.rd tL]
abbrev ypF:List OT:= [⟨false,tB,.fz⟩]
def yll (a0:List Int):Option (ResD ypF×MutD yfr) :=
  zjw (yqq (((a0,()),((),()),()),(),())) (fun y2 =>
    some ((true,()),())) (fun y2 =>
    some ((y2.1.1.1,()),()))
theorem ySX (x:InD yfr):zjH ⟨ypn,16,yAn⟩ Tryz.f200.results.toList yju yfr ypF x=yll x.1:=by kernel_rfl
theorem yOf:ConOk Tryz.prog 200 ⟨yfr,ypF,fun x=>yll x.1⟩:=zkh (yKr) Tryz.func200 (by kernel_rfl) (by kernel_rfl) Tryz.ntmps200.symm (by decide) (fun x r h=>(ySX x).trans h)
def yO (a0:List Int):Bool:=a0.all yK
theorem yQ0 (a0:List Int) (hk:zi9 yfr (a0,())):yll a0=(fun n=>some ((n,()),())) (yO a0):=by
  have hb:a0.length * 8≤2 ^ 47:=hk.1.1
  have hl:yqq (((a0,()),((),()),()),(),())=some (bif a0.all yK then .inl ((),(),()) else .inr (((false,()),()),(),())) :=
    zjS (step:=ybt) a0 0 (fun i=>(((a0,()),((i:Int),()),()),(),())) yK _ _ (fun i hi=>by
      simp only [ybt,yo7,zkO hi,zjW,zjI (show (i:Int) < a0.length by omega),cond_true,wr (show -9223372036854775808≤(i:Int)+1 by omega) (by omega),Int.natCast_add,Int.natCast_one]
      cases yK (a0.getD i 0)<;>rfl) (by simp only [ybt,yo7,zkm (Int.le_refl _),cond_false]) _ (by show _ < 18446744073709551616; omega)
  unfold yll yO
  rw [hl]
  cases a0.all yK<;>rfl
def ykY:Con:=⟨yfr,ypF,fun x=>(fun n=>some ((n,()),())) (yO x.1)⟩
theorem yuw:ConOk Tryz.prog 200 ykY:=(yOf).mono (fun x r hk h=>(yQ0 x.1 hk).trans h)
end
section
def yG8:Code:=(Tryz.f249.body).getD .skip
def yHu:Env:=zki TT [(200,ykY)] []
theorem yQv:FrOk Tryz.prog ⟨yHu,10,fun _=>none⟩ yG8:=zkp yb yc ⟨yuw,trivial⟩
def ySA:Nat→Option Seg:=fun _=>none
abbrev yoy:List Par:= [.rd tL]
abbrev yt3:List OT:= [⟨false,tB,.fz⟩]
def yv1 (a0:List Int):Option (ResD yt3×MutD yoy) :=
  bif (leb (a0.length:Int) 12) then
    let r1:=yO a0
    some ((r1,()),())
  else
    some ((false,()),())
theorem yW1 (x:InD yoy):zjH ⟨yHu,10,ySA⟩ Tryz.f249.results.toList yG8 yoy yt3 x=yv1 x.1:=by kernel_rfl
theorem yUa:ConOk Tryz.prog 249 ⟨yoy,yt3,fun x=>yv1 x.1⟩:=zkh (yQv) Tryz.func249 (by kernel_rfl) (by kernel_rfl) Tryz.ntmps249.symm (by decide) (fun x r h=>(yW1 x).trans h)
def yf0 (a0:List Int):Bool :=
  bif (leb (a0.length:Int) 12) then
    let r1:=yO a0
    r1
  else
    false
def yvE:Con:=⟨yoy,yt3,fun x=>(fun n=>some ((n,()),())) (yf0 x.1)⟩
theorem yV3 (a0:List Int):yv1 a0=(fun n=>some ((n,()),())) (yf0 a0):=zkS (p:=fun (n:Bool)=>((n,()),())) (zkx (p:=fun (n:Bool)=>((n,()),())) rfl rfl)
theorem yGh:ConOk Tryz.prog 249 yvE:=(yUa).mono (fun x r _ h=>(yV3 x.1).trans h)
theorem yDU:yf0=ybc:=funext fun s=>by
  unfold yf0 ybc yO
  rw [show yK=isW from funext fun x=>by unfold yK; rw [yiW]; rfl]
  cases leb (s.length:Int) 12<;>rfl
end
end
end Go.Tf
