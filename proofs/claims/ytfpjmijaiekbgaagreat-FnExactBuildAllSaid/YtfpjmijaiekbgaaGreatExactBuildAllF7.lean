/- Functions of the program, and what they come to. -/
import Derived.Test.YtfpjmijaiekbgaaGreatExactBuildAllF6
namespace Go.Tf
noncomputable section
open Go.Proofs
set_option synthInstance.maxHeartbeats 400000
set_option synthInstance.maxSize 10000
set_option linter.unusedVariables false
set_option linter.unusedSimpArgs false
set_option maxRecDepth 100000
section
def ycZ:Code:=(Tryz.f73.body).getD .skip
def ygf:Env:=zki TT [(147,ymI)] [(8192,(.pr (.ow .fz) (.pr (.ow (.pr .fz .fz)) (.pr .fz (.ow .fz))))),(25088,(.pr (.ow .fz) (.pr (.ow (.pr .fz .fz)) (.pr .fz (.ow .fz))))),(28672,(.pr .fz .fz)),(46144,(.pr .fz .fz))]
theorem yK3:FrOk Tryz.prog ⟨ygf,57,fun _=>none⟩ ycZ:=zkp yb yc ⟨yuA,trivial⟩
def yBi:Nat→Option Seg:=fun _=>none
def ybI:Shape:=⟨[(1,false,[.ptr 0 0]),(2,false,[.ptr 64 0]),(3,false,[.ptr 4160 0]),(4,false,[.int .i64])],[(0,[.int .i64,.int .i64,.int .i64,.br tM,.int .i64,.int .i64,.int .i64,.int .i64,.int .i64,.br tW,.int .i64,.bool,.bool]),(64,[.int .i64,.int .i64,.int .i64,.nil,.int .i64,.int .i64,.int .i64,.int .i64,.int .i64,.nil,.int .i64,.bool,.bool]),(4160,[.int .i64,.int .i64,.int .i64,.at 800000000,.int .i64,.int .i64,.int .i64,.int .i64,.int .i64,.br tW,.int .i64,.bool,.bool])],[(800000000,tM,(.pr (.ow .fz) (.pr (.ow (.pr .fz .fz)) (.pr .fz (.ow .fz)))))]⟩
def yfI:Shape:=⟨[(1,false,[.ptr 0 0]),(2,false,[.ptr 64 0]),(3,false,[.ptr 4160 0]),(4,false,[.ci .i64 0])],[(0,[.int .i64,.int .i64,.int .i64,.br tM,.int .i64,.int .i64,.int .i64,.int .i64,.int .i64,.br tW,.int .i64,.bool,.bool]),(64,[.int .i64,.int .i64,.int .i64,.nil,.int .i64,.int .i64,.int .i64,.int .i64,.int .i64,.nil,.int .i64,.bool,.bool]),(4160,[.int .i64,.int .i64,.int .i64,.at 800000000,.int .i64,.int .i64,.int .i64,.int .i64,.int .i64,.br tW,.int .i64,.bool,.bool])],[(800000000,tM,(.pr (.ow .fz) (.pr (.ow (.pr .fz .fz)) (.pr .fz (.ow .fz)))))]⟩
def yfA:Shape:=⟨[(1,false,[.ptr 0 0]),(2,false,[.ptr 64 0]),(3,false,[.ptr 4160 0])],[(0,[.int .i64,.int .i64,.int .i64,.br tM,.int .i64,.int .i64,.int .i64,.int .i64,.int .i64,.br tW,.int .i64,.bool,.bool]),(64,[.int .i64,.int .i64,.int .i64,.nil,.int .i64,.int .i64,.int .i64,.int .i64,.int .i64,.nil,.int .i64,.bool,.bool]),(4160,[.int .i64,.int .i64,.int .i64,.at 800000000,.int .i64,.int .i64,.int .i64,.int .i64,.int .i64,.br tW,.int .i64,.bool,.bool])],[(800000000,tM,(.pr (.ow .fz) (.pr (.ow (.pr .fz .fz)) (.pr .fz (.ow .fz)))))]⟩
def yks:Shape:=⟨[],[],[]⟩
abbrev ypM (v0:Int) (v1:dA) (v2:dA) (v3:dA):(ybI).X:=((((),()),((),()),((),()),(v0,()),()),((v1.1,v1.2.1.1,v1.2.1.2,v1.2.2.1,v1.2.2.2.1,v1.2.2.2.2.1,v1.2.2.2.2.2.1,v1.2.2.2.2.2.2.1,v1.2.2.2.2.2.2.2.1,v1.2.2.2.2.2.2.2.2.1,v1.2.2.2.2.2.2.2.2.2.1,v1.2.2.2.2.2.2.2.2.2.2.1,v1.2.2.2.2.2.2.2.2.2.2.2,()),(v2.1,v2.2.1.1,v2.2.1.2,(),v2.2.2.2.1,v2.2.2.2.2.1,v2.2.2.2.2.2.1,v2.2.2.2.2.2.2.1,v2.2.2.2.2.2.2.2.1,(),v2.2.2.2.2.2.2.2.2.2.1,v2.2.2.2.2.2.2.2.2.2.2.1,v2.2.2.2.2.2.2.2.2.2.2.2,()),(v3.1,v3.2.1.1,v3.2.1.2,(),v3.2.2.2.1,v3.2.2.2.2.1,v3.2.2.2.2.2.1,v3.2.2.2.2.2.2.1,v3.2.2.2.2.2.2.2.1,v3.2.2.2.2.2.2.2.2.1,v3.2.2.2.2.2.2.2.2.2.1,v3.2.2.2.2.2.2.2.2.2.2.1,v3.2.2.2.2.2.2.2.2.2.2.2,()),()),(v3.2.2.1,()))
abbrev yIQ (v0:dA) (v1:dA) (v2:dA):(yfI).X:=((((),()),((),()),((),()),((),()),()),((v0.1,v0.2.1.1,v0.2.1.2,v0.2.2.1,v0.2.2.2.1,v0.2.2.2.2.1,v0.2.2.2.2.2.1,v0.2.2.2.2.2.2.1,v0.2.2.2.2.2.2.2.1,v0.2.2.2.2.2.2.2.2.1,v0.2.2.2.2.2.2.2.2.2.1,v0.2.2.2.2.2.2.2.2.2.2.1,v0.2.2.2.2.2.2.2.2.2.2.2,()),(v1.1,v1.2.1.1,v1.2.1.2,(),v1.2.2.2.1,v1.2.2.2.2.1,v1.2.2.2.2.2.1,v1.2.2.2.2.2.2.1,v1.2.2.2.2.2.2.2.1,(),v1.2.2.2.2.2.2.2.2.2.1,v1.2.2.2.2.2.2.2.2.2.2.1,v1.2.2.2.2.2.2.2.2.2.2.2,()),(v2.1,v2.2.1.1,v2.2.1.2,(),v2.2.2.2.1,v2.2.2.2.2.1,v2.2.2.2.2.2.1,v2.2.2.2.2.2.2.1,v2.2.2.2.2.2.2.2.1,v2.2.2.2.2.2.2.2.2.1,v2.2.2.2.2.2.2.2.2.2.1,v2.2.2.2.2.2.2.2.2.2.2.1,v2.2.2.2.2.2.2.2.2.2.2.2,()),()),(v2.2.2.1,()))
abbrev yIJ (v0:dA) (v1:dA) (v2:dA):(yfA).X:=((((),()),((),()),((),()),()),((v0.1,v0.2.1.1,v0.2.1.2,v0.2.2.1,v0.2.2.2.1,v0.2.2.2.2.1,v0.2.2.2.2.2.1,v0.2.2.2.2.2.2.1,v0.2.2.2.2.2.2.2.1,v0.2.2.2.2.2.2.2.2.1,v0.2.2.2.2.2.2.2.2.2.1,v0.2.2.2.2.2.2.2.2.2.2.1,v0.2.2.2.2.2.2.2.2.2.2.2,()),(v1.1,v1.2.1.1,v1.2.1.2,(),v1.2.2.2.1,v1.2.2.2.2.1,v1.2.2.2.2.2.1,v1.2.2.2.2.2.2.1,v1.2.2.2.2.2.2.2.1,(),v1.2.2.2.2.2.2.2.2.2.1,v1.2.2.2.2.2.2.2.2.2.2.1,v1.2.2.2.2.2.2.2.2.2.2.2,()),(v2.1,v2.2.1.1,v2.2.1.2,(),v2.2.2.2.1,v2.2.2.2.2.1,v2.2.2.2.2.2.1,v2.2.2.2.2.2.2.1,v2.2.2.2.2.2.2.2.1,v2.2.2.2.2.2.2.2.2.1,v2.2.2.2.2.2.2.2.2.2.1,v2.2.2.2.2.2.2.2.2.2.2.1,v2.2.2.2.2.2.2.2.2.2.2.2,()),()),(v2.2.2.1,()))
def yp5 (v0:Int) (v1:Int) (v2:Int) (v3:Int) (v4:List dM) (v5:Int) (v6:Int) (v7:Int) (v8:Int) (v9:Int) (v10:List dW) (v11:Int) (v12:Bool) (v13:Bool) (v14:Int) (v15:Int) (v16:Int) (v17:Int) (v18:Int) (v19:Int) (v20:Int) (v21:Int) (v22:Int) (v23:Bool) (v24:Bool) (v25:Int) (v26:Int) (v27:Int) (v28:Int) (v29:Int) (v30:Int) (v31:Int) (v32:Int) (v33:List dW) (v34:Int) (v35:Bool) (v36:Bool) (v37:List dM):Option ((ybI).X ⊕ ((yfA).X ⊕ (yks).X)) :=
  bif (ltb v0 (v4.length:Int)) then
    bif (inb v0 v4.length) then
      let r2:=ybz ((nth v4 v0 ([],[],false,[])).1,((nth v4 v0 ([],[],false,[])).2).1,(((nth v4 v0 ([],[],false,[])).2).2))
      bif (zj4 v37.length ([r2]:List dM).length 80) then
        some (.inl ((((),()),((),()),((),()),((IntKind.i64.wrap (v0+1)),()),()),((v1,v2,v3,v4,v5,v6,v7,v8,v9,v10,v11,v12,v13,()),(v14,v15,v16,(),v17,v18,v19,v20,v21,(),v22,v23,v24,()),(v25,v26,v27,(),v28,v29,v30,v31,v32,v33,v34,v35,v36,()),()),((v37++([r2]:List dM)),())))
      else none
    else none
  else
    some (.inr (.inl ((((),()),((),()),((),()),()),((v1,v2,v3,v4,v5,v6,v7,v8,v9,v10,v11,v12,v13,()),(v14,v15,v16,(),v17,v18,v19,v20,v21,(),v22,v23,v24,()),(v25,v26,v27,(),v28,v29,v30,v31,v32,v33,v34,v35,v36,()),()),(v37,()))))
def yci (x:(ybI).X):=yp5 x.1.2.2.2.1.1 x.2.1.1.1 x.2.1.1.2.1 x.2.1.1.2.2.1 x.2.1.1.2.2.2.1 x.2.1.1.2.2.2.2.1 x.2.1.1.2.2.2.2.2.1 x.2.1.1.2.2.2.2.2.2.1 x.2.1.1.2.2.2.2.2.2.2.1 x.2.1.1.2.2.2.2.2.2.2.2.1 x.2.1.1.2.2.2.2.2.2.2.2.2.1 x.2.1.1.2.2.2.2.2.2.2.2.2.2.1 x.2.1.1.2.2.2.2.2.2.2.2.2.2.2.1 x.2.1.1.2.2.2.2.2.2.2.2.2.2.2.2.1 x.2.1.2.1.1 x.2.1.2.1.2.1 x.2.1.2.1.2.2.1 x.2.1.2.1.2.2.2.2.1 x.2.1.2.1.2.2.2.2.2.1 x.2.1.2.1.2.2.2.2.2.2.1 x.2.1.2.1.2.2.2.2.2.2.2.1 x.2.1.2.1.2.2.2.2.2.2.2.2.1 x.2.1.2.1.2.2.2.2.2.2.2.2.2.2.1 x.2.1.2.1.2.2.2.2.2.2.2.2.2.2.2.1 x.2.1.2.1.2.2.2.2.2.2.2.2.2.2.2.2.1 x.2.1.2.2.1.1 x.2.1.2.2.1.2.1 x.2.1.2.2.1.2.2.1 x.2.1.2.2.1.2.2.2.2.1 x.2.1.2.2.1.2.2.2.2.2.1 x.2.1.2.2.1.2.2.2.2.2.2.1 x.2.1.2.2.1.2.2.2.2.2.2.2.1 x.2.1.2.2.1.2.2.2.2.2.2.2.2.1 x.2.1.2.2.1.2.2.2.2.2.2.2.2.2.1 x.2.1.2.2.1.2.2.2.2.2.2.2.2.2.2.1 x.2.1.2.2.1.2.2.2.2.2.2.2.2.2.2.2.1 x.2.1.2.2.1.2.2.2.2.2.2.2.2.2.2.2.2.1 x.2.2.1
def yxT (x:(yfI).X):(ybI).X:=((((),()),((),()),((),()),(0,()),()),((x.2.1.1.1,x.2.1.1.2.1,x.2.1.1.2.2.1,x.2.1.1.2.2.2.1,x.2.1.1.2.2.2.2.1,x.2.1.1.2.2.2.2.2.1,x.2.1.1.2.2.2.2.2.2.1,x.2.1.1.2.2.2.2.2.2.2.1,x.2.1.1.2.2.2.2.2.2.2.2.1,x.2.1.1.2.2.2.2.2.2.2.2.2.1,x.2.1.1.2.2.2.2.2.2.2.2.2.2.1,x.2.1.1.2.2.2.2.2.2.2.2.2.2.2.1,x.2.1.1.2.2.2.2.2.2.2.2.2.2.2.2.1,()),(x.2.1.2.1.1,x.2.1.2.1.2.1,x.2.1.2.1.2.2.1,(),x.2.1.2.1.2.2.2.2.1,x.2.1.2.1.2.2.2.2.2.1,x.2.1.2.1.2.2.2.2.2.2.1,x.2.1.2.1.2.2.2.2.2.2.2.1,x.2.1.2.1.2.2.2.2.2.2.2.2.1,(),x.2.1.2.1.2.2.2.2.2.2.2.2.2.2.1,x.2.1.2.1.2.2.2.2.2.2.2.2.2.2.2.1,x.2.1.2.1.2.2.2.2.2.2.2.2.2.2.2.2.1,()),(x.2.1.2.2.1.1,x.2.1.2.2.1.2.1,x.2.1.2.2.1.2.2.1,(),x.2.1.2.2.1.2.2.2.2.1,x.2.1.2.2.1.2.2.2.2.2.1,x.2.1.2.2.1.2.2.2.2.2.2.1,x.2.1.2.2.1.2.2.2.2.2.2.2.1,x.2.1.2.2.1.2.2.2.2.2.2.2.2.1,x.2.1.2.2.1.2.2.2.2.2.2.2.2.2.1,x.2.1.2.2.1.2.2.2.2.2.2.2.2.2.2.1,x.2.1.2.2.1.2.2.2.2.2.2.2.2.2.2.2.1,x.2.1.2.2.1.2.2.2.2.2.2.2.2.2.2.2.2.1,()),()),(x.2.2.1,()))
def yzz:Code:=(zdI ycZ 64 244).getD .skip
theorem yKi:zdI ycZ 64 61=some (.block 0 (.loop yzz)):=by kernel_rfl
theorem yMN (x:(ybI).X):zg7 ⟨ygf,57,yBi⟩ 0 yzz 244 ybI yfA yks x=yci x:=by kernel_rfl
def yx9 (x:(yfI).X):Nat:=(fun (u0:Int) (u1:Int) (u2:Int) (u3:List dM) (u4:Int) (u5:Int) (u6:Int) (u7:Int) (u8:Int) (u9:List dW) (u10:Int) (u11:Bool) (u12:Bool) (u13:Int) (u14:Int) (u15:Int) (u16:Int) (u17:Int) (u18:Int) (u19:Int) (u20:Int) (u21:Int) (u22:Bool) (u23:Bool) (u24:Int) (u25:Int) (u26:Int) (u27:Int) (u28:Int) (u29:Int) (u30:Int) (u31:Int) (u32:List dW) (u33:Int) (u34:Bool) (u35:Bool) (u36:List dM)=>18446744073709551616) x.2.1.1.1 x.2.1.1.2.1 x.2.1.1.2.2.1 x.2.1.1.2.2.2.1 x.2.1.1.2.2.2.2.1 x.2.1.1.2.2.2.2.2.1 x.2.1.1.2.2.2.2.2.2.1 x.2.1.1.2.2.2.2.2.2.2.1 x.2.1.1.2.2.2.2.2.2.2.2.1 x.2.1.1.2.2.2.2.2.2.2.2.2.1 x.2.1.1.2.2.2.2.2.2.2.2.2.2.1 x.2.1.1.2.2.2.2.2.2.2.2.2.2.2.1 x.2.1.1.2.2.2.2.2.2.2.2.2.2.2.2.1 x.2.1.2.1.1 x.2.1.2.1.2.1 x.2.1.2.1.2.2.1 x.2.1.2.1.2.2.2.2.1 x.2.1.2.1.2.2.2.2.2.1 x.2.1.2.1.2.2.2.2.2.2.1 x.2.1.2.1.2.2.2.2.2.2.2.1 x.2.1.2.1.2.2.2.2.2.2.2.2.1 x.2.1.2.1.2.2.2.2.2.2.2.2.2.2.1 x.2.1.2.1.2.2.2.2.2.2.2.2.2.2.2.1 x.2.1.2.1.2.2.2.2.2.2.2.2.2.2.2.2.1 x.2.1.2.2.1.1 x.2.1.2.2.1.2.1 x.2.1.2.2.1.2.2.1 x.2.1.2.2.1.2.2.2.2.1 x.2.1.2.2.1.2.2.2.2.2.1 x.2.1.2.2.1.2.2.2.2.2.2.1 x.2.1.2.2.1.2.2.2.2.2.2.2.1 x.2.1.2.2.1.2.2.2.2.2.2.2.2.1 x.2.1.2.2.1.2.2.2.2.2.2.2.2.2.1 x.2.1.2.2.1.2.2.2.2.2.2.2.2.2.2.1 x.2.1.2.2.1.2.2.2.2.2.2.2.2.2.2.2.1 x.2.1.2.2.1.2.2.2.2.2.2.2.2.2.2.2.2.1 x.2.2.1
def yrp (x:(yfI).X):Option ((yfA).X ⊕ (yks).X):=zr yci (yx9 x) (yxT x)
def yyv:Seg:=⟨yfI,yfA,yks,yrp⟩
def ysb:Nat→Option Seg:=fun q=>bif Nat.beq q 61 then some yyv else yBi q
theorem yK4:FrOk Tryz.prog ⟨ygf,57,ysb⟩ ycZ:=(yK3).loop (sg:=yyv) ybI yxT (by decide) yKi yci yx9 (by decide) (fun _=>rfl) (fun x r _ h=>h) yMN
def ya6:Shape:=⟨[(1,false,[.ptr 0 0]),(2,false,[.ptr 64 0]),(3,false,[.ptr 4160 0]),(5,false,[.int .i64])],[(0,[.int .i64,.int .i64,.int .i64,.br tM,.int .i64,.int .i64,.int .i64,.int .i64,.int .i64,.br tW,.int .i64,.bool,.bool]),(64,[.int .i64,.int .i64,.int .i64,.nil,.int .i64,.int .i64,.int .i64,.int .i64,.int .i64,.nil,.int .i64,.bool,.bool]),(4160,[.int .i64,.int .i64,.int .i64,.at 800000000,.int .i64,.int .i64,.int .i64,.int .i64,.int .i64,.at 800000001,.int .i64,.bool,.bool])],[(800000000,tM,(.pr (.ow .fz) (.pr (.ow (.pr .fz .fz)) (.pr .fz (.ow .fz))))),(800000001,tW,(.pr .fz .fz))]⟩
def yeQ:Shape:=⟨[(1,false,[.ptr 0 0]),(2,false,[.ptr 64 0]),(3,false,[.ptr 4160 0]),(5,false,[.ci .i64 0])],[(0,[.int .i64,.int .i64,.int .i64,.br tM,.int .i64,.int .i64,.int .i64,.int .i64,.int .i64,.br tW,.int .i64,.bool,.bool]),(64,[.int .i64,.int .i64,.int .i64,.nil,.int .i64,.int .i64,.int .i64,.int .i64,.int .i64,.nil,.int .i64,.bool,.bool]),(4160,[.int .i64,.int .i64,.int .i64,.at 800000000,.int .i64,.int .i64,.int .i64,.int .i64,.int .i64,.at 800000001,.int .i64,.bool,.bool])],[(800000000,tM,(.pr (.ow .fz) (.pr (.ow (.pr .fz .fz)) (.pr .fz (.ow .fz))))),(800000001,tW,(.pr .fz .fz))]⟩
def yeH:Shape:=⟨[(2,false,[.ptr 64 0]),(3,false,[.ptr 4160 0])],[(64,[.int .i64,.int .i64,.int .i64,.nil,.int .i64,.int .i64,.int .i64,.int .i64,.int .i64,.nil,.int .i64,.bool,.bool]),(4160,[.int .i64,.int .i64,.int .i64,.at 800000000,.int .i64,.int .i64,.int .i64,.int .i64,.int .i64,.at 800000001,.int .i64,.bool,.bool])],[(800000000,tM,(.pr (.ow .fz) (.pr (.ow (.pr .fz .fz)) (.pr .fz (.ow .fz))))),(800000001,tW,(.pr .fz .fz))]⟩
def yiH:Shape:=⟨[],[],[]⟩
abbrev ynW (v0:Int) (v1:dA) (v2:dA) (v3:dA):(ya6).X:=((((),()),((),()),((),()),(v0,()),()),((v1.1,v1.2.1.1,v1.2.1.2,v1.2.2.1,v1.2.2.2.1,v1.2.2.2.2.1,v1.2.2.2.2.2.1,v1.2.2.2.2.2.2.1,v1.2.2.2.2.2.2.2.1,v1.2.2.2.2.2.2.2.2.1,v1.2.2.2.2.2.2.2.2.2.1,v1.2.2.2.2.2.2.2.2.2.2.1,v1.2.2.2.2.2.2.2.2.2.2.2,()),(v2.1,v2.2.1.1,v2.2.1.2,(),v2.2.2.2.1,v2.2.2.2.2.1,v2.2.2.2.2.2.1,v2.2.2.2.2.2.2.1,v2.2.2.2.2.2.2.2.1,(),v2.2.2.2.2.2.2.2.2.2.1,v2.2.2.2.2.2.2.2.2.2.2.1,v2.2.2.2.2.2.2.2.2.2.2.2,()),(v3.1,v3.2.1.1,v3.2.1.2,(),v3.2.2.2.1,v3.2.2.2.2.1,v3.2.2.2.2.2.1,v3.2.2.2.2.2.2.1,v3.2.2.2.2.2.2.2.1,(),v3.2.2.2.2.2.2.2.2.2.1,v3.2.2.2.2.2.2.2.2.2.2.1,v3.2.2.2.2.2.2.2.2.2.2.2,()),()),(v3.2.2.1,v3.2.2.2.2.2.2.2.2.1,()))
abbrev yG5 (v0:dA) (v1:dA) (v2:dA):(yeQ).X:=((((),()),((),()),((),()),((),()),()),((v0.1,v0.2.1.1,v0.2.1.2,v0.2.2.1,v0.2.2.2.1,v0.2.2.2.2.1,v0.2.2.2.2.2.1,v0.2.2.2.2.2.2.1,v0.2.2.2.2.2.2.2.1,v0.2.2.2.2.2.2.2.2.1,v0.2.2.2.2.2.2.2.2.2.1,v0.2.2.2.2.2.2.2.2.2.2.1,v0.2.2.2.2.2.2.2.2.2.2.2,()),(v1.1,v1.2.1.1,v1.2.1.2,(),v1.2.2.2.1,v1.2.2.2.2.1,v1.2.2.2.2.2.1,v1.2.2.2.2.2.2.1,v1.2.2.2.2.2.2.2.1,(),v1.2.2.2.2.2.2.2.2.2.1,v1.2.2.2.2.2.2.2.2.2.2.1,v1.2.2.2.2.2.2.2.2.2.2.2,()),(v2.1,v2.2.1.1,v2.2.1.2,(),v2.2.2.2.1,v2.2.2.2.2.1,v2.2.2.2.2.2.1,v2.2.2.2.2.2.2.1,v2.2.2.2.2.2.2.2.1,(),v2.2.2.2.2.2.2.2.2.2.1,v2.2.2.2.2.2.2.2.2.2.2.1,v2.2.2.2.2.2.2.2.2.2.2.2,()),()),(v2.2.2.1,v2.2.2.2.2.2.2.2.2.1,()))
abbrev yGW (v0:dA) (v1:dA):(yeH).X:=((((),()),((),()),()),((v0.1,v0.2.1.1,v0.2.1.2,(),v0.2.2.2.1,v0.2.2.2.2.1,v0.2.2.2.2.2.1,v0.2.2.2.2.2.2.1,v0.2.2.2.2.2.2.2.1,(),v0.2.2.2.2.2.2.2.2.2.1,v0.2.2.2.2.2.2.2.2.2.2.1,v0.2.2.2.2.2.2.2.2.2.2.2,()),(v1.1,v1.2.1.1,v1.2.1.2,(),v1.2.2.2.1,v1.2.2.2.2.1,v1.2.2.2.2.2.1,v1.2.2.2.2.2.2.1,v1.2.2.2.2.2.2.2.1,(),v1.2.2.2.2.2.2.2.2.2.1,v1.2.2.2.2.2.2.2.2.2.2.1,v1.2.2.2.2.2.2.2.2.2.2.2,()),()),(v1.2.2.1,v1.2.2.2.2.2.2.2.2.1,()))
def yom (v0:Int) (v1:Int) (v2:Int) (v3:Int) (v4:List dM) (v5:Int) (v6:Int) (v7:Int) (v8:Int) (v9:Int) (v10:List dW) (v11:Int) (v12:Bool) (v13:Bool) (v14:Int) (v15:Int) (v16:Int) (v17:Int) (v18:Int) (v19:Int) (v20:Int) (v21:Int) (v22:Int) (v23:Bool) (v24:Bool) (v25:Int) (v26:Int) (v27:Int) (v28:Int) (v29:Int) (v30:Int) (v31:Int) (v32:Int) (v33:Int) (v34:Bool) (v35:Bool) (v36:List dM) (v37:List dW):Option ((ya6).X ⊕ ((yeH).X ⊕ (yiH).X)) :=
  bif (ltb v0 (v10.length:Int)) then
    bif (inb v0 v10.length) then
      bif (inb v0 v10.length) then
        bif (zj4 ([]:List Int).length ((nth v10 v0 (0,[])).2).length 8) then
          bif (zj4 v37.length ([((nth v10 v0 (0,[])).1,(([]:List Int)++((nth v10 v0 (0,[])).2)))]:List dW).length 32) then
            some (.inl ((((),()),((),()),((),()),((IntKind.i64.wrap (v0+1)),()),()),((v1,v2,v3,v4,v5,v6,v7,v8,v9,v10,v11,v12,v13,()),(v14,v15,v16,(),v17,v18,v19,v20,v21,(),v22,v23,v24,()),(v25,v26,v27,(),v28,v29,v30,v31,v32,(),v33,v34,v35,()),()),(v36,(v37++([((nth v10 v0 (0,[])).1,(([]:List Int)++((nth v10 v0 (0,[])).2)))]:List dW)),())))
          else none
        else none
      else none
    else none
  else
    some (.inr (.inl ((((),()),((),()),()),((v14,v15,v16,(),v17,v18,v19,v20,v21,(),v22,v23,v24,()),(v25,v26,v27,(),v28,v29,v30,v31,v32,(),v33,v34,v35,()),()),(v36,v37,()))))
def ybr (x:(ya6).X):=yom x.1.2.2.2.1.1 x.2.1.1.1 x.2.1.1.2.1 x.2.1.1.2.2.1 x.2.1.1.2.2.2.1 x.2.1.1.2.2.2.2.1 x.2.1.1.2.2.2.2.2.1 x.2.1.1.2.2.2.2.2.2.1 x.2.1.1.2.2.2.2.2.2.2.1 x.2.1.1.2.2.2.2.2.2.2.2.1 x.2.1.1.2.2.2.2.2.2.2.2.2.1 x.2.1.1.2.2.2.2.2.2.2.2.2.2.1 x.2.1.1.2.2.2.2.2.2.2.2.2.2.2.1 x.2.1.1.2.2.2.2.2.2.2.2.2.2.2.2.1 x.2.1.2.1.1 x.2.1.2.1.2.1 x.2.1.2.1.2.2.1 x.2.1.2.1.2.2.2.2.1 x.2.1.2.1.2.2.2.2.2.1 x.2.1.2.1.2.2.2.2.2.2.1 x.2.1.2.1.2.2.2.2.2.2.2.1 x.2.1.2.1.2.2.2.2.2.2.2.2.1 x.2.1.2.1.2.2.2.2.2.2.2.2.2.2.1 x.2.1.2.1.2.2.2.2.2.2.2.2.2.2.2.1 x.2.1.2.1.2.2.2.2.2.2.2.2.2.2.2.2.1 x.2.1.2.2.1.1 x.2.1.2.2.1.2.1 x.2.1.2.2.1.2.2.1 x.2.1.2.2.1.2.2.2.2.1 x.2.1.2.2.1.2.2.2.2.2.1 x.2.1.2.2.1.2.2.2.2.2.2.1 x.2.1.2.2.1.2.2.2.2.2.2.2.1 x.2.1.2.2.1.2.2.2.2.2.2.2.2.1 x.2.1.2.2.1.2.2.2.2.2.2.2.2.2.2.1 x.2.1.2.2.1.2.2.2.2.2.2.2.2.2.2.2.1 x.2.1.2.2.1.2.2.2.2.2.2.2.2.2.2.2.2.1 x.2.2.1 x.2.2.2.1
def yvL (x:(yeQ).X):(ya6).X:=((((),()),((),()),((),()),(0,()),()),((x.2.1.1.1,x.2.1.1.2.1,x.2.1.1.2.2.1,x.2.1.1.2.2.2.1,x.2.1.1.2.2.2.2.1,x.2.1.1.2.2.2.2.2.1,x.2.1.1.2.2.2.2.2.2.1,x.2.1.1.2.2.2.2.2.2.2.1,x.2.1.1.2.2.2.2.2.2.2.2.1,x.2.1.1.2.2.2.2.2.2.2.2.2.1,x.2.1.1.2.2.2.2.2.2.2.2.2.2.1,x.2.1.1.2.2.2.2.2.2.2.2.2.2.2.1,x.2.1.1.2.2.2.2.2.2.2.2.2.2.2.2.1,()),(x.2.1.2.1.1,x.2.1.2.1.2.1,x.2.1.2.1.2.2.1,(),x.2.1.2.1.2.2.2.2.1,x.2.1.2.1.2.2.2.2.2.1,x.2.1.2.1.2.2.2.2.2.2.1,x.2.1.2.1.2.2.2.2.2.2.2.1,x.2.1.2.1.2.2.2.2.2.2.2.2.1,(),x.2.1.2.1.2.2.2.2.2.2.2.2.2.2.1,x.2.1.2.1.2.2.2.2.2.2.2.2.2.2.2.1,x.2.1.2.1.2.2.2.2.2.2.2.2.2.2.2.2.1,()),(x.2.1.2.2.1.1,x.2.1.2.2.1.2.1,x.2.1.2.2.1.2.2.1,(),x.2.1.2.2.1.2.2.2.2.1,x.2.1.2.2.1.2.2.2.2.2.1,x.2.1.2.2.1.2.2.2.2.2.2.1,x.2.1.2.2.1.2.2.2.2.2.2.2.1,x.2.1.2.2.1.2.2.2.2.2.2.2.2.1,(),x.2.1.2.2.1.2.2.2.2.2.2.2.2.2.2.1,x.2.1.2.2.1.2.2.2.2.2.2.2.2.2.2.2.1,x.2.1.2.2.1.2.2.2.2.2.2.2.2.2.2.2.2.1,()),()),(x.2.2.1,x.2.2.2.1,()))
def yxo:Code:=(zdI ycZ 64 1012).getD .skip
theorem yH1:zdI ycZ 64 253=some (.block 2 (.loop yxo)):=by kernel_rfl
theorem yJI (x:(ya6).X):zg7 ⟨ygf,57,ysb⟩ 2 yxo 1012 ya6 yeH yiH x=ybr x:=by kernel_rfl
def yv1 (x:(yeQ).X):Nat:=(fun (u0:Int) (u1:Int) (u2:Int) (u3:List dM) (u4:Int) (u5:Int) (u6:Int) (u7:Int) (u8:Int) (u9:List dW) (u10:Int) (u11:Bool) (u12:Bool) (u13:Int) (u14:Int) (u15:Int) (u16:Int) (u17:Int) (u18:Int) (u19:Int) (u20:Int) (u21:Int) (u22:Bool) (u23:Bool) (u24:Int) (u25:Int) (u26:Int) (u27:Int) (u28:Int) (u29:Int) (u30:Int) (u31:Int) (u32:Int) (u33:Bool) (u34:Bool) (u35:List dM) (u36:List dW)=>18446744073709551616) x.2.1.1.1 x.2.1.1.2.1 x.2.1.1.2.2.1 x.2.1.1.2.2.2.1 x.2.1.1.2.2.2.2.1 x.2.1.1.2.2.2.2.2.1 x.2.1.1.2.2.2.2.2.2.1 x.2.1.1.2.2.2.2.2.2.2.1 x.2.1.1.2.2.2.2.2.2.2.2.1 x.2.1.1.2.2.2.2.2.2.2.2.2.1 x.2.1.1.2.2.2.2.2.2.2.2.2.2.1 x.2.1.1.2.2.2.2.2.2.2.2.2.2.2.1 x.2.1.1.2.2.2.2.2.2.2.2.2.2.2.2.1 x.2.1.2.1.1 x.2.1.2.1.2.1 x.2.1.2.1.2.2.1 x.2.1.2.1.2.2.2.2.1 x.2.1.2.1.2.2.2.2.2.1 x.2.1.2.1.2.2.2.2.2.2.1 x.2.1.2.1.2.2.2.2.2.2.2.1 x.2.1.2.1.2.2.2.2.2.2.2.2.1 x.2.1.2.1.2.2.2.2.2.2.2.2.2.2.1 x.2.1.2.1.2.2.2.2.2.2.2.2.2.2.2.1 x.2.1.2.1.2.2.2.2.2.2.2.2.2.2.2.2.1 x.2.1.2.2.1.1 x.2.1.2.2.1.2.1 x.2.1.2.2.1.2.2.1 x.2.1.2.2.1.2.2.2.2.1 x.2.1.2.2.1.2.2.2.2.2.1 x.2.1.2.2.1.2.2.2.2.2.2.1 x.2.1.2.2.1.2.2.2.2.2.2.2.1 x.2.1.2.2.1.2.2.2.2.2.2.2.2.1 x.2.1.2.2.1.2.2.2.2.2.2.2.2.2.2.1 x.2.1.2.2.1.2.2.2.2.2.2.2.2.2.2.2.1 x.2.1.2.2.1.2.2.2.2.2.2.2.2.2.2.2.2.1 x.2.2.1 x.2.2.2.1
def ypC (x:(yeQ).X):Option ((yeH).X ⊕ (yiH).X):=zr ybr (yv1 x) (yvL x)
def ywq:Seg:=⟨yeQ,yeH,yiH,ypC⟩
def yBj:Nat→Option Seg:=fun q=>bif Nat.beq q 253 then some ywq else ysb q
theorem yK5:FrOk Tryz.prog ⟨ygf,57,yBj⟩ ycZ:=(yK4).loop (sg:=ywq) ya6 yvL (by decide) yH1 ybr yv1 (by decide) (fun _=>rfl) (fun x r _ h=>h) yJI
abbrev ygt:List Par:= [.rd tA]
abbrev yq1:List OT:= [⟨false,tA,(.pr .fz (.pr (.pr .fz .fz) (.pr (.ow (.pr (.ow .fz) (.pr (.ow (.pr .fz .fz)) (.pr .fz (.ow .fz))))) (.pr .fz (.pr .fz (.pr .fz (.pr .fz (.pr .fz (.pr (.ow (.pr .fz .fz)) (.pr .fz (.pr .fz .fz)))))))))))⟩]
def ym4 (a0:dA):Option (ResD yq1×MutD ygt) :=
  zjw (yrp ((((),()),((),()),((),()),((),()),()),((a0.1,a0.2.1.1,a0.2.1.2,a0.2.2.1,a0.2.2.2.1,a0.2.2.2.2.1,a0.2.2.2.2.2.1,a0.2.2.2.2.2.2.1,a0.2.2.2.2.2.2.2.1,a0.2.2.2.2.2.2.2.2.1,a0.2.2.2.2.2.2.2.2.2.1,a0.2.2.2.2.2.2.2.2.2.2.1,a0.2.2.2.2.2.2.2.2.2.2.2,()),(0,0,0,(),0,0,0,0,0,(),0,false,false,()),(a0.1,a0.2.1.1,a0.2.1.2,(),a0.2.2.2.1,a0.2.2.2.2.1,a0.2.2.2.2.2.1,a0.2.2.2.2.2.2.1,a0.2.2.2.2.2.2.2.1,a0.2.2.2.2.2.2.2.2.1,a0.2.2.2.2.2.2.2.2.2.1,a0.2.2.2.2.2.2.2.2.2.2.1,a0.2.2.2.2.2.2.2.2.2.2.2,()),()),(([]:List dM),()))) (fun y2 =>
    zjw (ypC ((((),()),((),()),((),()),((),()),()),((y2.2.1.1.1,y2.2.1.1.2.1,y2.2.1.1.2.2.1,y2.2.1.1.2.2.2.1,y2.2.1.1.2.2.2.2.1,y2.2.1.1.2.2.2.2.2.1,y2.2.1.1.2.2.2.2.2.2.1,y2.2.1.1.2.2.2.2.2.2.2.1,y2.2.1.1.2.2.2.2.2.2.2.2.1,y2.2.1.1.2.2.2.2.2.2.2.2.2.1,y2.2.1.1.2.2.2.2.2.2.2.2.2.2.1,y2.2.1.1.2.2.2.2.2.2.2.2.2.2.2.1,y2.2.1.1.2.2.2.2.2.2.2.2.2.2.2.2.1,()),(y2.2.1.2.1.1,y2.2.1.2.1.2.1,y2.2.1.2.1.2.2.1,(),y2.2.1.2.1.2.2.2.2.1,y2.2.1.2.1.2.2.2.2.2.1,y2.2.1.2.1.2.2.2.2.2.2.1,y2.2.1.2.1.2.2.2.2.2.2.2.1,y2.2.1.2.1.2.2.2.2.2.2.2.2.1,(),y2.2.1.2.1.2.2.2.2.2.2.2.2.2.2.1,y2.2.1.2.1.2.2.2.2.2.2.2.2.2.2.2.1,y2.2.1.2.1.2.2.2.2.2.2.2.2.2.2.2.2.1,()),(y2.2.1.2.2.1.1,y2.2.1.2.2.1.2.1,y2.2.1.2.2.1.2.2.1,(),y2.2.1.2.2.1.2.2.2.2.1,y2.2.1.2.2.1.2.2.2.2.2.1,y2.2.1.2.2.1.2.2.2.2.2.2.1,y2.2.1.2.2.1.2.2.2.2.2.2.2.1,y2.2.1.2.2.1.2.2.2.2.2.2.2.2.1,(),y2.2.1.2.2.1.2.2.2.2.2.2.2.2.2.2.1,y2.2.1.2.2.1.2.2.2.2.2.2.2.2.2.2.2.1,y2.2.1.2.2.1.2.2.2.2.2.2.2.2.2.2.2.2.1,()),()),(y2.2.2.1,([]:List dW),()))) (fun y3 =>
      some (((y3.2.1.2.1.1,(y3.2.1.2.1.2.1,y3.2.1.2.1.2.2.1),y3.2.2.1,y3.2.1.2.1.2.2.2.2.1,y3.2.1.2.1.2.2.2.2.2.1,y3.2.1.2.1.2.2.2.2.2.2.1,y3.2.1.2.1.2.2.2.2.2.2.2.1,y3.2.1.2.1.2.2.2.2.2.2.2.2.1,y3.2.2.2.1,y3.2.1.2.1.2.2.2.2.2.2.2.2.2.2.1,y3.2.1.2.1.2.2.2.2.2.2.2.2.2.2.2.1,y3.2.1.2.1.2.2.2.2.2.2.2.2.2.2.2.2.1),()),())) (fun y3 =>
      none)) (fun y2 =>
    none)
theorem yS0 (x:InD ygt):zjH ⟨ygf,57,yBj⟩ Tryz.f73.results.toList ycZ ygt yq1 x=ym4 x.1:=by kernel_rfl
theorem yPl:ConOk Tryz.prog 73 ⟨ygt,yq1,fun x=>ym4 x.1⟩:=zkh (yK5) Tryz.func73 (by kernel_rfl) (by kernel_rfl) Tryz.ntmps73.symm (by decide) (fun x r h=>(yS0 x).trans h)
def ybA (a0:dA):dA:=a0
theorem yRl (a0:dA) (hk:zi9 ygt (a0,())):ym4 a0=(fun n=>some ((n,()),())) (ybA a0):=by
  have hb:a0.2.2.1.length * 80≤2 ^ 47:=hk.1.2.2.1.1
  have hb2:a0.2.2.2.2.2.2.2.2.1.length * 32≤2 ^ 47:=hk.1.2.2.2.2.2.2.2.2.1.1
  have hc: ∀ i,i < a0.2.2.2.2.2.2.2.2.1.length→(a0.2.2.2.2.2.2.2.2.1.getD i (0,[])).2.length * 8≤2 ^ 47:=fun i hi=>by rw [zcq hi]; exact (hk.1.2.2.2.2.2.2.2.2.1.2 _ (List.getElem_mem hi)).2.1
  have h1:=zkk (step:=yci) a0.2.2.1 yf (fun i s=>ypM i a0 ye1 (a0.1,a0.2.1,s,a0.2.2.2)) (fun s x=>s++ [x]) (fun i s=>s.length=i) (fun s=> .inl (yIJ a0 ye1 (a0.1,a0.2.1,s,a0.2.2.2))) (fun i s hi hs=>⟨by
      simp only [yci,ypM,yp5,zjI (show (i:Int) < a0.2.2.1.length by omega),cond_true,wr (show -9223372036854775808≤(i:Int)+1 by omega) (by omega),Int.natCast_add,Int.natCast_one,Int.toNat_natCast,zkO hi,zjW,ybz,zkV]
      rw [zkw.2 (show (s.length+ [a0.2.2.1.getD i ([],[],false,[])].length) * 80≤140737488355328 by simp only [List.length_cons,List.length_nil]; omega)]; rfl,by simp [hs]⟩) (fun s hs=>by simp only [yci,ypM,yp5,zkm (Int.le_refl _),cond_false]) [] rfl 18446744073709551616 (by omega)
  have h2:=zkk (step:=ybr) a0.2.2.2.2.2.2.2.2.1 (0,[]) (fun i s=>ynW i a0 ye1 (a0.1,a0.2.1,a0.2.2.1,a0.2.2.2.1,a0.2.2.2.2.1,a0.2.2.2.2.2.1,a0.2.2.2.2.2.2.1,a0.2.2.2.2.2.2.2.1,s,a0.2.2.2.2.2.2.2.2.2)) (fun s x=>s++ [x]) (fun i s=>s.length=i) (fun s=> .inl (yGW ye1 (a0.1,a0.2.1,a0.2.2.1,a0.2.2.2.1,a0.2.2.2.2.1,a0.2.2.2.2.2.1,a0.2.2.2.2.2.2.1,a0.2.2.2.2.2.2.2.1,s,a0.2.2.2.2.2.2.2.2.2))) (fun i s hi hs=>⟨by
      have:=hc i hi
      simp only [ybr,ynW,yom,zjI (show (i:Int) < a0.2.2.2.2.2.2.2.2.1.length by omega),cond_true,wr (show -9223372036854775808≤(i:Int)+1 by omega) (by omega),Int.natCast_add,Int.natCast_one,Int.toNat_natCast,zkO hi,zjW,List.nil_append,zkV]
      rw [zkw.2 (show (([]:List Int).length+(a0.2.2.2.2.2.2.2.2.1.getD i (0,[])).2.length) * 8≤140737488355328 by rw [List.length_nil]; omega),zkw.2 (show (s.length+ [a0.2.2.2.2.2.2.2.2.1.getD i (0,[])].length) * 32≤140737488355328 by simp only [List.length_cons,List.length_nil]; omega)]; rfl,by simp [hs]⟩) (fun s hs=>by simp only [ybr,ynW,yom,zkm (Int.le_refl _),cond_false]) [] rfl 18446744073709551616 (by omega)
  rw [yrv]at h1 h2
  unfold ym4 ybA
  rw [show yrp (yIQ a0 ye1 (a0.1,a0.2.1,[],a0.2.2.2))=_ from h1,zkJ]
  refine (congrArg (fun z=>zjw z _ _) (show ypC (yG5 a0 ye1 (a0.1,a0.2.1,a0.2.2.1,a0.2.2.2.1,a0.2.2.2.2.1,a0.2.2.2.2.2.1,a0.2.2.2.2.2.2.1,a0.2.2.2.2.2.2.2.1,[],a0.2.2.2.2.2.2.2.2.2))=_ from h2)).trans rfl
def ymJ:Con:=⟨ygt,yq1,fun x=>(fun n=>some ((n,()),())) (ybA x.1)⟩
theorem yuB:ConOk Tryz.prog 73 ymJ:=(yPl).mono (fun x r hk h=>(yRl x.1 hk).trans h)
end
section
def yJO:Code:=(Tryz.f98.body).getD .skip
def yJT:Env:=zki TT [] []
theorem yQR:FrOk Tryz.prog ⟨yJT,15,fun _=>none⟩ yJO:=zkp yb yc trivial
def ySz:Nat→Option Seg:=fun _=>none
abbrev yqd:List Par:= [.rd tI,.rd tI,.rd tI]
abbrev yu2:List OT:= [⟨false,tB,.fz⟩]
def ywH (a0:Int) (a1:Int) (a2:Int):Option (ResD yu2×MutD yqd) :=
  bif (leb a1 a0) then
    some (((leb a0 a2),()),())
  else
    some ((false,()),())
theorem yVc (x:InD yqd):zjH ⟨yJT,15,ySz⟩ Tryz.f98.results.toList yJO yqd yu2 x=ywH x.1 x.2.1 x.2.2.1:=by kernel_rfl
theorem yTK:ConOk Tryz.prog 98 ⟨yqd,yu2,fun x=>ywH x.1 x.2.1 x.2.2.1⟩:=zkh (yQR) Tryz.func98 (by kernel_rfl) (by kernel_rfl) Tryz.ntmps98.symm (by decide) (fun x r h=>(yVc x).trans h)
def ya (a0:Int) (a1:Int) (a2:Int):Bool :=
  bif (leb a1 a0) then
    (leb a0 a2)
  else
    false
def yM:Con:=⟨yqd,yu2,fun x=>(fun n=>some ((n,()),())) (ya x.1 x.2.1 x.2.2.1)⟩
theorem yUX (a0:Int) (a1:Int) (a2:Int):ywH a0 a1 a2=(fun n=>some ((n,()),())) (ya a0 a1 a2):=zkS (p:=fun (n:Bool)=>((n,()),())) (zkx (p:=fun (n:Bool)=>((n,()),())) rfl rfl)
theorem yaE:ConOk Tryz.prog 98 yM:=(yTK).mono (fun x r _ h=>(yUX x.1 x.2.1 x.2.2.1).trans h)
theorem yth {a b c:Int}:ya a b c=true↔b≤a∧a≤c:=by
  unfold ya
  cases h:leb b a
  · have:=mt zk0 (by rw [h]; simp: ¬ leb b a=true)
    simp [this]
  · simp [zjQ,zjQ.1 h]
theorem yXk {a b c:Int} (h:b≤a) (h2:a≤c):ya a b c=true:=yth.2 ⟨h,h2⟩
theorem yXj {a b c:Int} (h: ¬ (b≤a∧a≤c)):ya a b c=false:=by
  cases e:ya a b c
  · rfl
  · exact absurd (yth.1 e) h
theorem ykx (x a b:Int):ya x a b=(leb a x&&leb x b):=by
  unfold ya; cases leb a x<;>rfl
theorem ynO {x:Int} {n:Nat} (h:n≤1152921504606846976):ya x 0 (IntKind.i64.wrap ((n:Int) - 1))=inb x n:=by
  rw [wr (by omega) (by omega),Bool.eq_iff_iff,yth,zjP]; omega
end
section
def yFt:Code:=(Tryz.f141.body).getD .skip
def yFU:Env:=zki TT [(98,yM)] []
theorem yOj:FrOk Tryz.prog ⟨yFU,11,fun _=>none⟩ yFt:=zkp yb yc ⟨yaE,trivial⟩
def yQk:Nat→Option Seg:=fun _=>none
abbrev ynH:List Par:= [.rd tG]
abbrev ysT:List OT:= [⟨false,tB,.fz⟩]
def yuU (a0:dG):Option (ResD ysT×MutD ynH) :=
  let r1:=ya a0.1 3 5
  bif r1 then
    let r2:=ya a0.2 1 8
    some ((r2,()),())
  else
    some ((false,()),())
theorem yUG (x:InD ynH):zjH ⟨yFU,11,yQk⟩ Tryz.f141.results.toList yFt ynH ysT x=yuU x.1:=by kernel_rfl
theorem yRQ:ConOk Tryz.prog 141 ⟨ynH,ysT,fun x=>yuU x.1⟩:=zkh (yOj) Tryz.func141 (by kernel_rfl) (by kernel_rfl) Tryz.ntmps141.symm (by decide) (fun x r h=>(yUG x).trans h)
def yg (a0:dG):Bool :=
  let r1:=ya a0.1 3 5
  bif r1 then
    let r2:=ya a0.2 1 8
    r2
  else
    false
def yuu:Con:=⟨ynH,ysT,fun x=>(fun n=>some ((n,()),())) (yg x.1)⟩
theorem yTA (a0:dG):yuU a0=(fun n=>some ((n,()),())) (yg a0):=zkS (p:=fun (n:Bool)=>((n,()),())) (zkx (p:=fun (n:Bool)=>((n,()),())) rfl rfl)
theorem yEz:ConOk Tryz.prog 141 yuu:=(yRQ).mono (fun x r _ h=>(yTA x.1).trans h)
theorem yam {a:Int×Int}:yg a=true↔(3≤a.1∧a.1≤5)∧1≤a.2∧a.2≤8:=by
  unfold yg
  cases h:ya a.1 3 5
  · have: ¬ (3≤a.1∧a.1≤5):=fun e=>by rw [yth.2 e]at h; simp at h
    simp [this]
  · simp only [cond_true,yth]
    exact ⟨fun e=>⟨yth.1 h,e⟩,fun e=>e.2⟩
def yhQ (a:dA) (i:Nat):Bool:= !(yn (nth a.2.2.1 i yf))||((((nth a.2.2.1 i yf).1.length:Int) !=6+a.2.1.2)||((nth a.2.2.1 i yf).2.2.1&&(((i:Int) !=a.2.2.2.1)&& !a.2.2.2.2.2.2.2.2.2.2.2)))
def yti (a:dA):Bool:= !((List.range a.2.2.1.length).any (yhQ a))&&(a.2.2.1.length:Int)==a.2.1.1
def yoX (g:dG) (l:List dW) (i:Nat):Bool:= !(leb 0 (nth l i (0,[])).1&&leb (nth l i (0,[])).1 (g.2 - 1))||(((nth l i (0,[])).2.length:Int) !=g.1 - 1||(!((nth l i (0,[])).2.all isW)||(decide (0 < i)&&leb (nth l i (0,[])).1 (nth l ((i - 1:Nat):Int) (0,[])).1)))
def yoY (g:dG) (l:List dW):Bool:= !((List.range l.length).any (yoX g l))
def yr (a:dA):Bool :=
  yg a.2.1&&((leb 1 a.1&&leb a.1 60000)&&(yti a&&(yoY a.2.1 a.2.2.2.2.2.2.2.2.1&&((leb (-1) a.2.2.2.1&&leb a.2.2.2.1 (a.2.1.1 - 1))&&((leb 0 a.2.2.2.2.1&&leb a.2.2.2.2.1 a.2.1.2)&&(!(a.2.2.2.1== -1&&a.2.2.2.2.1 !=0) &&
  ((leb 0 a.2.2.2.2.2.2.1&&leb a.2.2.2.2.2.2.1 60000)&&((leb a.2.2.2.2.2.2.1 a.2.2.2.2.2.1&&leb a.2.2.2.2.2.1 60000)&&(leb a.2.2.2.2.2.1 (a.2.2.2.2.2.2.1+4)&&((leb 0 a.2.2.2.2.2.2.2.1&&leb a.2.2.2.2.2.2.2.1 60000)&&(leb (-1) a.2.2.2.2.2.2.2.2.2.1&&leb a.2.2.2.2.2.2.2.2.2.1 1000)))))))))))
theorem ye6 {a:dA} (h:yr a=true):yg a.2.1=true:=(Bool.and_eq_true_iff.1 h).1
theorem yXi {a:Int×Int} (h: ¬ yg a=true):yg a=false:=by cases e:yg a<;>simp_all
theorem yNl {a:dA} (h:yr a=true):yti a=true:=by simp only [yr,Bool.and_eq_true]at h; exact h.2.2.1
theorem yGc {a:dA} (h:yr a=true):(a.2.2.1.length:Int)=a.2.1.1:=by have:=yNl h; simp only [yti,Bool.and_eq_true,beq_iff_eq]at this; exact this.2
theorem yVK {a:dA} (h:yti a=true) {i:Nat} (hi:i < a.2.2.1.length):yn (nth a.2.2.1 i yf)=true∧((nth a.2.2.1 i yf).1.length:Int)=6+a.2.1.2∧((nth a.2.2.1 i yf).2.2.1=true→(i:Int)=a.2.2.2.1∨a.2.2.2.2.2.2.2.2.2.2.2=true):=by
  simp only [yti,Bool.and_eq_true,Bool.not_eq_true',List.any_eq_false,List.mem_range]at h
  have:=h.1 i hi
  simp only [yhQ,Bool.not_eq_true,Bool.or_eq_false_iff,Bool.not_eq_false',bne_eq_false_iff_eq,Bool.and_eq_false_iff]at this
  refine ⟨this.1,this.2.1,fun hf=> ?_⟩
  rcases this.2.2 with h1 | h1 | h1
  · rw [hf]at h1; cases h1
  · exact .inl h1
  · exact .inr h1
theorem yVm: ∀ {l:List Int} {lo n:Int},l.Pairwise (· < ·)→(∀ x∈l,lo≤x∧x < n)→lo≤n→(l.length:Int)≤n - lo
  | [],lo,n,_,_,h=>by simp; omega
  | x::l,lo,n,hp,hx,h=>by
    cases hp with
    | cons h1 h2 =>
      have h3:=hx x List.mem_cons_self
      have:=yVm (l:=l) (lo:=x+1) (n:=n) h2 (fun y hy=>⟨h1 y hy,(hx y (List.mem_cons_of_mem _ hy)).2⟩) (by omega)
      rw [List.length_cons]; omega
theorem yGd {n:Nat} {l:List Int}:ys0 n l=true↔(∀ x∈l,0≤x∧x < n)∧l.Pairwise (· < ·):=by
  simp only [ys0,Bool.and_eq_true,List.all_eq_true,zjP,decide_eq_true_eq]
theorem yDK {m:dM} (h1:m.1.all yaM=true) (h2:m.2.1.all (yuY m.1.length)=true) (h3:ys0 m.1.length m.2.2.2=true) (h4:1≤m.1.length) (h5:m.1.length≤20) (h6:m.2.1.length≤60):yn m=true:=by
  simp only [yn,h1,h2,h3,Bool.true_and,Bool.and_eq_true,zjQ]
  omega
theorem yVg {m:dM} (h:yn m=true):ypG m≤1041:=by
  obtain ⟨h1,h2,h3,h4,h5,h6⟩:=ye7 h
  have a1:=yPY (b:=12) h5 (fun x hx=>(yB5.1 (List.all_eq_true.1 h1 x hx)).1)
  have a2:=zi5 (f:=fun x:dW=>1+x.2.length) (c:=13) (l:=m.2.1) (fun w hw=>by have:=(yB5.1 (Bool.and_eq_true_iff.1 (List.all_eq_true.1 h2 w hw)).2).1; omega)
  have a3:=Nat.mul_le_mul_right 13 h6
  obtain ⟨b1,b2⟩:=yGd.1 h3
  have a4:=yVm (lo:=0) (n:=m.1.length) b2 b1 (by omega)
  unfold ypG
  omega
theorem yVw {m:dM} (b:Nat→Bool) (h:yn m=true):(ydn b m.2.1 m.1).all yaM=true:=by
  obtain ⟨h1,h2,_⟩:=ye7 h
  rw [List.all_eq_true]
  exact yJV (P:=fun x=>yaM x=true) (fun x hx=>List.all_eq_true.1 h1 x hx) (fun w hw=>(Bool.and_eq_true_iff.1 (List.all_eq_true.1 h2 w hw)).2)
theorem yWe {m:dM} (n:Int) (s:List Int) (h:yn m=true):yn (yif m n s).1=true:=by
  unfold yif
  cases hc:yus m n s
  · exact h
  · simp only [yus,Bool.and_eq_true,Bool.not_eq_true',zjT]at hc
    obtain ⟨h1,h2,h3,h4,h5,h6⟩:=ye7 h
    refine yDK h1 ?_ ?_ h4 h5 (by show (m.2.1++ [(n,s)]).length≤60; rw [List.length_append]; simp only [List.length_cons,List.length_nil]; omega)
    · show (m.2.1++ [(n,s)]).all (yuY m.1.length)=true
      rw [List.all_append,h2]
      simp [yuY,hc.2.2.1,hc.2.2.2.1]
    · show ys0 m.1.length (ySg m.2.2.2 n)=true
      obtain ⟨b1,b2⟩:=yGd.1 h3
      exact yGd.2 ⟨fun x hx=>b1 x (List.mem_filter.1 hx).1,b2.filter _⟩
theorem yW5 (m:dM) (n:Int) (s:List Int):(yif m n s).1.1=m.1∧(yif m n s).1.2.2.1=m.2.2.1:=by
  unfold yif
  cases yus m n s<;>exact ⟨rfl,rfl⟩
theorem yV2 {m:dM} (h:yn m=true):yn (yfR m)=true:=by
  unfold yfR
  cases hc:(yn m&& !m.2.2.1)
  · exact h
  · obtain ⟨h1,h2,h3,h4,h5,h6⟩:=ye7 h
    refine yDK (yVw _ h) rfl ?_ ?_ ?_ (Nat.zero_le _)
    · show ys0 (ydn _ m.2.1 m.1).length m.2.2.2=true; rw [yqk]; exact h3
    · show 1≤(ydn _ m.2.1 m.1).length; rw [yqk]; exact h4
    · show (ydn _ m.2.1 m.1).length≤20; rw [yqk]; exact h5
theorem yW3 (m:dM):(yfR m).1.length=m.1.length∧(yfR m).2.2.1=m.2.2.1:=by
  unfold yfR
  cases (yn m&& !m.2.2.1)
  · exact ⟨rfl,rfl⟩
  · exact ⟨yqk,rfl⟩
theorem yXd {m:dM} (h:yn m=true):yn (yWs m)=true:=by
  obtain ⟨h1,h2,h3,h4,h5,h6⟩:=ye7 h
  exact yDK h1 rfl h3 h4 h5 (Nat.zero_le _)
def yU (l:List dM):Prop:= ∀ m∈l,yn m=true
theorem yDR {l:List dM} {i:Nat} {x:dM} (h:yU l) (hx:yn x=true):yU (l.set i x):=fun m hm=>by
  rcases List.mem_or_eq_of_mem_set hm with h1 | rfl
  · exact h m h1
  · exact hx
theorem ySs {l:List dM} {m:Int} (h:yU l) (hm:inb m l.length=true):yn (nth l m yf)=true:=yVq (P:=fun x=>yn x=true) hm h
theorem yHk {l:List dM} (h:yU l):ymL l≤l.length * 1041:=zi5 (f:=ypG) (fun x hx=>yVg (h x hx))
theorem yDC {a:dA} (h:yr a=true):yU a.2.2.1:=fun m hm=>by
  obtain ⟨i,hi,rfl⟩:=List.getElem_of_mem hm
  have:=(yVK (yNl h) hi).1
  rwa [zjW,zcq hi]at this
def ytD (g:dG) (s:Int):Bool:=yg g&&(leb 0 s&&leb s (g.2 - 1))
def yuD (g:dG) (s:Int):Int:=bif ytD g s then g.1 - 1 - s.tmod g.1 else -1
def yNp (g:dG) (s i:Int):Int:=bif ytD g s&&(leb 0 i&&leb i (g.1 - 2)) then (yuD g s+1+i).tmod g.1 else -1
theorem yHz {g:dG} {s:Int}:ytD g s=true↔yg g=true∧0≤s∧s≤g.2 - 1:=by simp [ytD,zjQ]
theorem yVO {g:dG} {s:Int} (h:ytD g s=true):0≤yuD g s∧yuD g s≤g.1 - 1:=by
  have h1:=yHz.1 h
  have h2:=yam.1 h1.1
  unfold yuD
  rw [h,cond_true,Int.tmod_eq_emod_of_nonneg h1.2.1]
  have:=Int.emod_nonneg s (show g.1≠0 by omega)
  have:=Int.emod_lt_of_pos s (show 0 < g.1 by omega)
  omega
theorem yXb {g:dG} {s i:Int} (h:ytD g s=true) (h1:0≤i) (h2:i≤g.1 - 2):0≤yNp g s i∧yNp g s i≤g.1 - 1:=by
  have h3:=yam.1 (yHz.1 h).1
  have h4:=yVO h
  unfold yNp
  rw [h,zk0 h1,zk0 h2,Bool.and_self,Bool.and_self,cond_true,Int.tmod_eq_emod_of_nonneg (by omega)]
  have:=Int.emod_nonneg (yuD g s+1+i) (show g.1≠0 by omega)
  have:=Int.emod_lt_of_pos (yuD g s+1+i) (show 0 < g.1 by omega)
  omega
def yp (p:Nat→Bool):Nat→Int
  | 0=> -1
  | n+1=>bif p n then yp p n else n
def yHE (p:Nat→Bool) (n:Nat):Bool:=(List.range n).any (fun i=> !p i&&leb 0 (yp p i))
theorem ySp (p:Nat→Bool): ∀ n,yp p n= -1∨(0≤yp p n∧yp p n < n∧p (yp p n).toNat=false)
  | 0=> .inl rfl
  | n+1=>by
    unfold yp
    cases h:p n
    · exact .inr ⟨by show (0:Int)≤n; omega,by show (n:Int) < _; omega,h⟩
    · rcases ySp p n with h1 | h1
      · exact .inl h1
      · exact .inr ⟨h1.1,by show yp p n < _; omega,h1.2.2⟩
def yT (a:dA) (s:Int) (n:Nat):List Int:=(List.range n).map (fun (i:Nat)=>yAJ a i s)
theorem yop (a:dA) (s:Int) (n:Nat):(yT a s n).length=n:=by unfold yT; rw [List.length_map,List.length_range]
theorem yED (a:dA) (s:Int) (n:Nat):yT a s n++ [yAJ a n s]=yT a s (n+1):=by unfold yT; rw [List.range_succ,List.map_append]; rfl
theorem yVk (a:dA) (s:Int) {i n:Nat} (h:i < n):nth (yT a s n) i 0=yAJ a i s:=by
  unfold yT
  rw [zjW,zcq (by rw [List.length_map,List.length_range]; exact h)]; simp
def ye5 (a:dA) (s:Int):List Int×Bool :=
  bif yHE (fun (i:Nat)=>yk a i s) a.2.1.1.toNat then ([],false)
  else bif leb 0 (yp (fun (i:Nat)=>yk a i s) a.2.1.1.toNat) then ((yT a s a.2.1.1.toNat).set (yp (fun (i:Nat)=>yk a i s) a.2.1.1.toNat).toNat (yyH (yT a s a.2.1.1.toNat)),true)
  else (yT a s a.2.1.1.toNat,true)
theorem ySv {a:dA} {s:Int} (h:(ye5 a s).2=true):(ye5 a s).1.length=a.2.1.1.toNat:=by
  unfold ye5 at h ⊢
  cases h1:yHE (fun (i:Nat)=>yk a i s) a.2.1.1.toNat
  · cases leb 0 (yp (fun (i:Nat)=>yk a i s) a.2.1.1.toNat)
    · exact yop _ _ _
    · simp only [cond_false,cond_true,List.length_set]; exact yop _ _ _
  · rw [h1]at h; cases h
theorem ySq (a:dA) (s:Int) (n:Nat) (h:leb 0 (yp (fun (i:Nat)=>yk a i s) n)=true):inb (yp (fun (i:Nat)=>yk a i s) n) (yT a s n).length=true∧ynP (yT a s n) (yp (fun (i:Nat)=>yk a i s) n)=yyH (yT a s n):=by
  rcases ySp (fun (i:Nat)=>yk a i s) n with h1 | h1
  · rw [h1]at h; cases h
  · have h2:inb (yp (fun (i:Nat)=>yk a i s) n) (yT a s n).length=true:=by rw [yop,zjP]; exact ⟨h1.1,h1.2.1⟩
    refine ⟨h2,yVL h2 ?_⟩
    have h3:=yVk a s (show (yp (fun (i:Nat)=>yk a i s) n).toNat < n by omega)
    rw [show (((yp (fun (i:Nat)=>yk a i s) n).toNat:Nat):Int)=yp (fun (i:Nat)=>yk a i s) n by omega]at h3
    rw [h3]
    unfold yAJ
    have h4:yk a (yp (fun (i:Nat)=>yk a i s) n) s=false:=by
      have:=h1.2.2
      have this:yk a ((yp (fun (i:Nat)=>yk a i s) n).toNat:Nat) s=false:=h1.2.2
      rwa [show (((yp (fun (i:Nat)=>yk a i s) n).toNat:Nat):Int)=yp (fun (i:Nat)=>yk a i s) n by omega]at this
    rw [h4]; rfl
def yVt (a:dA) (s:Int):List Int×Bool:=bif (ye5 a s).2 then ((List.range (a.2.1.1 - 1).toNat).map (fun (i:Nat)=>nth (ye5 a s).1 (yNp a.2.1 s i) 0),true) else ([],false)
def yVD (a:dA) (s:Int):List Int×Bool:=bif yr a&&(!a.2.2.2.2.2.2.2.2.2.2.2&&ytD a.2.1 s) then yVt a s else ([],false)
theorem yW2 (a:dA) (s:Int):(yVt a s).1.length≤(a.2.1.1 - 1).toNat:=by
  unfold yVt
  cases (ye5 a s).2
  · exact Nat.zero_le _
  · simp
def yXc (a:dA):List Int:=bif yr a&&(List.range a.2.1.2.toNat).all (fun (s:Nat)=>(yVD a s).2) then (List.range a.2.1.2.toNat).flatMap (fun (s:Nat)=>(yVD a s).1) else []
end
section
def yD9:Code:=(Tryz.f90.body).getD .skip
def yEq:Env:=zki TT [(98,yM)] []
theorem yKZ:FrOk Tryz.prog ⟨yEq,5,fun _=>none⟩ yD9:=zkp yb yc ⟨yaE,trivial⟩
def yM6:Nat→Option Seg:=fun _=>none
abbrev yli:List Par:= [.rd tI]
abbrev yqZ:List OT:= [⟨false,tB,.fz⟩]
def yty (a0:Int):Option (ResD yqZ×MutD yli) :=
  let r1:=ya a0 0 65535
  some ((r1,()),())
theorem ySY (x:InD yli):zjH ⟨yEq,5,yM6⟩ Tryz.f90.results.toList yD9 yli yqZ x=yty x.1:=by kernel_rfl
theorem yPj:ConOk Tryz.prog 90 ⟨yli,yqZ,fun x=>yty x.1⟩:=zkh (yKZ) Tryz.func90 (by kernel_rfl) (by kernel_rfl) Tryz.ntmps90.symm (by decide) (fun x r h=>(ySY x).trans h)
def yO (a0:Int):Bool :=
  let r1:=ya a0 0 65535
  r1
def yBX:Con:=⟨yli,yqZ,fun x=>(fun n=>some ((n,()),())) (yO x.1)⟩
theorem yRj (a0:Int):yty a0=(fun n=>some ((n,()),())) (yO a0):=zkS (p:=fun (n:Bool)=>((n,()),())) rfl
theorem ySa:ConOk Tryz.prog 90 yBX:=(yPj).mono (fun x r _ h=>(yRj x.1).trans h)
end
section
def yjb:Code:=(Tryz.f200.body).getD .skip
def yoA:Env:=zki TT [(90,yBX)] []
theorem yIz:FrOk Tryz.prog ⟨yoA,16,fun _=>none⟩ yjb:=zkp yb yc ⟨ySa,trivial⟩
def yza:Nat→Option Seg:=fun _=>none
def ycJ:Shape:=⟨[(0,false,[.br tI]),(3,false,[.int .i64])],[],[]⟩
def yit:Shape:=⟨[(0,false,[.br tI]),(3,false,[.ci .i64 0])],[],[]⟩
def yim:Shape:=⟨[],[],[]⟩
def yiG:Shape:=⟨[(2,false,[.bool])],[],[]⟩
def yol (v0:List Int) (v1:Int):Option ((ycJ).X ⊕ ((yim).X ⊕ (yiG).X)) :=
  bif (ltb v1 (v0.length:Int)) then
    bif (inb v1 v0.length) then
      let r2:=yO (nth v0 v1 0)
      bif (!r2) then
        some (.inr (.inr (((false,()),()),(),())))
      else
        some (.inl (((v0,()),((IntKind.i64.wrap (v1+1)),()),()),(),()))
    else none
  else
    some (.inr (.inl ((),(),())))
def ybq (x:(ycJ).X):=yol x.1.1.1 x.1.2.1.1
def yvK (x:(yit).X):(ycJ).X:=(((x.1.1.1,()),(0,()),()),(),())
def yxn:Code:=(zdI yjb 64 52).getD .skip
theorem yH0:zdI yjb 64 13=some (.block 0 (.loop yxn)):=by kernel_rfl
theorem yJH (x:(ycJ).X):zg7 ⟨yoA,16,yza⟩ 0 yxn 52 ycJ yim yiG x=ybq x:=by kernel_rfl
def yv0 (x:(yit).X):Nat:=(fun (u0:List Int)=>18446744073709551616) x.1.1.1
def ypB (x:(yit).X):Option ((yim).X ⊕ (yiG).X):=zr ybq (yv0 x) (yvK x)
def ywp:Seg:=⟨yit,yim,yiG,ypB⟩
def yzb:Nat→Option Seg:=fun q=>bif Nat.beq q 13 then some ywp else yza q
theorem yIA:FrOk Tryz.prog ⟨yoA,16,yzb⟩ yjb:=(yIz).loop (sg:=ywp) ycJ yvK (by decide) yH0 ybq yv0 (by decide) (fun _=>rfl) (fun x r _ h=>h) yJH
abbrev yfk:List Par:= [.rd tL]
abbrev yoT:List OT:= [⟨false,tB,.fz⟩]
def ykQ (a0:List Int):Option (ResD yoT×MutD yfk) :=
  zjw (ypB (((a0,()),((),()),()),(),())) (fun y2 =>
    some ((true,()),())) (fun y2 =>
    some ((y2.1.1.1,()),()))
theorem yQI (x:InD yfk):zjH ⟨yoA,16,yzb⟩ Tryz.f200.results.toList yjb yfk yoT x=ykQ x.1:=by kernel_rfl
theorem yMg:ConOk Tryz.prog 200 ⟨yfk,yoT,fun x=>ykQ x.1⟩:=zkh (yIA) Tryz.func200 (by kernel_rfl) (by kernel_rfl) Tryz.ntmps200.symm (by decide) (fun x r h=>(yQI x).trans h)
def yaL (a0:List Int):Bool:=a0.all yO
theorem yOS (a0:List Int) (hk:zi9 yfk (a0,())):ykQ a0=(fun n=>some ((n,()),())) (yaL a0):=by
  have hb:a0.length * 8≤2 ^ 47:=hk.1.1
  have hl:ypB (((a0,()),((),()),()),(),())=some (bif a0.all yO then .inl ((),(),()) else .inr (((false,()),()),(),())) :=
    zjS (step:=ybq) a0 0 (fun i=>(((a0,()),((i:Int),()),()),(),())) yO _ _ (fun i hi=>by
      simp only [ybq,yol,zkO hi,zjW,zjI (show (i:Int) < a0.length by omega),cond_true,wr (show -9223372036854775808≤(i:Int)+1 by omega) (by omega),Int.natCast_add,Int.natCast_one]
      cases yO (a0.getD i 0)<;>rfl) (by simp only [ybq,yol,zkm (Int.le_refl _),cond_false]) _ (by show _ < 18446744073709551616; omega)
  unfold ykQ yaL
  rw [hl]
  cases a0.all yO<;>rfl
def yru:Con:=⟨yfk,yoT,fun x=>(fun n=>some ((n,()),())) (yaL x.1)⟩
theorem yB4:ConOk Tryz.prog 200 yru:=(yMg).mono (fun x r hk h=>(yOS x.1 hk).trans h)
end
section
def yFu:Code:=(Tryz.f249.body).getD .skip
def yFV:Env:=zki TT [(200,yru)] []
theorem yOo:FrOk Tryz.prog ⟨yFV,10,fun _=>none⟩ yFu:=zkp yb yc ⟨yB4,trivial⟩
def yQl:Nat→Option Seg:=fun _=>none
abbrev ynI:List Par:= [.rd tL]
abbrev ysV:List OT:= [⟨false,tB,.fz⟩]
def yuV (a0:List Int):Option (ResD ysV×MutD ynI) :=
  bif (leb (a0.length:Int) 12) then
    let r1:=yaL a0
    some ((r1,()),())
  else
    some ((false,()),())
theorem yUI (x:InD ynI):zjH ⟨yFV,10,yQl⟩ Tryz.f249.results.toList yFu ynI ysV x=yuV x.1:=by kernel_rfl
theorem yRS:ConOk Tryz.prog 249 ⟨ynI,ysV,fun x=>yuV x.1⟩:=zkh (yOo) Tryz.func249 (by kernel_rfl) (by kernel_rfl) Tryz.ntmps249.symm (by decide) (fun x r h=>(yUI x).trans h)
def yfY (a0:List Int):Bool :=
  bif (leb (a0.length:Int) 12) then
    let r1:=yaL a0
    r1
  else
    false
def yuv:Con:=⟨ynI,ysV,fun x=>(fun n=>some ((n,()),())) (yfY x.1)⟩
theorem yTC (a0:List Int):yuV a0=(fun n=>some ((n,()),())) (yfY a0):=zkS (p:=fun (n:Bool)=>((n,()),())) (zkx (p:=fun (n:Bool)=>((n,()),())) rfl rfl)
theorem yEA:ConOk Tryz.prog 249 yuv:=(yRS).mono (fun x r _ h=>(yTC x.1).trans h)
theorem yCi:yfY=yaM:=funext fun s=>by
  unfold yfY yaM yaL
  rw [show yO=isW from funext fun x=>by unfold yO; rw [ykx]; rfl]
  cases leb (s.length:Int) 12<;>rfl
end
end
end Go.Tf
