/- Functions of the program, and what they come to. -/
import Derived.Test.YtfpjmijaiekbgaaGreatExactRecoverF21
namespace Go.Tf
noncomputable section
open Go.Proofs
set_option synthInstance.maxHeartbeats 400000
set_option synthInstance.maxSize 10000
set_option linter.unusedVariables false
set_option linter.unusedSimpArgs false
set_option maxRecDepth 100000
section
def ybv:Code:=(Tryz.f112.body).getD .skip
def yeP:Env:=zki TT [(51,yyg),(152,ysu),(191,yBG)] []
theorem yLA:FrOk Tryz.prog ⟨yeP,109,fun _=>none⟩ ybv:=zkp yb yc ⟨yJK,yEJ,ySQ,trivial⟩
def yAQ:Nat→Option Seg:=fun _=>none
def yaP:Shape:=⟨[(0,false,[.br tM]),(1,false,[.int .i64]),(4,false,[.ptr 0 0]),(6,false,[.ptr 4160 0]),(7,false,[.bool]),(18,false,[.br tM]),(19,false,[.int .i64]),(20,false,[.int .i64])],[(0,[.int .i64,.int .i64,.int .i64,.nil,.int .i64,.int .i64,.int .i64,.int .i64,.int .i64,.nil,.int .i64,.bool,.bool]),(4160,[.int .i64,.int .i64,.int .i64,.int .i64,.int .i64,.int .i64,.int .i64,.int .i64])],[]⟩
def yeB:Shape:=⟨[(0,false,[.br tM]),(1,false,[.int .i64]),(4,false,[.ptr 0 0]),(6,false,[.ptr 4160 0]),(7,false,[.cb false]),(18,false,[.br tM]),(19,false,[.int .i64]),(20,false,[.ci .i64 0])],[(0,[.int .i64,.int .i64,.int .i64,.nil,.int .i64,.int .i64,.int .i64,.int .i64,.int .i64,.nil,.int .i64,.bool,.bool]),(4160,[.int .i64,.int .i64,.int .i64,.int .i64,.int .i64,.int .i64,.int .i64,.int .i64])],[]⟩
def yet:Shape:=⟨[(0,false,[.br tM]),(1,false,[.int .i64]),(4,false,[.ptr 0 0]),(6,false,[.ptr 4160 0]),(7,false,[.bool])],[(0,[.int .i64,.int .i64,.int .i64,.nil,.int .i64,.int .i64,.int .i64,.int .i64,.int .i64,.nil,.int .i64,.bool,.bool]),(4160,[.int .i64,.int .i64,.int .i64,.int .i64,.int .i64,.int .i64,.int .i64,.int .i64])],[]⟩
def yiW:Shape:=⟨[],[],[]⟩
abbrev yn9 (v0:List dM) (v1:Int) (v2:Bool) (v3:List dM) (v4:Int) (v5:Int) (v6:dA) (v7:dS):(yaP).X:=(((v0,()),(v1,()),((),()),((),()),(v2,()),(v3,()),(v4,()),(v5,()),()),((v6.1,v6.2.1.1,v6.2.1.2,(),v6.2.2.2.1,v6.2.2.2.2.1,v6.2.2.2.2.2.1,v6.2.2.2.2.2.2.1,v6.2.2.2.2.2.2.2.1,(),v6.2.2.2.2.2.2.2.2.2.1,v6.2.2.2.2.2.2.2.2.2.2.1,v6.2.2.2.2.2.2.2.2.2.2.2,()),(v7.1,v7.2.1,v7.2.2.1,v7.2.2.2.1,v7.2.2.2.2.1,v7.2.2.2.2.2.1,v7.2.2.2.2.2.2.1,v7.2.2.2.2.2.2.2,()),()),())
abbrev yKk (v0:List dM) (v1:Int) (v2:List dM) (v3:Int) (v4:dA) (v5:dS):(yeB).X:=(((v0,()),(v1,()),((),()),((),()),((),()),(v2,()),(v3,()),((),()),()),((v4.1,v4.2.1.1,v4.2.1.2,(),v4.2.2.2.1,v4.2.2.2.2.1,v4.2.2.2.2.2.1,v4.2.2.2.2.2.2.1,v4.2.2.2.2.2.2.2.1,(),v4.2.2.2.2.2.2.2.2.2.1,v4.2.2.2.2.2.2.2.2.2.2.1,v4.2.2.2.2.2.2.2.2.2.2.2,()),(v5.1,v5.2.1,v5.2.2.1,v5.2.2.2.1,v5.2.2.2.2.1,v5.2.2.2.2.2.1,v5.2.2.2.2.2.2.1,v5.2.2.2.2.2.2.2,()),()),())
abbrev yxQ (v0:List dM) (v1:Int) (v2:Bool) (v3:dA) (v4:dS):(yet).X:=(((v0,()),(v1,()),((),()),((),()),(v2,()),()),((v3.1,v3.2.1.1,v3.2.1.2,(),v3.2.2.2.1,v3.2.2.2.2.1,v3.2.2.2.2.2.1,v3.2.2.2.2.2.2.1,v3.2.2.2.2.2.2.2.1,(),v3.2.2.2.2.2.2.2.2.2.1,v3.2.2.2.2.2.2.2.2.2.2.1,v3.2.2.2.2.2.2.2.2.2.2.2,()),(v4.1,v4.2.1,v4.2.2.1,v4.2.2.2.1,v4.2.2.2.2.1,v4.2.2.2.2.2.1,v4.2.2.2.2.2.2.1,v4.2.2.2.2.2.2.2,()),()),())
def yoo (v0:List dM) (v1:Int) (v2:Bool) (v3:List dM) (v4:Int) (v5:Int) (v6:Int) (v7:Int) (v8:Int) (v9:Int) (v10:Int) (v11:Int) (v12:Int) (v13:Int) (v14:Int) (v15:Bool) (v16:Bool) (v17:Int) (v18:Int) (v19:Int) (v20:Int) (v21:Int) (v22:Int) (v23:Int) (v24:Int):Option ((yaP).X ⊕ ((yet).X ⊕ (yiW).X)) :=
  bif (ltb v5 v4) then
    bif (inb v5 v3.length) then
      let r2:=yc5 ((nth v3 v5 ([],[],false,[])).1,((nth v3 v5 ([],[],false,[])).2).1,(((nth v3 v5 ([],[],false,[])).2).2)) v5 v1
      bif r2.2 then
        bif (!(!v2)) then
          bif (ltb v18 r2.1.2.1) then
            some (.inl (((v0,()),(v1,()),((),()),((),()),(true,()),(v3,()),(v4,()),((IntKind.i64.wrap (v5+1)),()),()),((v6,v7,v8,(),v9,v10,v11,v12,v13,(),v14,v15,v16,()),(r2.1.1,r2.1.2.1,r2.1.2.2.1,r2.1.2.2.2.1,r2.1.2.2.2.2.1,r2.1.2.2.2.2.2.1,r2.1.2.2.2.2.2.2.1,r2.1.2.2.2.2.2.2.2,()),()),()))
          else
            some (.inl (((v0,()),(v1,()),((),()),((),()),(v2,()),(v3,()),(v4,()),((IntKind.i64.wrap (v5+1)),()),()),((v6,v7,v8,(),v9,v10,v11,v12,v13,(),v14,v15,v16,()),(v17,v18,v19,v20,v21,v22,v23,v24,()),()),()))
        else
          some (.inl (((v0,()),(v1,()),((),()),((),()),(true,()),(v3,()),(v4,()),((IntKind.i64.wrap (v5+1)),()),()),((v6,v7,v8,(),v9,v10,v11,v12,v13,(),v14,v15,v16,()),(r2.1.1,r2.1.2.1,r2.1.2.2.1,r2.1.2.2.2.1,r2.1.2.2.2.2.1,r2.1.2.2.2.2.2.1,r2.1.2.2.2.2.2.2.1,r2.1.2.2.2.2.2.2.2,()),()),()))
      else
        some (.inl (((v0,()),(v1,()),((),()),((),()),(v2,()),(v3,()),(v4,()),((IntKind.i64.wrap (v5+1)),()),()),((v6,v7,v8,(),v9,v10,v11,v12,v13,(),v14,v15,v16,()),(v17,v18,v19,v20,v21,v22,v23,v24,()),()),()))
    else none
  else
    some (.inr (.inl (((v0,()),(v1,()),((),()),((),()),(v2,()),()),((v6,v7,v8,(),v9,v10,v11,v12,v13,(),v14,v15,v16,()),(v17,v18,v19,v20,v21,v22,v23,v24,()),()),())))
def ya5 (x:(yaP).X):=yoo x.1.1.1 x.1.2.1.1 x.1.2.2.2.2.1.1 x.1.2.2.2.2.2.1.1 x.1.2.2.2.2.2.2.1.1 x.1.2.2.2.2.2.2.2.1.1 x.2.1.1.1 x.2.1.1.2.1 x.2.1.1.2.2.1 x.2.1.1.2.2.2.2.1 x.2.1.1.2.2.2.2.2.1 x.2.1.1.2.2.2.2.2.2.1 x.2.1.1.2.2.2.2.2.2.2.1 x.2.1.1.2.2.2.2.2.2.2.2.1 x.2.1.1.2.2.2.2.2.2.2.2.2.2.1 x.2.1.1.2.2.2.2.2.2.2.2.2.2.2.1 x.2.1.1.2.2.2.2.2.2.2.2.2.2.2.2.1 x.2.1.2.1.1 x.2.1.2.1.2.1 x.2.1.2.1.2.2.1 x.2.1.2.1.2.2.2.1 x.2.1.2.1.2.2.2.2.1 x.2.1.2.1.2.2.2.2.2.1 x.2.1.2.1.2.2.2.2.2.2.1 x.2.1.2.1.2.2.2.2.2.2.2.1
def yxq (x:(yeB).X):(yaP).X:=(((x.1.1.1,()),(x.1.2.1.1,()),((),()),((),()),(false,()),(x.1.2.2.2.2.2.1.1,()),(x.1.2.2.2.2.2.2.1.1,()),(0,()),()),((x.2.1.1.1,x.2.1.1.2.1,x.2.1.1.2.2.1,(),x.2.1.1.2.2.2.2.1,x.2.1.1.2.2.2.2.2.1,x.2.1.1.2.2.2.2.2.2.1,x.2.1.1.2.2.2.2.2.2.2.1,x.2.1.1.2.2.2.2.2.2.2.2.1,(),x.2.1.1.2.2.2.2.2.2.2.2.2.2.1,x.2.1.1.2.2.2.2.2.2.2.2.2.2.2.1,x.2.1.1.2.2.2.2.2.2.2.2.2.2.2.2.1,()),(x.2.1.2.1.1,x.2.1.2.1.2.1,x.2.1.2.1.2.2.1,x.2.1.2.1.2.2.2.1,x.2.1.2.1.2.2.2.2.1,x.2.1.2.1.2.2.2.2.2.1,x.2.1.2.1.2.2.2.2.2.2.1,x.2.1.2.1.2.2.2.2.2.2.2.1,()),()),())
def yy8:Code:=(zdI ybv 64 116).getD .skip
theorem yLb:zdI ybv 64 29=some (.block 0 (.loop yy8)):=by kernel_rfl
theorem yMW (x:(yaP).X):zg7 ⟨yeP,109,yAQ⟩ 0 yy8 116 yaP yet yiW x=ya5 x:=by kernel_rfl
def yxE (x:(yeB).X):Nat:=(fun (u0:List dM) (u1:Int) (u2:List dM) (u3:Int) (u4:Int) (u5:Int) (u6:Int) (u7:Int) (u8:Int) (u9:Int) (u10:Int) (u11:Int) (u12:Int) (u13:Bool) (u14:Bool) (u15:Int) (u16:Int) (u17:Int) (u18:Int) (u19:Int) (u20:Int) (u21:Int) (u22:Int)=>18446744073709551616) x.1.1.1 x.1.2.1.1 x.1.2.2.2.2.2.1.1 x.1.2.2.2.2.2.2.1.1 x.2.1.1.1 x.2.1.1.2.1 x.2.1.1.2.2.1 x.2.1.1.2.2.2.2.1 x.2.1.1.2.2.2.2.2.1 x.2.1.1.2.2.2.2.2.2.1 x.2.1.1.2.2.2.2.2.2.2.1 x.2.1.1.2.2.2.2.2.2.2.2.1 x.2.1.1.2.2.2.2.2.2.2.2.2.2.1 x.2.1.1.2.2.2.2.2.2.2.2.2.2.2.1 x.2.1.1.2.2.2.2.2.2.2.2.2.2.2.2.1 x.2.1.2.1.1 x.2.1.2.1.2.1 x.2.1.2.1.2.2.1 x.2.1.2.1.2.2.2.1 x.2.1.2.1.2.2.2.2.1 x.2.1.2.1.2.2.2.2.2.1 x.2.1.2.1.2.2.2.2.2.2.1 x.2.1.2.1.2.2.2.2.2.2.2.1
def yp9 (x:(yeB).X):Option ((yet).X ⊕ (yiW).X):=zr ya5 (yxE x) (yxq x)
def yxX:Seg:=⟨yeB,yet,yiW,yp9⟩
def ysa:Nat→Option Seg:=fun q=>bif Nat.beq q 29 then some yxX else yAQ q
theorem yLB:FrOk Tryz.prog ⟨yeP,109,ysa⟩ ybv:=(yLA).loop (sg:=yxX) yaP yxq (by decide) yLb ya5 yxE (by decide) (fun _=>rfl) (fun x r _ h=>h) yMW
def yao:Shape:=⟨[(1,false,[.int .i64]),(4,false,[.ptr 0 0]),(12,false,[.ptr 46272 0]),(75,false,[.br tM]),(76,false,[.int .i64]),(77,false,[.int .i64])],[(0,[.int .i64,.int .i64,.int .i64,.nil,.int .i64,.int .i64,.int .i64,.int .i64,.int .i64,.nil,.int .i64,.bool,.bool]),(46272,[.int .i64,.int .i64,.int .i64,.at 800000000,.int .i64,.int .i64,.int .i64,.int .i64,.int .i64,.nil,.int .i64,.bool,.bool])],[(800000000,tM,(.pr (.ow (.ow .fz)) (.pr (.ow (.pr .fz (.ow .fz))) (.pr .fz (.ow .fz)))))]⟩
def ydN:Shape:=⟨[(1,false,[.int .i64]),(4,false,[.ptr 0 0]),(12,false,[.ptr 46272 0]),(75,false,[.br tM]),(76,false,[.int .i64]),(77,false,[.ci .i64 0])],[(0,[.int .i64,.int .i64,.int .i64,.nil,.int .i64,.int .i64,.int .i64,.int .i64,.int .i64,.nil,.int .i64,.bool,.bool]),(46272,[.int .i64,.int .i64,.int .i64,.at 800000000,.int .i64,.int .i64,.int .i64,.int .i64,.int .i64,.nil,.int .i64,.bool,.bool])],[(800000000,tM,(.pr (.ow (.ow .fz)) (.pr (.ow (.pr .fz (.ow .fz))) (.pr .fz (.ow .fz)))))]⟩
def ydH:Shape:=⟨[(4,false,[.ptr 0 0]),(12,false,[.ptr 46272 0])],[(0,[.int .i64,.int .i64,.int .i64,.nil,.int .i64,.int .i64,.int .i64,.int .i64,.int .i64,.nil,.int .i64,.bool,.bool]),(46272,[.int .i64,.int .i64,.int .i64,.at 800000000,.int .i64,.int .i64,.int .i64,.int .i64,.int .i64,.nil,.int .i64,.bool,.bool])],[(800000000,tM,(.pr (.ow (.ow .fz)) (.pr (.ow (.pr .fz (.ow .fz))) (.pr .fz (.ow .fz)))))]⟩
def yhi:Shape:=⟨[],[],[]⟩
abbrev ymx (v0:Int) (v1:List dM) (v2:Int) (v3:Int) (v4:dA) (v5:dA):(yao).X:=(((v0,()),((),()),((),()),(v1,()),(v2,()),(v3,()),()),((v4.1,v4.2.1.1,v4.2.1.2,(),v4.2.2.2.1,v4.2.2.2.2.1,v4.2.2.2.2.2.1,v4.2.2.2.2.2.2.1,v4.2.2.2.2.2.2.2.1,(),v4.2.2.2.2.2.2.2.2.2.1,v4.2.2.2.2.2.2.2.2.2.2.1,v4.2.2.2.2.2.2.2.2.2.2.2,()),(v5.1,v5.2.1.1,v5.2.1.2,(),v5.2.2.2.1,v5.2.2.2.2.1,v5.2.2.2.2.2.1,v5.2.2.2.2.2.2.1,v5.2.2.2.2.2.2.2.1,(),v5.2.2.2.2.2.2.2.2.2.1,v5.2.2.2.2.2.2.2.2.2.2.1,v5.2.2.2.2.2.2.2.2.2.2.2,()),()),(v5.2.2.1,()))
abbrev yIG (v0:Int) (v1:List dM) (v2:Int) (v3:dA) (v4:dA):(ydN).X:=(((v0,()),((),()),((),()),(v1,()),(v2,()),((),()),()),((v3.1,v3.2.1.1,v3.2.1.2,(),v3.2.2.2.1,v3.2.2.2.2.1,v3.2.2.2.2.2.1,v3.2.2.2.2.2.2.1,v3.2.2.2.2.2.2.2.1,(),v3.2.2.2.2.2.2.2.2.2.1,v3.2.2.2.2.2.2.2.2.2.2.1,v3.2.2.2.2.2.2.2.2.2.2.2,()),(v4.1,v4.2.1.1,v4.2.1.2,(),v4.2.2.2.1,v4.2.2.2.2.1,v4.2.2.2.2.2.1,v4.2.2.2.2.2.2.1,v4.2.2.2.2.2.2.2.1,(),v4.2.2.2.2.2.2.2.2.2.1,v4.2.2.2.2.2.2.2.2.2.2.1,v4.2.2.2.2.2.2.2.2.2.2.2,()),()),(v4.2.2.1,()))
abbrev ywI (v0:dA) (v1:dA):(ydH).X:=((((),()),((),()),()),((v0.1,v0.2.1.1,v0.2.1.2,(),v0.2.2.2.1,v0.2.2.2.2.1,v0.2.2.2.2.2.1,v0.2.2.2.2.2.2.1,v0.2.2.2.2.2.2.2.1,(),v0.2.2.2.2.2.2.2.2.2.1,v0.2.2.2.2.2.2.2.2.2.2.1,v0.2.2.2.2.2.2.2.2.2.2.2,()),(v1.1,v1.2.1.1,v1.2.1.2,(),v1.2.2.2.1,v1.2.2.2.2.1,v1.2.2.2.2.2.1,v1.2.2.2.2.2.2.1,v1.2.2.2.2.2.2.2.1,(),v1.2.2.2.2.2.2.2.2.2.1,v1.2.2.2.2.2.2.2.2.2.2.1,v1.2.2.2.2.2.2.2.2.2.2.2,()),()),(v1.2.2.1,()))
def ym3 (v0:Int) (v1:List dM) (v2:Int) (v3:Int) (v4:Int) (v5:Int) (v6:Int) (v7:Int) (v8:Int) (v9:Int) (v10:Int) (v11:Int) (v12:Int) (v13:Bool) (v14:Bool) (v15:Int) (v16:Int) (v17:Int) (v18:Int) (v19:Int) (v20:Int) (v21:Int) (v22:Int) (v23:Int) (v24:Bool) (v25:Bool) (v26:List dM):Option ((yao).X ⊕ ((ydH).X ⊕ (yhi).X)) :=
  bif (ltb v3 v2) then
    bif (inb v3 v1.length) then
      let r6:=yc5 ((nth v1 v3 ([],[],false,[])).1,((nth v1 v3 ([],[],false,[])).2).1,(((nth v1 v3 ([],[],false,[])).2).2)) v3 v0
      bif r6.2 then
        some (.inl (((v0,()),((),()),((),()),(v1,()),(v2,()),((IntKind.i64.wrap (v3+1)),()),()),((v4,v5,v6,(),v7,v8,v9,v10,v11,(),v12,v13,v14,()),(v15,v16,v17,(),v18,v19,v20,v21,v22,(),v23,v24,v25,()),()),(v26,())))
      else
        bif (!(v18==(-1))) then
          bif (v18==v3) then
            some (.inl (((v0,()),((),()),((),()),(v1,()),(v2,()),((IntKind.i64.wrap (v3+1)),()),()),((v4,v5,v6,(),v7,v8,v9,v10,v11,(),v12,v13,v14,()),(v15,v16,v17,(),v3,0,v20,v21,v22,(),v23,v24,v25,()),()),(v26,())))
          else
            some (.inl (((v0,()),((),()),((),()),(v1,()),(v2,()),((IntKind.i64.wrap (v3+1)),()),()),((v4,v5,v6,(),v7,v8,v9,v10,v11,(),v12,v13,v14,()),(v15,v16,v17,(),v18,v19,v20,v21,v22,(),v23,v24,true,()),()),(v26,())))
        else
          some (.inl (((v0,()),((),()),((),()),(v1,()),(v2,()),((IntKind.i64.wrap (v3+1)),()),()),((v4,v5,v6,(),v7,v8,v9,v10,v11,(),v12,v13,v14,()),(v15,v16,v17,(),v3,0,v20,v21,v22,(),v23,v24,v25,()),()),(v26,())))
    else none
  else
    some (.inr (.inl ((((),()),((),()),()),((v4,v5,v6,(),v7,v8,v9,v10,v11,(),v12,v13,v14,()),(v15,v16,v17,(),v18,v19,v20,v21,v22,(),v23,v24,v25,()),()),(v26,()))))
def yaC (x:(yao).X):=ym3 x.1.1.1 x.1.2.2.2.1.1 x.1.2.2.2.2.1.1 x.1.2.2.2.2.2.1.1 x.2.1.1.1 x.2.1.1.2.1 x.2.1.1.2.2.1 x.2.1.1.2.2.2.2.1 x.2.1.1.2.2.2.2.2.1 x.2.1.1.2.2.2.2.2.2.1 x.2.1.1.2.2.2.2.2.2.2.1 x.2.1.1.2.2.2.2.2.2.2.2.1 x.2.1.1.2.2.2.2.2.2.2.2.2.2.1 x.2.1.1.2.2.2.2.2.2.2.2.2.2.2.1 x.2.1.1.2.2.2.2.2.2.2.2.2.2.2.2.1 x.2.1.2.1.1 x.2.1.2.1.2.1 x.2.1.2.1.2.2.1 x.2.1.2.1.2.2.2.2.1 x.2.1.2.1.2.2.2.2.2.1 x.2.1.2.1.2.2.2.2.2.2.1 x.2.1.2.1.2.2.2.2.2.2.2.1 x.2.1.2.1.2.2.2.2.2.2.2.2.1 x.2.1.2.1.2.2.2.2.2.2.2.2.2.2.1 x.2.1.2.1.2.2.2.2.2.2.2.2.2.2.2.1 x.2.1.2.1.2.2.2.2.2.2.2.2.2.2.2.2.1 x.2.2.1
def ywn (x:(ydN).X):(yao).X:=(((x.1.1.1,()),((),()),((),()),(x.1.2.2.2.1.1,()),(x.1.2.2.2.2.1.1,()),(0,()),()),((x.2.1.1.1,x.2.1.1.2.1,x.2.1.1.2.2.1,(),x.2.1.1.2.2.2.2.1,x.2.1.1.2.2.2.2.2.1,x.2.1.1.2.2.2.2.2.2.1,x.2.1.1.2.2.2.2.2.2.2.1,x.2.1.1.2.2.2.2.2.2.2.2.1,(),x.2.1.1.2.2.2.2.2.2.2.2.2.2.1,x.2.1.1.2.2.2.2.2.2.2.2.2.2.2.1,x.2.1.1.2.2.2.2.2.2.2.2.2.2.2.2.1,()),(x.2.1.2.1.1,x.2.1.2.1.2.1,x.2.1.2.1.2.2.1,(),x.2.1.2.1.2.2.2.2.1,x.2.1.2.1.2.2.2.2.2.1,x.2.1.2.1.2.2.2.2.2.2.1,x.2.1.2.1.2.2.2.2.2.2.2.1,x.2.1.2.1.2.2.2.2.2.2.2.2.1,(),x.2.1.2.1.2.2.2.2.2.2.2.2.2.2.1,x.2.1.2.1.2.2.2.2.2.2.2.2.2.2.2.1,x.2.1.2.1.2.2.2.2.2.2.2.2.2.2.2.2.1,()),()),(x.2.2.1,()))
def yxe:Code:=(zdI ybv 64 1012).getD .skip
theorem yJU:zdI ybv 64 253=some (.block 2 (.loop yxe)):=by kernel_rfl
theorem yKx (x:(yao).X):zg7 ⟨yeP,109,ysa⟩ 2 yxe 1012 yao ydH yhi x=yaC x:=by kernel_rfl
def ywv (x:(ydN).X):Nat:=(fun (u0:Int) (u1:List dM) (u2:Int) (u3:Int) (u4:Int) (u5:Int) (u6:Int) (u7:Int) (u8:Int) (u9:Int) (u10:Int) (u11:Int) (u12:Bool) (u13:Bool) (u14:Int) (u15:Int) (u16:Int) (u17:Int) (u18:Int) (u19:Int) (u20:Int) (u21:Int) (u22:Int) (u23:Bool) (u24:Bool) (u25:List dM)=>18446744073709551616) x.1.1.1 x.1.2.2.2.1.1 x.1.2.2.2.2.1.1 x.2.1.1.1 x.2.1.1.2.1 x.2.1.1.2.2.1 x.2.1.1.2.2.2.2.1 x.2.1.1.2.2.2.2.2.1 x.2.1.1.2.2.2.2.2.2.1 x.2.1.1.2.2.2.2.2.2.2.1 x.2.1.1.2.2.2.2.2.2.2.2.1 x.2.1.1.2.2.2.2.2.2.2.2.2.2.1 x.2.1.1.2.2.2.2.2.2.2.2.2.2.2.1 x.2.1.1.2.2.2.2.2.2.2.2.2.2.2.2.1 x.2.1.2.1.1 x.2.1.2.1.2.1 x.2.1.2.1.2.2.1 x.2.1.2.1.2.2.2.2.1 x.2.1.2.1.2.2.2.2.2.1 x.2.1.2.1.2.2.2.2.2.2.1 x.2.1.2.1.2.2.2.2.2.2.2.1 x.2.1.2.1.2.2.2.2.2.2.2.2.1 x.2.1.2.1.2.2.2.2.2.2.2.2.2.2.1 x.2.1.2.1.2.2.2.2.2.2.2.2.2.2.2.1 x.2.1.2.1.2.2.2.2.2.2.2.2.2.2.2.2.1 x.2.2.1
def ynZ (x:(ydN).X):Option ((ydH).X ⊕ (yhi).X):=zr yaC (ywv x) (ywn x)
def yw2:Seg:=⟨ydN,ydH,yhi,ynZ⟩
def yAR:Nat→Option Seg:=fun q=>bif Nat.beq q 253 then some yw2 else ysa q
theorem yLC:FrOk Tryz.prog ⟨yeP,109,yAR⟩ ybv:=(yLB).loop (sg:=yw2) yao ywn (by decide) yJU yaC ywv (by decide) (fun _=>rfl) (fun x r _ h=>h) yKx
abbrev yeQ:List Par:= [.rd tMs,.rd tI]
abbrev yoV:List OT:= [⟨false,tA,(.pr .fz (.pr (.pr .fz .fz) (.pr (.ow (.pr (.ow (.ow .fz)) (.pr (.ow (.pr .fz (.ow .fz))) (.pr .fz (.ow .fz))))) (.pr .fz (.pr .fz (.pr .fz (.pr .fz (.pr .fz (.pr (.ow (.pr .fz (.ow .fz))) (.pr .fz (.pr .fz .fz)))))))))))⟩,⟨false,tB,.fz⟩]
def ykn (a0:List dM) (a1:Int):Option (ResD yoV×MutD yeQ) :=
  zjw (yp9 (((a0,()),(a1,()),((),()),((),()),((),()),(a0,()),((a0.length:Int),()),((),()),()),((0,0,0,(),0,0,0,0,0,(),0,false,false,()),(0,0,0,0,0,0,0,0,()),()),())) (fun y2 =>
    bif (!(!y2.1.2.2.2.2.1.1)) then
      bif ((y2.1.1.1.length:Int) !=y2.2.1.2.1.2.2.2.1) then
        some (((0,(0,0),[],0,0,0,0,0,[],0,false,false),false,()),())
      else
        let r4:=yfh y2.1.1.1
        zjw (ynZ (((y2.1.2.1.1,()),((),()),((),()),(y2.1.1.1,()),((y2.1.1.1.length:Int),()),((),()),()),((y2.2.1.1.1,y2.2.1.1.2.1,y2.2.1.1.2.2.1,(),y2.2.1.1.2.2.2.2.1,y2.2.1.1.2.2.2.2.2.1,y2.2.1.1.2.2.2.2.2.2.1,y2.2.1.1.2.2.2.2.2.2.2.1,y2.2.1.1.2.2.2.2.2.2.2.2.1,(),y2.2.1.1.2.2.2.2.2.2.2.2.2.2.1,y2.2.1.1.2.2.2.2.2.2.2.2.2.2.2.1,y2.2.1.1.2.2.2.2.2.2.2.2.2.2.2.2.1,()),(y2.1.2.1.1,y2.2.1.2.1.2.2.2.1,y2.2.1.2.1.2.2.2.2.1,(),y2.2.1.2.1.2.2.2.2.2.2.1,y2.2.1.2.1.2.2.2.2.2.2.2.1,y2.2.1.2.1.2.2.2.2.2.1,y2.2.1.2.1.2.2.2.2.2.1,y2.2.1.2.1.2.1,(),(-1),false,false,()),()),(r4,()))) (fun y6 =>
          let r8:=yc2 (y6.2.1.2.1.1,(y6.2.1.2.1.2.1,y6.2.1.2.1.2.2.1),y6.2.2.1,y6.2.1.2.1.2.2.2.2.1,y6.2.1.2.1.2.2.2.2.2.1,y6.2.1.2.1.2.2.2.2.2.2.1,y6.2.1.2.1.2.2.2.2.2.2.2.1,y6.2.1.2.1.2.2.2.2.2.2.2.2.1,[],y6.2.1.2.1.2.2.2.2.2.2.2.2.2.2.1,y6.2.1.2.1.2.2.2.2.2.2.2.2.2.2.2.1,y6.2.1.2.1.2.2.2.2.2.2.2.2.2.2.2.2.1)
          bif (!r8) then
            some (((0,(0,0),[],0,0,0,0,0,[],0,false,false),false,()),())
          else
            some (((y6.2.1.2.1.1,(y6.2.1.2.1.2.1,y6.2.1.2.1.2.2.1),y6.2.2.1,y6.2.1.2.1.2.2.2.2.1,y6.2.1.2.1.2.2.2.2.2.1,y6.2.1.2.1.2.2.2.2.2.2.1,y6.2.1.2.1.2.2.2.2.2.2.2.1,y6.2.1.2.1.2.2.2.2.2.2.2.2.1,[],y6.2.1.2.1.2.2.2.2.2.2.2.2.2.2.1,y6.2.1.2.1.2.2.2.2.2.2.2.2.2.2.2.1,y6.2.1.2.1.2.2.2.2.2.2.2.2.2.2.2.2.1),true,()),())) (fun y6 =>
          none)
    else
      some (((0,(0,0),[],0,0,0,0,0,[],0,false,false),false,()),())) (fun y2 =>
    none)
theorem yT2 (x:InD yeQ):zjH ⟨yeP,109,yAR⟩ Tryz.f112.results.toList ybv yeQ yoV x=ykn x.1 x.2.1:=by kernel_rfl
theorem yOX:ConOk Tryz.prog 112 ⟨yeQ,yoV,fun x=>ykn x.1 x.2.1⟩:=zkh (yLC) Tryz.func112 (by kernel_rfl) (by kernel_rfl) Tryz.ntmps112.symm (by decide) (fun x r h=>(yT2 x).trans h)
def yjl (a0:List dM) (a1:Int):dA×Bool:=yO a0 a1
theorem yRU (a0:List dM) (a1:Int) (hk:zi9 yeQ (a0,a1,())):ykn a0 a1=(fun n=>some ((n.1,n.2,()),())) (yjl a0 a1):=by
  have hb:a0.length * 80≤2 ^ 47:=hk.1.1
  have h0:yp9 (yKk a0 a1 a0 a0.length ya2 yab)=some (.inl (yxQ a0 a1 (yH a0 a1).2 ya2 (yH a0 a1).1)) :=
    zks (step:=ya5) a0.length (fun i (s:dS×Bool)=>yn9 a0 a1 s.2 a0 a0.length i ya2 s.1) (fun (s:dS×Bool) (i:Nat)=>ynB s (ymG (nth a0 i yf) i a1) (yal (nth a0 i yf) a1).1) (fun _ _=>True) (fun (s:dS×Bool)=> .inl (yxQ a0 a1 s.2 ya2 s.1)) (fun i s hi _=>⟨by
    simp only [ya5,yn9,yoo,zjI (show (i:Int) < a0.length by omega),cond_true,wr (show -9223372036854775808≤(i:Int)+1 by omega) (by omega),Int.natCast_add,Int.natCast_one,Int.toNat_natCast,zkO hi,zkV,yc5]
    cases ymG (nth a0 i yf) i a1
    · rfl
    simp only [cond_true]
    unfold ynB
    cases hf:s.2<;>cases ltb s.1.2.1 (yal (nth a0 i yf) a1).1.2.1<;>simp only [Bool.not_true,Bool.not_false,cond_true,cond_false,Bool.and_true,Bool.true_and,Bool.false_and,Bool.and_false,Bool.or_true,Bool.true_or,Bool.false_or,Bool.or_false,hf],trivial⟩) (fun s _=>by simp only [ya5,yn9,yoo,zkm (Int.le_refl _),cond_false]) (yab,false) trivial _ (by show _ < 18446744073709551616; omega)
  have h1: ∀ (b:dS) (s:Int×Int×Bool),ynZ (yIG a1 a0 a0.length ya2 (ygY b a0 a1 s))=some (.inl (ywI ya2 (ygY b a0 a1 ((List.range a0.length).foldl (ylq a0 a1) s)))):=fun b s =>
    zks (step:=yaC) a0.length (fun i s=>ymx a1 a0 a0.length i ya2 (ygY b a0 a1 s)) (ylq a0 a1) (fun _ _=>True) (fun s=> .inl (ywI ya2 (ygY b a0 a1 s))) (fun i s hi _=>⟨by
      simp only [yaC,ymx,ym3,zjI (show (i:Int) < a0.length by omega),cond_true,wr (show -9223372036854775808≤(i:Int)+1 by omega) (by omega),Int.natCast_add,Int.natCast_one,Int.toNat_natCast,zkO hi,zkV,yc5,ygY]
      unfold ylq
      cases ymG (nth a0 i yf) i a1<;>cases (s.1== -1)<;>cases (s.1==(i:Int))<;>rfl,trivial⟩) (fun s _=>by simp only [yaC,ymx,ym3,zkm (Int.le_refl _),cond_false]) s trivial _ (by show _ < 18446744073709551616; omega)
  unfold ykn yjl yO yDs
  refine (congrArg (fun z=>zjw z _ _) h0).trans ?_
  simp only [zkJ,yfh,bne]
  cases (yH a0 a1).2
  · rfl
  cases ((a0.length:Int)==(yH a0 a1).1.2.2.2.1)
  · rfl
  have h2:=h1 (yH a0 a1).1 ((yH a0 a1).1.2.2.2.2.2.2.1,(yH a0 a1).1.2.2.2.2.2.2.2,false)
  simp only [Bool.not_true,Bool.not_false,cond_true,cond_false,Bool.true_and]
  refine (congrArg (fun z=>zjw z _ _) h2).trans ?_
  simp only [zkJ,yc2]
  show (bif !(yaJ (ygY (yH a0 a1).1 a0 a1 ((List.range a0.length).foldl (ylq a0 a1) ((yH a0 a1).1.2.2.2.2.2.2.1,(yH a0 a1).1.2.2.2.2.2.2.2,false)))) then _ else _)=_
  cases yaJ (ygY (yH a0 a1).1 a0 a1 ((List.range a0.length).foldl (ylq a0 a1) ((yH a0 a1).1.2.2.2.2.2.2.1,(yH a0 a1).1.2.2.2.2.2.2.2,false)))<;>rfl
def yBA:Con:=⟨yeQ,yoV,fun x=>(fun n=>some ((n.1,n.2,()),())) (yjl x.1 x.2.1)⟩
theorem ySK:ConOk Tryz.prog 112 yBA:=(yOX).mono (fun x r hk h=>(yRU x.1 x.2.1 hk).trans h)
end
section
def ykI:Code:=(Tryz.f192.body).getD .skip
def yq5:Env:=zki TT [(114,yn),(132,yeb),(151,yam),(215,ygZ)] []
theorem yNO:FrOk Tryz.prog ⟨yq5,45,fun _=>none⟩ ykI:=zkp yb yc ⟨yw,yhW,yca,ypy,trivial⟩
def yCQ:Nat→Option Seg:=fun _=>none
def yaQ:Shape:=⟨[(1,false,[.int .i64]),(4,false,[.ptr 64 0]),(5,false,[.ptr 4224 0]),(18,false,[.br tW]),(19,false,[.int .i64]),(20,false,[.int .i64])],[(64,[.nil,.nil,.bool,.nil]),(4224,[.at 800000000,.at 800000001,.bool,.at 800000002])],[(800000000,tL,(.ow .fz)),(800000001,tW,(.pr .fz (.ow .fz))),(800000002,tI,.fz)]⟩
def yeC:Shape:=⟨[(1,false,[.int .i64]),(4,false,[.ptr 64 0]),(5,false,[.ptr 4224 0]),(18,false,[.br tW]),(19,false,[.int .i64]),(20,false,[.int .i64])],[(64,[.nil,.nil,.bool,.nil]),(4224,[.at 800000000,.at 800000001,.bool,.at 800000002])],[(800000000,tL,(.ow .fz)),(800000001,tW,(.pr .fz (.ow .fz))),(800000002,tI,.fz)]⟩
def yeu:Shape:=⟨[(4,false,[.ptr 64 0]),(5,false,[.ptr 4224 0])],[(64,[.nil,.nil,.bool,.nil]),(4224,[.at 800000000,.at 800000001,.bool,.at 800000002])],[(800000000,tL,(.ow .fz)),(800000001,tW,(.pr .fz (.ow .fz))),(800000002,tI,.fz)]⟩
def yiX:Shape:=⟨[],[],[]⟩
abbrev yoa (v0:Int) (v1:List dW) (v2:Int) (v3:Int) (v4:dM) (v5:dM):(yaQ).X:=(((v0,()),((),()),((),()),(v1,()),(v2,()),(v3,()),()),(((),(),v4.2.2.1,(),()),((),(),v5.2.2.1,(),()),()),(v5.1,v5.2.1,v5.2.2.2,()))
abbrev yKl (v0:Int) (v1:List dW) (v2:Int) (v3:Int) (v4:dM) (v5:dM):(yeC).X:=(((v0,()),((),()),((),()),(v1,()),(v2,()),(v3,()),()),(((),(),v4.2.2.1,(),()),((),(),v5.2.2.1,(),()),()),(v5.1,v5.2.1,v5.2.2.2,()))
abbrev yxR (v0:dM) (v1:dM):(yeu).X:=((((),()),((),()),()),(((),(),v0.2.2.1,(),()),((),(),v1.2.2.1,(),()),()),(v1.1,v1.2.1,v1.2.2.2,()))
def yop (v0:Int) (v1:List dW) (v2:Int) (v3:Int) (v4:Bool) (v5:Bool) (v6:List (List Int)) (v7:List dW) (v8:List Int):Option ((yaQ).X ⊕ ((yeu).X ⊕ (yiX).X)) :=
  bif (ltb v3 v2) then
    bif (inb v3 v1.length) then
      bif (ltb v3 20) then
        bif (leb 0 v3) then
          bif ((IntKind.i64.wrap ((BitVec.ofInt IntKind.i64.bits (v0.fdiv (2 ^ (min (v3).toNat IntKind.i64.bits))) &&& BitVec.ofInt IntKind.i64.bits 1).toNat:Int))==1) then
            let r5:=yj ((nth v1 v3 (0,[])).2)
            bif (inb ((nth v1 v3 (0,[])).1) v6.length) then
              some (.inl (((v0,()),((),()),((),()),(v1,()),(v2,()),((IntKind.i64.wrap (v3+1)),()),()),(((),(),v4,(),()),((),(),v5,(),()),()),((v6.set ((nth v1 v3 (0,[])).1).toNat r5),v7,v8,())))
            else none
          else
            some (.inl (((v0,()),((),()),((),()),(v1,()),(v2,()),((IntKind.i64.wrap (v3+1)),()),()),(((),(),v4,(),()),((),(),v5,(),()),()),(v6,v7,v8,())))
        else none
      else
        some (.inl (((v0,()),((),()),((),()),(v1,()),(v2,()),((IntKind.i64.wrap (v3+1)),()),()),(((),(),v4,(),()),((),(),v5,(),()),()),(v6,v7,v8,())))
    else none
  else
    some (.inr (.inl ((((),()),((),()),()),(((),(),v4,(),()),((),(),v5,(),()),()),(v6,v7,v8,()))))
def ya6 (x:(yaQ).X):=yop x.1.1.1 x.1.2.2.2.1.1 x.1.2.2.2.2.1.1 x.1.2.2.2.2.2.1.1 x.2.1.1.2.2.1 x.2.1.2.1.2.2.1 x.2.2.1 x.2.2.2.1 x.2.2.2.2.1
def yxr (x:(yeC).X):(yaQ).X:=(((x.1.1.1,()),((),()),((),()),(x.1.2.2.2.1.1,()),(x.1.2.2.2.2.1.1,()),(x.1.2.2.2.2.2.1.1,()),()),(((),(),x.2.1.1.2.2.1,(),()),((),(),x.2.1.2.1.2.2.1,(),()),()),(x.2.2.1,x.2.2.2.1,x.2.2.2.2.1,()))
def yy9:Code:=(zdI ykI 64 500).getD .skip
theorem yLc:zdI ykI 64 125=some (.block 0 (.loop yy9)):=by kernel_rfl
theorem yMX (x:(yaQ).X):zg7 ⟨yq5,45,yCQ⟩ 0 yy9 500 yaQ yeu yiX x=ya6 x:=by kernel_rfl
def yxF (x:(yeC).X):Nat:=(fun (u0:Int) (u1:List dW) (u2:Int) (u3:Int) (u4:Bool) (u5:Bool) (u6:List (List Int)) (u7:List dW) (u8:List Int)=>18446744073709551616) x.1.1.1 x.1.2.2.2.1.1 x.1.2.2.2.2.1.1 x.1.2.2.2.2.2.1.1 x.2.1.1.2.2.1 x.2.1.2.1.2.2.1 x.2.2.1 x.2.2.2.1 x.2.2.2.2.1
def yib (x:(yeC).X):Option ((yeu).X ⊕ (yiX).X):=zr ya6 (yxF x) (yxr x)
def yxY:Seg:=⟨yeC,yeu,yiX,yib⟩
def yCR:Nat→Option Seg:=fun q=>bif Nat.beq q 125 then some yxY else yCQ q
theorem yNP:FrOk Tryz.prog ⟨yq5,45,yCR⟩ ykI:=(yNO).loop (sg:=yxY) yaQ yxr (by decide) yLc ya6 yxF (by decide) (fun _=>rfl) (fun x r _ h=>h) yMX
abbrev yga:List Par:= [.rd tM,.rd tI]
abbrev yrl:List OT:= [⟨false,tM,(.pr (.ow (.ow .fz)) (.pr (.ow (.pr .fz (.ow .fz))) (.pr .fz (.ow .fz))))⟩]
def ymI (a0:dM) (a1:Int):Option (ResD yrl×MutD yga) :=
  let r1:=yT a0
  let r2:=yE a0
  bif (!r2) then
    some ((r1,()),())
  else
    let r3:=yd a1 0 1048575
    bif (!r3) then
      zjw (yib (((0,()),((),()),((),()),(a0.2.1,()),((a0.2.1.length:Int),()),(0,()),()),(((),(),false,(),()),((),(),r1.2.2.1,(),()),()),(r1.1,r1.2.1,r1.2.2.2,()))) (fun y5 =>
        some (((y5.2.2.1,[],y5.2.1.2.1.2.2.1,y5.2.2.2.2.1),()),())) (fun y5 =>
        none)
    else
      zjw (yib (((a1,()),((),()),((),()),(a0.2.1,()),((a0.2.1.length:Int),()),(0,()),()),(((),(),false,(),()),((),(),r1.2.2.1,(),()),()),(r1.1,r1.2.1,r1.2.2.2,()))) (fun y6 =>
        some (((y6.2.2.1,[],y6.2.1.2.1.2.2.1,y6.2.2.2.2.1),()),())) (fun y6 =>
        none)
theorem yXa (x:InD yga):zjH ⟨yq5,45,yCR⟩ Tryz.f192.results.toList ykI yga yrl x=ymI x.1 x.2.1:=by kernel_rfl
theorem ySi:ConOk Tryz.prog 192 ⟨yga,yrl,fun x=>ymI x.1 x.2.1⟩:=zkh (yNP) Tryz.func192 (by kernel_rfl) (by kernel_rfl) Tryz.ntmps192.symm (by decide) (fun x r h=>(yXa x).trans h)
def ygq (a0:dM) (a1:Int):dM:=ydf a0 a1
theorem yVd (a0:dM) (a1:Int) (hk:zi9 yga (a0,a1,())):ymI a0 a1=(fun n=>some ((n,()),())) (ygq a0 a1):=by
  have hb2:a0.2.1.length * 32≤2 ^ 47:=hk.1.2.1.1
  unfold ymI ygq ydf
  simp only [yT,yE,yM,yfg]
  cases hm:yp a0
  · rfl
  have h1: ∀ k,yib (yKl k a0.2.1 a0.2.1.length 0 yf a0)=some (.inl (yxR yf (ycn (fun i=>decide (i < 20)&&yF4 k i) a0.2.1 a0.1,a0.2))):=fun k =>
    zks (step:=ya6) a0.2.1.length (fun i s=>yoa k a0.2.1 a0.2.1.length i yf (s,a0.2)) (yco (fun i=>decide (i < 20)&&yF4 k i) a0.2.1) (fun i s=>s.length=a0.1.length) (fun s=> .inl (yxR yf (s,a0.2))) (fun i s hi hs=>by
      have hw:=(yIB hm hi).1
      refine ⟨?_,ywD.trans hs⟩
      simp only [ya6,yoa,yop,zjI (show (i:Int) < a0.2.1.length by omega),cond_true,wr (show -9223372036854775808≤(i:Int)+1 by omega) (by omega),Int.natCast_add,Int.natCast_one,Int.toNat_natCast,zk0 (show (0:Int)≤i by omega),zkO hi,hs,hw,yco,yj]
      rw [show yF4 k i=(IntKind.i64.wrap ((BitVec.ofInt IntKind.i64.bits (k.fdiv (2 ^ (min i IntKind.i64.bits))) &&& BitVec.ofInt IntKind.i64.bits 1).toNat:Int)==1) from rfl]
      by_cases h20:i < 20
      · rw [zjI (show (i:Int) < 20 by omega),decide_eq_true h20]
        cases (IntKind.i64.wrap ((BitVec.ofInt IntKind.i64.bits (k.fdiv (2 ^ (min i IntKind.i64.bits))) &&& BitVec.ofInt IntKind.i64.bits 1).toNat:Int)==1)<;>rfl
      · rw [zkm (show (20:Int)≤i by omega),decide_eq_false h20]; rfl) (fun s hs=>by simp only [ya6,yoa,yop,zkm (Int.le_refl _),cond_false]) a0.1 rfl _ (by show _ < 18446744073709551616; omega)
  unfold yU7
  rw [h1 0,h1 a1]
  cases (leb 0 a1&&leb a1 1048575)<;>rfl
def yDI:Con:=⟨yga,yrl,fun x=>(fun n=>some ((n,()),())) (ygq x.1 x.2.1)⟩
theorem yWe:ConOk Tryz.prog 192 yDI:=(ySi).mono (fun x r hk h=>(yVd x.1 x.2.1 hk).trans h)
end
section
def ys1:Code:=(Tryz.f113.body).getD .skip
def yyG:Env:=zki TT [(192,yDI)] []
theorem yXD:FrOk Tryz.prog ⟨yyG,33,fun _=>none⟩ ys1:=zkp yb yc ⟨yWe,trivial⟩
def yJe:Nat→Option Seg:=fun _=>none
def yd3:Shape:=⟨[(1,false,[.br tI]),(5,false,[.at 800000000]),(10,false,[.br tM]),(11,false,[.int .i64]),(12,false,[.int .i64])],[],[(800000000,tM,(.pr (.ow (.ow .fz)) (.pr (.ow (.pr .fz (.ow .fz))) (.pr .fz (.ow .fz)))))]⟩
def ylj:Shape:=⟨[(1,false,[.br tI]),(5,false,[.at 800000000]),(10,false,[.br tM]),(11,false,[.int .i64]),(12,false,[.ci .i64 0])],[],[(800000000,tM,(.pr (.ow (.ow .fz)) (.pr (.ow (.pr .fz (.ow .fz))) (.pr .fz (.ow .fz)))))]⟩
def ylh:Shape:=⟨[(5,false,[.at 800000000])],[],[(800000000,tM,(.pr (.ow (.ow .fz)) (.pr (.ow (.pr .fz (.ow .fz))) (.pr .fz (.ow .fz)))))]⟩
def yrH:Shape:=⟨[],[],[]⟩
abbrev ywF (v0:List Int) (v1:List dM) (v2:Int) (v3:Int) (v4:List dM):(yd3).X:=(((v0,()),((),()),(v1,()),(v2,()),(v3,()),()),(),(v4,()))
abbrev yVa (v0:List Int) (v1:List dM) (v2:Int) (v3:List dM):(ylj).X:=(((v0,()),((),()),(v1,()),(v2,()),((),()),()),(),(v3,()))
abbrev yGO (v0:List dM):(ylh).X:=((((),()),()),(),(v0,()))
def yw9 (v0:List Int) (v1:List dM) (v2:Int) (v3:Int) (v4:List dM):Option ((yd3).X ⊕ ((ylh).X ⊕ (yrH).X)) :=
  bif (ltb v3 v2) then
    bif (inb v3 v1.length) then
      bif (ltb v3 (v0.length:Int)) then
        bif (inb v3 v0.length) then
          let r3:=ygq ((nth v1 v3 ([],[],false,[])).1,((nth v1 v3 ([],[],false,[])).2).1,(((nth v1 v3 ([],[],false,[])).2).2)) (nth v0 v3 0)
          bif (zj4 v4.length ([r3]:List dM).length 80) then
            some (.inl (((v0,()),((),()),(v1,()),(v2,()),((IntKind.i64.wrap (v3+1)),()),()),(),((v4++([r3]:List dM)),())))
          else none
        else none
      else
        let r4:=ygq ((nth v1 v3 ([],[],false,[])).1,((nth v1 v3 ([],[],false,[])).2).1,(((nth v1 v3 ([],[],false,[])).2).2)) 0
        bif (zj4 v4.length ([r4]:List dM).length 80) then
          some (.inl (((v0,()),((),()),(v1,()),(v2,()),((IntKind.i64.wrap (v3+1)),()),()),(),((v4++([r4]:List dM)),())))
        else none
    else none
  else
    some (.inr (.inl ((((),()),()),(),(v4,()))))
def yej (x:(yd3).X):=yw9 x.1.1.1 x.1.2.2.1.1 x.1.2.2.2.1.1 x.1.2.2.2.2.1.1 x.2.2.1
def yGH (x:(ylj).X):(yd3).X:=(((x.1.1.1,()),((),()),(x.1.2.2.1.1,()),(x.1.2.2.2.1.1,()),(0,()),()),(),(x.2.2.1,()))
def yHS:Code:=(zdI ys1 64 116).getD .skip
theorem yW6:zdI ys1 64 29=some (.block 0 (.loop yHS)):=by kernel_rfl
theorem yZd (x:(yd3).X):zg7 ⟨yyG,33,yJe⟩ 0 yHS 116 yd3 ylh yrH x=yej x:=by kernel_rfl
def yGL (x:(ylj).X):Nat:=(fun (u0:List Int) (u1:List dM) (u2:Int) (u3:List dM)=>18446744073709551616) x.1.1.1 x.1.2.2.1.1 x.1.2.2.2.1.1 x.2.2.1
def yyd (x:(ylj).X):Option ((ylh).X ⊕ (yrH).X):=zr yej (yGL x) (yGH x)
def yGZ:Seg:=⟨ylj,ylh,yrH,yyd⟩
def yJf:Nat→Option Seg:=fun q=>bif Nat.beq q 29 then some yGZ else yJe q
theorem yXE:FrOk Tryz.prog ⟨yyG,33,yJf⟩ ys1:=(yXD).loop (sg:=yGZ) yd3 yGH (by decide) yW6 yej yGL (by decide) (fun _=>rfl) (fun x r _ h=>h) yZd
abbrev ynW:List Par:= [.rd tMs,.rd tL]
abbrev yyI:List OT:= [⟨false,tMs,(.ow (.pr (.ow (.ow .fz)) (.pr (.ow (.pr .fz (.ow .fz))) (.pr .fz (.ow .fz)))))⟩]
def yt8 (a0:List dM) (a1:List Int):Option (ResD yyI×MutD ynW) :=
  zjw (yyd (((a1,()),((),()),(a0,()),((a0.length:Int),()),((),()),()),(),(([]:List dM),()))) (fun y4 =>
    some ((y4.2.2.1,()),())) (fun y4 =>
    none)
theorem y1K (x:InD ynW):zjH ⟨yyG,33,yJf⟩ Tryz.f113.results.toList ys1 ynW yyI x=yt8 x.1 x.2.1:=by kernel_rfl
theorem y0x:ConOk Tryz.prog 113 ⟨ynW,yyI,fun x=>yt8 x.1 x.2.1⟩:=zkh (yXE) Tryz.func113 (by kernel_rfl) (by kernel_rfl) Tryz.ntmps113.symm (by decide) (fun x r h=>(y1K x).trans h)
def yte (a0:List dM) (a1:List Int):List dM:=yaA a0 a1
theorem y1o (a0:List dM) (a1:List Int) (hk:zi9 ynW (a0,a1,())):yt8 a0 a1=(fun n=>some ((n,()),())) (yte a0 a1):=by
  have hb:a0.length * 80≤2 ^ 47:=hk.1.1
  have h1:yyd (yVa a1 a0 a0.length [])=some (.inl (yGO ((List.range a0.length).foldl (fun s (i:Nat)=>s++ [ydf (nth a0 i yf) (ywC a1 i)]) []))) :=
    zks (step:=yej) a0.length (fun i s=>ywF a1 a0 a0.length i s) (fun s (i:Nat)=>s++ [ydf (nth a0 i yf) (ywC a1 i)]) (fun i s=>s.length=i) (fun s=> .inl (yGO s)) (fun i s hi hs=>⟨by
      simp only [yej,ywF,yw9,zjI (show (i:Int) < a0.length by omega),cond_true,wr (show -9223372036854775808≤(i:Int)+1 by omega) (by omega),Int.natCast_add,Int.natCast_one,Int.toNat_natCast,zkO hi,zkV,ygq,ywC]
      rw [zkw.2 (show (s.length+ [ydf (nth a0 i ([],[],false,[])) (nth a1 i 0)].length) * 80≤140737488355328 by simp only [List.length_cons,List.length_nil]; omega),zkw.2 (show (s.length+ [ydf (nth a0 i ([],[],false,[])) 0].length) * 80≤140737488355328 by simp only [List.length_cons,List.length_nil]; omega)]
      by_cases h:i < a1.length
      · rw [zjI (show (i:Int) < a1.length by omega),zkO h,decide_eq_true h]; rfl
      · rw [zkm (show (a1.length:Int)≤i by omega),decide_eq_false h]; rfl,by simp [hs]⟩) (fun s hs=>by simp only [yej,ywF,yw9,zkm (Int.le_refl _),cond_false]) [] rfl _ (by show _ < 18446744073709551616; omega)
  unfold yt8 yte yaA
  rw [h1,yCC]; rfl
def yJD:Con:=⟨ynW,yyI,fun x=>(fun n=>some ((n,()),())) (yte x.1 x.2.1)⟩
theorem y1v:ConOk Tryz.prog 113 yJD:=(y0x).mono (fun x r hk h=>(y1o x.1 x.2.1 hk).trans h)
end
section
def yHd:Code:=(Tryz.f39.body).getD .skip
def yHH:Env:=zki TT [(26,yGp),(112,yBA),(113,yJD),(114,yn)] []
theorem yNU:FrOk Tryz.prog ⟨yHH,29,fun _=>none⟩ yHd:=zkp yb yc ⟨yYS,ySK,y1v,yw,trivial⟩
def yP1:Nat→Option Seg:=fun _=>none
abbrev ygc:List Par:= [.rd tMs,.rd tL,.rd tI,.rd tI]
abbrev yrn:List OT:= [⟨false,tA,(.pr .fz (.pr (.pr .fz .fz) (.pr (.ow (.pr (.ow (.ow .fz)) (.pr (.ow (.pr .fz (.ow .fz))) (.pr .fz (.ow .fz))))) (.pr .fz (.pr .fz (.pr .fz (.pr .fz (.pr .fz (.pr (.ow (.pr .fz (.ow .fz))) (.pr .fz (.pr .fz .fz)))))))))))⟩,⟨false,tB,.fz⟩]
def ymL (a0:List dM) (a1:List Int) (a2:Int) (a3:Int):Option (ResD yrn×MutD ygc) :=
  let r1:=yte a0 a1
  let r2:=yjl r1 a2
  bif (!r2.2) then
    some (((0,(0,0),[],0,0,0,0,0,[],0,false,false),false,()),())
  else
    let r3:=yd a3 (-1) 1000
    bif r3 then
      let r4:=yhR (r2.1.1,r2.1.2.1,r2.1.2.2.1,r2.1.2.2.2.1,r2.1.2.2.2.2.1,r2.1.2.2.2.2.2.1,r2.1.2.2.2.2.2.2.1,r2.1.2.2.2.2.2.2.2.1,r2.1.2.2.2.2.2.2.2.2.1,a3,r2.1.2.2.2.2.2.2.2.2.2.2)
      some ((r4,true,()),())
    else
      let r5:=yhR r2.1
      some ((r5,true,()),())
theorem yXd (x:InD ygc):zjH ⟨yHH,29,yP1⟩ Tryz.f39.results.toList yHd ygc yrn x=ymL x.1 x.2.1 x.2.2.1 x.2.2.2.1:=by kernel_rfl
theorem ySl:ConOk Tryz.prog 39 ⟨ygc,yrn,fun x=>ymL x.1 x.2.1 x.2.2.1 x.2.2.2.1⟩:=zkh (yNU) Tryz.func39 (by kernel_rfl) (by kernel_rfl) Tryz.ntmps39.symm (by decide) (fun x r h=>(yXd x).trans h)
def ygr (a0:List dM) (a1:List Int) (a2 a3:Int):dA×Bool:=yuT a0 a1 a2 a3
theorem yVg (a0:List dM) (a1:List Int) (a2 a3:Int) (hk:zi9 ygc (a0,a1,a2,a3,())):ymL a0 a1 a2 a3=(fun n=>some ((n.1,n.2,()),())) (ygr a0 a1 a2 a3):=by
  unfold ymL ygr yuT
  simp only [yte,yjl,yM,yfg,yhR]
  cases h:(yO (yaA a0 a1) a2).2
  · rfl
  · cases (leb (-1) a3&&leb a3 1000)<;>rfl
def yDK:Con:=⟨ygc,yrn,fun x=>(fun n=>some ((n.1,n.2,()),())) (ygr x.1 x.2.1 x.2.2.1 x.2.2.2.1)⟩
theorem yWg:ConOk Tryz.prog 39 yDK:=(ySl).mono (fun x r hk h=>(yVg x.1 x.2.1 x.2.2.1 x.2.2.2.1 hk).trans h)
end
section
def yva:Code:=(Tryz.f10.body).getD .skip
def yvc:Env:=zki TT [(17,yfe),(18,yHV),(19,yDS),(20,yde),(24,yDQ),(35,yGt),(36,yDY),(37,yGu),(38,yjg),(39,yDK),(40,ywh),(41,ysv)] []
theorem yEh:FrOk Tryz.prog ⟨yvc,127,fun _=>none⟩ yva:=zkp yb yc ⟨ylL,y0F,yWo,yhb,yWm,yYW,yWu,yYX,yrU,yWg,yIm,yEK,trivial⟩
def yE5:Nat→Option Seg:=fun _=>none
abbrev yay:List Par:= [.rd tMs,.rd tL,.rd tI,.rd tI]
abbrev yfc:List OT:= [⟨false,tB,.fz⟩]
def ydE (a0:List dM) (a1:List Int) (a2:Int) (a3:Int):Option (ResD yfc×MutD yay) :=
  bif (ltb 1048576 (a1.length:Int)) then
    some ((true,()),())
  else
    let r1:=ydz a0 1048576
    bif (ltb r1 0) then
      some ((true,()),())
    else
      let r2:=ydA a0
      let r3:=yJ a1
      let r4:=ylG r2 r3 a2 a3
      let r5:=ydA a0
      let r6:=yJ a1
      let r7:=ygr r5 r6 a2 a3
      let r8:=yeK r7.1 r4.1
      bif (!(!r8)) then
        bif (!(r7.2==r4.2)) then
          some ((false,()),())
        else
          let r9:=ydA a0
          let r10:=ydy r5 r9
          bif (!r10) then
            some ((false,()),())
          else
            let r11:=yJ a1
            let r12:=yy r6 r11
            bif (!r12) then
              some ((false,()),())
            else
              let r13:=yZ r5 1
              let r14:=yv r6 r13.1
              bif (!(ltb r14.1 0)) then
                let r15:=yeK r7.1 r4.1
                bif (!(!r15)) then
                  bif (!(r7.2==r4.2)) then
                    some ((false,()),())
                  else
                    let r16:=yV r7.1 1
                    let r17:=ycp (r7.1.1,r7.1.2.1,r16.2.2.2.1,r7.1.2.2.2.1,r7.1.2.2.2.2.1,r7.1.2.2.2.2.2.1,r7.1.2.2.2.2.2.2.1,r7.1.2.2.2.2.2.2.2.1,r16.2.2.2.2.2.2.2.2.2.1,r7.1.2.2.2.2.2.2.2.2.2) 1
                    bif (ltb r17 0) then
                      some ((false,()),())
                    else
                      bif (r17 !=r16.1) then
                        some ((false,()),())
                      else
                        let r18:=ydA a0
                        let r19:=yJ a1
                        let r20:=ygr r18 r19 a2 a3
                        let r21:=yeK r20.1 r4.1
                        bif (!(!r21)) then
                          bif (!(r20.2==r4.2)) then
                            some ((false,()),())
                          else
                            let r22:=ycp (r7.1.1,r7.1.2.1,r16.2.2.2.1,r7.1.2.2.2.1,r7.1.2.2.2.2.1,r7.1.2.2.2.2.2.1,r7.1.2.2.2.2.2.2.1,r7.1.2.2.2.2.2.2.2.1,r16.2.2.2.2.2.2.2.2.2.1,r7.1.2.2.2.2.2.2.2.2.2) 1
                            bif (ltb r22 0) then
                              some ((false,()),())
                            else
                              bif (r22 !=r16.1) then
                                some ((false,()),())
                              else
                                some ((true,()),())
                        else
                          some ((false,()),())
                else
                  some ((false,()),())
              else
                some ((false,()),())
      else
        some ((false,()),())
theorem yH7 (x:InD yay):zjH ⟨yvc,127,yE5⟩ Tryz.f10.results.toList yva yay yfc x=ydE x.1 x.2.1 x.2.2.1 x.2.2.2.1:=by kernel_rfl
theorem yFa:ConOk Tryz.prog 10 ⟨yay,yfc,fun x=>ydE x.1 x.2.1 x.2.2.1 x.2.2.2.1⟩:=zkh (yEh) Tryz.func10 (by kernel_rfl) (by kernel_rfl) Tryz.ntmps10.symm (by decide) (fun x r h=>(yH7 x).trans h)
def ylD (a0:List dM) (a1:List Int) (a2 a3:Int):Bool:=true
theorem yG7 (a0:List dM) (a1:List Int) (a2 a3:Int) (hk:zi9 yay (a0,a1,a2,a3,())):ydE a0 a1 a2 a3=(fun n=>some ((n,()),())) (ylD a0 a1 a2 a3):=by
  unfold ydE ylD ygr ylG
  cases h1:ltb 1048576 (a1.length:Int)
  · cases h:ltb (ydz a0 1048576) 0
    · have e1:=zkU h1
      have e2:=y2n (l:=a0) (k:=1048576) (by omega) (by omega) hk.1 (zkU h)
      have e3:=y2B (l:=a0)
      have e5:=zkU h
      have e6:=y0R a0 a1 a2 a3
      obtain ⟨f1,f2⟩:=y2X a0 (by omega)
      obtain ⟨g1,g2,g3⟩:=y2W (x:=(yuT a0 a1 a2 a3).1) (by omega)
      simp only [h,yXM,yIf,yUr,yUq,yXC,beq_self_eq_true,bne_self_eq_false,Bool.not_true,Bool.not_false,cond_true,cond_false,f1,g2,g3,yv,ymv a1.length (1+(ykh a0:Nat)) (by omega) (by omega),zkm (show (0:Int)≤1+(ykh a0:Nat)+a1.length by omega)]
    · simp only [h,cond_true,cond_false]
  · rfl
def yE7:Con:=⟨yay,yfc,fun x=>(fun n=>some ((n,()),())) (ylD x.1 x.2.1 x.2.2.1 x.2.2.2.1)⟩
theorem yG9:ConOk Tryz.prog 10 yE7:=(yFa).mono (fun x r hk h=>(yG7 x.1 x.2.1 x.2.2.1 x.2.2.2.1 hk).trans h)
end
end
end Go.Tf
