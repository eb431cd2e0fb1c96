/- Functions of the program, and what they come to. -/
import Derived.Test.YtgmadfpnljibhaaGreatExactSetBlockF11
namespace Go.Tf
noncomputable section
open Go.Proofs
set_option synthInstance.maxHeartbeats 400000
set_option synthInstance.maxSize 10000
set_option linter.unusedVariables false
set_option linter.unusedSimpArgs false
set_option maxRecDepth 100000
section
def yfy:Code:=(Tryz.f80.body).getD .skip
def yko:Env:=zki TT [(98,ywN),(171,ys3),(172,ywP),(173,yuP),(174,ywL),(179,yq9),(180,yp6)] []
theorem yDw:FrOk Tryz.prog ⟨yko,98,fun _=>none⟩ yfy:=zkp yb yc ⟨yMm,yGc,yMo,yI8,yMk,yA5,yBn,trivial⟩
def yug:Nat→Option Seg:=fun _=>none
def yW:Shape:=⟨[(6,false,[.ptr 64 0]),(8,false,[.ptr 4224 0]),(10,false,[.int .i64]),(11,false,[.at 800000000]),(13,false,[.int .i64])],[(64,[.int .i64,.int .i64,.int .i64,.nil,.int .i64,.int .i64,.int .i64,.int .i64,.int .i64,.nil,.int .i64,.bool,.bool]),(4224,[.int .i64,.int .i64,.int .i64,.at 800000001,.int .i64,.int .i64,.int .i64,.int .i64,.int .i64,.at 800000002,.int .i64,.bool,.bool])],[(800000000,tI,.fz),(800000001,tM,(.pr (.ow (.ow .fz)) (.pr (.ow (.pr .fz (.ow .fz))) (.pr .fz (.ow .fz))))),(800000002,tW,(.pr .fz (.ow .fz)))]⟩
def yb0:Shape:=⟨[(6,false,[.ptr 64 0]),(8,false,[.ptr 4224 0]),(10,false,[.int .i64]),(11,false,[.at 800000000]),(13,false,[.ci .i64 0])],[(64,[.int .i64,.int .i64,.int .i64,.nil,.int .i64,.int .i64,.int .i64,.int .i64,.int .i64,.nil,.int .i64,.bool,.bool]),(4224,[.int .i64,.int .i64,.int .i64,.at 800000001,.int .i64,.int .i64,.int .i64,.int .i64,.int .i64,.at 800000002,.int .i64,.bool,.bool])],[(800000000,tI,.fz),(800000001,tM,(.pr (.ow (.ow .fz)) (.pr (.ow (.pr .fz (.ow .fz))) (.pr .fz (.ow .fz))))),(800000002,tW,(.pr .fz (.ow .fz)))]⟩
def ybZ:Shape:=⟨[(6,false,[.ptr 64 0]),(8,false,[.ptr 4224 0]),(10,false,[.int .i64]),(11,false,[.at 800000000]),(13,false,[.int .i64])],[(64,[.int .i64,.int .i64,.int .i64,.nil,.int .i64,.int .i64,.int .i64,.int .i64,.int .i64,.nil,.int .i64,.bool,.bool]),(4224,[.int .i64,.int .i64,.int .i64,.at 800000001,.int .i64,.int .i64,.int .i64,.int .i64,.int .i64,.at 800000002,.int .i64,.bool,.bool])],[(800000000,tI,.fz),(800000001,tM,(.pr (.ow (.ow .fz)) (.pr (.ow (.pr .fz (.ow .fz))) (.pr .fz (.ow .fz))))),(800000002,tW,(.pr .fz (.ow .fz)))]⟩
def yd8:Shape:=⟨[],[],[]⟩
abbrev yih (v0 v1:Int) (v2 v3:dA) (v4:List Int):(yW).X:=((((),()),((),()),(v0,()),((),()),(v1,()),()),((v2.1,v2.2.1.1,v2.2.1.2,(),v2.2.2.2.1,v2.2.2.2.2.1,v2.2.2.2.2.2.1,v2.2.2.2.2.2.2.1,v2.2.2.2.2.2.2.2.1,(),v2.2.2.2.2.2.2.2.2.2.1,v2.2.2.2.2.2.2.2.2.2.2.1,v2.2.2.2.2.2.2.2.2.2.2.2,()),(v3.1,v3.2.1.1,v3.2.1.2,(),v3.2.2.2.1,v3.2.2.2.2.1,v3.2.2.2.2.2.1,v3.2.2.2.2.2.2.1,v3.2.2.2.2.2.2.2.1,(),v3.2.2.2.2.2.2.2.2.2.1,v3.2.2.2.2.2.2.2.2.2.2.1,v3.2.2.2.2.2.2.2.2.2.2.2,()),()),(v4,v3.2.2.1,v3.2.2.2.2.2.2.2.2.1,()))
abbrev yA2 (v0:Int) (v1 v2:dA) (v3:List Int):(yb0).X:=((((),()),((),()),(v0,()),((),()),((),()),()),((v1.1,v1.2.1.1,v1.2.1.2,(),v1.2.2.2.1,v1.2.2.2.2.1,v1.2.2.2.2.2.1,v1.2.2.2.2.2.2.1,v1.2.2.2.2.2.2.2.1,(),v1.2.2.2.2.2.2.2.2.2.1,v1.2.2.2.2.2.2.2.2.2.2.1,v1.2.2.2.2.2.2.2.2.2.2.2,()),(v2.1,v2.2.1.1,v2.2.1.2,(),v2.2.2.2.1,v2.2.2.2.2.1,v2.2.2.2.2.2.1,v2.2.2.2.2.2.2.1,v2.2.2.2.2.2.2.2.1,(),v2.2.2.2.2.2.2.2.2.2.1,v2.2.2.2.2.2.2.2.2.2.2.1,v2.2.2.2.2.2.2.2.2.2.2.2,()),()),(v3,v2.2.2.1,v2.2.2.2.2.2.2.2.2.1,()))
abbrev yii (v0 v1:Int) (v2 v3:dA) (v4:List Int):(ybZ).X:=((((),()),((),()),(v0,()),((),()),(v1,()),()),((v2.1,v2.2.1.1,v2.2.1.2,(),v2.2.2.2.1,v2.2.2.2.2.1,v2.2.2.2.2.2.1,v2.2.2.2.2.2.2.1,v2.2.2.2.2.2.2.2.1,(),v2.2.2.2.2.2.2.2.2.2.1,v2.2.2.2.2.2.2.2.2.2.2.1,v2.2.2.2.2.2.2.2.2.2.2.2,()),(v3.1,v3.2.1.1,v3.2.1.2,(),v3.2.2.2.1,v3.2.2.2.2.1,v3.2.2.2.2.2.1,v3.2.2.2.2.2.2.1,v3.2.2.2.2.2.2.2.1,(),v3.2.2.2.2.2.2.2.2.2.1,v3.2.2.2.2.2.2.2.2.2.2.1,v3.2.2.2.2.2.2.2.2.2.2.2,()),()),(v4,v3.2.2.1,v3.2.2.2.2.2.2.2.2.1,()))
def yiv (v0 v1 v2 v3 v4 v5 v6 v7 v8 v9 v10:Int) (v11 v12:Bool) (v13 v14 v15 v16 v17 v18 v19 v20 v21:Int) (v22 v23:Bool) (v24:List Int) (v25:List dM) (v26:List dW):Option ((yW).X ⊕ ((ybZ).X ⊕ (yd8).X)) :=
 bif (ltb v1 (v26.length:Int)) then
 bif (inb v1 v26.length) then
 bif (ltb ((nth v26 v1 (0,[])).1) v0) then
 some (.inl ((((),()),((),()),(v0,()),((),()),((IntKind.i64.wrap (v1+1)),()),()),((v2,v3,v4,(),v5,v6,v7,v8,v9,(),v10,v11,v12,()),(v13,v14,v15,(),v16,v17,v18,v19,v20,(),v21,v22,v23,()),()),(v24,v25,v26,())))
 else
 some (.inr (.inl ((((),()),((),()),(v0,()),((),()),(v1,()),()),((v2,v3,v4,(),v5,v6,v7,v8,v9,(),v10,v11,v12,()),(v13,v14,v15,(),v16,v17,v18,v19,v20,(),v21,v22,v23,()),()),(v24,v25,v26,()))))
 else none
 else
 some (.inr (.inl ((((),()),((),()),(v0,()),((),()),(v1,()),()),((v2,v3,v4,(),v5,v6,v7,v8,v9,(),v10,v11,v12,()),(v13,v14,v15,(),v16,v17,v18,v19,v20,(),v21,v22,v23,()),()),(v24,v25,v26,()))))
def yaa (x:(yW).X):=yiv x.1.2.2.1.1 x.1.2.2.2.2.1.1 x.2.1.1.1 x.2.1.1.2.1 x.2.1.1.2.2.1 x.2.1.1.2.2.2.2.1 x.2.1.1.2.2.2.2.2.1 x.2.1.1.2.2.2.2.2.2.1 x.2.1.1.2.2.2.2.2.2.2.1 x.2.1.1.2.2.2.2.2.2.2.2.1 x.2.1.1.2.2.2.2.2.2.2.2.2.2.1 x.2.1.1.2.2.2.2.2.2.2.2.2.2.2.1 x.2.1.1.2.2.2.2.2.2.2.2.2.2.2.2.1 x.2.1.2.1.1 x.2.1.2.1.2.1 x.2.1.2.1.2.2.1 x.2.1.2.1.2.2.2.2.1 x.2.1.2.1.2.2.2.2.2.1 x.2.1.2.1.2.2.2.2.2.2.1 x.2.1.2.1.2.2.2.2.2.2.2.1 x.2.1.2.1.2.2.2.2.2.2.2.2.1 x.2.1.2.1.2.2.2.2.2.2.2.2.2.2.1 x.2.1.2.1.2.2.2.2.2.2.2.2.2.2.2.1 x.2.1.2.1.2.2.2.2.2.2.2.2.2.2.2.2.1 x.2.2.1 x.2.2.2.1 x.2.2.2.2.1
def yp9 (x:(yb0).X):(yW).X:=((((),()),((),()),(x.1.2.2.1.1,()),((),()),(0,()),()),((x.2.1.1.1,x.2.1.1.2.1,x.2.1.1.2.2.1,(),x.2.1.1.2.2.2.2.1,x.2.1.1.2.2.2.2.2.1,x.2.1.1.2.2.2.2.2.2.1,x.2.1.1.2.2.2.2.2.2.2.1,x.2.1.1.2.2.2.2.2.2.2.2.1,(),x.2.1.1.2.2.2.2.2.2.2.2.2.2.1,x.2.1.1.2.2.2.2.2.2.2.2.2.2.2.1,x.2.1.1.2.2.2.2.2.2.2.2.2.2.2.2.1,()),(x.2.1.2.1.1,x.2.1.2.1.2.1,x.2.1.2.1.2.2.1,(),x.2.1.2.1.2.2.2.2.1,x.2.1.2.1.2.2.2.2.2.1,x.2.1.2.1.2.2.2.2.2.2.1,x.2.1.2.1.2.2.2.2.2.2.2.1,x.2.1.2.1.2.2.2.2.2.2.2.2.1,(),x.2.1.2.1.2.2.2.2.2.2.2.2.2.2.1,x.2.1.2.1.2.2.2.2.2.2.2.2.2.2.2.1,x.2.1.2.1.2.2.2.2.2.2.2.2.2.2.2.2.1,()),()),(x.2.2.1,x.2.2.2.1,x.2.2.2.2.1,()))
def yq6:Code:=(zdI yfy 64 16376).getD .skip
theorem yBd:zdI yfy 64 4094=some (.block 0 (.loop yq6)):=by kernel_rfl
theorem yBq (x:(yW).X):zg7 ⟨yko,98,yug⟩ 0 yq6 16376 yW ybZ yd8 x=yaa x:=by kernel_rfl
def yqa (x:(yb0).X):Nat:=18446744073709551616
def yd6 (x:(yb0).X):Option ((ybZ).X ⊕ (yd8).X):=zr yaa (yqa x) (yp9 x)
def yqd:Seg:=⟨yb0,ybZ,yd8,yd6⟩
def yuh:Nat→Option Seg:=fun q=>bif Nat.beq q 4094 then some yqd else yug q
theorem yDx:FrOk Tryz.prog ⟨yko,98,yuh⟩ yfy:=(yDw).loop (sg:=yqd) yW yp9 (by decide) yBd yaa yqa (by decide) (fun _=>rfl) (fun x r _ h=>h) yBq
abbrev yc9:List Par:= [.rd tA,.rd tI,.rd tI]
abbrev ykD:List OT:= [⟨false,tA,(.pr .fz (.pr (.pr .fz .fz) (.pr (.ow (.pr (.ow (.ow .fz)) (.pr (.ow (.pr .fz (.ow .fz))) (.pr .fz (.ow .fz))))) (.pr .fz (.pr .fz (.pr .fz (.pr .fz (.pr .fz (.pr (.ow (.pr .fz (.ow .fz))) (.pr .fz (.pr .fz .fz)))))))))))⟩,⟨false,tI,.fz⟩]
def yhp (a0:dA) (a1 a2:Int):Option (ResD ykD×MutD yc9) :=
 let r1:=yil a0
 let r2:=yeX a0 a1
 bif (r2==0) then
 let r3:=yr a2
 bif (!r3) then
 some ((r1,3,()),())
 else
 bif (r2 !=0) then
 some ((r1,r2,()),())
 else
 let r4:=ydt a0.2.1 a1
 let r5:=ycJ a0 r4
 bif (!r5.2) then
 some ((r1,5,()),())
 else
 let r6:=yet a0.2.1 a1
 bif (inb r6 r5.1.length) then
 zjw (yd6 ((((),()),((),()),(r4,()),((),()),((),()),()),((0,0,0,(),0,0,0,0,0,(),0,false,false,()),(r1.1,r1.2.1.1,r1.2.1.2,(),r1.2.2.2.1,r1.2.2.2.2.1,r1.2.2.2.2.2.1,r1.2.2.2.2.2.2.1,r1.2.2.2.2.2.2.2.1,(),r1.2.2.2.2.2.2.2.2.2.1,r1.2.2.2.2.2.2.2.2.2.2.1,r1.2.2.2.2.2.2.2.2.2.2.2,()),()),((r5.1.set (r6).toNat a2),r1.2.2.1,r1.2.2.2.2.2.2.2.2.1,()))) (fun y6 =>
 bif (ltb y6.1.2.2.2.2.1.1 (y6.2.2.2.2.1.length:Int)) then
 bif (inb y6.1.2.2.2.2.1.1 y6.2.2.2.2.1.length) then
 bif ((nth y6.2.2.2.2.1 y6.1.2.2.2.2.1.1 (0,[])).1==y6.1.2.2.1.1) then
 bif (inb y6.1.2.2.2.2.1.1 y6.2.2.2.2.1.length) then
 let r8:=(y6.2.2.2.2.1.set (y6.1.2.2.2.2.1.1).toNat ((nth y6.2.2.2.2.1 y6.1.2.2.2.2.1.1 (0,[])).1,y6.2.2.1))
 some (((y6.2.1.2.1.1,(y6.2.1.2.1.2.1,y6.2.1.2.1.2.2.1),y6.2.2.2.1,y6.2.1.2.1.2.2.2.2.1,y6.2.1.2.1.2.2.2.2.2.1,y6.2.1.2.1.2.2.2.2.2.2.1,y6.2.1.2.1.2.2.2.2.2.2.2.1,y6.2.1.2.1.2.2.2.2.2.2.2.2.1,r8,y6.2.1.2.1.2.2.2.2.2.2.2.2.2.2.1,y6.2.1.2.1.2.2.2.2.2.2.2.2.2.2.2.1,y6.2.1.2.1.2.2.2.2.2.2.2.2.2.2.2.2.1),0,()),())
 else none
 else
 bnd (yL y6.2.2.2.2.1 y6.1.2.2.2.2.1.1 ([(y6.1.2.2.1.1,y6.2.2.1)]:List dW)) fun r9 =>
 some (((y6.2.1.2.1.1,(y6.2.1.2.1.2.1,y6.2.1.2.1.2.2.1),y6.2.2.2.1,y6.2.1.2.1.2.2.2.2.1,y6.2.1.2.1.2.2.2.2.2.1,y6.2.1.2.1.2.2.2.2.2.2.1,y6.2.1.2.1.2.2.2.2.2.2.2.1,y6.2.1.2.1.2.2.2.2.2.2.2.2.1,r9.1.1,y6.2.1.2.1.2.2.2.2.2.2.2.2.2.2.1,y6.2.1.2.1.2.2.2.2.2.2.2.2.2.2.2.1,y6.2.1.2.1.2.2.2.2.2.2.2.2.2.2.2.2.1),0,()),())
 else none
 else
 bnd (yL y6.2.2.2.2.1 y6.1.2.2.2.2.1.1 ([(y6.1.2.2.1.1,y6.2.2.1)]:List dW)) fun r10 =>
 some (((y6.2.1.2.1.1,(y6.2.1.2.1.2.1,y6.2.1.2.1.2.2.1),y6.2.2.2.1,y6.2.1.2.1.2.2.2.2.1,y6.2.1.2.1.2.2.2.2.2.1,y6.2.1.2.1.2.2.2.2.2.2.1,y6.2.1.2.1.2.2.2.2.2.2.2.1,y6.2.1.2.1.2.2.2.2.2.2.2.2.1,r10.1.1,y6.2.1.2.1.2.2.2.2.2.2.2.2.2.2.1,y6.2.1.2.1.2.2.2.2.2.2.2.2.2.2.2.1,y6.2.1.2.1.2.2.2.2.2.2.2.2.2.2.2.2.1),0,()),())) (fun y6 =>
 none)
 else none
 else
 bif (r2 !=0) then
 some ((r1,r2,()),())
 else
 let r11:=ydt a0.2.1 a1
 let r12:=ycJ a0 r11
 bif (!r12.2) then
 some ((r1,5,()),())
 else
 let r13:=yet a0.2.1 a1
 bif (inb r13 r12.1.length) then
 zjw (yd6 ((((),()),((),()),(r11,()),((),()),((),()),()),((0,0,0,(),0,0,0,0,0,(),0,false,false,()),(r1.1,r1.2.1.1,r1.2.1.2,(),r1.2.2.2.1,r1.2.2.2.2.1,r1.2.2.2.2.2.1,r1.2.2.2.2.2.2.1,r1.2.2.2.2.2.2.2.1,(),r1.2.2.2.2.2.2.2.2.2.1,r1.2.2.2.2.2.2.2.2.2.2.1,r1.2.2.2.2.2.2.2.2.2.2.2,()),()),((r12.1.set (r13).toNat a2),r1.2.2.1,r1.2.2.2.2.2.2.2.2.1,()))) (fun y13 =>
 bif (ltb y13.1.2.2.2.2.1.1 (y13.2.2.2.2.1.length:Int)) then
 bif (inb y13.1.2.2.2.2.1.1 y13.2.2.2.2.1.length) then
 bif ((nth y13.2.2.2.2.1 y13.1.2.2.2.2.1.1 (0,[])).1==y13.1.2.2.1.1) then
 bif (inb y13.1.2.2.2.2.1.1 y13.2.2.2.2.1.length) then
 let r15:=(y13.2.2.2.2.1.set (y13.1.2.2.2.2.1.1).toNat ((nth y13.2.2.2.2.1 y13.1.2.2.2.2.1.1 (0,[])).1,y13.2.2.1))
 some (((y13.2.1.2.1.1,(y13.2.1.2.1.2.1,y13.2.1.2.1.2.2.1),y13.2.2.2.1,y13.2.1.2.1.2.2.2.2.1,y13.2.1.2.1.2.2.2.2.2.1,y13.2.1.2.1.2.2.2.2.2.2.1,y13.2.1.2.1.2.2.2.2.2.2.2.1,y13.2.1.2.1.2.2.2.2.2.2.2.2.1,r15,y13.2.1.2.1.2.2.2.2.2.2.2.2.2.2.1,y13.2.1.2.1.2.2.2.2.2.2.2.2.2.2.2.1,y13.2.1.2.1.2.2.2.2.2.2.2.2.2.2.2.2.1),0,()),())
 else none
 else
 bnd (yL y13.2.2.2.2.1 y13.1.2.2.2.2.1.1 ([(y13.1.2.2.1.1,y13.2.2.1)]:List dW)) fun r16 =>
 some (((y13.2.1.2.1.1,(y13.2.1.2.1.2.1,y13.2.1.2.1.2.2.1),y13.2.2.2.1,y13.2.1.2.1.2.2.2.2.1,y13.2.1.2.1.2.2.2.2.2.1,y13.2.1.2.1.2.2.2.2.2.2.1,y13.2.1.2.1.2.2.2.2.2.2.2.1,y13.2.1.2.1.2.2.2.2.2.2.2.2.1,r16.1.1,y13.2.1.2.1.2.2.2.2.2.2.2.2.2.2.1,y13.2.1.2.1.2.2.2.2.2.2.2.2.2.2.2.1,y13.2.1.2.1.2.2.2.2.2.2.2.2.2.2.2.2.1),0,()),())
 else none
 else
 bnd (yL y13.2.2.2.2.1 y13.1.2.2.2.2.1.1 ([(y13.1.2.2.1.1,y13.2.2.1)]:List dW)) fun r17 =>
 some (((y13.2.1.2.1.1,(y13.2.1.2.1.2.1,y13.2.1.2.1.2.2.1),y13.2.2.2.1,y13.2.1.2.1.2.2.2.2.1,y13.2.1.2.1.2.2.2.2.2.1,y13.2.1.2.1.2.2.2.2.2.2.1,y13.2.1.2.1.2.2.2.2.2.2.2.1,y13.2.1.2.1.2.2.2.2.2.2.2.2.1,r17.1.1,y13.2.1.2.1.2.2.2.2.2.2.2.2.2.2.1,y13.2.1.2.1.2.2.2.2.2.2.2.2.2.2.2.1,y13.2.1.2.1.2.2.2.2.2.2.2.2.2.2.2.2.1),0,()),())) (fun y13 =>
 none)
 else none
theorem yKi (x:InD yc9):zjH ⟨yko,98,yuh⟩ Tryz.f80.results.toList yfy yc9 ykD x=yhp x.1 x.2.1 x.2.2.1:=by kernel_rfl
theorem yFV:ConOk Tryz.prog 80 ⟨yc9,ykD,fun x=>yhp x.1 x.2.1 x.2.2.1⟩:=zkh (yDx) Tryz.func80 (by kernel_rfl) (by kernel_rfl) Tryz.ntmps80.symm (by decide) (fun x r h=>(yKi x).trans h)
def yds (a0:dA) (a1 a2:Int):dA×Int:=yxI a0 a1 a2
theorem yIt (a0:dA) (a1 a2:Int) (hk:zi9 yc9 (a0,a1,a2,())):yhp a0 a1 a2=(fun n=>some ((n.1,n.2,()),())) (yds a0 a1 a2):=by
 unfold yhp yds yxI
 simp only [yil,yRO,yDV,show yh a2=isW a2 by unfold yh; rw [ydr]; rfl]
 cases hc:(yan a0 a1==0)
 ·have:(yan a0 a1 !=0)=true:=bne_iff_ne.2 (beq_eq_false_iff_ne.1 hc)
  rw [this]; rfl
 ·have hc:=beq_iff_eq.1 hc
  obtain ⟨ha,hb,_⟩:=yDo hc
  have hs:=yzO hb
  obtain ⟨_,_,hi⟩:=ylW hb
  have hdl:=yDp (yyO ha) (ycY ha)
  rw [hc]
  cases isW a2
  ·rfl
  ·unfold yBa
   simp only [ydt,yet,ySu ha hs,yR2 ha]
   cases hn:(yM a0 (yB a0.2.1 a1)).2
   ·rfl
   ·have hl:=yuf ha hs hn
    have hx:ycd a0.2.1 a1=a1.tmod (a0.2.1.1 - 1):=by unfold ycd; rw [hb]; rfl
    rw [zjP.2 (show 0≤ycd a0.2.1 a1∧ycd a0.2.1 a1 < (yM a0 (yB a0.2.1 a1)).1.length by omega)]
    generalize (yM a0 (yB a0.2.1 a1)).1.set (ycd a0.2.1 a1).toNat a2=D
    generalize yB a0.2.1 a1=s
    have hF:yd6 (yA2 s yk1 a0 D)=some (.inl (yii s (yme a0.2.2.2.2.2.2.2.2.1 s) yk1 a0 D)):=by
     refine (yDW (step:=yaa) a0.2.2.2.2.2.2.2.2.1 (0,[]) (fun i=>yih s i yk1 a0 D) (fun e:dW=> !ltb e.1 s) (fun i=> .inl (yii s i yk1 a0 D)) (.inl (yii s (a0.2.2.2.2.2.2.2.2.1.length:Int) yk1 a0 D)) (fun i hi=>by
      simp only [yaa,yih,yiv,zjI (show (i:Int) < a0.2.2.2.2.2.2.2.2.1.length by omega),cond_true,wr (show -9223372036854775808≤(i:Int)+1 by omega) (by omega),Int.natCast_add,Int.natCast_one,Int.toNat_natCast,zkO hi,zjW]
      cases ltb (a0.2.2.2.2.2.2.2.2.1.getD i (0,[])).1 s<;>rfl) (by simp only [yaa,yih,yiv,zkm (Int.le_refl _),cond_false]) 18446744073709551616 (by omega)).trans ?_
     unfold yme
     cases leb 0 (yJ (fun x:dW=> !ltb x.1 s) a0.2.2.2.2.2.2.2.2.1)<;>rfl
    have hp:=ySQ a0.2.2.2.2.2.2.2.2.1 s
    have hI: ∀ P,0≤P∧P≤(a0.2.2.2.2.2.2.2.2.1.length:Int)→yL a0.2.2.2.2.2.2.2.2.1 P [(s,D)]=some ((a0.2.2.2.2.2.2.2.2.1.take P.toNat++ [(s,D)]++a0.2.2.2.2.2.2.2.2.1.drop P.toNat,()),()):=fun P hP=>yBp _ _ _ (by
     unfold yab
     rw [zk0 hP.1,zk0 hP.2]
     exact decide_eq_true (show (a0.2.2.2.2.2.2.2.2.1.length+1) * 32≤2 ^ 47 by omega))
    simp only [Bool.not_true,bne_self_eq_false,cond_true,cond_false]
    refine (congrArg (fun z=>zjw z _ _) hF).trans ?_
    simp only [zkJ,zkV]
    unfold yR1
    generalize yme a0.2.2.2.2.2.2.2.2.1 s=P at hp ⊢
    have hI:=hI P hp
    cases h1:ltb P (a0.2.2.2.2.2.2.2.2.1.length:Int)
    ·simp only [cond_false,hI]; rfl
    ·have hin:=zjP.2 (⟨hp.1,zjT.1 h1⟩:0≤P∧P < (a0.2.2.2.2.2.2.2.2.1.length:Int))
     simp only [hin,cond_true]
     cases ((nth a0.2.2.2.2.2.2.2.2.1 P (0,[])).1==s)
     ·simp only [cond_false,hI]; rfl
     ·rfl
def yuO:Con:=⟨yc9,ykD,fun x=>(fun n=>some ((n.1,n.2,()),())) (yds x.1 x.2.1 x.2.2.1)⟩
theorem yI7:ConOk Tryz.prog 80 yuO:=(yFV).mono (fun x r hk h=>(yIt x.1 x.2.1 x.2.2.1 hk).trans h)
end
section
def ycq:Code:=(Tryz.f152.body).getD .skip
def yfc:Env:=zki TT [] [(21056,.fz),(21120,.fz),(37952,(.pr .fz .fz)),(38016,(.pr .fz .fz))]
theorem yHN:FrOk Tryz.prog ⟨yfc,60,fun _=>none⟩ ycq:=zkp yb yc trivial
def yyw:Nat→Option Seg:=fun _=>none
def ybe:Shape:=⟨[(1,false,[.ptr 0 0]),(2,false,[.ptr 64 0]),(3,false,[.ptr 4544 0]),(4,false,[.int .i64])],[(0,[.br tL,.br tW,.bool,.br tI]),(64,[.nil,.nil,.bool,.nil]),(4544,[.at 800000001,.nil,.bool,.at 800000000])],[(800000001,tL,.fz),(800000000,tI,.fz)]⟩
def yeM:Shape:=⟨[(1,false,[.ptr 0 0]),(2,false,[.ptr 64 0]),(3,false,[.ptr 4544 0]),(4,false,[.ci .i64 0])],[(0,[.br tL,.br tW,.bool,.br tI]),(64,[.nil,.nil,.bool,.nil]),(4544,[.at 800000001,.nil,.bool,.at 800000000])],[(800000001,tL,.fz),(800000000,tI,.fz)]⟩
def yeF:Shape:=⟨[(1,false,[.ptr 0 0]),(2,false,[.ptr 64 0]),(3,false,[.ptr 4544 0])],[(0,[.br tL,.br tW,.bool,.br tI]),(64,[.nil,.nil,.bool,.nil]),(4544,[.at 800000000,.nil,.bool,.at 800000001])],[(800000000,tL,.fz),(800000001,tI,.fz)]⟩
def yi1:Shape:=⟨[],[],[]⟩
abbrev ynQ (v0:Int) (v1 v2 v3:dM):(ybe).X:=((((),()),((),()),((),()),(v0,()),()),((v1.1,v1.2.1,v1.2.2.1,v1.2.2.2,()),((),(),v2.2.2.1,(),()),((),(),v3.2.2.1,(),()),()),(v3.1,v3.2.2.2,()))
abbrev yFJ (v0 v1 v2:dM):(yeM).X:=((((),()),((),()),((),()),((),()),()),((v0.1,v0.2.1,v0.2.2.1,v0.2.2.2,()),((),(),v1.2.2.1,(),()),((),(),v2.2.2.1,(),()),()),(v2.1,v2.2.2.2,()))
abbrev yvt (v0 v1 v2:dM):(yeF).X:=((((),()),((),()),((),()),()),((v0.1,v0.2.1,v0.2.2.1,v0.2.2.2,()),((),(),v1.2.2.1,(),()),((),(),v2.2.2.1,(),()),()),(v2.1,v2.2.2.2,()))
def yn9 (v0:Int) (v1:List (List Int)) (v2:List dW) (v3:Bool) (v4:List Int) (v5 v6:Bool) (v7:List (List Int)) (v8:List Int):Option ((ybe).X ⊕ ((yeF).X ⊕ (yi1).X)) :=
 bif (ltb v0 (v1.length:Int)) then
 bif (inb v0 v1.length) then
 bif (zj4 ([]:List Int).length (nth v1 v0 []).length 8) then
 bif (zj4 v7.length ([(([]:List Int)++(nth v1 v0 []))]:List (List Int)).length 24) then
 some (.inl ((((),()),((),()),((),()),((IntKind.i64.wrap (v0+1)),()),()),((v1,v2,v3,v4,()),((),(),v5,(),()),((),(),v6,(),()),()),((v7++([(([]:List Int)++(nth v1 v0 []))]:List (List Int))),v8,())))
 else none
 else none
 else none
 else
 some (.inr (.inl ((((),()),((),()),((),()),()),((v1,v2,v3,v4,()),((),(),v5,(),()),((),(),v6,(),()),()),(v7,v8,()))))
def ybK (x:(ybe).X):=yn9 x.1.2.2.2.1.1 x.2.1.1.1 x.2.1.1.2.1 x.2.1.1.2.2.1 x.2.1.1.2.2.2.1 x.2.1.2.1.2.2.1 x.2.1.2.2.1.2.2.1 x.2.2.1 x.2.2.2.1
def yu9 (x:(yeM).X):(ybe).X:=((((),()),((),()),((),()),(0,()),()),((x.2.1.1.1,x.2.1.1.2.1,x.2.1.1.2.2.1,x.2.1.1.2.2.2.1,()),((),(),x.2.1.2.1.2.2.1,(),()),((),(),x.2.1.2.2.1.2.2.1,(),()),()),(x.2.2.1,x.2.2.2.1,()))
def ywG:Code:=(zdI ycq 64 116).getD .skip
theorem yG3:zdI ycq 64 29=some (.block 0 (.loop ywG)):=by kernel_rfl
theorem yJu (x:(ybe).X):zg7 ⟨yfc,60,yyw⟩ 0 ywG 116 ybe yeF yi1 x=ybK x:=by kernel_rfl
def yvo (x:(yeM).X):Nat:=18446744073709551616
def ypt (x:(yeM).X):Option ((yeF).X ⊕ (yi1).X):=zr ybK (yvo x) (yu9 x)
def yvG:Seg:=⟨yeM,yeF,yi1,ypt⟩
def yqi:Nat→Option Seg:=fun q=>bif Nat.beq q 29 then some yvG else yyw q
theorem yHO:FrOk Tryz.prog ⟨yfc,60,yqi⟩ ycq:=(yHN).loop (sg:=yvG) ybe yu9 (by decide) yG3 ybK yvo (by decide) (fun _=>rfl) (fun x r _ h=>h) yJu
def ybf:Shape:=⟨[(1,false,[.ptr 0 0]),(2,false,[.ptr 64 0]),(3,false,[.ptr 4544 0]),(5,false,[.int .i64])],[(0,[.br tL,.br tW,.bool,.br tI]),(64,[.nil,.nil,.bool,.nil]),(4544,[.at 800000000,.at 800000002,.bool,.at 800000001])],[(800000000,tL,.fz),(800000002,tW,(.pr .fz .fz)),(800000001,tI,.fz)]⟩
def yeN:Shape:=⟨[(1,false,[.ptr 0 0]),(2,false,[.ptr 64 0]),(3,false,[.ptr 4544 0]),(5,false,[.ci .i64 0])],[(0,[.br tL,.br tW,.bool,.br tI]),(64,[.nil,.nil,.bool,.nil]),(4544,[.at 800000000,.at 800000002,.bool,.at 800000001])],[(800000000,tL,.fz),(800000002,tW,(.pr .fz .fz)),(800000001,tI,.fz)]⟩
def yeG:Shape:=⟨[(2,false,[.ptr 64 0]),(3,false,[.ptr 4544 0])],[(64,[.nil,.nil,.bool,.nil]),(4544,[.at 800000000,.at 800000001,.bool,.at 800000002])],[(800000000,tL,.fz),(800000001,tW,(.pr .fz .fz)),(800000002,tI,.fz)]⟩
def yi2:Shape:=⟨[],[],[]⟩
abbrev ynR (v0:Int) (v1 v2 v3:dM):(ybf).X:=((((),()),((),()),((),()),(v0,()),()),((v1.1,v1.2.1,v1.2.2.1,v1.2.2.2,()),((),(),v2.2.2.1,(),()),((),(),v3.2.2.1,(),()),()),(v3.1,v3.2.1,v3.2.2.2,()))
abbrev yFK (v0 v1 v2:dM):(yeN).X:=((((),()),((),()),((),()),((),()),()),((v0.1,v0.2.1,v0.2.2.1,v0.2.2.2,()),((),(),v1.2.2.1,(),()),((),(),v2.2.2.1,(),()),()),(v2.1,v2.2.1,v2.2.2.2,()))
abbrev yvu (v0 v1:dM):(yeG).X:=((((),()),((),()),()),(((),(),v0.2.2.1,(),()),((),(),v1.2.2.1,(),()),()),(v1.1,v1.2.1,v1.2.2.2,()))
def yoa (v0:Int) (v1:List (List Int)) (v2:List dW) (v3:Bool) (v4:List Int) (v5 v6:Bool) (v7:List (List Int)) (v8:List dW) (v9:List Int):Option ((ybf).X ⊕ ((yeG).X ⊕ (yi2).X)) :=
 bif (ltb v0 (v2.length:Int)) then
 bif (inb v0 v2.length) then
 bif (inb v0 v2.length) then
 bif (zj4 ([]:List Int).length ((nth v2 v0 (0,[])).2).length 8) then
 bif (zj4 v8.length ([((nth v2 v0 (0,[])).1,(([]:List Int)++((nth v2 v0 (0,[])).2)))]:List dW).length 32) then
 some (.inl ((((),()),((),()),((),()),((IntKind.i64.wrap (v0+1)),()),()),((v1,v2,v3,v4,()),((),(),v5,(),()),((),(),v6,(),()),()),(v7,(v8++([((nth v2 v0 (0,[])).1,(([]:List Int)++((nth v2 v0 (0,[])).2)))]:List dW)),v9,())))
 else none
 else none
 else none
 else none
 else
 some (.inr (.inl ((((),()),((),()),()),(((),(),v5,(),()),((),(),v6,(),()),()),(v7,v8,v9,()))))
def ybL (x:(ybf).X):=yoa x.1.2.2.2.1.1 x.2.1.1.1 x.2.1.1.2.1 x.2.1.1.2.2.1 x.2.1.1.2.2.2.1 x.2.1.2.1.2.2.1 x.2.1.2.2.1.2.2.1 x.2.2.1 x.2.2.2.1 x.2.2.2.2.1
def yva (x:(yeN).X):(ybf).X:=((((),()),((),()),((),()),(0,()),()),((x.2.1.1.1,x.2.1.1.2.1,x.2.1.1.2.2.1,x.2.1.1.2.2.2.1,()),((),(),x.2.1.2.1.2.2.1,(),()),((),(),x.2.1.2.2.1.2.2.1,(),()),()),(x.2.2.1,x.2.2.2.1,x.2.2.2.2.1,()))
def ywH:Code:=(zdI ycq 64 244).getD .skip
theorem yG4:zdI ycq 64 61=some (.block 2 (.loop ywH)):=by kernel_rfl
theorem yJv (x:(ybf).X):zg7 ⟨yfc,60,yqi⟩ 2 ywH 244 ybf yeG yi2 x=ybL x:=by kernel_rfl
def yvp (x:(yeN).X):Nat:=18446744073709551616
def ypu (x:(yeN).X):Option ((yeG).X ⊕ (yi2).X):=zr ybL (yvp x) (yva x)
def yvH:Seg:=⟨yeN,yeG,yi2,ypu⟩
def yyx:Nat→Option Seg:=fun q=>bif Nat.beq q 61 then some yvH else yqi q
theorem yHP:FrOk Tryz.prog ⟨yfc,60,yyx⟩ ycq:=(yHO).loop (sg:=yvH) ybf yva (by decide) yG4 ybL yvp (by decide) (fun _=>rfl) (fun x r _ h=>h) yJv
abbrev yfr:List Par:= [.rd tM]
abbrev yo3:List OT:= [⟨false,tM,(.pr (.ow .fz) (.pr (.ow (.pr .fz .fz)) (.pr .fz (.ow .fz))))⟩]
def yli (a0:dM):Option (ResD yo3×MutD yfr) :=
 bif (zj4 ([]:List Int).length a0.2.2.2.length 8) then
 zjw (ypt ((((),()),((),()),((),()),((),()),()),((a0.1,a0.2.1,a0.2.2.1,a0.2.2.2,()),((),(),false,(),()),((),(),a0.2.2.1,(),()),()),([],(([]:List Int)++a0.2.2.2),()))) (fun y0 =>
 zjw (ypu ((((),()),((),()),((),()),((),()),()),((y0.2.1.1.1,y0.2.1.1.2.1,y0.2.1.1.2.2.1,y0.2.1.1.2.2.2.1,()),((),(),y0.2.1.2.1.2.2.1,(),()),((),(),y0.2.1.2.2.1.2.2.1,(),()),()),(y0.2.2.1,[],y0.2.2.2.1,()))) (fun y1 =>
 some (((y1.2.2.1,y1.2.2.2.1,y1.2.1.2.1.2.2.1,y1.2.2.2.2.1),()),())) (fun y1 =>
 none)) (fun y0 =>
 none)
 else none
theorem yQa (x:InD yfr):zjH ⟨yfc,60,yyx⟩ Tryz.f152.results.toList ycq yfr yo3 x=yli x.1:=by kernel_rfl
theorem yMb:ConOk Tryz.prog 152 ⟨yfr,yo3,fun x=>yli x.1⟩:=zkh (yHP) Tryz.func152 (by kernel_rfl) (by kernel_rfl) Tryz.ntmps152.symm (by decide) (fun x r h=>(yQa x).trans h)
def yj7 (a0:dM):dM:=a0
theorem yOl (a0:dM) (hk:zi9 yfr (a0,())):yli a0=(fun n=>some ((n,()),())) (yj7 a0):=by
 have hb1:a0.1.length * 24≤2 ^ 47:=hk.1.1.1
 have hb2:a0.2.1.length * 32≤2 ^ 47:=hk.1.2.1.1
 have hb3:a0.2.2.2.length * 8≤2 ^ 47:=hk.1.2.2.2.1
 have hs: ∀ i,i < a0.1.length→(a0.1.getD i []).length * 8≤2 ^ 47:=fun i hi=>by rw [zcq hi]; exact (hk.1.1.2 _ (List.getElem_mem hi)).1
 have hc: ∀ i,i < a0.2.1.length→(a0.2.1.getD i (0,[])).2.length * 8≤2 ^ 47:=fun i hi=>by rw [zcq hi]; exact (hk.1.2.1.2 _ (List.getElem_mem hi)).2.1
 have h1:ypt (yFJ a0 yf ([],[],a0.2.2.1,a0.2.2.2))=some (.inl (yvt a0 yf (a0.1,[],a0.2.2.1,a0.2.2.2))):=by
  have:=zkk (step:=ybK) a0.1 [] (fun i s=>ynQ i a0 yf (s,[],a0.2.2.1,a0.2.2.2)) (fun s x=>s++ [x]) (fun i s=>s.length=i) (fun s=> .inl (yvt a0 yf (s,[],a0.2.2.1,a0.2.2.2))) (fun i s hi hs2=>⟨by
   have:=hs i hi
   simp only [ybK,ynQ,yn9,zjI (show (i:Int) < a0.1.length by omega),cond_true,wr (show -9223372036854775808≤(i:Int)+1 by omega) (by omega),Int.natCast_add,Int.natCast_one,Int.toNat_natCast,zkO hi,zjW,List.nil_append]
   rw [zkw.2 (show (([]:List Int).length+(a0.1.getD i []).length) * 8≤140737488355328 by rw [List.length_nil]; omega),zkw.2 (show (s.length+ [a0.1.getD i []].length) * 24≤140737488355328 by simp only [List.length_cons,List.length_nil]; omega)]; rfl,by simp [hs2]⟩) (fun s _=>by simp only [ybK,ynQ,yn9,zkm (Int.le_refl _),cond_false]) [] rfl 18446744073709551616 (by omega)
  rw [ypA]at this
  exact this
 have h2:ypu (yFK a0 yf (a0.1,[],a0.2.2.1,a0.2.2.2))=some (.inl (yvu yf a0)):=by
  have:=zkk (step:=ybL) a0.2.1 (0,[]) (fun i s=>ynR i a0 yf (a0.1,s,a0.2.2.1,a0.2.2.2)) (fun s x=>s++ [x]) (fun i s=>s.length=i) (fun s=> .inl (yvu yf (a0.1,s,a0.2.2.1,a0.2.2.2))) (fun i s hi hs2=>⟨by
   have:=hc i hi
   simp only [ybL,ynR,yoa,zjI (show (i:Int) < a0.2.1.length by omega),cond_true,wr (show -9223372036854775808≤(i:Int)+1 by omega) (by omega),Int.natCast_add,Int.natCast_one,Int.toNat_natCast,zkO hi,zjW,List.nil_append,zkV]
   rw [zkw.2 (show (([]:List Int).length+(a0.2.1.getD i (0,[])).2.length) * 8≤140737488355328 by rw [List.length_nil]; omega),zkw.2 (show (s.length+ [a0.2.1.getD i (0,[])].length) * 32≤140737488355328 by simp only [List.length_cons,List.length_nil]; omega)]; rfl,by simp [hs2]⟩) (fun s _=>by simp only [ybL,ynR,yoa,zkm (Int.le_refl _),cond_false]) [] rfl 18446744073709551616 (by omega)
  rw [ypA]at this
  exact this
 unfold yli yj7
 rw [zkw.2 (show (([]:List Int).length+a0.2.2.2.length) * 8≤140737488355328 by rw [List.length_nil]; omega)]
 simp only [cond_true,List.nil_append,h1,zkJ,h2]
def yzk:Con:=⟨yfr,yo3,fun x=>(fun n=>some ((n,()),())) (yj7 x.1)⟩
theorem yPe:ConOk Tryz.prog 152 yzk:=(yMb).mono (fun x r hk h=>(yOl x.1 hk).trans h)
end
section
def ycr:Code:=(Tryz.f103.body).getD .skip
def yfd:Env:=zki TT [(152,yzk)] [(8192,(.pr (.ow .fz) (.pr (.ow (.pr .fz .fz)) (.pr .fz (.ow .fz))))),(25088,(.pr (.ow .fz) (.pr (.ow (.pr .fz .fz)) (.pr .fz (.ow .fz))))),(28672,(.pr .fz .fz)),(46144,(.pr .fz .fz))]
theorem yHQ:FrOk Tryz.prog ⟨yfd,57,fun _=>none⟩ ycr:=zkp yb yc ⟨yPe,trivial⟩
def yyy:Nat→Option Seg:=fun _=>none
def ybg:Shape:=⟨[(1,false,[.ptr 0 0]),(2,false,[.ptr 64 0]),(3,false,[.ptr 4160 0]),(4,false,[.int .i64])],[(0,[.int .i64,.int .i64,.int .i64,.br tM,.int .i64,.int .i64,.int .i64,.int .i64,.int .i64,.br tW,.int .i64,.bool,.bool]),(64,[.int .i64,.int .i64,.int .i64,.nil,.int .i64,.int .i64,.int .i64,.int .i64,.int .i64,.nil,.int .i64,.bool,.bool]),(4160,[.int .i64,.int .i64,.int .i64,.at 800000000,.int .i64,.int .i64,.int .i64,.int .i64,.int .i64,.br tW,.int .i64,.bool,.bool])],[(800000000,tM,(.pr (.ow .fz) (.pr (.ow (.pr .fz .fz)) (.pr .fz (.ow .fz)))))]⟩
def yeO:Shape:=⟨[(1,false,[.ptr 0 0]),(2,false,[.ptr 64 0]),(3,false,[.ptr 4160 0]),(4,false,[.ci .i64 0])],[(0,[.int .i64,.int .i64,.int .i64,.br tM,.int .i64,.int .i64,.int .i64,.int .i64,.int .i64,.br tW,.int .i64,.bool,.bool]),(64,[.int .i64,.int .i64,.int .i64,.nil,.int .i64,.int .i64,.int .i64,.int .i64,.int .i64,.nil,.int .i64,.bool,.bool]),(4160,[.int .i64,.int .i64,.int .i64,.at 800000000,.int .i64,.int .i64,.int .i64,.int .i64,.int .i64,.br tW,.int .i64,.bool,.bool])],[(800000000,tM,(.pr (.ow .fz) (.pr (.ow (.pr .fz .fz)) (.pr .fz (.ow .fz)))))]⟩
def yeH:Shape:=⟨[(1,false,[.ptr 0 0]),(2,false,[.ptr 64 0]),(3,false,[.ptr 4160 0])],[(0,[.int .i64,.int .i64,.int .i64,.br tM,.int .i64,.int .i64,.int .i64,.int .i64,.int .i64,.br tW,.int .i64,.bool,.bool]),(64,[.int .i64,.int .i64,.int .i64,.nil,.int .i64,.int .i64,.int .i64,.int .i64,.int .i64,.nil,.int .i64,.bool,.bool]),(4160,[.int .i64,.int .i64,.int .i64,.at 800000000,.int .i64,.int .i64,.int .i64,.int .i64,.int .i64,.br tW,.int .i64,.bool,.bool])],[(800000000,tM,(.pr (.ow .fz) (.pr (.ow (.pr .fz .fz)) (.pr .fz (.ow .fz)))))]⟩
def yi3:Shape:=⟨[],[],[]⟩
abbrev ynS (v0:Int) (v1 v2 v3:dA):(ybg).X:=((((),()),((),()),((),()),(v0,()),()),((v1.1,v1.2.1.1,v1.2.1.2,v1.2.2.1,v1.2.2.2.1,v1.2.2.2.2.1,v1.2.2.2.2.2.1,v1.2.2.2.2.2.2.1,v1.2.2.2.2.2.2.2.1,v1.2.2.2.2.2.2.2.2.1,v1.2.2.2.2.2.2.2.2.2.1,v1.2.2.2.2.2.2.2.2.2.2.1,v1.2.2.2.2.2.2.2.2.2.2.2,()),(v2.1,v2.2.1.1,v2.2.1.2,(),v2.2.2.2.1,v2.2.2.2.2.1,v2.2.2.2.2.2.1,v2.2.2.2.2.2.2.1,v2.2.2.2.2.2.2.2.1,(),v2.2.2.2.2.2.2.2.2.2.1,v2.2.2.2.2.2.2.2.2.2.2.1,v2.2.2.2.2.2.2.2.2.2.2.2,()),(v3.1,v3.2.1.1,v3.2.1.2,(),v3.2.2.2.1,v3.2.2.2.2.1,v3.2.2.2.2.2.1,v3.2.2.2.2.2.2.1,v3.2.2.2.2.2.2.2.1,v3.2.2.2.2.2.2.2.2.1,v3.2.2.2.2.2.2.2.2.2.1,v3.2.2.2.2.2.2.2.2.2.2.1,v3.2.2.2.2.2.2.2.2.2.2.2,()),()),(v3.2.2.1,()))
abbrev yFL (v0 v1 v2:dA):(yeO).X:=((((),()),((),()),((),()),((),()),()),((v0.1,v0.2.1.1,v0.2.1.2,v0.2.2.1,v0.2.2.2.1,v0.2.2.2.2.1,v0.2.2.2.2.2.1,v0.2.2.2.2.2.2.1,v0.2.2.2.2.2.2.2.1,v0.2.2.2.2.2.2.2.2.1,v0.2.2.2.2.2.2.2.2.2.1,v0.2.2.2.2.2.2.2.2.2.2.1,v0.2.2.2.2.2.2.2.2.2.2.2,()),(v1.1,v1.2.1.1,v1.2.1.2,(),v1.2.2.2.1,v1.2.2.2.2.1,v1.2.2.2.2.2.1,v1.2.2.2.2.2.2.1,v1.2.2.2.2.2.2.2.1,(),v1.2.2.2.2.2.2.2.2.2.1,v1.2.2.2.2.2.2.2.2.2.2.1,v1.2.2.2.2.2.2.2.2.2.2.2,()),(v2.1,v2.2.1.1,v2.2.1.2,(),v2.2.2.2.1,v2.2.2.2.2.1,v2.2.2.2.2.2.1,v2.2.2.2.2.2.2.1,v2.2.2.2.2.2.2.2.1,v2.2.2.2.2.2.2.2.2.1,v2.2.2.2.2.2.2.2.2.2.1,v2.2.2.2.2.2.2.2.2.2.2.1,v2.2.2.2.2.2.2.2.2.2.2.2,()),()),(v2.2.2.1,()))
abbrev yFF (v0 v1 v2:dA):(yeH).X:=((((),()),((),()),((),()),()),((v0.1,v0.2.1.1,v0.2.1.2,v0.2.2.1,v0.2.2.2.1,v0.2.2.2.2.1,v0.2.2.2.2.2.1,v0.2.2.2.2.2.2.1,v0.2.2.2.2.2.2.2.1,v0.2.2.2.2.2.2.2.2.1,v0.2.2.2.2.2.2.2.2.2.1,v0.2.2.2.2.2.2.2.2.2.2.1,v0.2.2.2.2.2.2.2.2.2.2.2,()),(v1.1,v1.2.1.1,v1.2.1.2,(),v1.2.2.2.1,v1.2.2.2.2.1,v1.2.2.2.2.2.1,v1.2.2.2.2.2.2.1,v1.2.2.2.2.2.2.2.1,(),v1.2.2.2.2.2.2.2.2.2.1,v1.2.2.2.2.2.2.2.2.2.2.1,v1.2.2.2.2.2.2.2.2.2.2.2,()),(v2.1,v2.2.1.1,v2.2.1.2,(),v2.2.2.2.1,v2.2.2.2.2.1,v2.2.2.2.2.2.1,v2.2.2.2.2.2.2.1,v2.2.2.2.2.2.2.2.1,v2.2.2.2.2.2.2.2.2.1,v2.2.2.2.2.2.2.2.2.2.1,v2.2.2.2.2.2.2.2.2.2.2.1,v2.2.2.2.2.2.2.2.2.2.2.2,()),()),(v2.2.2.1,()))
def yob (v0 v1 v2 v3:Int) (v4:List dM) (v5 v6 v7 v8 v9:Int) (v10:List dW) (v11:Int) (v12 v13:Bool) (v14 v15 v16 v17 v18 v19 v20 v21 v22:Int) (v23 v24:Bool) (v25 v26 v27 v28 v29 v30 v31 v32:Int) (v33:List dW) (v34:Int) (v35 v36:Bool) (v37:List dM):Option ((ybg).X ⊕ ((yeH).X ⊕ (yi3).X)) :=
 bif (ltb v0 (v4.length:Int)) then
 bif (inb v0 v4.length) then
 let r2:=yj7 ((nth v4 v0 ([],[],false,[])).1,((nth v4 v0 ([],[],false,[])).2).1,(((nth v4 v0 ([],[],false,[])).2).2))
 bif (zj4 v37.length ([r2]:List dM).length 80) then
 some (.inl ((((),()),((),()),((),()),((IntKind.i64.wrap (v0+1)),()),()),((v1,v2,v3,v4,v5,v6,v7,v8,v9,v10,v11,v12,v13,()),(v14,v15,v16,(),v17,v18,v19,v20,v21,(),v22,v23,v24,()),(v25,v26,v27,(),v28,v29,v30,v31,v32,v33,v34,v35,v36,()),()),((v37++([r2]:List dM)),())))
 else none
 else none
 else
 some (.inr (.inl ((((),()),((),()),((),()),()),((v1,v2,v3,v4,v5,v6,v7,v8,v9,v10,v11,v12,v13,()),(v14,v15,v16,(),v17,v18,v19,v20,v21,(),v22,v23,v24,()),(v25,v26,v27,(),v28,v29,v30,v31,v32,v33,v34,v35,v36,()),()),(v37,()))))
def ybM (x:(ybg).X):=yob x.1.2.2.2.1.1 x.2.1.1.1 x.2.1.1.2.1 x.2.1.1.2.2.1 x.2.1.1.2.2.2.1 x.2.1.1.2.2.2.2.1 x.2.1.1.2.2.2.2.2.1 x.2.1.1.2.2.2.2.2.2.1 x.2.1.1.2.2.2.2.2.2.2.1 x.2.1.1.2.2.2.2.2.2.2.2.1 x.2.1.1.2.2.2.2.2.2.2.2.2.1 x.2.1.1.2.2.2.2.2.2.2.2.2.2.1 x.2.1.1.2.2.2.2.2.2.2.2.2.2.2.1 x.2.1.1.2.2.2.2.2.2.2.2.2.2.2.2.1 x.2.1.2.1.1 x.2.1.2.1.2.1 x.2.1.2.1.2.2.1 x.2.1.2.1.2.2.2.2.1 x.2.1.2.1.2.2.2.2.2.1 x.2.1.2.1.2.2.2.2.2.2.1 x.2.1.2.1.2.2.2.2.2.2.2.1 x.2.1.2.1.2.2.2.2.2.2.2.2.1 x.2.1.2.1.2.2.2.2.2.2.2.2.2.2.1 x.2.1.2.1.2.2.2.2.2.2.2.2.2.2.2.1 x.2.1.2.1.2.2.2.2.2.2.2.2.2.2.2.2.1 x.2.1.2.2.1.1 x.2.1.2.2.1.2.1 x.2.1.2.2.1.2.2.1 x.2.1.2.2.1.2.2.2.2.1 x.2.1.2.2.1.2.2.2.2.2.1 x.2.1.2.2.1.2.2.2.2.2.2.1 x.2.1.2.2.1.2.2.2.2.2.2.2.1 x.2.1.2.2.1.2.2.2.2.2.2.2.2.1 x.2.1.2.2.1.2.2.2.2.2.2.2.2.2.1 x.2.1.2.2.1.2.2.2.2.2.2.2.2.2.2.1 x.2.1.2.2.1.2.2.2.2.2.2.2.2.2.2.2.1 x.2.1.2.2.1.2.2.2.2.2.2.2.2.2.2.2.2.1 x.2.2.1
def yvb (x:(yeO).X):(ybg).X:=((((),()),((),()),((),()),(0,()),()),((x.2.1.1.1,x.2.1.1.2.1,x.2.1.1.2.2.1,x.2.1.1.2.2.2.1,x.2.1.1.2.2.2.2.1,x.2.1.1.2.2.2.2.2.1,x.2.1.1.2.2.2.2.2.2.1,x.2.1.1.2.2.2.2.2.2.2.1,x.2.1.1.2.2.2.2.2.2.2.2.1,x.2.1.1.2.2.2.2.2.2.2.2.2.1,x.2.1.1.2.2.2.2.2.2.2.2.2.2.1,x.2.1.1.2.2.2.2.2.2.2.2.2.2.2.1,x.2.1.1.2.2.2.2.2.2.2.2.2.2.2.2.1,()),(x.2.1.2.1.1,x.2.1.2.1.2.1,x.2.1.2.1.2.2.1,(),x.2.1.2.1.2.2.2.2.1,x.2.1.2.1.2.2.2.2.2.1,x.2.1.2.1.2.2.2.2.2.2.1,x.2.1.2.1.2.2.2.2.2.2.2.1,x.2.1.2.1.2.2.2.2.2.2.2.2.1,(),x.2.1.2.1.2.2.2.2.2.2.2.2.2.2.1,x.2.1.2.1.2.2.2.2.2.2.2.2.2.2.2.1,x.2.1.2.1.2.2.2.2.2.2.2.2.2.2.2.2.1,()),(x.2.1.2.2.1.1,x.2.1.2.2.1.2.1,x.2.1.2.2.1.2.2.1,(),x.2.1.2.2.1.2.2.2.2.1,x.2.1.2.2.1.2.2.2.2.2.1,x.2.1.2.2.1.2.2.2.2.2.2.1,x.2.1.2.2.1.2.2.2.2.2.2.2.1,x.2.1.2.2.1.2.2.2.2.2.2.2.2.1,x.2.1.2.2.1.2.2.2.2.2.2.2.2.2.1,x.2.1.2.2.1.2.2.2.2.2.2.2.2.2.2.1,x.2.1.2.2.1.2.2.2.2.2.2.2.2.2.2.2.1,x.2.1.2.2.1.2.2.2.2.2.2.2.2.2.2.2.2.1,()),()),(x.2.2.1,()))
def ywI:Code:=(zdI ycr 64 244).getD .skip
theorem yG5:zdI ycr 64 61=some (.block 0 (.loop ywI)):=by kernel_rfl
theorem yJw (x:(ybg).X):zg7 ⟨yfd,57,yyy⟩ 0 ywI 244 ybg yeH yi3 x=ybM x:=by kernel_rfl
def yvq (x:(yeO).X):Nat:=18446744073709551616
def ypv (x:(yeO).X):Option ((yeH).X ⊕ (yi3).X):=zr ybM (yvq x) (yvb x)
def yvI:Seg:=⟨yeO,yeH,yi3,ypv⟩
def yqj:Nat→Option Seg:=fun q=>bif Nat.beq q 61 then some yvI else yyy q
theorem yHR:FrOk Tryz.prog ⟨yfd,57,yqj⟩ ycr:=(yHQ).loop (sg:=yvI) ybg yvb (by decide) yG5 ybM yvq (by decide) (fun _=>rfl) (fun x r _ h=>h) yJw
def yaI:Shape:=⟨[(1,false,[.ptr 0 0]),(2,false,[.ptr 64 0]),(3,false,[.ptr 4160 0]),(5,false,[.int .i64])],[(0,[.int .i64,.int .i64,.int .i64,.br tM,.int .i64,.int .i64,.int .i64,.int .i64,.int .i64,.br tW,.int .i64,.bool,.bool]),(64,[.int .i64,.int .i64,.int .i64,.nil,.int .i64,.int .i64,.int .i64,.int .i64,.int .i64,.nil,.int .i64,.bool,.bool]),(4160,[.int .i64,.int .i64,.int .i64,.at 800000000,.int .i64,.int .i64,.int .i64,.int .i64,.int .i64,.at 800000001,.int .i64,.bool,.bool])],[(800000000,tM,(.pr (.ow .fz) (.pr (.ow (.pr .fz .fz)) (.pr .fz (.ow .fz))))),(800000001,tW,(.pr .fz .fz))]⟩
def ydW:Shape:=⟨[(1,false,[.ptr 0 0]),(2,false,[.ptr 64 0]),(3,false,[.ptr 4160 0]),(5,false,[.ci .i64 0])],[(0,[.int .i64,.int .i64,.int .i64,.br tM,.int .i64,.int .i64,.int .i64,.int .i64,.int .i64,.br tW,.int .i64,.bool,.bool]),(64,[.int .i64,.int .i64,.int .i64,.nil,.int .i64,.int .i64,.int .i64,.int .i64,.int .i64,.nil,.int .i64,.bool,.bool]),(4160,[.int .i64,.int .i64,.int .i64,.at 800000000,.int .i64,.int .i64,.int .i64,.int .i64,.int .i64,.at 800000001,.int .i64,.bool,.bool])],[(800000000,tM,(.pr (.ow .fz) (.pr (.ow (.pr .fz .fz)) (.pr .fz (.ow .fz))))),(800000001,tW,(.pr .fz .fz))]⟩
def ydM:Shape:=⟨[(2,false,[.ptr 64 0]),(3,false,[.ptr 4160 0])],[(64,[.int .i64,.int .i64,.int .i64,.nil,.int .i64,.int .i64,.int .i64,.int .i64,.int .i64,.nil,.int .i64,.bool,.bool]),(4160,[.int .i64,.int .i64,.int .i64,.at 800000000,.int .i64,.int .i64,.int .i64,.int .i64,.int .i64,.at 800000001,.int .i64,.bool,.bool])],[(800000000,tM,(.pr (.ow .fz) (.pr (.ow (.pr .fz .fz)) (.pr .fz (.ow .fz))))),(800000001,tW,(.pr .fz .fz))]⟩
def yhj:Shape:=⟨[],[],[]⟩
abbrev yl6 (v0:Int) (v1 v2 v3:dA):(yaI).X:=((((),()),((),()),((),()),(v0,()),()),((v1.1,v1.2.1.1,v1.2.1.2,v1.2.2.1,v1.2.2.2.1,v1.2.2.2.2.1,v1.2.2.2.2.2.1,v1.2.2.2.2.2.2.1,v1.2.2.2.2.2.2.2.1,v1.2.2.2.2.2.2.2.2.1,v1.2.2.2.2.2.2.2.2.2.1,v1.2.2.2.2.2.2.2.2.2.2.1,v1.2.2.2.2.2.2.2.2.2.2.2,()),(v2.1,v2.2.1.1,v2.2.1.2,(),v2.2.2.2.1,v2.2.2.2.2.1,v2.2.2.2.2.2.1,v2.2.2.2.2.2.2.1,v2.2.2.2.2.2.2.2.1,(),v2.2.2.2.2.2.2.2.2.2.1,v2.2.2.2.2.2.2.2.2.2.2.1,v2.2.2.2.2.2.2.2.2.2.2.2,()),(v3.1,v3.2.1.1,v3.2.1.2,(),v3.2.2.2.1,v3.2.2.2.2.1,v3.2.2.2.2.2.1,v3.2.2.2.2.2.2.1,v3.2.2.2.2.2.2.2.1,(),v3.2.2.2.2.2.2.2.2.2.1,v3.2.2.2.2.2.2.2.2.2.2.1,v3.2.2.2.2.2.2.2.2.2.2.2,()),()),(v3.2.2.1,v3.2.2.2.2.2.2.2.2.1,()))
abbrev yEa (v0 v1 v2:dA):(ydW).X:=((((),()),((),()),((),()),((),()),()),((v0.1,v0.2.1.1,v0.2.1.2,v0.2.2.1,v0.2.2.2.1,v0.2.2.2.2.1,v0.2.2.2.2.2.1,v0.2.2.2.2.2.2.1,v0.2.2.2.2.2.2.2.1,v0.2.2.2.2.2.2.2.2.1,v0.2.2.2.2.2.2.2.2.2.1,v0.2.2.2.2.2.2.2.2.2.2.1,v0.2.2.2.2.2.2.2.2.2.2.2,()),(v1.1,v1.2.1.1,v1.2.1.2,(),v1.2.2.2.1,v1.2.2.2.2.1,v1.2.2.2.2.2.1,v1.2.2.2.2.2.2.1,v1.2.2.2.2.2.2.2.1,(),v1.2.2.2.2.2.2.2.2.2.1,v1.2.2.2.2.2.2.2.2.2.2.1,v1.2.2.2.2.2.2.2.2.2.2.2,()),(v2.1,v2.2.1.1,v2.2.1.2,(),v2.2.2.2.1,v2.2.2.2.2.1,v2.2.2.2.2.2.1,v2.2.2.2.2.2.2.1,v2.2.2.2.2.2.2.2.1,(),v2.2.2.2.2.2.2.2.2.2.1,v2.2.2.2.2.2.2.2.2.2.2.1,v2.2.2.2.2.2.2.2.2.2.2.2,()),()),(v2.2.2.1,v2.2.2.2.2.2.2.2.2.1,()))
abbrev yD0 (v0 v1:dA):(ydM).X:=((((),()),((),()),()),((v0.1,v0.2.1.1,v0.2.1.2,(),v0.2.2.2.1,v0.2.2.2.2.1,v0.2.2.2.2.2.1,v0.2.2.2.2.2.2.1,v0.2.2.2.2.2.2.2.1,(),v0.2.2.2.2.2.2.2.2.2.1,v0.2.2.2.2.2.2.2.2.2.2.1,v0.2.2.2.2.2.2.2.2.2.2.2,()),(v1.1,v1.2.1.1,v1.2.1.2,(),v1.2.2.2.1,v1.2.2.2.2.1,v1.2.2.2.2.2.1,v1.2.2.2.2.2.2.1,v1.2.2.2.2.2.2.2.1,(),v1.2.2.2.2.2.2.2.2.2.1,v1.2.2.2.2.2.2.2.2.2.2.1,v1.2.2.2.2.2.2.2.2.2.2.2,()),()),(v1.2.2.1,v1.2.2.2.2.2.2.2.2.1,()))
def ymx (v0 v1 v2 v3:Int) (v4:List dM) (v5 v6 v7 v8 v9:Int) (v10:List dW) (v11:Int) (v12 v13:Bool) (v14 v15 v16 v17 v18 v19 v20 v21 v22:Int) (v23 v24:Bool) (v25 v26 v27 v28 v29 v30 v31 v32 v33:Int) (v34 v35:Bool) (v36:List dM) (v37:List dW):Option ((yaI).X ⊕ ((ydM).X ⊕ (yhj).X)) :=
 bif (ltb v0 (v10.length:Int)) then
 bif (inb v0 v10.length) then
 bif (inb v0 v10.length) then
 bif (zj4 ([]:List Int).length ((nth v10 v0 (0,[])).2).length 8) then
 bif (zj4 v37.length ([((nth v10 v0 (0,[])).1,(([]:List Int)++((nth v10 v0 (0,[])).2)))]:List dW).length 32) then
 some (.inl ((((),()),((),()),((),()),((IntKind.i64.wrap (v0+1)),()),()),((v1,v2,v3,v4,v5,v6,v7,v8,v9,v10,v11,v12,v13,()),(v14,v15,v16,(),v17,v18,v19,v20,v21,(),v22,v23,v24,()),(v25,v26,v27,(),v28,v29,v30,v31,v32,(),v33,v34,v35,()),()),(v36,(v37++([((nth v10 v0 (0,[])).1,(([]:List Int)++((nth v10 v0 (0,[])).2)))]:List dW)),())))
 else none
 else none
 else none
 else none
 else
 some (.inr (.inl ((((),()),((),()),()),((v14,v15,v16,(),v17,v18,v19,v20,v21,(),v22,v23,v24,()),(v25,v26,v27,(),v28,v29,v30,v31,v32,(),v33,v34,v35,()),()),(v36,v37,()))))
def ya5 (x:(yaI).X):=ymx x.1.2.2.2.1.1 x.2.1.1.1 x.2.1.1.2.1 x.2.1.1.2.2.1 x.2.1.1.2.2.2.1 x.2.1.1.2.2.2.2.1 x.2.1.1.2.2.2.2.2.1 x.2.1.1.2.2.2.2.2.2.1 x.2.1.1.2.2.2.2.2.2.2.1 x.2.1.1.2.2.2.2.2.2.2.2.1 x.2.1.1.2.2.2.2.2.2.2.2.2.1 x.2.1.1.2.2.2.2.2.2.2.2.2.2.1 x.2.1.1.2.2.2.2.2.2.2.2.2.2.2.1 x.2.1.1.2.2.2.2.2.2.2.2.2.2.2.2.1 x.2.1.2.1.1 x.2.1.2.1.2.1 x.2.1.2.1.2.2.1 x.2.1.2.1.2.2.2.2.1 x.2.1.2.1.2.2.2.2.2.1 x.2.1.2.1.2.2.2.2.2.2.1 x.2.1.2.1.2.2.2.2.2.2.2.1 x.2.1.2.1.2.2.2.2.2.2.2.2.1 x.2.1.2.1.2.2.2.2.2.2.2.2.2.2.1 x.2.1.2.1.2.2.2.2.2.2.2.2.2.2.2.1 x.2.1.2.1.2.2.2.2.2.2.2.2.2.2.2.2.1 x.2.1.2.2.1.1 x.2.1.2.2.1.2.1 x.2.1.2.2.1.2.2.1 x.2.1.2.2.1.2.2.2.2.1 x.2.1.2.2.1.2.2.2.2.2.1 x.2.1.2.2.1.2.2.2.2.2.2.1 x.2.1.2.2.1.2.2.2.2.2.2.2.1 x.2.1.2.2.1.2.2.2.2.2.2.2.2.1 x.2.1.2.2.1.2.2.2.2.2.2.2.2.2.2.1 x.2.1.2.2.1.2.2.2.2.2.2.2.2.2.2.2.1 x.2.1.2.2.1.2.2.2.2.2.2.2.2.2.2.2.2.1 x.2.2.1 x.2.2.2.1
def ytk (x:(ydW).X):(yaI).X:=((((),()),((),()),((),()),(0,()),()),((x.2.1.1.1,x.2.1.1.2.1,x.2.1.1.2.2.1,x.2.1.1.2.2.2.1,x.2.1.1.2.2.2.2.1,x.2.1.1.2.2.2.2.2.1,x.2.1.1.2.2.2.2.2.2.1,x.2.1.1.2.2.2.2.2.2.2.1,x.2.1.1.2.2.2.2.2.2.2.2.1,x.2.1.1.2.2.2.2.2.2.2.2.2.1,x.2.1.1.2.2.2.2.2.2.2.2.2.2.1,x.2.1.1.2.2.2.2.2.2.2.2.2.2.2.1,x.2.1.1.2.2.2.2.2.2.2.2.2.2.2.2.1,()),(x.2.1.2.1.1,x.2.1.2.1.2.1,x.2.1.2.1.2.2.1,(),x.2.1.2.1.2.2.2.2.1,x.2.1.2.1.2.2.2.2.2.1,x.2.1.2.1.2.2.2.2.2.2.1,x.2.1.2.1.2.2.2.2.2.2.2.1,x.2.1.2.1.2.2.2.2.2.2.2.2.1,(),x.2.1.2.1.2.2.2.2.2.2.2.2.2.2.1,x.2.1.2.1.2.2.2.2.2.2.2.2.2.2.2.1,x.2.1.2.1.2.2.2.2.2.2.2.2.2.2.2.2.1,()),(x.2.1.2.2.1.1,x.2.1.2.2.1.2.1,x.2.1.2.2.1.2.2.1,(),x.2.1.2.2.1.2.2.2.2.1,x.2.1.2.2.1.2.2.2.2.2.1,x.2.1.2.2.1.2.2.2.2.2.2.1,x.2.1.2.2.1.2.2.2.2.2.2.2.1,x.2.1.2.2.1.2.2.2.2.2.2.2.2.1,(),x.2.1.2.2.1.2.2.2.2.2.2.2.2.2.2.1,x.2.1.2.2.1.2.2.2.2.2.2.2.2.2.2.2.1,x.2.1.2.2.1.2.2.2.2.2.2.2.2.2.2.2.2.1,()),()),(x.2.2.1,x.2.2.2.1,()))
def yuK:Code:=(zdI ycr 64 1012).getD .skip
theorem yEY:zdI ycr 64 253=some (.block 2 (.loop yuK)):=by kernel_rfl
theorem yGt (x:(yaI).X):zg7 ⟨yfd,57,yqj⟩ 2 yuK 1012 yaI ydM yhj x=ya5 x:=by kernel_rfl
def ytC (x:(ydW).X):Nat:=18446744073709551616
def ynJ (x:(ydW).X):Option ((ydM).X ⊕ (yhj).X):=zr ya5 (ytC x) (ytk x)
def yt0:Seg:=⟨ydW,ydM,yhj,ynJ⟩
def yyz:Nat→Option Seg:=fun q=>bif Nat.beq q 253 then some yt0 else yqj q
theorem yHS:FrOk Tryz.prog ⟨yfd,57,yyz⟩ ycr:=(yHR).loop (sg:=yt0) yaI ytk (by decide) yEY ya5 ytC (by decide) (fun _=>rfl) (fun x r _ h=>h) yGt
abbrev yfs:List Par:= [.rd tA]
abbrev yo4:List OT:= [⟨false,tA,(.pr .fz (.pr (.pr .fz .fz) (.pr (.ow (.pr (.ow .fz) (.pr (.ow (.pr .fz .fz)) (.pr .fz (.ow .fz))))) (.pr .fz (.pr .fz (.pr .fz (.pr .fz (.pr .fz (.pr (.ow (.pr .fz .fz)) (.pr .fz (.pr .fz .fz)))))))))))⟩]
def ylj (a0:dA):Option (ResD yo4×MutD yfs) :=
 zjw (ypv ((((),()),((),()),((),()),((),()),()),((a0.1,a0.2.1.1,a0.2.1.2,a0.2.2.1,a0.2.2.2.1,a0.2.2.2.2.1,a0.2.2.2.2.2.1,a0.2.2.2.2.2.2.1,a0.2.2.2.2.2.2.2.1,a0.2.2.2.2.2.2.2.2.1,a0.2.2.2.2.2.2.2.2.2.1,a0.2.2.2.2.2.2.2.2.2.2.1,a0.2.2.2.2.2.2.2.2.2.2.2,()),(0,0,0,(),0,0,0,0,0,(),0,false,false,()),(a0.1,a0.2.1.1,a0.2.1.2,(),a0.2.2.2.1,a0.2.2.2.2.1,a0.2.2.2.2.2.1,a0.2.2.2.2.2.2.1,a0.2.2.2.2.2.2.2.1,a0.2.2.2.2.2.2.2.2.1,a0.2.2.2.2.2.2.2.2.2.1,a0.2.2.2.2.2.2.2.2.2.2.1,a0.2.2.2.2.2.2.2.2.2.2.2,()),()),(([]:List dM),()))) (fun y2 =>
 zjw (ynJ ((((),()),((),()),((),()),((),()),()),((y2.2.1.1.1,y2.2.1.1.2.1,y2.2.1.1.2.2.1,y2.2.1.1.2.2.2.1,y2.2.1.1.2.2.2.2.1,y2.2.1.1.2.2.2.2.2.1,y2.2.1.1.2.2.2.2.2.2.1,y2.2.1.1.2.2.2.2.2.2.2.1,y2.2.1.1.2.2.2.2.2.2.2.2.1,y2.2.1.1.2.2.2.2.2.2.2.2.2.1,y2.2.1.1.2.2.2.2.2.2.2.2.2.2.1,y2.2.1.1.2.2.2.2.2.2.2.2.2.2.2.1,y2.2.1.1.2.2.2.2.2.2.2.2.2.2.2.2.1,()),(y2.2.1.2.1.1,y2.2.1.2.1.2.1,y2.2.1.2.1.2.2.1,(),y2.2.1.2.1.2.2.2.2.1,y2.2.1.2.1.2.2.2.2.2.1,y2.2.1.2.1.2.2.2.2.2.2.1,y2.2.1.2.1.2.2.2.2.2.2.2.1,y2.2.1.2.1.2.2.2.2.2.2.2.2.1,(),y2.2.1.2.1.2.2.2.2.2.2.2.2.2.2.1,y2.2.1.2.1.2.2.2.2.2.2.2.2.2.2.2.1,y2.2.1.2.1.2.2.2.2.2.2.2.2.2.2.2.2.1,()),(y2.2.1.2.2.1.1,y2.2.1.2.2.1.2.1,y2.2.1.2.2.1.2.2.1,(),y2.2.1.2.2.1.2.2.2.2.1,y2.2.1.2.2.1.2.2.2.2.2.1,y2.2.1.2.2.1.2.2.2.2.2.2.1,y2.2.1.2.2.1.2.2.2.2.2.2.2.1,y2.2.1.2.2.1.2.2.2.2.2.2.2.2.1,(),y2.2.1.2.2.1.2.2.2.2.2.2.2.2.2.2.1,y2.2.1.2.2.1.2.2.2.2.2.2.2.2.2.2.2.1,y2.2.1.2.2.1.2.2.2.2.2.2.2.2.2.2.2.2.1,()),()),(y2.2.2.1,([]:List dW),()))) (fun y3 =>
 some (((y3.2.1.2.1.1,(y3.2.1.2.1.2.1,y3.2.1.2.1.2.2.1),y3.2.2.1,y3.2.1.2.1.2.2.2.2.1,y3.2.1.2.1.2.2.2.2.2.1,y3.2.1.2.1.2.2.2.2.2.2.1,y3.2.1.2.1.2.2.2.2.2.2.2.1,y3.2.1.2.1.2.2.2.2.2.2.2.2.1,y3.2.2.2.1,y3.2.1.2.1.2.2.2.2.2.2.2.2.2.2.1,y3.2.1.2.1.2.2.2.2.2.2.2.2.2.2.2.1,y3.2.1.2.1.2.2.2.2.2.2.2.2.2.2.2.2.1),()),())) (fun y3 =>
 none)) (fun y2 =>
 none)
theorem yQb (x:InD yfs):zjH ⟨yfd,57,yyz⟩ Tryz.f103.results.toList ycr yfs yo4 x=ylj x.1:=by kernel_rfl
theorem yMc:ConOk Tryz.prog 103 ⟨yfs,yo4,fun x=>ylj x.1⟩:=zkh (yHS) Tryz.func103 (by kernel_rfl) (by kernel_rfl) Tryz.ntmps103.symm (by decide) (fun x r h=>(yQb x).trans h)
def yj8 (a0:dA):dA:=a0
theorem yOm (a0:dA) (hk:zi9 yfs (a0,())):ylj a0=(fun n=>some ((n,()),())) (yj8 a0):=by
 have hb:a0.2.2.1.length * 80≤2 ^ 47:=hk.1.2.2.1.1
 have hb2:a0.2.2.2.2.2.2.2.2.1.length * 32≤2 ^ 47:=hk.1.2.2.2.2.2.2.2.2.1.1
 have hc: ∀ i,i < a0.2.2.2.2.2.2.2.2.1.length→(a0.2.2.2.2.2.2.2.2.1.getD i (0,[])).2.length * 8≤2 ^ 47:=fun i hi=>by rw [zcq hi]; exact (hk.1.2.2.2.2.2.2.2.2.1.2 _ (List.getElem_mem hi)).2.1
 have h1:=zkk (step:=ybM) a0.2.2.1 yf (fun i s=>ynS i a0 yk1 (a0.1,a0.2.1,s,a0.2.2.2)) (fun s x=>s++ [x]) (fun i s=>s.length=i) (fun s=> .inl (yFF a0 yk1 (a0.1,a0.2.1,s,a0.2.2.2))) (fun i s hi hs=>⟨by
   simp only [ybM,ynS,yob,zjI (show (i:Int) < a0.2.2.1.length by omega),cond_true,wr (show -9223372036854775808≤(i:Int)+1 by omega) (by omega),Int.natCast_add,Int.natCast_one,Int.toNat_natCast,zkO hi,zjW,yj7,zkV]
   rw [zkw.2 (show (s.length+ [a0.2.2.1.getD i ([],[],false,[])].length) * 80≤140737488355328 by simp only [List.length_cons,List.length_nil]; omega)]; rfl,by simp [hs]⟩) (fun s hs=>by simp only [ybM,ynS,yob,zkm (Int.le_refl _),cond_false]) [] rfl 18446744073709551616 (by omega)
 have h2:=zkk (step:=ya5) a0.2.2.2.2.2.2.2.2.1 (0,[]) (fun i s=>yl6 i a0 yk1 (a0.1,a0.2.1,a0.2.2.1,a0.2.2.2.1,a0.2.2.2.2.1,a0.2.2.2.2.2.1,a0.2.2.2.2.2.2.1,a0.2.2.2.2.2.2.2.1,s,a0.2.2.2.2.2.2.2.2.2)) (fun s x=>s++ [x]) (fun i s=>s.length=i) (fun s=> .inl (yD0 yk1 (a0.1,a0.2.1,a0.2.2.1,a0.2.2.2.1,a0.2.2.2.2.1,a0.2.2.2.2.2.1,a0.2.2.2.2.2.2.1,a0.2.2.2.2.2.2.2.1,s,a0.2.2.2.2.2.2.2.2.2))) (fun i s hi hs=>⟨by
   have:=hc i hi
   simp only [ya5,yl6,ymx,zjI (show (i:Int) < a0.2.2.2.2.2.2.2.2.1.length by omega),cond_true,wr (show -9223372036854775808≤(i:Int)+1 by omega) (by omega),Int.natCast_add,Int.natCast_one,Int.toNat_natCast,zkO hi,zjW,List.nil_append,zkV]
   rw [zkw.2 (show (([]:List Int).length+(a0.2.2.2.2.2.2.2.2.1.getD i (0,[])).2.length) * 8≤140737488355328 by rw [List.length_nil]; omega),zkw.2 (show (s.length+ [a0.2.2.2.2.2.2.2.2.1.getD i (0,[])].length) * 32≤140737488355328 by simp only [List.length_cons,List.length_nil]; omega)]; rfl,by simp [hs]⟩) (fun s hs=>by simp only [ya5,yl6,ymx,zkm (Int.le_refl _),cond_false]) [] rfl 18446744073709551616 (by omega)
 rw [ypA]at h1 h2
 unfold ylj yj8
 rw [show ypv (yFL a0 yk1 (a0.1,a0.2.1,[],a0.2.2.2))=_ from h1,zkJ]
 refine (congrArg (fun z=>zjw z _ _) (show ynJ (yEa a0 yk1 (a0.1,a0.2.1,a0.2.2.1,a0.2.2.2.1,a0.2.2.2.2.1,a0.2.2.2.2.2.1,a0.2.2.2.2.2.2.1,a0.2.2.2.2.2.2.2.1,[],a0.2.2.2.2.2.2.2.2.2))=_ from h2)).trans rfl
def yzl:Con:=⟨yfs,yo4,fun x=>(fun n=>some ((n,()),())) (yj8 x.1)⟩
theorem yPf:ConOk Tryz.prog 103 yzl:=(yMc).mono (fun x r hk h=>(yOm x.1 hk).trans h)
end
section
def yBM:Code:=(Tryz.f175.body).getD .skip
def yB9:Env:=zki TT [(46,yse),(121,ykZ),(135,yl)] []
theorem yH0:FrOk Tryz.prog ⟨yB9,20,fun _=>none⟩ yBM:=zkp yb yc ⟨yCh,ysi,yv,trivial⟩
def yJW:Nat→Option Seg:=fun _=>none
abbrev yjQ:List Par:= [.rd tA,.rd tI]
abbrev yo8:List OT:= [⟨false,tI,.fz⟩]
def yrG (a0:dA) (a1:Int):Option (ResD yo8×MutD yjQ) :=
 let r1:=yb3 a0
 bif (!r1) then
 some ((1,()),())
 else
 bif a0.2.2.2.2.2.2.2.2.2.2.1 then
 some ((6,()),())
 else
 let r2:=yn a0.2.1
 let r3:=ya a1 0 (IntKind.i64.wrap (r2 - 1))
 bif (!r3) then
 some ((2,()),())
 else
 some ((0,()),())
theorem yQh (x:InD yjQ):zjH ⟨yB9,20,yJW⟩ Tryz.f175.results.toList yBM yjQ yo8 x=yrG x.1 x.2.1:=by kernel_rfl
theorem yMi:ConOk Tryz.prog 175 ⟨yjQ,yo8,fun x=>yrG x.1 x.2.1⟩:=zkh (yH0) Tryz.func175 (by kernel_rfl) (by kernel_rfl) Tryz.ntmps175.symm (by decide) (fun x r h=>(yQh x).trans h)
def ykb (a0:dA) (a1:Int):Int :=
 let r1:=yb3 a0
 bif (!r1) then
 1
 else
 bif a0.2.2.2.2.2.2.2.2.2.2.1 then
 6
 else
 let r2:=yn a0.2.1
 let r3:=ya a1 0 (IntKind.i64.wrap (r2 - 1))
 bif (!r3) then
 2
 else
 0
def yzq:Con:=⟨yjQ,yo8,fun x=>(fun n=>some ((n,()),())) (ykb x.1 x.2.1)⟩
theorem yOs (a0:dA) (a1:Int):yrG a0 a1=(fun n=>some ((n,()),())) (ykb a0 a1):=zkS (p:=fun (n:Int)=>((n,()),())) (zkx (p:=fun (n:Int)=>((n,()),())) rfl (zkx (p:=fun (n:Int)=>((n,()),())) rfl (zkx (p:=fun (n:Int)=>((n,()),())) rfl rfl)))
theorem yPk:ConOk Tryz.prog 175 yzq:=(yMi).mono (fun x r _ h=>(yOs x.1 x.2.1).trans h)
theorem yR8 (a:dA) (b:Int):ykb a b=yan a b:=by
 unfold ykb yan yb3
 simp only [yKb]
 cases yI a<;>cases a.2.2.2.2.2.2.2.2.2.2.1<;>cases ygx a.2.1 b<;>rfl
end
section
def yya:Code:=(Tryz.f81.body).getD .skip
def yyK:Env:=zki TT [(103,yzl),(175,yzq),(181,yrc),(182,yAN)] []
theorem yDR:FrOk Tryz.prog ⟨yyK,31,fun _=>none⟩ yya:=zkp yb yc ⟨yPf,yPk,yA6,yRe,trivial⟩
def yEG:Nat→Option Seg:=fun _=>none
abbrev ydk:List Par:= [.rd tA,.rd tI,.rd tI]
abbrev ykQ:List OT:= [⟨false,tA,(.pr .fz (.pr (.pr .fz .fz) (.pr (.ow (.pr (.ow .fz) (.pr (.ow (.pr .fz .fz)) (.pr .fz (.ow .fz))))) (.pr .fz (.pr .fz (.pr .fz (.pr .fz (.pr .fz (.pr (.ow (.pr .fz .fz)) (.pr .fz (.pr .fz .fz)))))))))))⟩,⟨false,tI,.fz⟩]
def yhA (a0:dA) (a1 a2:Int):Option (ResD ykQ×MutD ydk) :=
 let r1:=yj8 a0
 let r2:=ykb a0 a1
 bif (r2==0) then
 let r3:=yh a2
 bif (!r3) then
 some ((r1,3,()),())
 else
 bif (r2 !=0) then
 some ((r1,r2,()),())
 else
 bnd (ymd r1 a1 a2) fun r4 =>
 some ((r4.2.1,r4.1.1,()),())
 else
 bif (r2 !=0) then
 some ((r1,r2,()),())
 else
 bnd (ymd r1 a1 a2) fun r5 =>
 some ((r5.2.1,r5.1.1,()),())
theorem yKv (x:InD ydk):zjH ⟨yyK,31,yEG⟩ Tryz.f81.results.toList yya ydk ykQ x=yhA x.1 x.2.1 x.2.2.1:=by kernel_rfl
theorem yF8:ConOk Tryz.prog 81 ⟨ydk,ykQ,fun x=>yhA x.1 x.2.1 x.2.2.1⟩:=zkh (yDR) Tryz.func81 (by kernel_rfl) (by kernel_rfl) Tryz.ntmps81.symm (by decide) (fun x r h=>(yKv x).trans h)
def ygF (a0:dA) (a1 a2:Int):dA×Int:=yxI a0 a1 a2
theorem yIG (a0:dA) (a1 a2:Int) (hk:zi9 ydk (a0,a1,a2,())):yhA a0 a1 a2=(fun n=>some ((n.1,n.2,()),())) (ygF a0 a1 a2):=by
 unfold yhA ygF yxI
 simp only [yj8,yR8,show yh a2=isW a2 by unfold yh; rw [ydr]; rfl]
 cases hc:(yan a0 a1==0)
 ·have:(yan a0 a1 !=0)=true:=bne_iff_ne.2 (beq_eq_false_iff_ne.1 hc)
  rw [this]; rfl
 ·have hc:=beq_iff_eq.1 hc
  obtain ⟨ha,hb,_⟩:=yDo hc
  rw [hc]
  cases isW a2
  ·rfl
  ·rw [yRg a0 a1 a2 (by unfold ymf; rw [ha,hb]; exact decide_eq_true (Nat.le_trans (yDp (yyO ha) (ycY ha)) (by omega)))]
   rfl
def yuW:Con:=⟨ydk,ykQ,fun x=>(fun n=>some ((n.1,n.2,()),())) (ygF x.1 x.2.1 x.2.2.1)⟩
theorem yJf:ConOk Tryz.prog 81 yuW:=(yF8).mono (fun x r hk h=>(yIG x.1 x.2.1 x.2.2.1 hk).trans h)
end
section
def yBC:Code:=(Tryz.f279.body).getD .skip
def yBZ:Env:=zki TT [] []
theorem yHy:FrOk Tryz.prog ⟨yBZ,12,fun _=>none⟩ yBC:=zkp yb yc trivial
def yJM:Nat→Option Seg:=fun _=>none
abbrev yjJ:List Par:= [.rd tL,.rd tI]
abbrev yoS:List OT:= [⟨false,tI,.fz⟩]
def yrz (a0:List Int) (a1:Int):Option (ResD yoS×MutD yjJ) :=
 bif (ltb (IntKind.i64.wrap (a1 - (a0.length:Int))) 0) then
 some (((-1),()),())
 else
 some (((IntKind.i64.wrap (a1 - (a0.length:Int))),()),())
theorem yPZ (x:InD yjJ):zjH ⟨yBZ,12,yJM⟩ Tryz.f279.results.toList yBC yjJ yoS x=yrz x.1 x.2.1:=by kernel_rfl
theorem yL0:ConOk Tryz.prog 279 ⟨yjJ,yoS,fun x=>yrz x.1 x.2.1⟩:=zkh (yHy) Tryz.func279 (by kernel_rfl) (by kernel_rfl) Tryz.ntmps279.symm (by decide) (fun x r h=>(yPZ x).trans h)
def yg (a0:List Int) (a1:Int):Int :=
 bif (ltb (IntKind.i64.wrap (a1 - (a0.length:Int))) 0) then
 (-1)
 else
 (IntKind.i64.wrap (a1 - (a0.length:Int)))
def ygz:Con:=⟨yjJ,yoS,fun x=>(fun n=>some ((n,()),())) (yg x.1 x.2.1)⟩
theorem yOa (a0:List Int) (a1:Int):yrz a0 a1=(fun n=>some ((n,()),())) (yg a0 a1):=zkS (p:=fun (n:Int)=>((n,()),())) (zkx (p:=fun (n:Int)=>((n,()),())) rfl rfl)
theorem yng:ConOk Tryz.prog 279 ygz:=(yL0).mono (fun x r _ h=>(yOa x.1 x.2.1).trans h)
theorem yzD {a:List Int} {k:Int} (hk:0≤k) (hk2:k≤1048576) (ha:a.length≤17592186044416) (h: ¬ yg a k < 0):(a.length:Int)≤k∧yg a k=k - a.length:=by
 unfold yg at h ⊢
 rw [wr (by omega) (by omega)] at h ⊢
 by_cases h1:k - (a.length:Int) < 0
 ·rw [zjI h1]at h; exact absurd (show (-1:Int) < 0 by omega) h
 ·rw [zkm (Int.not_lt.1 h1)]; exact ⟨by omega,rfl⟩
end
end
end Go.Tf
