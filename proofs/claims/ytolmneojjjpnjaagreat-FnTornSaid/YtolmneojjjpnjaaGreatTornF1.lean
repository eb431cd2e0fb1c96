/- Functions of the program, and what they come to. -/
import Derived.Test.YtolmneojjjpnjaaGreatTornF0
namespace Go.Tf
noncomputable section
open Go.Proofs Go.Proofs.Tryz IntKind
set_option synthInstance.maxHeartbeats 400000
set_option synthInstance.maxSize 10000
set_option linter.unusedVariables false
set_option linter.unusedSimpArgs false
set_option maxRecDepth 100000
def ydk:Code:=(f16.body).getD .skip
def yhU:Env:=zku TT [(55,yez),(73,yAS),(74,ypy)] []
theorem yJ5:FrOk prog ⟨yhU,109,fun _=>none⟩ ydk:=zky yf yg ⟨yhP,yRx,yEf,trivial⟩
def yAo:Nat→Option Seg:=fun _=>none
def ybA:Shape:=⟨[(0,false,[.br tM]),(1,false,[.int .i64]),(4,false,[.ptr 0 0]),(6,false,[.ptr 4160 0]),(7,false,[.bool]),(18,false,[.br tM]),(19,false,[.int .i64]),(20,false,[.int .i64])],[(0,[.int .i64,.int .i64,.int .i64,.nil,.int .i64,.int .i64,.int .i64,.int .i64,.int .i64,.nil,.int .i64,.bool,.bool]),(4160,[.int .i64,.int .i64,.int .i64,.int .i64,.int .i64,.int .i64,.int .i64,.int .i64])],[]⟩
def ye2:Shape:=⟨[(0,false,[.br tM]),(1,false,[.int .i64]),(4,false,[.ptr 0 0]),(6,false,[.ptr 4160 0]),(7,false,[.cb false]),(18,false,[.br tM]),(19,false,[.int .i64]),(20,false,[.ci .i64 0])],[(0,[.int .i64,.int .i64,.int .i64,.nil,.int .i64,.int .i64,.int .i64,.int .i64,.int .i64,.nil,.int .i64,.bool,.bool]),(4160,[.int .i64,.int .i64,.int .i64,.int .i64,.int .i64,.int .i64,.int .i64,.int .i64])],[]⟩
def yeU:Shape:=⟨[(0,false,[.br tM]),(1,false,[.int .i64]),(4,false,[.ptr 0 0]),(6,false,[.ptr 4160 0]),(7,false,[.bool])],[(0,[.int .i64,.int .i64,.int .i64,.nil,.int .i64,.int .i64,.int .i64,.int .i64,.int .i64,.nil,.int .i64,.bool,.bool]),(4160,[.int .i64,.int .i64,.int .i64,.int .i64,.int .i64,.int .i64,.int .i64,.int .i64])],[]⟩
def yix:Shape:=⟨[],[],[]⟩
abbrev yl1 (v0:List dM) (v1:Int) (v2:Bool) (v3:List dM) (v4 v5:Int) (v6:dA) (v7:dS):(ybA).X:=(((v0,()),(v1,()),((),()),((),()),(v2,()),(v3,()),(v4,()),(v5,()),()),((v6.1,v6.2.1.1,v6.2.1.2,(),v6.2.2.2.1,v6.2.2.2.2.1,v6.2.2.2.2.2.1,v6.2.2.2.2.2.2.1,v6.2.2.2.2.2.2.2.1,(),v6.2.2.2.2.2.2.2.2.2.1,v6.2.2.2.2.2.2.2.2.2.2.1,v6.2.2.2.2.2.2.2.2.2.2.2,()),(v7.1,v7.2.1,v7.2.2.1,v7.2.2.2.1,v7.2.2.2.2.1,v7.2.2.2.2.2.1,v7.2.2.2.2.2.2.1,v7.2.2.2.2.2.2.2,()),()),())
abbrev yJc (v0:List dM) (v1:Int) (v2:List dM) (v3:Int) (v4:dA) (v5:dS):(ye2).X:=(((v0,()),(v1,()),((),()),((),()),((),()),(v2,()),(v3,()),((),()),()),((v4.1,v4.2.1.1,v4.2.1.2,(),v4.2.2.2.1,v4.2.2.2.2.1,v4.2.2.2.2.2.1,v4.2.2.2.2.2.2.1,v4.2.2.2.2.2.2.2.1,(),v4.2.2.2.2.2.2.2.2.2.1,v4.2.2.2.2.2.2.2.2.2.2.1,v4.2.2.2.2.2.2.2.2.2.2.2,()),(v5.1,v5.2.1,v5.2.2.1,v5.2.2.2.1,v5.2.2.2.2.1,v5.2.2.2.2.2.1,v5.2.2.2.2.2.2.1,v5.2.2.2.2.2.2.2,()),()),())
abbrev yvN (v0:List dM) (v1:Int) (v2:Bool) (v3:dA) (v4:dS):(yeU).X:=(((v0,()),(v1,()),((),()),((),()),(v2,()),()),((v3.1,v3.2.1.1,v3.2.1.2,(),v3.2.2.2.1,v3.2.2.2.2.1,v3.2.2.2.2.2.1,v3.2.2.2.2.2.2.1,v3.2.2.2.2.2.2.2.1,(),v3.2.2.2.2.2.2.2.2.2.1,v3.2.2.2.2.2.2.2.2.2.2.1,v3.2.2.2.2.2.2.2.2.2.2.2,()),(v4.1,v4.2.1,v4.2.2.1,v4.2.2.2.1,v4.2.2.2.2.1,v4.2.2.2.2.2.1,v4.2.2.2.2.2.2.1,v4.2.2.2.2.2.2.2,()),()),())
def yme (v0:List dM) (v1:Int) (v2:Bool) (v3:List dM) (v4 v5 v6 v7 v8 v9 v10 v11 v12 v13 v14:Int) (v15 v16:Bool) (v17 v18 v19 v20 v21 v22 v23 v24:Int):Option ((ybA).X ⊕ ((yeU).X ⊕ (yix).X)) :=bif(ltb v5 v4)then bif(inb v5 v3.length)then let r2:=ydJ ((nth v3 v5 ([],[],false,[])).1,((nth v3 v5 ([],[],false,[])).2).1,(((nth v3 v5 ([],[],false,[])).2).2)) v5 v1;bif r2.2 then bif(!(!v2))then bif(ltb v18 r2.1.2.1)then some (.inl (((v0,()),(v1,()),((),()),((),()),(true,()),(v3,()),(v4,()),((i64.wrap (v5+1)),()),()),((v6,v7,v8,(),v9,v10,v11,v12,v13,(),v14,v15,v16,()),(r2.1.1,r2.1.2.1,r2.1.2.2.1,r2.1.2.2.2.1,r2.1.2.2.2.2.1,r2.1.2.2.2.2.2.1,r2.1.2.2.2.2.2.2.1,r2.1.2.2.2.2.2.2.2,()),()),())) else some (.inl (((v0,()),(v1,()),((),()),((),()),(v2,()),(v3,()),(v4,()),((i64.wrap (v5+1)),()),()),((v6,v7,v8,(),v9,v10,v11,v12,v13,(),v14,v15,v16,()),(v17,v18,v19,v20,v21,v22,v23,v24,()),()),())) else some (.inl (((v0,()),(v1,()),((),()),((),()),(true,()),(v3,()),(v4,()),((i64.wrap (v5+1)),()),()),((v6,v7,v8,(),v9,v10,v11,v12,v13,(),v14,v15,v16,()),(r2.1.1,r2.1.2.1,r2.1.2.2.1,r2.1.2.2.2.1,r2.1.2.2.2.2.1,r2.1.2.2.2.2.2.1,r2.1.2.2.2.2.2.2.1,r2.1.2.2.2.2.2.2.2,()),()),())) else some (.inl (((v0,()),(v1,()),((),()),((),()),(v2,()),(v3,()),(v4,()),((i64.wrap (v5+1)),()),()),((v6,v7,v8,(),v9,v10,v11,v12,v13,(),v14,v15,v16,()),(v17,v18,v19,v20,v21,v22,v23,v24,()),()),())) else none else some (.inr (.inl (((v0,()),(v1,()),((),()),((),()),(v2,()),()),((v6,v7,v8,(),v9,v10,v11,v12,v13,(),v14,v15,v16,()),(v17,v18,v19,v20,v21,v22,v23,v24,()),()),())))
def ybS (x:(ybA).X):=yme x.1.1.1 x.1.2.1.1 x.1.2.2.2.2.1.1 x.1.2.2.2.2.2.1.1 x.1.2.2.2.2.2.2.1.1 x.1.2.2.2.2.2.2.2.1.1 x.2.1.1.1 x.2.1.1.2.1 x.2.1.1.2.2.1 x.2.1.1.2.2.2.2.1 x.2.1.1.2.2.2.2.2.1 x.2.1.1.2.2.2.2.2.2.1 x.2.1.1.2.2.2.2.2.2.2.1 x.2.1.1.2.2.2.2.2.2.2.2.1 x.2.1.1.2.2.2.2.2.2.2.2.2.2.1 x.2.1.1.2.2.2.2.2.2.2.2.2.2.2.1 x.2.1.1.2.2.2.2.2.2.2.2.2.2.2.2.1 x.2.1.2.1.1 x.2.1.2.1.2.1 x.2.1.2.1.2.2.1 x.2.1.2.1.2.2.2.1 x.2.1.2.1.2.2.2.2.1 x.2.1.2.1.2.2.2.2.2.1 x.2.1.2.1.2.2.2.2.2.2.1 x.2.1.2.1.2.2.2.2.2.2.2.1
def yvz (x:(ye2).X):(ybA).X:=(((x.1.1.1,()),(x.1.2.1.1,()),((),()),((),()),(false,()),(x.1.2.2.2.2.2.1.1,()),(x.1.2.2.2.2.2.2.1.1,()),(0,()),()),((x.2.1.1.1,x.2.1.1.2.1,x.2.1.1.2.2.1,(),x.2.1.1.2.2.2.2.1,x.2.1.1.2.2.2.2.2.1,x.2.1.1.2.2.2.2.2.2.1,x.2.1.1.2.2.2.2.2.2.2.1,x.2.1.1.2.2.2.2.2.2.2.2.1,(),x.2.1.1.2.2.2.2.2.2.2.2.2.2.1,x.2.1.1.2.2.2.2.2.2.2.2.2.2.2.1,x.2.1.1.2.2.2.2.2.2.2.2.2.2.2.2.1,()),(x.2.1.2.1.1,x.2.1.2.1.2.1,x.2.1.2.1.2.2.1,x.2.1.2.1.2.2.2.1,x.2.1.2.1.2.2.2.2.1,x.2.1.2.1.2.2.2.2.2.1,x.2.1.2.1.2.2.2.2.2.2.1,x.2.1.2.1.2.2.2.2.2.2.2.1,()),()),())
def yxN:Code:=(zeJ ydk 64 116).getD .skip
theorem yJM:zeJ ydk 64 29=some (.block 0 (.loop yxN)):=by kernel_rfl
theorem yLr (x:(ybA).X):zhu ⟨yhU,109,yAo⟩ 0 yxN 116 ybA yeU yix x=ybS x:=by kernel_rfl
def yvH (x:(ye2).X):Nat:=18446744073709551616
def yne (x:(ye2).X):Option ((yeU).X ⊕ (yix).X):=zF ybS (yvH x) (yvz x)
def yvW:Seg:=⟨ye2,yeU,yix,yne⟩
def ypa:Nat→Option Seg:=fun q=>bif Nat.beq q 29 then some yvW else yAo q
theorem yJ6:FrOk prog ⟨yhU,109,ypa⟩ ydk:=(yJ5).loop (sg:=yvW) ybA yvz (by decide) yJM ybS yvH (by decide) (fun _=>rfl) (fun x r _ h=>h) yLr
def ybe:Shape:=⟨[(1,false,[.int .i64]),(4,false,[.ptr 0 0]),(12,false,[.ptr 46272 0]),(75,false,[.br tM]),(76,false,[.int .i64]),(77,false,[.int .i64])],[(0,[.int .i64,.int .i64,.int .i64,.nil,.int .i64,.int .i64,.int .i64,.int .i64,.int .i64,.nil,.int .i64,.bool,.bool]),(46272,[.int .i64,.int .i64,.int .i64,.at 800000000,.int .i64,.int .i64,.int .i64,.int .i64,.int .i64,.nil,.int .i64,.bool,.bool])],[(800000000,tM,(.pr (.ow (.ow .fz)) (.pr (.ow (.pr .fz (.ow .fz))) (.pr .fz (.ow .fz)))))]⟩
def yem:Shape:=⟨[(1,false,[.int .i64]),(4,false,[.ptr 0 0]),(12,false,[.ptr 46272 0]),(75,false,[.br tM]),(76,false,[.int .i64]),(77,false,[.ci .i64 0])],[(0,[.int .i64,.int .i64,.int .i64,.nil,.int .i64,.int .i64,.int .i64,.int .i64,.int .i64,.nil,.int .i64,.bool,.bool]),(46272,[.int .i64,.int .i64,.int .i64,.at 800000000,.int .i64,.int .i64,.int .i64,.int .i64,.int .i64,.nil,.int .i64,.bool,.bool])],[(800000000,tM,(.pr (.ow (.ow .fz)) (.pr (.ow (.pr .fz (.ow .fz))) (.pr .fz (.ow .fz)))))]⟩
def yeg:Shape:=⟨[(4,false,[.ptr 0 0]),(12,false,[.ptr 46272 0])],[(0,[.int .i64,.int .i64,.int .i64,.nil,.int .i64,.int .i64,.int .i64,.int .i64,.int .i64,.nil,.int .i64,.bool,.bool]),(46272,[.int .i64,.int .i64,.int .i64,.at 800000000,.int .i64,.int .i64,.int .i64,.int .i64,.int .i64,.nil,.int .i64,.bool,.bool])],[(800000000,tM,(.pr (.ow (.ow .fz)) (.pr (.ow (.pr .fz (.ow .fz))) (.pr .fz (.ow .fz)))))]⟩
def yhw:Shape:=⟨[],[],[]⟩
abbrev yk1 (v0:Int) (v1:List dM) (v2 v3:Int) (v4 v5:dA):(ybe).X:=(((v0,()),((),()),((),()),(v1,()),(v2,()),(v3,()),()),((v4.1,v4.2.1.1,v4.2.1.2,(),v4.2.2.2.1,v4.2.2.2.2.1,v4.2.2.2.2.2.1,v4.2.2.2.2.2.2.1,v4.2.2.2.2.2.2.2.1,(),v4.2.2.2.2.2.2.2.2.2.1,v4.2.2.2.2.2.2.2.2.2.2.1,v4.2.2.2.2.2.2.2.2.2.2.2,()),(v5.1,v5.2.1.1,v5.2.1.2,(),v5.2.2.2.1,v5.2.2.2.2.1,v5.2.2.2.2.2.1,v5.2.2.2.2.2.2.1,v5.2.2.2.2.2.2.2.1,(),v5.2.2.2.2.2.2.2.2.2.1,v5.2.2.2.2.2.2.2.2.2.2.1,v5.2.2.2.2.2.2.2.2.2.2.2,()),()),(v5.2.2.1,()))
abbrev yIc (v0:Int) (v1:List dM) (v2:Int) (v3 v4:dA):(yem).X:=(((v0,()),((),()),((),()),(v1,()),(v2,()),((),()),()),((v3.1,v3.2.1.1,v3.2.1.2,(),v3.2.2.2.1,v3.2.2.2.2.1,v3.2.2.2.2.2.1,v3.2.2.2.2.2.2.1,v3.2.2.2.2.2.2.2.1,(),v3.2.2.2.2.2.2.2.2.2.1,v3.2.2.2.2.2.2.2.2.2.2.1,v3.2.2.2.2.2.2.2.2.2.2.2,()),(v4.1,v4.2.1.1,v4.2.1.2,(),v4.2.2.2.1,v4.2.2.2.2.1,v4.2.2.2.2.2.1,v4.2.2.2.2.2.2.1,v4.2.2.2.2.2.2.2.1,(),v4.2.2.2.2.2.2.2.2.2.1,v4.2.2.2.2.2.2.2.2.2.2.1,v4.2.2.2.2.2.2.2.2.2.2.2,()),()),(v4.2.2.1,()))
abbrev yuJ (v0 v1:dA):(yeg).X:=((((),()),((),()),()),((v0.1,v0.2.1.1,v0.2.1.2,(),v0.2.2.2.1,v0.2.2.2.2.1,v0.2.2.2.2.2.1,v0.2.2.2.2.2.2.1,v0.2.2.2.2.2.2.2.1,(),v0.2.2.2.2.2.2.2.2.2.1,v0.2.2.2.2.2.2.2.2.2.2.1,v0.2.2.2.2.2.2.2.2.2.2.2,()),(v1.1,v1.2.1.1,v1.2.1.2,(),v1.2.2.2.1,v1.2.2.2.2.1,v1.2.2.2.2.2.1,v1.2.2.2.2.2.2.1,v1.2.2.2.2.2.2.2.1,(),v1.2.2.2.2.2.2.2.2.2.1,v1.2.2.2.2.2.2.2.2.2.2.1,v1.2.2.2.2.2.2.2.2.2.2.2,()),()),(v1.2.2.1,()))
def yld (v0:Int) (v1:List dM) (v2 v3 v4 v5 v6 v7 v8 v9 v10 v11 v12:Int) (v13 v14:Bool) (v15 v16 v17 v18 v19 v20 v21 v22 v23:Int) (v24 v25:Bool) (v26:List dM):Option ((ybe).X ⊕ ((yeg).X ⊕ (yhw).X)) :=bif(ltb v3 v2)then bif(inb v3 v1.length)then let r6:=ydJ ((nth v1 v3 ([],[],false,[])).1,((nth v1 v3 ([],[],false,[])).2).1,(((nth v1 v3 ([],[],false,[])).2).2)) v3 v0;bif r6.2 then some (.inl (((v0,()),((),()),((),()),(v1,()),(v2,()),((i64.wrap (v3+1)),()),()),((v4,v5,v6,(),v7,v8,v9,v10,v11,(),v12,v13,v14,()),(v15,v16,v17,(),v18,v19,v20,v21,v22,(),v23,v24,v25,()),()),(v26,()))) else bif(!(v18==(-1)))then bif(v18==v3)then some (.inl (((v0,()),((),()),((),()),(v1,()),(v2,()),((i64.wrap (v3+1)),()),()),((v4,v5,v6,(),v7,v8,v9,v10,v11,(),v12,v13,v14,()),(v15,v16,v17,(),v3,0,v20,v21,v22,(),v23,v24,v25,()),()),(v26,()))) else some (.inl (((v0,()),((),()),((),()),(v1,()),(v2,()),((i64.wrap (v3+1)),()),()),((v4,v5,v6,(),v7,v8,v9,v10,v11,(),v12,v13,v14,()),(v15,v16,v17,(),v18,v19,v20,v21,v22,(),v23,v24,true,()),()),(v26,()))) else some (.inl (((v0,()),((),()),((),()),(v1,()),(v2,()),((i64.wrap (v3+1)),()),()),((v4,v5,v6,(),v7,v8,v9,v10,v11,(),v12,v13,v14,()),(v15,v16,v17,(),v3,0,v20,v21,v22,(),v23,v24,v25,()),()),(v26,()))) else none else some (.inr (.inl ((((),()),((),()),()),((v4,v5,v6,(),v7,v8,v9,v10,v11,(),v12,v13,v14,()),(v15,v16,v17,(),v18,v19,v20,v21,v22,(),v23,v24,v25,()),()),(v26,()))))
def ybs (x:(ybe).X):=yld x.1.1.1 x.1.2.2.2.1.1 x.1.2.2.2.2.1.1 x.1.2.2.2.2.2.1.1 x.2.1.1.1 x.2.1.1.2.1 x.2.1.1.2.2.1 x.2.1.1.2.2.2.2.1 x.2.1.1.2.2.2.2.2.1 x.2.1.1.2.2.2.2.2.2.1 x.2.1.1.2.2.2.2.2.2.2.1 x.2.1.1.2.2.2.2.2.2.2.2.1 x.2.1.1.2.2.2.2.2.2.2.2.2.2.1 x.2.1.1.2.2.2.2.2.2.2.2.2.2.2.1 x.2.1.1.2.2.2.2.2.2.2.2.2.2.2.2.1 x.2.1.2.1.1 x.2.1.2.1.2.1 x.2.1.2.1.2.2.1 x.2.1.2.1.2.2.2.2.1 x.2.1.2.1.2.2.2.2.2.1 x.2.1.2.1.2.2.2.2.2.2.1 x.2.1.2.1.2.2.2.2.2.2.2.1 x.2.1.2.1.2.2.2.2.2.2.2.2.1 x.2.1.2.1.2.2.2.2.2.2.2.2.2.2.1 x.2.1.2.1.2.2.2.2.2.2.2.2.2.2.2.1 x.2.1.2.1.2.2.2.2.2.2.2.2.2.2.2.2.1 x.2.2.1
def yun (x:(yem).X):(ybe).X:=(((x.1.1.1,()),((),()),((),()),(x.1.2.2.2.1.1,()),(x.1.2.2.2.2.1.1,()),(0,()),()),((x.2.1.1.1,x.2.1.1.2.1,x.2.1.1.2.2.1,(),x.2.1.1.2.2.2.2.1,x.2.1.1.2.2.2.2.2.1,x.2.1.1.2.2.2.2.2.2.1,x.2.1.1.2.2.2.2.2.2.2.1,x.2.1.1.2.2.2.2.2.2.2.2.1,(),x.2.1.1.2.2.2.2.2.2.2.2.2.2.1,x.2.1.1.2.2.2.2.2.2.2.2.2.2.2.1,x.2.1.1.2.2.2.2.2.2.2.2.2.2.2.2.1,()),(x.2.1.2.1.1,x.2.1.2.1.2.1,x.2.1.2.1.2.2.1,(),x.2.1.2.1.2.2.2.2.1,x.2.1.2.1.2.2.2.2.2.1,x.2.1.2.1.2.2.2.2.2.2.1,x.2.1.2.1.2.2.2.2.2.2.2.1,x.2.1.2.1.2.2.2.2.2.2.2.2.1,(),x.2.1.2.1.2.2.2.2.2.2.2.2.2.2.1,x.2.1.2.1.2.2.2.2.2.2.2.2.2.2.2.1,x.2.1.2.1.2.2.2.2.2.2.2.2.2.2.2.2.1,()),()),(x.2.2.1,()))
def yvp:Code:=(zeJ ydk 64 1012).getD .skip
theorem yIT:zeJ ydk 64 253=some (.block 2 (.loop yvp)):=by kernel_rfl
theorem yJw (x:(ybe).X):zhu ⟨yhU,109,ypa⟩ 2 yvp 1012 ybe yeg yhw x=ybs x:=by kernel_rfl
def yuv (x:(yem).X):Nat:=18446744073709551616
def ylS (x:(yem).X):Option ((yeg).X ⊕ (yhw).X):=zF ybs (yuv x) (yun x)
def yve:Seg:=⟨yem,yeg,yhw,ylS⟩
def yL3:Nat→Option Seg:=fun q=>bif Nat.beq q 253 then some yve else ypa q
theorem yJ7:FrOk prog ⟨yhU,109,yL3⟩ ydk:=(yJ6).loop (sg:=yve) ybe yun (by decide) yIT ybs yuv (by decide) (fun _=>rfl) (fun x r _ h=>h) yJw
abbrev ymr:List Par:= [.rd tMs,.rd tI]
abbrev ytC:List OT:= [⟨false,tA,(.pr .fz (.pr (.pr .fz .fz) (.pr (.ow (.pr (.ow (.ow .fz)) (.pr (.ow (.pr .fz (.ow .fz))) (.pr .fz (.ow .fz))))) (.pr .fz (.pr .fz (.pr .fz (.pr .fz (.pr .fz (.pr (.ow (.pr .fz (.ow .fz))) (.pr .fz (.pr .fz .fz)))))))))))⟩,⟨false,tB,.fz⟩]
def ypS (a0:List dM) (a1:Int):Option (zaY ytC×zak ymr) :=zkr (yne (((a0,()),(a1,()),((),()),((),()),((),()),(a0,()),((a0.length:Int),()),((),()),()),((0,0,0,(),0,0,0,0,0,(),0,false,false,()),(0,0,0,0,0,0,0,0,()),()),())) (fun y2 =>bif(!(!y2.1.2.2.2.2.1.1))then bif((y2.1.1.1.length:Int) !=y2.2.1.2.1.2.2.2.1)then some (((0,(0,0),[],0,0,0,0,0,[],0,false,false),false,()),()) else let r4:=yfv y2.1.1.1;zkr (ylS (((y2.1.2.1.1,()),((),()),((),()),(y2.1.1.1,()),((y2.1.1.1.length:Int),()),((),()),()),((y2.2.1.1.1,y2.2.1.1.2.1,y2.2.1.1.2.2.1,(),y2.2.1.1.2.2.2.2.1,y2.2.1.1.2.2.2.2.2.1,y2.2.1.1.2.2.2.2.2.2.1,y2.2.1.1.2.2.2.2.2.2.2.1,y2.2.1.1.2.2.2.2.2.2.2.2.1,(),y2.2.1.1.2.2.2.2.2.2.2.2.2.2.1,y2.2.1.1.2.2.2.2.2.2.2.2.2.2.2.1,y2.2.1.1.2.2.2.2.2.2.2.2.2.2.2.2.1,()),(y2.1.2.1.1,y2.2.1.2.1.2.2.2.1,y2.2.1.2.1.2.2.2.2.1,(),y2.2.1.2.1.2.2.2.2.2.2.1,y2.2.1.2.1.2.2.2.2.2.2.2.1,y2.2.1.2.1.2.2.2.2.2.1,y2.2.1.2.1.2.2.2.2.2.1,y2.2.1.2.1.2.1,(),(-1),false,false,()),()),(r4,()))) (fun y6 =>let r8:=yO (y6.2.1.2.1.1,(y6.2.1.2.1.2.1,y6.2.1.2.1.2.2.1),y6.2.2.1,y6.2.1.2.1.2.2.2.2.1,y6.2.1.2.1.2.2.2.2.2.1,y6.2.1.2.1.2.2.2.2.2.2.1,y6.2.1.2.1.2.2.2.2.2.2.2.1,y6.2.1.2.1.2.2.2.2.2.2.2.2.1,[],y6.2.1.2.1.2.2.2.2.2.2.2.2.2.2.1,y6.2.1.2.1.2.2.2.2.2.2.2.2.2.2.2.1,y6.2.1.2.1.2.2.2.2.2.2.2.2.2.2.2.2.1);bif(!r8)then some (((0,(0,0),[],0,0,0,0,0,[],0,false,false),false,()),()) else some (((y6.2.1.2.1.1,(y6.2.1.2.1.2.1,y6.2.1.2.1.2.2.1),y6.2.2.1,y6.2.1.2.1.2.2.2.2.1,y6.2.1.2.1.2.2.2.2.2.1,y6.2.1.2.1.2.2.2.2.2.2.1,y6.2.1.2.1.2.2.2.2.2.2.2.1,y6.2.1.2.1.2.2.2.2.2.2.2.2.1,[],y6.2.1.2.1.2.2.2.2.2.2.2.2.2.2.1,y6.2.1.2.1.2.2.2.2.2.2.2.2.2.2.2.1,y6.2.1.2.1.2.2.2.2.2.2.2.2.2.2.2.2.1),true,()),())) (fun y6 =>none) else some (((0,(0,0),[],0,0,0,0,0,[],0,false,false),false,()),())) (fun y2 =>none)
theorem yNz:ConOk prog 16 ⟨ymr,ytC,fun x=>ypS x.1 x.2.1⟩:=zkG (yJ7) func16 ntmps16.symm fun x=>by kernel_rfl
def yiS (a0:List dM) (a1:Int):dA×Bool:=yfI a0 a1
theorem yQA (a0:List dM) (a1:Int) (hk:zjw ymr (a0,a1,())):ypS a0 a1=(fun n=>some ((n.1,n.2,()),())) (yiS a0 a1):=by
 have hb:a0.length*80≤2^47:=hk.1.1
 have h0:yne (yJc a0 a1 a0 a0.length yaD yeE)=some (.inl (yvN a0 a1 (ydF a0 a1).2 yaD (ydF a0 a1).1)) :=
  zkB (step:=ybS) a0.length (fun i (s:dS×Bool)=>yl1 a0 a1 s.2 a0 a0.length i yaD s.1) (fun(s:dS×Bool) (i:Nat)=>ylq s (yhC (nth a0 i yc) i a1) (yaq (nth a0 i yc) a1).1) (fun _ _=>True) (fun(s:dS×Bool)=> .inl (yvN a0 a1 s.2 yaD s.1)) (fun i s hi _=>⟨by
  simp only[ybS,yl1,yme,zkw (show(i:Int)<a0.length by omega),cond_true,wq ((i:Int)+1) (by omega) (by omega),Int.natCast_add,Int.natCast_one,Int.toNat_natCast,zkP hi,zkV,ydJ];cases yhC (nth a0 i yc) i a1
  ·rfl
  simp only[cond_true];unfold ylq
  cases hf:s.2<;>cases ltb s.1.2.1 (yaq (nth a0 i yc) a1).1.2.1<;>simp only[Bool.not_true,Bool.not_false,cond_true,cond_false,Bool.and_true,Bool.true_and,Bool.false_and,Bool.and_false,Bool.or_true,Bool.true_or,Bool.false_or,Bool.or_false,hf],trivial⟩) (fun s _=>by simp only[ybS,yl1,yme,zk1 (Int.le_refl _),cond_false]) (yeE,false) trivial _ (by show _<18446744073709551616; omega)
 have h1: ∀(b:dS) (s:Int×Int×Bool),ylS (yIc a1 a0 a0.length yaD (yt2 b a0 a1 s))=some (.inl (yuJ yaD (yt2 b a0 a1 ((List.range a0.length).foldl (yj3 a0 a1) s)))):=fun b s =>
  zkB (step:=ybs) a0.length (fun i s=>yk1 a1 a0 a0.length i yaD (yt2 b a0 a1 s)) (yj3 a0 a1) (fun _ _=>True) (fun s=> .inl (yuJ yaD (yt2 b a0 a1 s))) (fun i s hi _=>⟨by
   simp only[ybs,yk1,yld,zkw (show(i:Int)<a0.length by omega),cond_true,wq ((i:Int)+1) (by omega) (by omega),Int.natCast_add,Int.natCast_one,Int.toNat_natCast,zkP hi,zkV,ydJ,yt2];unfold yj3
   cases yhC (nth a0 i yc) i a1<;>cases(s.1== -1)<;>cases(s.1==(i:Int))<;>rfl,trivial⟩) (fun s _=>by simp only[ybs,yk1,yld,zk1 (Int.le_refl _),cond_false]) s trivial _ (by show _<18446744073709551616; omega)
 unfold ypS yiS yfI yGX;refine(congrArg (fun z=>zkr z _ _) h0).trans ?_;simp only[zkL,yfv,bne];cases(ydF a0 a1).2
 ·rfl
 cases((a0.length:Int)==(ydF a0 a1).1.2.2.2.1)
 ·rfl
 have h2:=h1 (ydF a0 a1).1 ((ydF a0 a1).1.2.2.2.2.2.2.1,(ydF a0 a1).1.2.2.2.2.2.2.2,false);simp only[Bool.not_true,Bool.not_false,cond_true,cond_false,Bool.true_and];refine(congrArg (fun z=>zkr z _ _) h2).trans ?_;simp only[zkL,yO];show(bif !(yal (yt2 (ydF a0 a1).1 a0 a1 ((List.range a0.length).foldl (yj3 a0 a1) ((ydF a0 a1).1.2.2.2.2.2.2.1,(ydF a0 a1).1.2.2.2.2.2.2.2,false))))then _ else _)=_;cases yal (yt2 (ydF a0 a1).1 a0 a1 ((List.range a0.length).foldl (yj3 a0 a1) ((ydF a0 a1).1.2.2.2.2.2.2.1,(ydF a0 a1).1.2.2.2.2.2.2.2,false)))<;>rfl
def yAK:Con:=⟨ymr,ytC,fun x=>(fun n=>some ((n.1,n.2,()),())) (yiS x.1 x.2.1)⟩
theorem yRp:ConOk prog 16 yAK:=(yNz).mono (fun x r hk h=>(yQA x.1 x.2.1 hk).trans h)
def yZb:Code:=(f88.body).getD .skip
def yZI:Env:=zku TT [] []
theorem yPh:FrOk prog ⟨yZI,8,fun _=>none⟩ yZb:=zky yf yg trivial
abbrev yzb:List Par:= [.rd tI]
abbrev yzC:List OT:= [⟨false,tI,.fz⟩]
def yF1 (a0:Int):Option (zaY yzC×zak yzb) :=bif(ltb a0 0)then some (((-1),()),()) else some (((i64.wrap (2+(a0.tmod 4))),()),())
theorem yUD:ConOk prog 88 ⟨yzb,yzC,fun x=>yF1 x.1⟩:=zkG (yPh) func88 ntmps88.symm fun x=>by kernel_rfl
def ylB (a0:Int):Int :=bif(ltb a0 0)then (-1) else (i64.wrap (2+(a0.tmod 4)))
def yua:Con:=⟨yzb,yzC,fun x=>(fun n=>some ((n,()),())) (ylB x.1)⟩
theorem yW3 (a0:Int):yF1 a0=(fun n=>some ((n,()),())) (ylB a0):=zkT (p:=fun(n:Int)=>((n,()),())) (zkE (p:=fun(n:Int)=>((n,()),())) rfl rfl)
theorem yHr:ConOk prog 88 yua:=(yUD).mono (fun x r _ h=>(yW3 x.1).trans h)
def yZt:Code:=(f226.body).getD .skip
def yZ0:Env:=zku TT [(82,yM)] []
theorem yPH:FrOk prog ⟨yZ0,5,fun _=>none⟩ yZt:=zky yf yg ⟨yX,trivial⟩
abbrev yzp:List Par:= [.rd tI]
abbrev yzV:List OT:= [⟨false,tB,.fz⟩]
def yGc (a0:Int):Option (zaY yzV×zak yzp) :=let r1:=yb a0 0 65535;some ((r1,()),())
theorem yUY:ConOk prog 226 ⟨yzp,yzV,fun x=>yGc x.1⟩:=zkG (yPH) func226 ntmps226.symm fun x=>by kernel_rfl
def yaI (a0:Int):Bool :=let r1:=yb a0 0 65535;r1
def yFx:Con:=⟨yzp,yzV,fun x=>(fun n=>some ((n,()),())) (yaI x.1)⟩
theorem yXl (a0:Int):yGc a0=(fun n=>some ((n,()),())) (yaI a0):=zkT (p:=fun(n:Bool)=>((n,()),())) rfl
theorem yX8:ConOk prog 226 yFx:=(yUY).mono (fun x r _ h=>(yXl x.1).trans h)
def yor:Code:=(f200.body).getD .skip
def ywe:Env:=zku TT [(226,yFx)] []
theorem yMX:FrOk prog ⟨ywe,16,fun _=>none⟩ yor:=zky yf yg ⟨yX8,trivial⟩
def yCh:Nat→Option Seg:=fun _=>none
def ydO:Shape:=⟨[(0,false,[.br tI]),(3,false,[.int .i64])],[],[]⟩
def yjo:Shape:=⟨[(0,false,[.br tI]),(3,false,[.ci .i64 0])],[],[]⟩
def yjm:Shape:=⟨[],[],[]⟩
def yjy:Shape:=⟨[(2,false,[.bool])],[],[]⟩
def yoe (v0:List Int) (v1:Int):Option ((ydO).X ⊕ ((yjm).X ⊕ (yjy).X)) :=bif(ltb v1 (v0.length:Int))then bif(inb v1 v0.length)then let r2:=yaI (nth v0 v1 0);bif(!r2)then some (.inr (.inr (((false,()),()),(),()))) else some (.inl (((v0,()),((i64.wrap (v1+1)),()),()),(),())) else none else some (.inr (.inl ((),(),())))
def ycu (x:(ydO).X):=yoe x.1.1.1 x.1.2.1.1
def yya (x:(yjo).X):(ydO).X:=(((x.1.1.1,()),(0,()),()),(),())
def yAF:Code:=(zeJ yor 64 52).getD .skip
theorem yMo:zeJ yor 64 13=some (.block 0 (.loop yAF)):=by kernel_rfl
theorem yOa (x:(ydO).X):zhu ⟨ywe,16,yCh⟩ 0 yAF 52 ydO yjm yjy x=ycu x:=by kernel_rfl
def yyq (x:(yjo).X):Nat:=18446744073709551616
def ypn (x:(yjo).X):Option ((yjm).X ⊕ (yjy).X):=zF ycu (yyq x) (yya x)
def yyU:Seg:=⟨yjo,yjm,yjy,ypn⟩
def yOI:Nat→Option Seg:=fun q=>bif Nat.beq q 13 then some yyU else yCh q
theorem yMY:FrOk prog ⟨ywe,16,yOI⟩ yor:=(yMX).loop (sg:=yyU) ydO yya (by decide) yMo ycu yyq (by decide) (fun _=>rfl) (fun x r _ h=>h) yOa
abbrev yoF:List Par:= [.rd tL]
abbrev ywN:List OT:= [⟨false,tB,.fz⟩]
def yr7 (a0:List Int):Option (zaY ywN×zak yoF) :=zkr (ypn (((a0,()),((),()),()),(),())) (fun y2 =>some ((true,()),())) (fun y2 =>some ((y2.1.1.1,()),()))
theorem yRh:ConOk prog 200 ⟨yoF,ywN,fun x=>yr7 x.1⟩:=zkG (yMY) func200 ntmps200.symm fun x=>by kernel_rfl
def yar (a0:List Int):Bool:=a0.all yaI
theorem yUo (a0:List Int) (hk:zjw yoF (a0,())):yr7 a0=(fun n=>some ((n,()),())) (yar a0):=by
 have hb:a0.length*8≤2^47:=hk.1.1
 have hl:ypn (((a0,()),((),()),()),(),())=some (bif a0.all yaI then .inl ((),(),())else .inr (((false,()),()),(),())) :=
  zj7 (step:=ycu) a0 0 (fun i=>(((a0,()),((i:Int),()),()),(),())) yaI _ _ (fun i hi=>by
   simp only[ycu,yoe,zkP hi,zkQ,zkw (show(i:Int)<a0.length by omega),cond_true,wq ((i:Int)+1) (by omega) (by omega),Int.natCast_add,Int.natCast_one]
   cases yaI (a0.getD i 0)<;>rfl) (by simp only[ycu,yoe,zk1 (Int.le_refl _),cond_false]) _ (by show _<18446744073709551616; omega)
 unfold yr7 yar;rw[hl];cases a0.all yaI<;>rfl
def yhf:Con:=⟨yoF,ywN,fun x=>(fun n=>some ((n,()),())) (yar x.1)⟩
theorem ym7:ConOk prog 200 yhf:=(yRh).mono (fun x r hk h=>(yUo x.1 hk).trans h)
def yos:Code:=(f152.body).getD .skip
def ywf:Env:=zku TT [(82,yM),(200,yhf)] []
theorem yMZ:FrOk prog ⟨ywf,57,fun _=>none⟩ yos:=zky yf yg ⟨yX,ym7,trivial⟩
def yCi:Nat→Option Seg:=fun _=>none
def yb8:Shape:=⟨[(1,false,[.ptr 0 0]),(3,false,[.int .i64])],[(0,[.int .i64,.int .i64,.int .i64,.br tM,.int .i64,.int .i64,.int .i64,.int .i64,.int .i64,.br tW,.int .i64,.bool,.bool])],[]⟩
def ygd:Shape:=⟨[(1,false,[.ptr 0 0]),(3,false,[.ci .i64 0])],[(0,[.int .i64,.int .i64,.int .i64,.br tM,.int .i64,.int .i64,.int .i64,.int .i64,.int .i64,.br tW,.int .i64,.bool,.bool])],[]⟩
def yf0:Shape:=⟨[],[],[]⟩
def ygk:Shape:=⟨[(2,false,[.bool])],[],[]⟩
abbrev ynN (v0:Int) (v1:dA):(yb8).X:=((((),()),(v0,()),()),((v1.1,v1.2.1.1,v1.2.1.2,v1.2.2.1,v1.2.2.2.1,v1.2.2.2.2.1,v1.2.2.2.2.2.1,v1.2.2.2.2.2.2.1,v1.2.2.2.2.2.2.2.1,v1.2.2.2.2.2.2.2.2.1,v1.2.2.2.2.2.2.2.2.2.1,v1.2.2.2.2.2.2.2.2.2.2.1,v1.2.2.2.2.2.2.2.2.2.2.2,()),()),())
abbrev yKY (v0:dA):(ygd).X:=((((),()),((),()),()),((v0.1,v0.2.1.1,v0.2.1.2,v0.2.2.1,v0.2.2.2.1,v0.2.2.2.2.1,v0.2.2.2.2.2.1,v0.2.2.2.2.2.2.1,v0.2.2.2.2.2.2.2.1,v0.2.2.2.2.2.2.2.2.1,v0.2.2.2.2.2.2.2.2.2.1,v0.2.2.2.2.2.2.2.2.2.2.1,v0.2.2.2.2.2.2.2.2.2.2.2,()),()),())
abbrev yKL  :(yf0).X:=((),(),())
abbrev yK4 (v0:Bool):(ygk).X:=(((v0,()),()),(),())
def yof (v0 v1 v2 v3:Int) (v4:List dM) (v5 v6 v7 v8 v9:Int) (v10:List dW) (v11:Int) (v12 v13:Bool):Option ((yb8).X ⊕ ((yf0).X ⊕ (ygk).X)) :=bif(ltb v0 (v10.length:Int))then bif(inb v0 v10.length)then let r3:=yb ((nth v10 v0 (0,[])).1) 0 (i64.wrap (v3-1));bif(!(!r3))then bif(!((((nth v10 v0 (0,[])).2).length:Int) !=(i64.wrap (v2-1))))then let r4:=yar ((nth v10 v0 (0,[])).2);bif(!(!r4))then bif(ltb 0 v0)then bif(inb (i64.wrap (v0-1)) v10.length)then bif(leb ((nth v10 v0 (0,[])).1) ((nth v10 (i64.wrap (v0-1)) (0,[])).1))then some (.inr (.inr (((false,()),()),(),()))) else some (.inl ((((),()),((i64.wrap (v0+1)),()),()),((v1,v2,v3,v4,v5,v6,v7,v8,v9,v10,v11,v12,v13,()),()),())) else none else some (.inl ((((),()),((i64.wrap (v0+1)),()),()),((v1,v2,v3,v4,v5,v6,v7,v8,v9,v10,v11,v12,v13,()),()),())) else some (.inr (.inr (((false,()),()),(),()))) else some (.inr (.inr (((false,()),()),(),()))) else some (.inr (.inr (((false,()),()),(),()))) else none else some (.inr (.inl ((),(),())))
def ycv (x:(yb8).X):=yof x.1.2.1.1 x.2.1.1.1 x.2.1.1.2.1 x.2.1.1.2.2.1 x.2.1.1.2.2.2.1 x.2.1.1.2.2.2.2.1 x.2.1.1.2.2.2.2.2.1 x.2.1.1.2.2.2.2.2.2.1 x.2.1.1.2.2.2.2.2.2.2.1 x.2.1.1.2.2.2.2.2.2.2.2.1 x.2.1.1.2.2.2.2.2.2.2.2.2.1 x.2.1.1.2.2.2.2.2.2.2.2.2.2.1 x.2.1.1.2.2.2.2.2.2.2.2.2.2.2.1 x.2.1.1.2.2.2.2.2.2.2.2.2.2.2.2.1
def yyb (x:(ygd).X):(yb8).X:=((((),()),(0,()),()),((x.2.1.1.1,x.2.1.1.2.1,x.2.1.1.2.2.1,x.2.1.1.2.2.2.1,x.2.1.1.2.2.2.2.1,x.2.1.1.2.2.2.2.2.1,x.2.1.1.2.2.2.2.2.2.1,x.2.1.1.2.2.2.2.2.2.2.1,x.2.1.1.2.2.2.2.2.2.2.2.1,x.2.1.1.2.2.2.2.2.2.2.2.2.1,x.2.1.1.2.2.2.2.2.2.2.2.2.2.1,x.2.1.1.2.2.2.2.2.2.2.2.2.2.2.1,x.2.1.1.2.2.2.2.2.2.2.2.2.2.2.2.1,()),()),())
def yAG:Code:=(zeJ yos 64 52).getD .skip
theorem yMp:zeJ yos 64 13=some (.block 0 (.loop yAG)):=by kernel_rfl
theorem yOb (x:(yb8).X):zhu ⟨ywf,57,yCi⟩ 0 yAG 52 yb8 yf0 ygk x=ycv x:=by kernel_rfl
def yyr (x:(ygd).X):Nat:=18446744073709551616
def ypo (x:(ygd).X):Option ((yf0).X ⊕ (ygk).X):=zF ycv (yyr x) (yyb x)
def yyV:Seg:=⟨ygd,yf0,ygk,ypo⟩
def yOJ:Nat→Option Seg:=fun q=>bif Nat.beq q 13 then some yyV else yCi q
theorem yM0:FrOk prog ⟨ywf,57,yOJ⟩ yos:=(yMZ).loop (sg:=yyV) yb8 yyb (by decide) yMp ycv yyr (by decide) (fun _=>rfl) (fun x r _ h=>h) yOb
abbrev yjN:List Par:= [.rd tA]
abbrev yoK:List OT:= [⟨false,tB,.fz⟩]
def yr8 (a0:dA):Option (zaY yoK×zak yjN) :=zkr (ypo ((((),()),((),()),()),((a0.1,a0.2.1.1,a0.2.1.2,a0.2.2.1,a0.2.2.2.1,a0.2.2.2.2.1,a0.2.2.2.2.2.1,a0.2.2.2.2.2.2.1,a0.2.2.2.2.2.2.2.1,a0.2.2.2.2.2.2.2.2.1,a0.2.2.2.2.2.2.2.2.2.1,a0.2.2.2.2.2.2.2.2.2.2.1,a0.2.2.2.2.2.2.2.2.2.2.2,()),()),())) (fun y4 =>some ((true,()),())) (fun y4 =>some ((y4.1.1.1,()),()))
theorem yRi:ConOk prog 152 ⟨yjN,yoK,fun x=>yr8 x.1⟩:=zkG (yM0) func152 ntmps152.symm fun x=>by kernel_rfl
def ykh (a0:dA):Bool:=yaT a0.2.1 a0.2.2.2.2.2.2.2.2.1
def yw7 (a0:dA):Bool:=yd a0.2.1
theorem yhR (l:List Int):yar l=l.all isW:=by
 unfold yar;rw[show yaI=isW from funext fun x=>by unfold yaI; rw[ybM]; rfl]
theorem yUp (a0:dA) (hk:zjw yjN (a0,())) (hq:yw7 a0=true):yr8 a0=(fun n=>some ((n,()),())) (ykh a0):=by
 have hb:a0.2.2.2.2.2.2.2.2.1.length*32≤2^47:=hk.1.2.2.2.2.2.2.2.2.1.1;have hg:=yl.1 hq
 have h1:ypo (yKY a0)=some (bif(List.range a0.2.2.2.2.2.2.2.2.1.length).any (yhI a0.2.1 a0.2.2.2.2.2.2.2.2.1)then .inr (yK4 false)else .inl yKL) :=
  zjh (step:=ycv) (fun i=>ynN i a0) a0.2.2.2.2.2.2.2.2.1.length (yhI a0.2.1 a0.2.2.2.2.2.2.2.2.1) _ _ (fun i hi=>by
   simp only[ycv,ynN,yof,zkw (show(i:Int)<a0.2.2.2.2.2.2.2.2.1.length by omega),cond_true,wq ((i:Int)+1) (by omega) (by omega),Int.natCast_add,Int.natCast_one,Int.toNat_natCast,zkP hi,ybM,yhR,wq (a0.2.1.2-1) (by omega) (by omega),wq (a0.2.1.1-1) (by omega) (by omega),yhI];rcases Nat.eq_zero_or_pos i with rfl | h0
   ·cases(leb 0 (nth a0.2.2.2.2.2.2.2.2.1 ((0:Nat):Int) (0,[])).1&&leb (nth a0.2.2.2.2.2.2.2.2.1 ((0:Nat):Int) (0,[])).1 (a0.2.1.2-1))<;>cases(((nth a0.2.2.2.2.2.2.2.2.1 ((0:Nat):Int) (0,[])).2.length:Int) !=a0.2.1.1-1)<;>cases((nth a0.2.2.2.2.2.2.2.2.1 ((0:Nat):Int) (0,[])).2.all isW)<;>rfl
   ·rw[show i64.wrap ((i:Int)-1)=((i-1:Nat):Int)by rw[wr (by omega) (by omega)]; omega,zkP (show i-1<a0.2.2.2.2.2.2.2.2.1.length by omega),zkw (show(0:Int)<i by omega),decide_eq_true h0]
    cases(leb 0 (nth a0.2.2.2.2.2.2.2.2.1 (i:Int) (0,[])).1&&leb (nth a0.2.2.2.2.2.2.2.2.1 (i:Int) (0,[])).1 (a0.2.1.2-1))<;>cases(((nth a0.2.2.2.2.2.2.2.2.1 (i:Int) (0,[])).2.length:Int) !=a0.2.1.1-1)<;>cases((nth a0.2.2.2.2.2.2.2.2.1 (i:Int) (0,[])).2.all isW)<;>cases leb (nth a0.2.2.2.2.2.2.2.2.1 (i:Int) (0,[])).1 (nth a0.2.2.2.2.2.2.2.2.1 ((i-1:Nat):Int) (0,[])).1<;>rfl) (by simp only[ycv,ynN,yof,zk1 (Int.le_refl _),cond_false]) _ (by show _<18446744073709551616; omega)
 unfold yr8 ykh yaT;rw[h1];cases(List.range a0.2.2.2.2.2.2.2.2.1.length).any (yhI a0.2.1 a0.2.2.2.2.2.2.2.2.1)<;>rfl
def yo4 (a0:dA):Option (zaY yoK×zak yjN):=bif yw7 a0 then(fun n=>some ((n,()),())) (ykh a0)else none
theorem yVw (a0:dA) (h:yw7 a0=true):yo4 a0=(fun n=>some ((n,()),())) (ykh a0):=by unfold yo4; rw[h]; rfl
def yDt:Con:=⟨yjN,yoK,fun x=>yo4 x.1⟩
theorem yVp:ConOk prog 152 yDt:=(yRi).mono (fun x r hk h=>zkW h (fun hq=>yUp x.1 hk hq))
def y0S:Code:=(f159.body).getD .skip
def y03:Env:=zku TT [(81,yN),(187,ykX)] []
theorem yTh:FrOk prog ⟨y03,22,fun _=>none⟩ y0S:=zky yf yg ⟨y9,yuR,trivial⟩
abbrev yCw:List Par:= [.rd tN]
abbrev yCH:List OT:= [⟨false,tB,.fz⟩]
def yHG (a0:dN):Option (zaY yCH×zak yCw) :=let r1:=yi a0.1 0 60000;bif r1 then let r2:=yi a0.2.1 0 7;bif r2 then let r3:=yi (a0.2.2.length:Int) 2 4;bif r3 then let r4:=yaA a0.2.2;some ((r4,()),()) else some ((false,()),()) else some ((false,()),()) else some ((false,()),())
theorem yXz:ConOk prog 159 ⟨yCw,yCH,fun x=>yHG x.1⟩:=zkG (yTh) func159 ntmps159.symm fun x=>by kernel_rfl
def ykc (a0:dN):Bool :=let r1:=yi a0.1 0 60000;bif r1 then let r2:=yi a0.2.1 0 7;bif r2 then let r3:=yi (a0.2.2.length:Int) 2 4;bif r3 then let r4:=yaA a0.2.2;r4 else false else false else false
def ywR:Con:=⟨yCw,yCH,fun x=>(fun n=>some ((n,()),())) (ykc x.1)⟩
theorem y0b (a0:dN):yHG a0=(fun n=>some ((n,()),())) (ykc a0):=zkT (p:=fun(n:Bool)=>((n,()),())) (zkE (p:=fun(n:Bool)=>((n,()),())) (zkE (p:=fun(n:Bool)=>((n,()),())) (zkE (p:=fun(n:Bool)=>((n,()),())) rfl rfl) rfl) rfl)
theorem yII:ConOk prog 159 ywR:=(yXz).mono (fun x r _ h=>(y0b x.1).trans h)
def y0W:Code:=(f162.body).getD .skip
def y07:Env:=zku TT [(82,yM),(200,yhf)] []
theorem yTv:FrOk prog ⟨y07,22,fun _=>none⟩ y0W:=zky yf yg ⟨yX,ym7,trivial⟩
abbrev yCz:List Par:= [.rd tN]
abbrev yCP:List OT:= [⟨false,tB,.fz⟩]
def yHJ (a0:dN):Option (zaY yCP×zak yCz) :=let r1:=yb a0.1 0 60000;bif r1 then let r2:=yb a0.2.1 0 7;bif r2 then let r3:=yb (a0.2.2.length:Int) 2 4;bif r3 then let r4:=yar a0.2.2;some ((r4,()),()) else some ((false,()),()) else some ((false,()),()) else some ((false,()),())
theorem yXH:ConOk prog 162 ⟨yCz,yCP,fun x=>yHJ x.1⟩:=zkG (yTv) func162 ntmps162.symm fun x=>by kernel_rfl
def yW (a0:dN):Bool :=let r1:=yb a0.1 0 60000;bif r1 then let r2:=yb a0.2.1 0 7;bif r2 then let r3:=yb (a0.2.2.length:Int) 2 4;bif r3 then let r4:=yar a0.2.2;r4 else false else false else false
def yG5:Con:=⟨yCz,yCP,fun x=>(fun n=>some ((n,()),())) (yW x.1)⟩
theorem y0j (a0:dN):yHJ a0=(fun n=>some ((n,()),())) (yW a0):=zkT (p:=fun(n:Bool)=>((n,()),())) (zkE (p:=fun(n:Bool)=>((n,()),())) (zkE (p:=fun(n:Bool)=>((n,()),())) (zkE (p:=fun(n:Bool)=>((n,()),())) rfl rfl) rfl) rfl)
theorem y0B:ConOk prog 162 yG5:=(yXH).mono (fun x r _ h=>(y0j x.1).trans h)
abbrev yLR:dN:=(0,0,[])
def yac (r:dN):List Int:=bif yW r then 21322::r.1::r.2.1::(r.2.2.length:Int)::r.2.2 else[]
def yIp (l:List Int):dN:=(nth l 1 0,nth l 2 0,l.drop 4)
def yaB (l:List Int):dN×Bool:=bif leb 4 (l.length:Int)&&(nth l 0 0==21322&&(nth l 3 0==(l.length:Int)-4&&yW (yIp l)))then(yIp l,true)else(yLR,false)
theorem ysD {r:dN}:yW r=true↔(0≤r.1∧r.1≤60000)∧(0≤r.2.1∧r.2.1≤7)∧(2≤(r.2.2.length:Int)∧(r.2.2.length:Int)≤4)∧r.2.2.all isW=true:=by
 unfold yW;simp only[yhR,← yuB];cases yb r.1 0 60000<;>cases yb r.2.1 0 7<;>cases yb (r.2.2.length:Int) 2 4<;>simp
theorem yOl (r:dN):ykc r=yW r:=by
 unfold ykc yW;simp only[yao,yuA,yhR]
def yY8:Code:=(f89.body).getD .skip
def yZF:Env:=zku TT [(158,yaG),(159,ywR)] []
theorem yPc:FrOk prog ⟨yZF,39,fun _=>none⟩ yY8:=zky yf yg ⟨ybH,yII,trivial⟩
abbrev yqO:List Par:= [.rd tL]
abbrev yzy:List OT:= [⟨false,tN,(.pr .fz (.pr .fz (.ow .fz)))⟩,⟨false,tB,.fz⟩]
def yuV (a0:List Int):Option (zaY yzy×zak yqO) :=bif(!(ltb (a0.length:Int) 4))then bif(inb 0 a0.length)then bif(!((nth a0 0 0) !=21322))then bif(inb 3 a0.length)then bif((nth a0 3 0) !=(i64.wrap ((a0.length:Int)-4)))then some (((0,0,[]),false,()),()) else bif(inb 1 a0.length)then bif(inb 2 a0.length)then bif(zjY 4 (a0.length:Int) a0.length)then let r1:=yx ((a0.drop (4:Int).toNat).take ((a0.length:Int)-4).toNat);let r2:=ykc ((nth a0 1 0),(nth a0 2 0),r1);bif(!r2)then some (((0,0,[]),false,()),()) else some ((((nth a0 1 0),(nth a0 2 0),r1),true,()),()) else none else none else none else none else some (((0,0,[]),false,()),()) else none else some (((0,0,[]),false,()),())
theorem yUz:ConOk prog 89 ⟨yqO,yzy,fun x=>yuV x.1⟩:=zkG (yPc) func89 ntmps89.symm fun x=>by kernel_rfl
def ylz (a0:List Int):dN×Bool:=yaB a0
theorem yWZ (a0:List Int) (hk:zjw yqO (a0,())):yuV a0=(fun n=>some ((n.1,n.2,()),())) (ylz a0):=by
 have hb:a0.length*8≤2^47:=hk.1.1;unfold yuV ylz yaB yx;by_cases h:(a0.length:Int)<4
 ·rw[zkw h,zkZ h]; rfl
 ·have ht:(a0.drop (4:Int).toNat).take ((a0.length:Int)-4).toNat=a0.drop 4:=List.take_of_length_le (by rw[List.length_drop]; show a0.length-4≤_; omega)
  rw[zk1 (Int.not_lt.1 h),zk0 (Int.not_lt.1 h)];simp only[bne,Bool.not_false,cond_true,zj4.2 (show(0:Int)≤0∧(0:Int)<a0.length by omega),zj4.2 (show(0:Int)≤1∧(1:Int)<a0.length by omega),zj4.2 (show(0:Int)≤2∧(2:Int)<a0.length by omega),zj4.2 (show(0:Int)≤3∧(3:Int)<a0.length by omega),zkx.2 (show(0:Int)≤4∧(4:Int)≤a0.length∧(a0.length:Int)≤a0.length by omega),ht,wq ((a0.length:Int)-4) (by omega) (by omega),yOl];rw[show yW (nth a0 1 0,nth a0 2 0,a0.drop 4)=yW (yIp a0)from rfl];cases(nth a0 0 0==21322)<;>cases(nth a0 3 0==(a0.length:Int)-4)<;>cases yW (yIp a0)<;>rfl
def yFl:Con:=⟨yqO,yzy,fun x=>(fun n=>some ((n.1,n.2,()),())) (ylz x.1)⟩
theorem yXV:ConOk prog 89 yFl:=(yUz).mono (fun x r hk h=>(yWZ x.1 hk).trans h)
def yZo:Code:=(f91.body).getD .skip
def yZV:Env:=zku TT [] []
theorem yPC:FrOk prog ⟨yZV,8,fun _=>none⟩ yZo:=zky yf yg trivial
abbrev yzk:List Par:= [.rd tI]
abbrev yzQ:List OT:= [⟨false,tI,.fz⟩]
def yGa (a0:Int):Option (zaY yzQ×zak yzk) :=bif(ltb a0 0)then some (((-1),()),()) else some (((i64.wrap (2+(a0.tmod 4))),()),())
theorem yUT:ConOk prog 91 ⟨yzk,yzQ,fun x=>yGa x.1⟩:=zkG (yPC) func91 ntmps91.symm fun x=>by kernel_rfl
def yh (a0:Int):Int :=bif(ltb a0 0)then (-1) else (i64.wrap (2+(a0.tmod 4)))
def yFt:Con:=⟨yzk,yzQ,fun x=>(fun n=>some ((n,()),())) (yh x.1)⟩
theorem yXj (a0:Int):yGa a0=(fun n=>some ((n,()),())) (yh a0):=zkT (p:=fun(n:Int)=>((n,()),())) (zkE (p:=fun(n:Int)=>((n,()),())) rfl rfl)
theorem yX4:ConOk prog 91 yFt:=(yUT).mono (fun x r _ h=>(yXj x.1).trans h)
def yHL (a:dA) (q:Int) (i:Nat):List Int×Bool:=yR (nth a.2.2.1 i yc) (yh q)
def yrd (a:dA) (q:Int) (i:Nat):dN:=(yaB (yHL a q i).1).1
def ykt (a:dA) (q:Int) (i:Nat):Bool:=(yHL a q i).2&&((yaB (yHL a q i).1).2&&((yrd a q i).1==q&&((leb 0 (yrd a q i).2.1&&leb (yrd a q i).2.1 (a.2.1.2-1))&&((yrd a q i).2.2.length:Int)==a.2.1.1-1)))
def yaz (a:dA) (q:Int):dN×Bool:=bif leb 0 (yaj (ykt a q) (List.range a.2.2.1.length))then(yrd a q (yaj (ykt a q) (List.range a.2.2.1.length)).toNat,true)else(yLR,false)
theorem yVN {n i:Nat} (h:i<n):(List.range n).getD i 0=i:=by rw[zkH (by rw[List.length_range]; exact h)]; simp
theorem y3J {l:List Int} (h:(yaB l).2=true):yW (yaB l).1=true∧l=yac (yaB l).1:=by
 unfold yaB at h ⊢;cases hc:(leb 4 (l.length:Int)&&(nth l 0 0==21322&&(nth l 3 0==(l.length:Int)-4&&yW (yIp l))))
 ·rw[hc]at h; cases h
 ·simp only[Bool.and_eq_true,zj5,beq_iff_eq]at hc
  refine⟨hc.2.2.2,?_⟩;show l=yac (yIp l);unfold yac;rw[hc.2.2.2]
  match l,hc with
  | x0::x1::x2::x3::t,hc =>
   have e0:x0=21322:=hc.2.1;have e3:x3=((x0::x1::x2::x3::t).length:Int)-4:=hc.2.2.1;have e4:x3=(t.length:Int):=by rw[e3]; simp only[List.length_cons]; omega
   subst e0;rw[e4]; rfl
  | [],hc=>exact absurd hc.1 (by simp)
  | [_],hc=>exact absurd hc.1 (by simp)
  | [_,_],hc=>exact absurd hc.1 (by simp)
  | [_,_,_],hc=>exact absurd hc.1 (by simp)
theorem yO5 {a:dA} {q:Int} (h:(yaz a q).2=true): ∃i,i<a.2.2.1.length∧ykt a q i=true∧(yaz a q).1=yrd a q i:=by
 unfold yaz at h ⊢;cases hk:leb 0 (yaj (ykt a q) (List.range a.2.2.1.length))
 ·rw[hk]at h; cases h
 ·obtain⟨h1,h2⟩:=ynz (d:=0) hk
  have h3:=zj4.1 h1;rw[List.length_range]at h3;refine⟨(yaj (ykt a q) (List.range a.2.2.1.length)).toNat,by omega,?_,rfl⟩;unfold nth at h2;rwa[yVN (by omega)]at h2
theorem y42 {a:dA} {q:Int} (hg:yd a.2.1=true) (h:(yaz a q).2=true):yL a.2.1 (yaz a q).1.2.1=true∧((yaz a q).1.2.2.length:Int)=a.2.1.1-1:=by
 obtain⟨i,_,h1,h2⟩:=yO5 h;rw[h2];simp only[ykt,Bool.and_eq_true,zj5,beq_iff_eq]at h1;exact⟨yV.2 ⟨hg,h1.2.2.2.1.1,h1.2.2.2.1.2⟩,h1.2.2.2.2⟩
theorem yKB (q:Int):ylB q=yh q:=rfl
def yol:Code:=(f23.body).getD .skip
def yv8:Env:=zku TT [(87,ykV),(88,yua),(89,yFl)] []
theorem yMw:FrOk prog ⟨yv8,67,fun _=>none⟩ yol:=zky yf yg ⟨yuP,yHr,yXV,trivial⟩
def yB9:Nat→Option Seg:=fun _=>none
def yb0:Shape:=⟨[(1,false,[.int .i64]),(2,false,[.ptr 0 0]),(4,false,[.ptr 64 0]),(13,false,[.br tM]),(14,false,[.int .i64]),(15,false,[.int .i64])],[(0,[.int .i64,.int .i64,.int .i64,.br tM,.int .i64,.int .i64,.int .i64,.int .i64,.int .i64,.br tW,.int .i64,.bool,.bool]),(64,[.int .i64,.int .i64,.nil])],[]⟩
def yf5:Shape:=⟨[(1,false,[.int .i64]),(2,false,[.ptr 0 0]),(4,false,[.ptr 64 0]),(13,false,[.br tM]),(14,false,[.int .i64]),(15,false,[.ci .i64 0])],[(0,[.int .i64,.int .i64,.int .i64,.br tM,.int .i64,.int .i64,.int .i64,.int .i64,.int .i64,.br tW,.int .i64,.bool,.bool]),(64,[.int .i64,.int .i64,.nil])],[]⟩
def yfS:Shape:=⟨[(4,false,[.ptr 64 0])],[(64,[.int .i64,.int .i64,.nil])],[]⟩
def ygi:Shape:=⟨[(4,false,[.ptr 64 0]),(5,false,[.bool])],[(64,[.int .i64,.int .i64,.at 800000000])],[(800000000,tI,.fz)]⟩
abbrev ynF (v0:Int) (v1:List dM) (v2 v3:Int) (v4:dA) (v5:dN):(yb0).X:=(((v0,()),((),()),((),()),(v1,()),(v2,()),(v3,()),()),((v4.1,v4.2.1.1,v4.2.1.2,v4.2.2.1,v4.2.2.2.1,v4.2.2.2.2.1,v4.2.2.2.2.2.1,v4.2.2.2.2.2.2.1,v4.2.2.2.2.2.2.2.1,v4.2.2.2.2.2.2.2.2.1,v4.2.2.2.2.2.2.2.2.2.1,v4.2.2.2.2.2.2.2.2.2.2.1,v4.2.2.2.2.2.2.2.2.2.2.2,()),(v5.1,v5.2.1,(),()),()),())
abbrev yKQ (v0:Int) (v1:List dM) (v2:Int) (v3:dA) (v4:dN):(yf5).X:=(((v0,()),((),()),((),()),(v1,()),(v2,()),((),()),()),((v3.1,v3.2.1.1,v3.2.1.2,v3.2.2.1,v3.2.2.2.1,v3.2.2.2.2.1,v3.2.2.2.2.2.1,v3.2.2.2.2.2.2.1,v3.2.2.2.2.2.2.2.1,v3.2.2.2.2.2.2.2.2.1,v3.2.2.2.2.2.2.2.2.2.1,v3.2.2.2.2.2.2.2.2.2.2.1,v3.2.2.2.2.2.2.2.2.2.2.2,()),(v4.1,v4.2.1,(),()),()),())
abbrev yKI (v0:dN):(yfS).X:=((((),()),()),((v0.1,v0.2.1,(),()),()),())
abbrev yK2 (v0:Bool) (v1:dN):(ygi).X:=((((),()),(v0,()),()),((v1.1,v1.2.1,(),()),()),(v1.2.2,()))
def yn5 (v0:Int) (v1:List dM) (v2 v3 v4 v5 v6:Int) (v7:List dM) (v8 v9 v10 v11 v12:Int) (v13:List dW) (v14:Int) (v15 v16:Bool) (v17 v18:Int):Option ((yb0).X ⊕ ((yfS).X ⊕ (ygi).X)) :=bif(ltb v3 v2)then bif(inb v3 v1.length)then let r4:=ylB v0;let r5:=ybO ((nth v1 v3 ([],[],false,[])).1,((nth v1 v3 ([],[],false,[])).2).1,(((nth v1 v3 ([],[],false,[])).2).2)) r4;let r6:=ylz r5.1;bif r5.2 then bif r6.2 then bif(r6.1.1==v0)then bif(leb 0 r6.1.2.1)then bif(ltb r6.1.2.1 v6)then bif((i64.wrap ((r6.1.2.2.length:Int)+1))==v5)then some (.inr (.inr ((((),()),(true,()),()),((r6.1.1,r6.1.2.1,(),()),()),(r6.1.2.2,())))) else some (.inl (((v0,()),((),()),((),()),(v1,()),(v2,()),((i64.wrap (v3+1)),()),()),((v4,v5,v6,v7,v8,v9,v10,v11,v12,v13,v14,v15,v16,()),(v17,v18,(),()),()),())) else some (.inl (((v0,()),((),()),((),()),(v1,()),(v2,()),((i64.wrap (v3+1)),()),()),((v4,v5,v6,v7,v8,v9,v10,v11,v12,v13,v14,v15,v16,()),(v17,v18,(),()),()),())) else some (.inl (((v0,()),((),()),((),()),(v1,()),(v2,()),((i64.wrap (v3+1)),()),()),((v4,v5,v6,v7,v8,v9,v10,v11,v12,v13,v14,v15,v16,()),(v17,v18,(),()),()),())) else some (.inl (((v0,()),((),()),((),()),(v1,()),(v2,()),((i64.wrap (v3+1)),()),()),((v4,v5,v6,v7,v8,v9,v10,v11,v12,v13,v14,v15,v16,()),(v17,v18,(),()),()),())) else some (.inl (((v0,()),((),()),((),()),(v1,()),(v2,()),((i64.wrap (v3+1)),()),()),((v4,v5,v6,v7,v8,v9,v10,v11,v12,v13,v14,v15,v16,()),(v17,v18,(),()),()),())) else some (.inl (((v0,()),((),()),((),()),(v1,()),(v2,()),((i64.wrap (v3+1)),()),()),((v4,v5,v6,v7,v8,v9,v10,v11,v12,v13,v14,v15,v16,()),(v17,v18,(),()),()),())) else none else some (.inr (.inl ((((),()),()),((v17,v18,(),()),()),())))
def ycl (x:(yb0).X):=yn5 x.1.1.1 x.1.2.2.2.1.1 x.1.2.2.2.2.1.1 x.1.2.2.2.2.2.1.1 x.2.1.1.1 x.2.1.1.2.1 x.2.1.1.2.2.1 x.2.1.1.2.2.2.1 x.2.1.1.2.2.2.2.1 x.2.1.1.2.2.2.2.2.1 x.2.1.1.2.2.2.2.2.2.1 x.2.1.1.2.2.2.2.2.2.2.1 x.2.1.1.2.2.2.2.2.2.2.2.1 x.2.1.1.2.2.2.2.2.2.2.2.2.1 x.2.1.1.2.2.2.2.2.2.2.2.2.2.1 x.2.1.1.2.2.2.2.2.2.2.2.2.2.2.1 x.2.1.1.2.2.2.2.2.2.2.2.2.2.2.2.1 x.2.1.2.1.1 x.2.1.2.1.2.1
def yx1 (x:(yf5).X):(yb0).X:=(((x.1.1.1,()),((),()),((),()),(x.1.2.2.2.1.1,()),(x.1.2.2.2.2.1.1,()),(0,()),()),((x.2.1.1.1,x.2.1.1.2.1,x.2.1.1.2.2.1,x.2.1.1.2.2.2.1,x.2.1.1.2.2.2.2.1,x.2.1.1.2.2.2.2.2.1,x.2.1.1.2.2.2.2.2.2.1,x.2.1.1.2.2.2.2.2.2.2.1,x.2.1.1.2.2.2.2.2.2.2.2.1,x.2.1.1.2.2.2.2.2.2.2.2.2.1,x.2.1.1.2.2.2.2.2.2.2.2.2.2.1,x.2.1.1.2.2.2.2.2.2.2.2.2.2.2.1,x.2.1.1.2.2.2.2.2.2.2.2.2.2.2.2.1,()),(x.2.1.2.1.1,x.2.1.2.1.2.1,(),()),()),())
def yAw:Code:=(zeJ yol 64 52).getD .skip
theorem yMf:zeJ yol 64 13=some (.block 0 (.loop yAw)):=by kernel_rfl
theorem yN1 (x:(yb0).X):zhu ⟨yv8,67,yB9⟩ 0 yAw 52 yb0 yfS ygi x=ycl x:=by kernel_rfl
def yyh (x:(yf5).X):Nat:=18446744073709551616
def ype (x:(yf5).X):Option ((yfS).X ⊕ (ygi).X):=zF ycl (yyh x) (yx1 x)
def yyL:Seg:=⟨yf5,yfS,ygi,ype⟩
def yOB:Nat→Option Seg:=fun q=>bif Nat.beq q 13 then some yyL else yB9 q
theorem yMx:FrOk prog ⟨yv8,67,yOB⟩ yol:=(yMw).loop (sg:=yyL) yb0 yx1 (by decide) yMf ycl yyh (by decide) (fun _=>rfl) (fun x r _ h=>h) yN1
abbrev yjJ:List Par:= [.rd tA,.rd tI]
abbrev yoG:List OT:= [⟨false,tN,(.pr .fz (.pr .fz (.ow .fz)))⟩,⟨false,tB,.fz⟩]
def yrV (a0:dA) (a1:Int):Option (zaY yoG×zak yjJ) :=zkr (ype (((a1,()),((),()),((),()),(a0.2.2.1,()),((a0.2.2.1.length:Int),()),((),()),()),((a0.1,a0.2.1.1,a0.2.1.2,a0.2.2.1,a0.2.2.2.1,a0.2.2.2.2.1,a0.2.2.2.2.2.1,a0.2.2.2.2.2.2.1,a0.2.2.2.2.2.2.2.1,a0.2.2.2.2.2.2.2.2.1,a0.2.2.2.2.2.2.2.2.2.1,a0.2.2.2.2.2.2.2.2.2.2.1,a0.2.2.2.2.2.2.2.2.2.2.2,()),(0,0,(),()),()),())) (fun y6 =>some (((0,0,[]),false,()),())) (fun y6 =>some (((y6.2.1.1.1,y6.2.1.1.2.1,y6.2.2.1),y6.1.2.1.1,()),()))
theorem yQY:ConOk prog 23 ⟨yjJ,yoG,fun x=>yrV x.1 x.2.1⟩:=zkG (yMx) func23 ntmps23.symm fun x=>by kernel_rfl
def ykb (a0:dA) (a1:Int):dN×Bool:=yaz a0 a1
def yo8 (a0:dA) (a1:Int):Bool:=yd a0.2.1||y3I a0.2.1
theorem yT7 (a0:dA) (a1:Int) (hk:zjw yjJ (a0,a1,())) (hq:yo8 a0 a1=true):yrV a0 a1=(fun n=>some ((n.1,n.2,()),())) (ykb a0 a1):=by
 have hb:a0.2.2.1.length*80≤2^47:=hk.1.2.2.1.1;have hg:=y3K hq
 have h1:=yKE (step:=ycl) (List.range a0.2.2.1.length) 0 (fun i=>ynF a1 a0.2.2.1 a0.2.2.1.length i a0 yLR) (ykt a0 a1) (fun k=> .inr (yK2 true (yrd a0 a1 k.toNat))) (.inl (yKI yLR)) (fun i hi=>by
  rw[List.length_range]at hi;rw[yVN hi];simp only[ycl,ynF,yn5,zkw (show(i:Int)<a0.2.2.1.length by omega),cond_true,wq ((i:Int)+1) (by omega) (by omega),Int.natCast_add,Int.natCast_one,Int.toNat_natCast,zkP hi,zkV,ybO,ylz,yKB,ykt,yrd,yHL,yc];have e1:ltb (yaB (yR (nth a0.2.2.1 i ([],[],false,[])) (yh a1)).1).1.2.1 a0.2.1.2=leb (yaB (yR (nth a0.2.2.1 i ([],[],false,[])) (yh a1)).1).1.2.1 (a0.2.1.2-1):=by rw[Bool.eq_iff_iff,zj8,zj5]; omega
  cases hr:(yR (nth a0.2.2.1 i ([],[],false,[])) (yh a1)).2
  ·rfl
  cases hg2:(yaB (yR (nth a0.2.2.1 i ([],[],false,[])) (yh a1)).1).2
  ·rfl
  have hl:=(ysD.1 (y3J hg2).1).2.2.1;have e2:(i64.wrap (((yaB (yR (nth a0.2.2.1 i ([],[],false,[])) (yh a1)).1).1.2.2.length:Int)+1)==a0.2.1.1)=(((yaB (yR (nth a0.2.2.1 i ([],[],false,[])) (yh a1)).1).1.2.2.length:Int)==a0.2.1.1-1):=by rw[wr (by omega) (by omega),Bool.eq_iff_iff,beq_iff_eq,beq_iff_eq]; omega
  rw[e1,e2]
  cases((yaB (yR (nth a0.2.2.1 i ([],[],false,[])) (yh a1)).1).1.1==a1)<;>cases leb 0 (yaB (yR (nth a0.2.2.1 i ([],[],false,[])) (yh a1)).1).1.2.1<;>cases leb (yaB (yR (nth a0.2.2.1 i ([],[],false,[])) (yh a1)).1).1.2.1 (a0.2.1.2-1)<;>cases(((yaB (yR (nth a0.2.2.1 i ([],[],false,[])) (yh a1)).1).1.2.2.length:Int)==a0.2.1.1-1)<;>rfl) (by
   rw[List.length_range]; simp only[ycl,ynF,yn5,zk1 (Int.le_refl _),cond_false]) 18446744073709551616 (by rw[List.length_range]; omega)
 unfold yrV ykb yaz;rw[show ype (yKQ a1 a0.2.2.1 a0.2.2.1.length a0 yLR)=_ from h1];cases leb 0 (yaj (ykt a0 a1) (List.range a0.2.2.1.length))<;>rfl
def yo2 (a0:dA) (a1:Int):Option (zaY yoG×zak yjJ):=bif yo8 a0 a1 then(fun n=>some ((n.1,n.2,()),())) (ykb a0 a1)else none
theorem yVs (a0:dA) (a1:Int) (h:yo8 a0 a1=true):yo2 a0 a1=(fun n=>some ((n.1,n.2,()),())) (ykb a0 a1):=by unfold yo2; rw[h]; rfl
def yDg:Con:=⟨yjJ,yoG,fun x=>yo2 x.1 x.2.1⟩
theorem yVc:ConOk prog 23 yDg:=(yQY).mono (fun x r hk h=>zkW h (fun hq=>yT7 x.1 x.2.1 hk hq))
def yon:Code:=(f95.body).getD .skip
def ywa:Env:=zku TT [(74,ypy),(158,yaG)] []
theorem yMD:FrOk prog ⟨ywa,31,fun _=>none⟩ yon:=zky yf yg ⟨yEf,ybH,trivial⟩
def yCb:Nat→Option Seg:=fun _=>none
def yb2:Shape:=⟨[(1,false,[.ptr 0 0]),(2,false,[.ptr 64 0]),(3,false,[.at 800000000]),(8,false,[.br tW]),(9,false,[.int .i64]),(10,false,[.int .i64])],[(0,[.int .i64,.int .i64,.int .i64,.br tM,.int .i64,.int .i64,.int .i64,.int .i64,.int .i64,.br tW,.int .i64,.bool,.bool]),(64,[.int .i64,.int .i64,.int .i64,.nil,.int .i64,.int .i64,.int .i64,.int .i64,.int .i64,.nil,.int .i64,.bool,.bool])],[(800000000,tW,(.pr .fz (.ow .fz)))]⟩
def yf7:Shape:=⟨[(1,false,[.ptr 0 0]),(2,false,[.ptr 64 0]),(3,false,[.at 800000000]),(8,false,[.br tW]),(9,false,[.int .i64]),(10,false,[.ci .i64 0])],[(0,[.int .i64,.int .i64,.int .i64,.br tM,.int .i64,.int .i64,.int .i64,.int .i64,.int .i64,.br tW,.int .i64,.bool,.bool]),(64,[.int .i64,.int .i64,.int .i64,.nil,.int .i64,.int .i64,.int .i64,.int .i64,.int .i64,.nil,.int .i64,.bool,.bool])],[(800000000,tW,(.pr .fz (.ow .fz)))]⟩
def yfU:Shape:=⟨[(1,false,[.ptr 0 0]),(2,false,[.ptr 64 0]),(3,false,[.at 800000000])],[(0,[.int .i64,.int .i64,.int .i64,.br tM,.int .i64,.int .i64,.int .i64,.int .i64,.int .i64,.br tW,.int .i64,.bool,.bool]),(64,[.int .i64,.int .i64,.int .i64,.nil,.int .i64,.int .i64,.int .i64,.int .i64,.int .i64,.nil,.int .i64,.bool,.bool])],[(800000000,tW,(.pr .fz (.ow .fz)))]⟩
def yjs:Shape:=⟨[],[],[]⟩
abbrev ynH (v0:List dW) (v1 v2:Int) (v3 v4:dA) (v5:List dW):(yb2).X:=((((),()),((),()),((),()),(v0,()),(v1,()),(v2,()),()),((v3.1,v3.2.1.1,v3.2.1.2,v3.2.2.1,v3.2.2.2.1,v3.2.2.2.2.1,v3.2.2.2.2.2.1,v3.2.2.2.2.2.2.1,v3.2.2.2.2.2.2.2.1,v3.2.2.2.2.2.2.2.2.1,v3.2.2.2.2.2.2.2.2.2.1,v3.2.2.2.2.2.2.2.2.2.2.1,v3.2.2.2.2.2.2.2.2.2.2.2,()),(v4.1,v4.2.1.1,v4.2.1.2,(),v4.2.2.2.1,v4.2.2.2.2.1,v4.2.2.2.2.2.1,v4.2.2.2.2.2.2.1,v4.2.2.2.2.2.2.2.1,(),v4.2.2.2.2.2.2.2.2.2.1,v4.2.2.2.2.2.2.2.2.2.2.1,v4.2.2.2.2.2.2.2.2.2.2.2,()),()),(v5,()))
abbrev yKS (v0:List dW) (v1:Int) (v2 v3:dA) (v4:List dW):(yf7).X:=((((),()),((),()),((),()),(v0,()),(v1,()),((),()),()),((v2.1,v2.2.1.1,v2.2.1.2,v2.2.2.1,v2.2.2.2.1,v2.2.2.2.2.1,v2.2.2.2.2.2.1,v2.2.2.2.2.2.2.1,v2.2.2.2.2.2.2.2.1,v2.2.2.2.2.2.2.2.2.1,v2.2.2.2.2.2.2.2.2.2.1,v2.2.2.2.2.2.2.2.2.2.2.1,v2.2.2.2.2.2.2.2.2.2.2.2,()),(v3.1,v3.2.1.1,v3.2.1.2,(),v3.2.2.2.1,v3.2.2.2.2.1,v3.2.2.2.2.2.1,v3.2.2.2.2.2.2.1,v3.2.2.2.2.2.2.2.1,(),v3.2.2.2.2.2.2.2.2.2.1,v3.2.2.2.2.2.2.2.2.2.2.1,v3.2.2.2.2.2.2.2.2.2.2.2,()),()),(v4,()))
abbrev yKJ (v0 v1:dA) (v2:List dW):(yfU).X:=((((),()),((),()),((),()),()),((v0.1,v0.2.1.1,v0.2.1.2,v0.2.2.1,v0.2.2.2.1,v0.2.2.2.2.1,v0.2.2.2.2.2.1,v0.2.2.2.2.2.2.1,v0.2.2.2.2.2.2.2.1,v0.2.2.2.2.2.2.2.2.1,v0.2.2.2.2.2.2.2.2.2.1,v0.2.2.2.2.2.2.2.2.2.2.1,v0.2.2.2.2.2.2.2.2.2.2.2,()),(v1.1,v1.2.1.1,v1.2.1.2,(),v1.2.2.2.1,v1.2.2.2.2.1,v1.2.2.2.2.2.1,v1.2.2.2.2.2.2.1,v1.2.2.2.2.2.2.2.1,(),v1.2.2.2.2.2.2.2.2.2.1,v1.2.2.2.2.2.2.2.2.2.2.1,v1.2.2.2.2.2.2.2.2.2.2.2,()),()),(v2,()))
def yn7 (v0:List dW) (v1 v2 v3 v4 v5:Int) (v6:List dM) (v7 v8 v9 v10 v11:Int) (v12:List dW) (v13:Int) (v14 v15:Bool) (v16 v17 v18 v19 v20 v21 v22 v23 v24:Int) (v25 v26:Bool) (v27:List dW):Option ((yb2).X ⊕ ((yfU).X ⊕ (yjs).X)) :=bif(ltb v2 v1)then bif(inb v2 v0.length)then let r2:=yx ((nth v0 v2 (0,[])).2);bif(zkj v27.length ([((nth v0 v2 (0,[])).1,r2)]:List dW).length 32)then some (.inl ((((),()),((),()),((),()),(v0,()),(v1,()),((i64.wrap (v2+1)),()),()),((v3,v4,v5,v6,v7,v8,v9,v10,v11,v12,v13,v14,v15,()),(v16,v17,v18,(),v19,v20,v21,v22,v23,(),v24,v25,v26,()),()),((v27++([((nth v0 v2 (0,[])).1,r2)]:List dW)),()))) else none else none else some (.inr (.inl ((((),()),((),()),((),()),()),((v3,v4,v5,v6,v7,v8,v9,v10,v11,v12,v13,v14,v15,()),(v16,v17,v18,(),v19,v20,v21,v22,v23,(),v24,v25,v26,()),()),(v27,()))))
def ycn (x:(yb2).X):=yn7 x.1.2.2.2.1.1 x.1.2.2.2.2.1.1 x.1.2.2.2.2.2.1.1 x.2.1.1.1 x.2.1.1.2.1 x.2.1.1.2.2.1 x.2.1.1.2.2.2.1 x.2.1.1.2.2.2.2.1 x.2.1.1.2.2.2.2.2.1 x.2.1.1.2.2.2.2.2.2.1 x.2.1.1.2.2.2.2.2.2.2.1 x.2.1.1.2.2.2.2.2.2.2.2.1 x.2.1.1.2.2.2.2.2.2.2.2.2.1 x.2.1.1.2.2.2.2.2.2.2.2.2.2.1 x.2.1.1.2.2.2.2.2.2.2.2.2.2.2.1 x.2.1.1.2.2.2.2.2.2.2.2.2.2.2.2.1 x.2.1.2.1.1 x.2.1.2.1.2.1 x.2.1.2.1.2.2.1 x.2.1.2.1.2.2.2.2.1 x.2.1.2.1.2.2.2.2.2.1 x.2.1.2.1.2.2.2.2.2.2.1 x.2.1.2.1.2.2.2.2.2.2.2.1 x.2.1.2.1.2.2.2.2.2.2.2.2.1 x.2.1.2.1.2.2.2.2.2.2.2.2.2.2.1 x.2.1.2.1.2.2.2.2.2.2.2.2.2.2.2.1 x.2.1.2.1.2.2.2.2.2.2.2.2.2.2.2.2.1 x.2.2.1
def yx3 (x:(yf7).X):(yb2).X:=((((),()),((),()),((),()),(x.1.2.2.2.1.1,()),(x.1.2.2.2.2.1.1,()),(0,()),()),((x.2.1.1.1,x.2.1.1.2.1,x.2.1.1.2.2.1,x.2.1.1.2.2.2.1,x.2.1.1.2.2.2.2.1,x.2.1.1.2.2.2.2.2.1,x.2.1.1.2.2.2.2.2.2.1,x.2.1.1.2.2.2.2.2.2.2.1,x.2.1.1.2.2.2.2.2.2.2.2.1,x.2.1.1.2.2.2.2.2.2.2.2.2.1,x.2.1.1.2.2.2.2.2.2.2.2.2.2.1,x.2.1.1.2.2.2.2.2.2.2.2.2.2.2.1,x.2.1.1.2.2.2.2.2.2.2.2.2.2.2.2.1,()),(x.2.1.2.1.1,x.2.1.2.1.2.1,x.2.1.2.1.2.2.1,(),x.2.1.2.1.2.2.2.2.1,x.2.1.2.1.2.2.2.2.2.1,x.2.1.2.1.2.2.2.2.2.2.1,x.2.1.2.1.2.2.2.2.2.2.2.1,x.2.1.2.1.2.2.2.2.2.2.2.2.1,(),x.2.1.2.1.2.2.2.2.2.2.2.2.2.2.1,x.2.1.2.1.2.2.2.2.2.2.2.2.2.2.2.1,x.2.1.2.1.2.2.2.2.2.2.2.2.2.2.2.2.1,()),()),(x.2.2.1,()))
def yAy:Code:=(zeJ yon 64 116).getD .skip
theorem yMh:zeJ yon 64 29=some (.block 0 (.loop yAy)):=by kernel_rfl
theorem yN3 (x:(yb2).X):zhu ⟨ywa,31,yCb⟩ 0 yAy 116 yb2 yfU yjs x=ycn x:=by kernel_rfl
def yyj (x:(yf7).X):Nat:=18446744073709551616
def ypg (x:(yf7).X):Option ((yfU).X ⊕ (yjs).X):=zF ycn (yyj x) (yx3 x)
def yyN:Seg:=⟨yf7,yfU,yjs,ypg⟩
def yOD:Nat→Option Seg:=fun q=>bif Nat.beq q 29 then some yyN else yCb q
theorem yME:FrOk prog ⟨ywa,31,yOD⟩ yon:=(yMD).loop (sg:=yyN) yb2 yx3 (by decide) yMh ycn yyj (by decide) (fun _=>rfl) (fun x r _ h=>h) yN3
abbrev yoA:List Par:= [.rd tA]
abbrev ywC:List OT:= [⟨false,tA,(.pr .fz (.pr (.pr .fz .fz) (.pr (.ow (.pr (.ow (.ow .fz)) (.pr (.ow (.pr .fz (.ow .fz))) (.pr .fz (.ow .fz))))) (.pr .fz (.pr .fz (.pr .fz (.pr .fz (.pr .fz (.pr (.ow (.pr .fz (.ow .fz))) (.pr .fz (.pr .fz .fz)))))))))))⟩]
def yrZ (a0:dA):Option (zaY ywC×zak yoA) :=zkr (ypg ((((),()),((),()),((),()),(a0.2.2.2.2.2.2.2.2.1,()),((a0.2.2.2.2.2.2.2.2.1.length:Int),()),((),()),()),((a0.1,a0.2.1.1,a0.2.1.2,a0.2.2.1,a0.2.2.2.1,a0.2.2.2.2.1,a0.2.2.2.2.2.1,a0.2.2.2.2.2.2.1,a0.2.2.2.2.2.2.2.1,a0.2.2.2.2.2.2.2.2.1,a0.2.2.2.2.2.2.2.2.2.1,a0.2.2.2.2.2.2.2.2.2.2.1,a0.2.2.2.2.2.2.2.2.2.2.2,()),(0,0,0,(),0,0,0,0,0,(),0,false,false,()),()),(([]:List dW),()))) (fun y2 =>let r4:=yfv y2.2.1.1.2.2.2.1;some (((y2.2.1.1.1,(y2.2.1.1.2.1,y2.2.1.1.2.2.1),r4,y2.2.1.1.2.2.2.2.1,y2.2.1.1.2.2.2.2.2.1,y2.2.1.1.2.2.2.2.2.2.1,y2.2.1.1.2.2.2.2.2.2.2.1,y2.2.1.1.2.2.2.2.2.2.2.2.1,y2.2.2.1,y2.2.1.1.2.2.2.2.2.2.2.2.2.2.1,y2.2.1.1.2.2.2.2.2.2.2.2.2.2.2.1,y2.2.1.1.2.2.2.2.2.2.2.2.2.2.2.2.1),()),())) (fun y2 =>none)
theorem yQ3:ConOk prog 95 ⟨yoA,ywC,fun x=>yrZ x.1⟩:=zkG (yME) func95 ntmps95.symm fun x=>by kernel_rfl
def ybP (a0:dA):dA:=a0
theorem yUc (a0:dA) (hk:zjw yoA (a0,())):yrZ a0=(fun n=>some ((n,()),())) (ybP a0):=by
 have hb:a0.2.2.2.2.2.2.2.2.1.length*32≤2^47:=hk.1.2.2.2.2.2.2.2.2.1.1
 have h1:=zkv (step:=ycn) a0.2.2.2.2.2.2.2.2.1 (0,[]) (fun i s=>ynH a0.2.2.2.2.2.2.2.2.1 a0.2.2.2.2.2.2.2.2.1.length i a0 yaD s) (fun s x=>s++ [x]) (fun i s=>s.length=i) (fun s=> .inl (yKJ a0 yaD s)) (fun i s hi hs=>⟨by
   simp only[ycn,ynH,yn7,zkw (show(i:Int)<a0.2.2.2.2.2.2.2.2.1.length by omega),cond_true,wq ((i:Int)+1) (by omega) (by omega),Int.natCast_add,Int.natCast_one,Int.toNat_natCast,zkP hi,zkQ,yx,zkV]
   rw[zkD.2 (show(s.length+ [a0.2.2.2.2.2.2.2.2.1.getD i (0,[])].length)*32≤140737488355328 by simp only[List.length_cons,List.length_nil]; omega)]; rfl,by simp[hs]⟩) (fun s hs=>by simp only[ycn,ynH,yn7,zk1 (Int.le_refl _),cond_false]) [] rfl 18446744073709551616 (by omega)
 rw[ywX]at h1;unfold yrZ ybP;rw[show ypg (yKS a0.2.2.2.2.2.2.2.2.1 a0.2.2.2.2.2.2.2.2.1.length a0 yaD [])=_ from h1]; rfl
def ykW:Con:=⟨yoA,ywC,fun x=>(fun n=>some ((n,()),())) (ybP x.1)⟩
theorem yuQ:ConOk prog 95 ykW:=(yQ3).mono (fun x r hk h=>(yUc x.1 hk).trans h)
def yR9:Code:=(f96.body).getD .skip
def ySD:Env:=zku TT [(55,yez)] []
theorem yKk:FrOk prog ⟨ySD,15,fun _=>none⟩ yR9:=zky yf yg ⟨yhP,trivial⟩
abbrev ytr:List Par:= [.rd tA]
abbrev ytN:List OT:= [⟨false,tB,.fz⟩]
def yBy (a0:dA):Option (zaY ytN×zak ytr) :=let r1:=yO a0;bif r1 then bif(!a0.2.2.2.2.2.2.2.2.2.2.1)then some (((ltb a0.2.2.2.2.2.2.2.1 60000),()),()) else some ((false,()),()) else some ((false,()),())
theorem yNK:ConOk prog 96 ⟨ytr,ytN,fun x=>yBy x.1⟩:=zkG (yKk) func96 ntmps96.symm fun x=>by kernel_rfl
def ydI (a0:dA):Bool :=let r1:=yO a0;bif r1 then bif(!a0.2.2.2.2.2.2.2.2.2.2.1)then (ltb a0.2.2.2.2.2.2.2.1 60000) else false else false
def yAR:Con:=⟨ytr,ytN,fun x=>(fun n=>some ((n,()),())) (ydI x.1)⟩
theorem yQL (a0:dA):yBy a0=(fun n=>some ((n,()),())) (ydI a0):=zkT (p:=fun(n:Bool)=>((n,()),())) (zkE (p:=fun(n:Bool)=>((n,()),())) (zkE (p:=fun(n:Bool)=>((n,()),())) rfl rfl) rfl)
theorem yRw:ConOk prog 96 yAR:=(yNK).mono (fun x r _ h=>(yQL x.1).trans h)
def ySd:Code:=(f144.body).getD .skip
def ySH:Env:=zku TT [(195,yDq)] []
theorem yKq:FrOk prog ⟨ySH,25,fun _=>none⟩ ySd:=zky yf yg ⟨yVm,trivial⟩
abbrev ytv:List Par:= [.rd tS]
abbrev ytS:List OT:= [⟨false,tL,(.ow .fz)⟩]
def yBz (a0:dS):Option (zaY ytS×zak ytv) :=let r1:=yH a0;bif(!r1)then some ((([]:List Int),()),()) else some ((([21317,a0.1,a0.2.1,a0.2.2.1,a0.2.2.2.1,a0.2.2.2.2.1,a0.2.2.2.2.2.1,(i64.wrap (a0.2.2.2.2.2.2.1+1)),a0.2.2.2.2.2.2.2]:List Int),()),())
theorem yNP:ConOk prog 144 ⟨ytv,ytS,fun x=>yBz x.1⟩:=zkG (yKq) func144 ntmps144.symm fun x=>by kernel_rfl
def ym (a0:dS):(List Int) :=let r1:=yH a0;bif(!r1)then ([]:List Int) else ([21317,a0.1,a0.2.1,a0.2.2.1,a0.2.2.2.1,a0.2.2.2.2.1,a0.2.2.2.2.2.1,(i64.wrap (a0.2.2.2.2.2.2.1+1)),a0.2.2.2.2.2.2.2]:List Int)
def ypB:Con:=⟨ytv,ytS,fun x=>(fun n=>some ((n,()),())) (ym x.1)⟩
theorem yQP (a0:dS):yBz a0=(fun n=>some ((n,()),())) (ym a0):=zkT (p:=fun(n:(List Int))=>((n,()),())) (zkE (p:=fun(n:(List Int))=>((n,()),())) rfl rfl)
theorem yEj:ConOk prog 144 ypB:=(yNP).mono (fun x r _ h=>(yQP x.1).trans h)
theorem yIG {s:dS} (h:yH s=true):yeB (ym s)=(s,true):=by
 have hs:=yxF.1 h;have hg:=yl.1 hs.1;simp only at hg
 have hp:ym s= [21317,s.1,s.2.1,s.2.2.1,s.2.2.2.1,s.2.2.2.2.1,s.2.2.2.2.2.1,s.2.2.2.2.2.2.1+1,s.2.2.2.2.2.2.2]:=by
  unfold ym;rw[h,wq (s.2.2.2.2.2.2.1+1) (by omega) (by omega)]; rfl
 have ha:yHN (ym s)=s:=by
  rw[hp];show(s.1,s.2.1,s.2.2.1,s.2.2.2.1,s.2.2.2.2.1,s.2.2.2.2.2.1,i64.wrap (s.2.2.2.2.2.2.1+1-1),s.2.2.2.2.2.2.2)=s;rw[wq (s.2.2.2.2.2.2.1+1-1) (by omega) (by omega),Int.add_sub_cancel]
 unfold yeB;rw[ha,h,hp]; rfl
abbrev ya (a:dA):Bool:=a.2.2.2.2.2.2.2.2.2.2.1
def yhD (a:dA) (f:Int) (d:Bool):dA:=(a.1,a.2.1,a.2.2.1,a.2.2.2.1,a.2.2.2.2.1,a.2.2.2.2.2.1,a.2.2.2.2.2.2.1,a.2.2.2.2.2.2.2.1,a.2.2.2.2.2.2.2.2.1,f,d,a.2.2.2.2.2.2.2.2.2.2.2)
def opA (a:dA):Bool×dA:=bif ya a then(false,a)else bif a.2.2.2.2.2.2.2.2.2.1==0 then(false,yhD a (-1) true)else bif ltb 0 a.2.2.2.2.2.2.2.2.2.1 then(true,yhD a (i64.wrap (a.2.2.2.2.2.2.2.2.2.1-1)) (ya a))else(true,a)
def ybp (a:dA) (m:Int) (x:dM):dA:=(a.1,a.2.1,a.2.2.1.set m.toNat x,a.2.2.2)
def ybq (a:dA) (m n:Int) (s:List Int):dA:=bif(nth a.2.2.1 m yc).2.2.1 then a else bif(opA a).1 then ybp (opA a).2 m (yZ (nth a.2.2.1 m yc) n s).1 else(opA a).2
def yab (a:dA) (i:Nat):dA:=bif(nth a.2.2.1 i yc).2.2.1 then a else bif(opA a).1 then ybp (opA a).2 i (yE (nth a.2.2.1 i yc))else(opA a).2
def ye (a:dA):dA:=(List.range a.2.2.1.length).foldl yab a
def yLT (a:dA) (i:Int):dS:=(a.1,a.2.2.2.2.2.2.2.1,i,a.2.1.1,a.2.1.2,a.2.2.2.2.2.2.1,a.2.2.2.1,a.2.2.2.2.1)
def yae (a:dA) (i:Nat):dA:=ybq a i (a.2.2.2.2.2.2.2.1.tmod 2) (ym (yLT a i))
def yat (a:dA):dA:=(a.1,a.2.1,a.2.2.1,a.2.2.2.1,a.2.2.2.2.1,a.2.2.2.2.2.1,a.2.2.2.2.2.2.1,i64.wrap (a.2.2.2.2.2.2.2.1+1),a.2.2.2.2.2.2.2.2)
def yD (a:dA):dA:=ye ((List.range a.2.2.1.length).foldl yae (yat a))
theorem yaP (a:dA):(opA a).2.2.2.1=a.2.2.1:=by
 unfold opA;cases ya a
 ·cases(a.2.2.2.2.2.2.2.2.2.1==0)
  ·cases ltb 0 a.2.2.2.2.2.2.2.2.2.1<;>rfl
  ·rfl
 ·rfl
theorem yYe {a:dA} (h:ya a=false):ya (opA a).2= !(opA a).1:=by
 unfold opA;rw[h];cases(a.2.2.2.2.2.2.2.2.2.1==0)
 ·cases ltb 0 a.2.2.2.2.2.2.2.2.2.1
  ·exact h
  ·rfl
 ·rfl
theorem y2I {a:dA} (h:ya a=true):opA a=(false,a):=by unfold opA; rw[h]; rfl
theorem yo7 (a:dA) (m n:Int) (s:List Int):(ybq a m n s).2.2.1.length=a.2.2.1.length:=by
 unfold ybq;cases(nth a.2.2.1 m yc).2.2.1
 ·cases(opA a).1
  ·show(opA a).2.2.2.1.length=_; rw[yaP]
  ·show((opA a).2.2.2.1.set m.toNat _).length=_; rw[List.length_set,yaP]
 ·rfl
theorem ylQ (a:dA) (i:Nat):(yab a i).2.2.1.length=a.2.2.1.length:=by
 unfold yab;cases(nth a.2.2.1 i yc).2.2.1
 ·cases(opA a).1
  ·show(opA a).2.2.2.1.length=_; rw[yaP]
  ·show((opA a).2.2.2.1.set _ _).length=_; rw[List.length_set,yaP]
 ·rfl
theorem yja {one:dA→Nat→dA} (h: ∀a i,(one a i).2.2.1.length=a.2.2.1.length): ∀(l:List Nat) (a:dA),(l.foldl one a).2.2.1.length=a.2.2.1.length
 | [],_=>rfl
 | x::l,a=>by rw[List.foldl_cons,yja h l,h]
theorem yIt (a:dA):(ye a).2.2.1.length=a.2.2.1.length:=yja ylQ _ _
theorem ynU {a:dA} (h:ya a=true) (m n:Int) (s:List Int):ybq a m n s=a:=by
 unfold ybq;rw[y2I h];cases(nth a.2.2.1 m yc).2.2.1<;>rfl
theorem yEK {a:dA} (i:Nat) (h:ya a=true):yab a i=a:=by
 unfold yab;rw[y2I h];cases(nth a.2.2.1 i yc).2.2.1<;>rfl
theorem ykz {one:dA→Nat→dA} (hs: ∀a i,ya a=true→one a i=a): ∀(l:List Nat) (a:dA),ya a=true→l.foldl one a=a
 | [],_,_=>rfl
 | x::l,a,h=>by rw[List.foldl_cons,hs a x h]; exact ykz hs l a h
theorem ysH {a:dA} (h:ya a=true):ye a=a:=ykz (fun _ i h=>yEK i h) _ a h
theorem y1M {a:dA} (h:ya a=false) (m n:Int) (s:List Int):ya (ybq a m n s)=(!(nth a.2.2.1 m yc).2.2.1&& !(opA a).1):=by
 have:=yYe h;unfold ybq;cases(nth a.2.2.1 m yc).2.2.1
 ·cases ho:(opA a).1
  ·rw[ho]at this; exact this
  ·rw[ho]at this; exact this
 ·exact h
theorem yLB {a:dA} (h:ya a=false) (i:Nat):ya (yab a i)=(!(nth a.2.2.1 i yc).2.2.1&& !(opA a).1):=by
 have:=yYe h;unfold yab;cases(nth a.2.2.1 i yc).2.2.1
 ·cases ho:(opA a).1
  ·rw[ho]at this; exact this
  ·rw[ho]at this; exact this
 ·exact h
theorem yD3 {one:dA→Nat→dA} (hs: ∀a i,ya a=true→one a i=a): ∀(k i:Nat) (s:dA),goE (fun i s=>bif ya (one s i)then(.inr (one s i):dA ⊕ dA)else .inl (one s i)) id k i s=(List.range' i k).foldl one s
 | 0,_,_=>rfl
 | k+1,i,s=>by
  rw[List.range'_succ,List.foldl_cons,goE];cases hd:ya (one s i)
  ·exact yD3 hs k (i+1) (one s i)
  ·exact(ykz hs _ _ hd).symm
def yau (a:dA) (m:Int):dA:=(a.1,a.2.1,a.2.2.1.set m.toNat (yft (nth a.2.2.1 m yc)),m,0,a.2.2.2.2.2)
def yS8 (a:dA) (m:Int):dA:=(a.1,a.2.1,a.2.2.1.set m.toNat (yft (nth a.2.2.1 m yc)),a.2.2.2.1,a.2.2.2.2.1,a.2.2.2.2.2.1,a.2.2.2.2.2.2.1,a.2.2.2.2.2.2.2.1,a.2.2.2.2.2.2.2.2.1,a.2.2.2.2.2.2.2.2.2.1,a.2.2.2.2.2.2.2.2.2.2.1,true)
def yhK (a:dA) (m:Int):dA:=bif a.2.2.2.1== -1||a.2.2.2.1==m then(bif !(ya a)&&(!a.2.2.2.2.2.2.2.2.2.2.2&&ltb a.2.2.2.2.2.2.2.1 60000)then yD (yau a m)else yau a m)else yS8 a m
theorem y4v (a:dA):(yD a).2.2.1.length=a.2.2.1.length:=(yIt _).trans (yja (one:=yae) (fun _ _=>yo7 _ _ _ _) _ (yat a))
theorem yIm (a:dA):(opA a).2.2.2.2.2.2.2.2.2.1=a.2.2.2.2.2.2.2.2.1:=by
 unfold opA;cases ya a
 ·cases(a.2.2.2.2.2.2.2.2.2.1==0)
  ·cases ltb 0 a.2.2.2.2.2.2.2.2.2.1<;>rfl
  ·rfl
 ·rfl
theorem y3W (a:dA) (m n:Int) (s:List Int):(ybq a m n s).2.2.2.2.2.2.2.2.1=a.2.2.2.2.2.2.2.2.1:=by
 unfold ybq;cases(nth a.2.2.1 m yc).2.2.1
 ·cases(opA a).1
  ·exact yIm a
  ·exact yIm a
 ·rfl
theorem y0L (a:dA) (i:Nat):(yab a i).2.2.2.2.2.2.2.2.1=a.2.2.2.2.2.2.2.2.1:=by
 unfold yab;cases(nth a.2.2.1 i yc).2.2.1
 ·cases(opA a).1
  ·exact yIm a
  ·exact yIm a
 ·rfl
theorem yHZ {one:dA→Nat→dA} (h: ∀a i,(one a i).2.2.2.2.2.2.2.2.1=a.2.2.2.2.2.2.2.2.1): ∀(l:List Nat) (a:dA),(l.foldl one a).2.2.2.2.2.2.2.2.1=a.2.2.2.2.2.2.2.2.1
 | [],_=>rfl
 | x::l,a=>by rw[List.foldl_cons,yHZ h l,h]
theorem yIr (a:dA):(ye a).2.2.2.2.2.2.2.2.1=a.2.2.2.2.2.2.2.2.1:=yHZ y0L _ _
theorem y3d (a:dA):(yD a).2.2.2.2.2.2.2.2.1=a.2.2.2.2.2.2.2.2.1:=(yIr _).trans (yHZ (one:=yae) (fun _ _=>y3W _ _ _ _) _ (yat a))
def ya5 (n:Int):dM:=bif leb 1 n&&leb n 20 then(List.replicate n.toNat [],[],false,[])else yc
theorem yKG {n:Int} (h1:1≤n) (h2:n≤20):yw (ya5 n)=true:=by
 unfold ya5;rw[zk0 h1,zk0 h2];refine yrC ?_ rfl rfl ?_ ?_ (Nat.zero_le _)
 ·show(List.replicate n.toNat ([]:List Int)).all yaw=true
  rw[List.all_eq_true];intro x hx;rw[(List.mem_replicate.1 hx).2]; rfl
 ·show 1≤(List.replicate n.toNat ([]:List Int)).length; rw[List.length_replicate]; omega
 ·show(List.replicate n.toNat ([]:List Int)).length≤20; rw[List.length_replicate]; omega
def yaa (a:dA):dA:=(a.1,a.2.1,a.2.2.1.set a.2.2.2.1.toNat (ya5 (6+a.2.1.2)),a.2.2.2.1,0,a.2.2.2.2.2)
def yU (a:dA):dA:=(a.1,a.2.1,a.2.2.1,a.2.2.2.1,a.2.2.2.2.1,a.2.2.2.2.2.1,a.2.2.2.2.2.1,a.2.2.2.2.2.2.2)
def yp (a:dA):dA:=bif ya (ye a)then ye a else yD (yU (ye a))
theorem yYu (a:dA):(yp a).2.2.1.length=a.2.2.1.length:=by
 unfold yp;cases ya (ye a)
 ·exact(y4v (yU (ye a))).trans (yIt a)
 ·exact yIt a
theorem yOe (a:dA):(yp a).2.2.2.2.2.2.2.2.1=a.2.2.2.2.2.2.2.2.1:=by
 unfold yp;cases ya (ye a)
 ·exact(y3d (yU (ye a))).trans (yIr a)
 ·exact yIr a
def y1C (id:Int) (g:dG) (i:Int):dS:=(id,0,i,g.1,g.2,0,-1,0)
def yo0 (m:dM) (s:Nat):dM:=(m.1.set (s+6) [0],m.2)
def yi2 (id:Int) (g:dG) (i:Int):dM:=((ya5 (6+g.2)).1.set 0 (ym (y1C id g i)),(ya5 (6+g.2)).2)
def yQ (id:Int) (g:dG) (i:Int):dM:=(List.range g.2.toNat).foldl yo0 (yi2 id g i)
def yCX (a:dA) (m:dM):dA:=(a.1,a.2.1,a.2.2.1++ [m],a.2.2.2)
def yC2 (id:Int) (g:dG):dA:=(id,g,[],-1,0,0,0,0,[],-1,false,false)
def yer (id:Int) (g:dG):dA:=bif yd g&&(leb 1 id&&leb id 60000)then(List.range g.1.toNat).foldl (fun a (i:Nat)=>yCX a (yQ id g i)) (yC2 id g)else yaD
theorem yOo (l:List Nat) (m:dM):(l.foldl yo0 m).1.length=m.1.length:=by
 induction l generalizing m with
 | nil=>rfl
 | cons x t ih=>rw[List.foldl_cons,ih]; show(m.1.set _ _).length=_; rw[List.length_set]
def yy (a:dA):Int×(Int×Int)×Int×Int×Int×Int×Int×List dW×Bool:=(a.1,a.2.1,a.2.2.2.1,a.2.2.2.2.1,a.2.2.2.2.2.1,a.2.2.2.2.2.2.1,a.2.2.2.2.2.2.2.1,a.2.2.2.2.2.2.2.2.1,a.2.2.2.2.2.2.2.2.2.2.2)
theorem yHA (a:dA):yy (opA a).2=yy a:=by
 unfold opA;cases ya a
 ·cases(a.2.2.2.2.2.2.2.2.2.1==0)
  ·cases ltb 0 a.2.2.2.2.2.2.2.2.2.1<;>rfl
  ·rfl
 ·rfl
theorem yhq (a:dA) (m n:Int) (s:List Int):yy (ybq a m n s)=yy a:=by
 unfold ybq;cases(nth a.2.2.1 m yc).2.2.1
 ·cases(opA a).1
  ·exact yHA a
  ·exact yHA a
 ·rfl
theorem yLA (a:dA) (i:Nat):yy (yab a i)=yy a:=by
 unfold yab;cases(nth a.2.2.1 i yc).2.2.1
 ·cases(opA a).1
  ·exact yHA a
  ·exact yHA a
 ·rfl
theorem yny {one:dA→Nat→dA} (h: ∀a i,yy (one a i)=yy a): ∀(l:List Nat) (a:dA),yy (l.foldl one a)=yy a
 | [],_=>rfl
 | x::l,a=>by rw[List.foldl_cons,yny h l,h]
theorem yaF (a:dA):yy (ye a)=yy a:=yny yLA _ _
theorem yiQ (a:dA):yy (yD a)=yy (yat a):=(yaF _).trans (yny (one:=yae) (fun _ _=>yhq _ _ _ _) _ _)
theorem yah {a b:dA} (h:yy a=yy b):a.2.1=b.2.1:=congrArg (fun x=>x.2.1) h
theorem yiN {a b:dA} (h:yy a=yy b):a.2.2.2.2.1=b.2.2.2.2.1:=congrArg (fun x=>x.2.2.2.1) h
theorem yS6 {a b:dA} (h:yy a=yy b):a.2.2.2.2.2.2.2.2.1=b.2.2.2.2.2.2.2.2.1:=congrArg (fun x=>x.2.2.2.2.2.2.2.1) h
def y3X (b:dA):dA:=(b.1,b.2.1,b.2.2.1,b.2.2.2.1,i64.wrap (b.2.2.2.2.1+1),b.2.2.2.2.2)
def yaE (a:dA):dA:=ybq a a.2.2.2.1 (yA a.2.2.2.2.1) [nth (yS a a.2.2.2.2.1).1 a.2.2.2.1 0]
def yfC (a:dA):Int×dA:=bif(yS a a.2.2.2.2.1).2 then(bif ya (yaE a)then(6,yaE a)else(0,y3X (yaE a)))else(5,a)
def yz8 (lost:Int) (br:Bool) (S:Int) (i:Nat) (m:dM):Prop:=yw m=true∧(m.1.length:Int)=6+S∧(m.2.2.1=true→(i:Int)=lost∨br=true)
def yFP (lost:Int) (br:Bool) (S:Int) (l:List dM):Prop:= ∀i,i<l.length→yz8 lost br S i (nth l i yc)
theorem ynB {lost S:Int} {br:Bool} {l:List dM} {i:Nat} {x:dM} (h:yFP lost br S l) (hx:i<l.length→yz8 lost br S i x):yFP lost br S (l.set i x):=fun j hj=>by
 rw[List.length_set]at hj;by_cases e:j=i
 ·subst e
  rw[zkQ,zkH (by rw[List.length_set]; exact hj),List.getElem_set_self]; exact hx hj
 ·have:=h j hj
  rw[zkQ,zkH hj]at this;rw[zkQ,zkH (by rw[List.length_set]; exact hj),List.getElem_set_ne (fun e'=>e e'.symm)]; exact this
theorem y3g {a:dA}:ylu a=true↔yFP a.2.2.2.1 a.2.2.2.2.2.2.2.2.2.2.2 a.2.1.2 a.2.2.1∧(a.2.2.1.length:Int)=a.2.1.1:=by
 constructor
 ·intro h
  refine⟨fun i hi=>y3O h hi,?_⟩;simp only[ylu,Bool.and_eq_true,beq_iff_eq]at h; exact h.2
 ·rintro⟨h1,h2⟩
  simp only[ylu,Bool.and_eq_true,beq_iff_eq,Bool.not_eq_true',List.any_eq_false,List.mem_range];refine⟨fun i hi=> ?_,h2⟩;obtain⟨g1,g2,g3⟩:=h1 i hi;unfold yhg;rw[g1,show(((nth a.2.2.1 i yc).1.length:Int) !=6+a.2.1.2)=false from bne_eq_false_iff_eq.2 g2];cases hf:(nth a.2.2.1 i yc).2.2.1
  ·simp
  ·rcases g3 hf with e | e
   ·rw[show((i:Int) !=a.2.2.2.1)=false from bne_eq_false_iff_eq.2 e]; simp
   ·rw[e]; simp
def fuz (a:dA):Int:=a.2.2.2.2.2.2.2.2.2.1
def yI (a:dA):Prop:=(yFP a.2.2.2.1 a.2.2.2.2.2.2.2.2.2.2.2 a.2.1.2 a.2.2.1∧(a.2.2.1.length:Int)=a.2.1.1)∧ -1≤fuz a∧fuz a≤1000
def yT (a:dA):Prop:=yd a.2.1=true∧(1≤a.1∧a.1≤60000)∧yaT a.2.1 a.2.2.2.2.2.2.2.2.1=true∧(-1≤a.2.2.2.1∧a.2.2.2.1≤a.2.1.1-1)∧(0≤a.2.2.2.2.1∧a.2.2.2.2.1≤a.2.1.2)∧(a.2.2.2.1= -1→a.2.2.2.2.1=0) ∧ (0≤a.2.2.2.2.2.2.1∧a.2.2.2.2.2.2.1≤60000)∧(a.2.2.2.2.2.2.1≤a.2.2.2.2.2.1∧a.2.2.2.2.2.1≤60000)∧a.2.2.2.2.2.1≤a.2.2.2.2.2.2.1+4∧0≤a.2.2.2.2.2.2.2.1∧a.2.2.2.2.2.2.2.1≤60000
theorem yB2 {a:dA}:yal a=true↔yT a∧yI a:=by
 unfold yal yT yI fuz;simp only[Bool.and_eq_true,zj5,y3g,Bool.not_eq_true',Bool.and_eq_false_iff,beq_eq_false_iff_ne,bne_eq_false_iff_eq];constructor
 ·rintro⟨h1,h2,h3,h4,h5,h6,h7,h8,h9,h10,h11,h12⟩
  exact⟨⟨h1,h2,h4,h5,h6,fun e=>h7.resolve_left (fun g=>g e),h8,h9,h10,h11.1,h11.2⟩,h3,h12⟩
 ·rintro⟨⟨h1,h2,h4,h5,h6,h7,h8,h9,h10,h11,h11'⟩,h3,h12⟩
  exact⟨h1,h2,h3,h4,h5,h6,(Decidable.em (a.2.2.2.1= -1)).elim (fun e=> .inr (h7 e)) (fun e=> .inl e),h8,h9,h10,⟨h11,h11'⟩,h12⟩
theorem yB3 {a b:dA} (h:yy b=yy a) (ha:yT a):yT b:=by
 unfold yy at h;simp only[Prod.mk.injEq]at h;obtain⟨h1,h2,h3,h4,h5,h6,h7,h8,h9⟩:=h;unfold yT at *;rw[h1,h2,h3,h4,h5,h6,h7,h8]; exact ha
theorem y45 {a b:dA} (h:yy b=yy a) (hl:b.2.2.1.length=a.2.2.1.length) (hm:yFP a.2.2.2.1 a.2.2.2.2.2.2.2.2.2.2.2 a.2.1.2 b.2.2.1) (hn:(a.2.2.1.length:Int)=a.2.1.1) (hf: -1≤fuz b∧fuz b≤1000):yI b:=by
 unfold yy at h;simp only[Prod.mk.injEq]at h;obtain⟨h1,h2,h3,h4,h5,h6,h7,h8,h9⟩:=h;unfold yI;rw[h2,h3,h9,hl]; exact⟨⟨hm,hn⟩,hf⟩
theorem y5v {a:dA} (h: -1≤fuz a∧fuz a≤1000): -1≤fuz (opA a).2∧fuz (opA a).2≤1000:=by
 unfold opA;cases ya a
 ·cases h0:(a.2.2.2.2.2.2.2.2.2.1==0)
  ·cases h1:ltb 0 a.2.2.2.2.2.2.2.2.2.1
   ·exact h
   ·have:=zj8.1 h1
    unfold fuz at h;show -1≤i64.wrap (a.2.2.2.2.2.2.2.2.2.1-1)∧i64.wrap (a.2.2.2.2.2.2.2.2.2.1-1)≤1000;rw[wr (by omega) (by omega)]; omega
  ·show -1≤(-1:Int)∧(-1:Int)≤1000; omega
 ·exact h
theorem yLQ {a:dA} (h:yI a):yI (opA a).2:=y45 (yHA a) (by rw[yaP]) (by rw[yaP]; exact h.1.1) h.1.2 (y5v h.2)
theorem yqt {a:dA} {m:Int} {x:dM} (h:yI a) (hm:inb m a.2.2.1.length=true) (hx:yz8 a.2.2.2.1 a.2.2.2.2.2.2.2.2.2.2.2 a.2.1.2 m.toNat (nth a.2.2.1 m yc)→yz8 a.2.2.2.1 a.2.2.2.2.2.2.2.2.2.2.2 a.2.1.2 m.toNat x):yI (ybp a m x):=by
 have hm:=zj4.1 hm;refine⟨⟨ynB h.1.1 (fun hi=>hx ?_),by show((a.2.2.1.set m.toNat x).length:Int)=_; rw[List.length_set]; exact h.1.2⟩,h.2⟩;have:=h.1.1 m.toNat hi;rwa[Int.toNat_of_nonneg hm.1]at this
theorem y3f {lost S:Int} {br:Bool} {i:Nat} {m:dM} (n:Int) (s:List Int) (h:yz8 lost br S i m):yz8 lost br S i (yZ m n s).1 :=
 ⟨y1Y n s h.1,by rw[(yyY m n s).1]; exact h.2.1,by rw[(yyY m n s).2]; exact h.2.2⟩
theorem y3e {lost S:Int} {br:Bool} {i:Nat} {m:dM} (h:yz8 lost br S i m):yz8 lost br S i (yE m) :=
 ⟨y4m h.1,by rw[(ysy m).1]; exact h.2.1,by rw[(ysy m).2]; exact h.2.2⟩
theorem ywY {a:dA} {m n:Int} {s:List Int} (h:yI a) (hm:inb m a.2.2.1.length=true):yI (ybq a m n s):=by
 unfold ybq;cases(nth a.2.2.1 m yc).2.2.1
 ·cases(opA a).1
  ·exact yLQ h
  ·exact yqt (yLQ h) (by rw[yaP]; exact hm) (fun g=>by rw[yaP]at g; exact y3f _ _ g)
 ·exact h
theorem y1s {a:dA} {i:Nat} (h:yI a) (hi:i<a.2.2.1.length):yI (yab a i):=by
 unfold yab;cases(nth a.2.2.1 i yc).2.2.1
 ·cases(opA a).1
  ·exact yLQ h
  ·exact yqt (yLQ h) (by rw[yaP]; exact zkP hi) (fun g=>by rw[yaP]at g; exact y3e g)
 ·exact h
theorem ykY {P:dA→Prop} {one:dA→Nat→dA} (hl: ∀a i,(one a i).2.2.1.length=a.2.2.1.length) (ho: ∀a i,P a→i<a.2.2.1.length→P (one a i)): ∀(n:Nat) (a:dA),n≤a.2.2.1.length→P a→P ((List.range n).foldl one a)
 | 0,_,_,h=>h
 | n+1,a,hn,h=>by
  rw[List.range_succ,List.foldl_append];exact ho _ _ (ykY hl ho n a (by omega) h) (by rw[yja hl]; exact hn)
theorem ykB {a:dA} (h:yI a):yI (ye a):=ykY (P:=yI) (one:=yab) ylQ (fun _ _=>y1s) _ a (Nat.le_refl _) h
theorem yyu {a:dA} (h:yI a):yI (yD a) :=ykB (ykY (P:=yI) (one:=yae) (fun _ _=>yo7 _ _ _ _) (fun _ _ h hi=>ywY h (zkP hi)) _ (yat a) (Nat.le_refl _) h)
theorem yBU {a:dA} (h:yI a):yI (yp a):=by
 unfold yp;cases ya (ye a)
 ·exact yyu (a:=yU (ye a)) (ykB h)
 ·exact ykB h
def ycB (a:dA):Prop:=ya a=false∧fuz a= -1
theorem y2H {a:dA} (h:ycB a):opA a=(true,a):=by
 unfold opA;rw[h.1,show a.2.2.2.2.2.2.2.2.2.1= -1 from h.2]; rfl
theorem yH6 {a:dA} (h:ycB a) (m n:Int) (s:List Int):ycB (ybq a m n s):=by
 unfold ybq;rw[y2H h];cases(nth a.2.2.1 m yc).2.2.1<;>exact h
theorem y1o {a:dA} (h:ycB a) (i:Nat):ycB (yab a i):=by
 unfold yab;rw[y2H h];cases(nth a.2.2.1 i yc).2.2.1<;>exact h
theorem yye {a:dA} (h:ycB a):ycB (ye a):=ykY (P:=ycB) (one:=yab) ylQ (fun _ i h _=>y1o h i) _ a (Nat.le_refl _) h
theorem yYI {a:dA} (h:ycB a):ycB (yD a) :=yye (ykY (P:=ycB) (one:=yae) (fun _ _=>yo7 _ _ _ _) (fun _ _ h _=>yH6 h _ _ _) _ (yat a) (Nat.le_refl _) h)
theorem yHW {a:dA} (h:ycB a):yp a=yD (yU (ye a)):=by
 unfold yp;rw[(yye h).1]; rfl
theorem y28 {a:dA} (h:ycB a):ycB (yp a):=by
 rw[yHW h]; exact yYI (a:=yU (ye a)) (yye h)
def Wk (k:Int) (a:dA):Prop:=yT a∧yI a∧ycB a∧a.2.2.2.2.2.2.2.2.2.2.2=false∧a.2.2.2.2.2.2.2.1≤k
theorem y5C {k:Int} {a:dA} (h:Wk k a):yal a=true:=yB2.2 ⟨h.1,h.2.1⟩
theorem ydi {k j:Int} {a:dA} (h:Wk k a) (hj:k≤j):Wk j a:=⟨h.1,h.2.1,h.2.2.1,h.2.2.2.1,Int.le_trans h.2.2.2.2 hj⟩
theorem yB6 {k:Int} {a b:dA} (hc:yy b=yy a) (hk:yI b) (hf:ycB b) (h:Wk k a):Wk k b:=by
 refine⟨yB3 hc h.1,hk,hf,?_⟩;unfold yy at hc;simp only[Prod.mk.injEq]at hc;obtain⟨_,_,_,_,_,_,h7,_,h9⟩:=hc;rw[h7,h9]; exact h.2.2.2
theorem y5E {k:Int} {a:dA} {m n:Int} {s:List Int} (h:Wk k a) (hm:inb m a.2.2.1.length=true):Wk k (ybq a m n s):=yB6 (yhq _ _ _ _) (ywY h.2.1 hm) (yH6 h.2.2.1 _ _ _) h
theorem y5g {k:Int} {a:dA} (h:Wk k a):Wk k (ye a):=yB6 (yaF _) (ykB h.2.1) (yye h.2.2.1) h
theorem y4K {k:Int} {a:dA} (h:Wk k a) (hk:k+1≤60000):Wk (k+1) (yat a):=by
 obtain⟨⟨c1,c2,c3,c4,c5,c6,c7,c8,c9,c10,c11⟩,h2,h3,h4,h5⟩:=h;have e:i64.wrap (a.2.2.2.2.2.2.2.1+1)=a.2.2.2.2.2.2.2.1+1:=wr (by omega) (by omega);refine⟨⟨c1,c2,c3,c4,c5,c6,c7,c8,c9,?_,?_⟩,h2,h3,h4,?_⟩
 ·show 0≤i64.wrap (a.2.2.2.2.2.2.2.1+1); omega
 ·show i64.wrap (a.2.2.2.2.2.2.2.1+1)≤_; omega
 ·show i64.wrap (a.2.2.2.2.2.2.2.1+1)≤_; omega
theorem yYp {k:Int} {a:dA} (h:Wk k a) (hk:k+1≤60000):Wk (k+1) (yD a):=yB6 (yiQ _) (yyu h.2.1) (yYI h.2.2.1) (y4K h hk)
theorem y35 {k:Int} {a:dA} (h:Wk k a):Wk k (yU a):=by
 obtain⟨⟨c1,c2,c3,c4,c5,c6,c7,c8,c9,c10,c11⟩,h2,h3,h4,h5⟩:=h;refine⟨⟨c1,c2,c3,c4,c5,c6,⟨?_,?_⟩,⟨Int.le_refl _,c8.2⟩,?_,c10,c11⟩,h2,h3,h4,h5⟩
 ·show 0≤a.2.2.2.2.2.1; omega
 ·show a.2.2.2.2.2.1≤60000; omega
 ·show a.2.2.2.2.2.1≤a.2.2.2.2.2.1+4; omega
theorem y1U {k:Int} {a:dA} (h:Wk k a) (hk:k+1≤60000):Wk (k+1) (yp a):=by
 rw[yHW h.2.2.1]; exact yYp (y35 (y5g h)) hk
theorem y34 {k:Int} {a:dA} {m:Int} {x:dM} (h:Wk k a) (hm:inb m a.2.2.1.length=true) (hx:yz8 a.2.2.2.1 a.2.2.2.2.2.2.2.2.2.2.2 a.2.1.2 m.toNat (nth a.2.2.1 m yc)→yz8 a.2.2.2.1 a.2.2.2.2.2.2.2.2.2.2.2 a.2.1.2 m.toNat x):Wk k (ybp a m x) :=yB6 (a:=a) (b:=ybp a m x) rfl (yqt h.2.1 hm hx) h.2.2.1 h
theorem y5e {k m:Int} {a:dA} (h:Wk k a) (hl:a.2.2.2.1= -1) (hm:inb m a.2.2.1.length=true) (hk:k+1≤60000):Wk (k+1) (yhK a m):=by
 have hmi:=zj4.1 hm
 have hw:Wk k (yau a m):=by
  obtain⟨⟨c1,c2,c3,c4,c5,c6,c7,c8,c9,c10,c11⟩,⟨⟨g1,g2⟩,g3⟩,f,b,t⟩:=h;refine⟨⟨c1,c2,c3,⟨?_,?_⟩,⟨Int.le_refl _,by show(0:Int)≤a.2.1.2; omega⟩,fun e=>rfl,c7,c8,c9,c10,c11⟩,⟨⟨?_,?_⟩,g3⟩,f,b,t⟩
  ·show -1≤m; omega
  ·show m≤a.2.1.1-1; omega
  ·show yFP m a.2.2.2.2.2.2.2.2.2.2.2 a.2.1.2 (a.2.2.1.set m.toNat (yft (nth a.2.2.1 m yc)))
   refine ynB (fun i hi=> ?_) (fun hi=> ?_)
   ·obtain⟨e1,e2,e3⟩:=g1 i hi
    refine⟨e1,e2,fun e=> ?_⟩;rcases e3 e with e | e
    ·omega
    ·exact .inr e
   ·have:=g1 m.toNat hi
    rw[Int.toNat_of_nonneg hmi.1]at this;exact⟨yWH this.1,this.2.1,fun _=> .inl (Int.toNat_of_nonneg hmi.1)⟩
  ·show((a.2.2.1.set m.toNat (yft (nth a.2.2.1 m yc))).length:Int)=a.2.1.1
   rw[List.length_set]; exact g2
 unfold yhK;rw[show(a.2.2.2.1== -1)=true from beq_iff_eq.2 hl,h.2.2.1.1,h.2.2.2.1];cases ltb a.2.2.2.2.2.2.2.1 60000
 ·exact ydi hw (by omega)
 ·exact yYp hw hk
theorem y4M {k:Int} {a:dA} (h:Wk k a) (hl:inb a.2.2.2.1 a.2.2.1.length=true) (hk:k+1≤60000):Wk (k+1) (yD (yaa a)):=by
 have hmi:=zj4.1 hl;refine yYp ?_ hk;obtain⟨⟨c1,c2,c3,c4,c5,c6,c7,c8,c9,c10,c11⟩,⟨⟨g1,g2⟩,g3⟩,f,b,t⟩:=h;have hg:=yl.1 c1;refine⟨⟨c1,c2,c3,c4,⟨Int.le_refl _,by show(0:Int)≤a.2.1.2; omega⟩,fun e=>rfl,c7,c8,c9,c10,c11⟩,⟨⟨ynB g1 (fun hi=>⟨yKG (by omega) (by omega),?_,fun e=> ?_⟩),?_⟩,g3⟩,f,b,t⟩
 ·unfold ya5
  rw[zk0 (show 1≤6+a.2.1.2 by omega),zk0 (show 6+a.2.1.2≤20 by omega)];show((List.replicate (6+a.2.1.2).toNat ([]:List Int)).length:Int)=6+a.2.1.2;rw[List.length_replicate]; omega
 ·unfold ya5 at e
  rw[zk0 (show 1≤6+a.2.1.2 by omega),zk0 (show 6+a.2.1.2≤20 by omega)]at e;cases e
 ·show((a.2.2.1.set a.2.2.2.1.toNat (ya5 (6+a.2.1.2))).length:Int)=a.2.1.1
  rw[List.length_set]; exact g2
theorem y5f {k:Int} {a:dA} (h:Wk k a) (hl:inb a.2.2.2.1 a.2.2.1.length=true) (hb:a.2.2.2.2.1<a.2.1.2):Wk k (yfC a).2:=by
 have hp:Wk k (yaE a):=y5E h hl;have e:=yhq a a.2.2.2.1 (yA a.2.2.2.2.1) [nth (yS a a.2.2.2.2.1).1 a.2.2.2.1 0];have e1:(yaE a).2.2.2.2.1=a.2.2.2.2.1:=yiN e;have e2:(yaE a).2.1=a.2.1:=yah e;have e3:(yaE a).2.2.2.1=a.2.2.2.1:=congrArg (fun x=>x.2.2.1) e;unfold yfC;cases(yS a a.2.2.2.2.1).2
 ·exact h
 ·generalize yaE a=R at hp e1 e2 e3 ⊢
  rw[hp.2.2.1.1];have hmi:=zj4.1 hl;obtain⟨⟨c1,c2,c3,c4,c5,c6,c7,c8,c9,c10,c11⟩,g2,g3,g4,g5⟩:=hp;have hg:=yl.1 c1;have e4:i64.wrap (R.2.2.2.2.1+1)=R.2.2.2.2.1+1:=wr (by omega) (by omega);refine⟨⟨c1,c2,c3,c4,⟨?_,?_⟩,fun e=> ?_,c7,c8,c9,c10,c11⟩,g2,g3,g4,g5⟩
  ·show 0≤i64.wrap (R.2.2.2.2.1+1); omega
  ·show i64.wrap (R.2.2.2.2.1+1)≤R.2.1.2; rw[e4,e1,e2]; omega
  ·have:R.2.2.2.1= -1:=e
   omega
def ya8 (r:dN) (a:dA) (i:Nat):dA:=ybq a i (yh r.1) (yac r)
def yo (a:dA) (r:dN):dA:=ye ((List.range a.2.2.1.length).foldl (ya8 r) a)
theorem ylb (r:dN) (a:dA) (i:Nat):(ya8 r a i).2.2.1.length=a.2.2.1.length:=yo7 _ _ _ _
theorem yOr (r:dN) {a:dA} (i:Nat) (h:ya a=true):ya8 r a i=a:=ynU h _ _ _
theorem yHM (a:dA) (r:dN):(yo a r).2.2.1.length=a.2.2.1.length:=(yIt _).trans (yja (ylb r) _ _)
theorem ya2 (a:dA) (r:dN):yy (yo a r)=yy a:=(yaF _).trans (yny (one:=ya8 r) (fun _ _=>yhq _ _ _ _) _ _)
def ycd (p N x:Int) (data:List Int) (i:Int):Int:=bif i==p then x else nth data ((i-p-1+N).tmod N) 0
def ya9 (p N s:Int) (data:List Int) (a:dA) (i:Nat):dA:=bif ycC a i s then ybq a i (yA s) [ycd p N (yay data) data i]else a
def yB (a:dA) (s:Int) (data:List Int):dA:=(List.range a.2.2.1.length).foldl (ya9 (yk a.2.1 s) a.2.1.1 s data) a
theorem yqm (p N s:Int) (data:List Int) (a:dA) (i:Nat):(ya9 p N s data a i).2.2.1.length=a.2.2.1.length:=by
 unfold ya9; cases ycC a i s
 ·rfl
 ·exact yo7 _ _ _ _
theorem yDw (p N s:Int) (data:List Int) {a:dA} (i:Nat) (h:ya a=true):ya9 p N s data a i=a:=by
 unfold ya9; cases ycC a i s
 ·rfl
 ·exact ynU h _ _ _
theorem yJW (p N s:Int) (data:List Int) (a:dA) (i:Nat):yy (ya9 p N s data a i)=yy a:=by
 unfold ya9; cases ycC a i s
 ·rfl
 ·exact yhq _ _ _ _
theorem y4i (a:dA) (s:Int) (data:List Int):(yB a s data).2.2.1.length=a.2.2.1.length:=yja (yqm _ _ _ _) _ _
theorem yd7 (a:dA) (s:Int) (data:List Int):yy (yB a s data)=yy a:=yny (yJW _ _ _ _) _ _
theorem y5S {N i p:Int} (h:3≤N∧N≤5) (hi:0≤i∧i<N) (hp:0≤p∧p≤N-1) (hne:i≠p):0≤(i-p-1+N).tmod N∧(i-p-1+N).tmod N<N-1:=by
 rw[Int.tmod_eq_emod_of_nonneg (by omega)];have:N=3∨N=4∨N=5:=by omega
 rcases this with rfl | rfl | rfl<;>omega
theorem y3s {N p x:Int} {data:List Int} (h:3≤N∧N≤5) (hp:0≤p∧p≤N-1) (hd:(data.length:Int)=N-1) :
  (List.range data.length).foldl (fun l (i:Nat)=>l.set ((p+1+i).tmod N).toNat (nth data i 0)) ((List.replicate N.toNat 0).set p.toNat x)=(List.range N.toNat).map (fun(i:Nat)=>ycd p N x data i):=by
 have:N=3∨N=4∨N=5:=by omega
 rcases this with rfl | rfl | rfl
 ·match data,hd with
  | [a,b],_ =>
   have:p=0∨p=1∨p=2:=by omega
   rcases this with rfl | rfl | rfl<;>simp[ycd,nth,List.range_succ,List.replicate_succ]
  | [],hd=>simp at hd
  | [_],hd=>simp at hd
  | _::_::_::_,hd=>simp only[List.length_cons]at hd; omega
 ·match data,hd with
  | [a,b,c],_ =>
   have:p=0∨p=1∨p=2∨p=3:=by omega
   rcases this with rfl | rfl | rfl | rfl<;>simp[ycd,nth,List.range_succ,List.replicate_succ]
  | [],hd=>simp at hd
  | [_],hd=>simp at hd
  | [_,_],hd=>simp at hd
  | _::_::_::_::_,hd=>simp only[List.length_cons]at hd; omega
 ·match data,hd with
  | [a,b,c,d],_ =>
   have:p=0∨p=1∨p=2∨p=3∨p=4:=by omega
   rcases this with rfl | rfl | rfl | rfl | rfl<;>simp[ycd,nth,List.range_succ,List.replicate_succ]
  | [],hd=>simp at hd
  | [_],hd=>simp at hd
  | [_,_],hd=>simp at hd
  | [_,_,_],hd=>simp at hd
  | _::_::_::_::_::_,hd=>simp only[List.length_cons]at hd; omega
def yhH (a:dA):dA:=yo a (yaz a a.2.2.2.2.2.1).1
def yku (a:dA):dA:=yB (yC (yhH a)) (yaz a a.2.2.2.2.2.1).1.2.1 (yaz a a.2.2.2.2.2.1).1.2.2
def yp9 (_:Nat) (a:dA):dA ⊕ (dA ⊕ dA) :=bif !(yaz a a.2.2.2.2.2.1).2||leb 60000 a.2.2.2.2.2.1 then .inr (.inl a)else bif ya (yhH a)then .inr (.inr (yhH a))else bif ya (yku a)then .inr (.inr (yku a))else .inl (yku a)
def yLz (a:dA):dA:=match goE yp9 .inl 4 0 a with
 | .inl b=>yp b
 | .inr b=>b
def ylN (a:dA):dA:=bif yal a&&(!(ya a)&&(!a.2.2.2.2.2.2.2.2.2.2.2&&ltb a.2.2.2.2.2.2.2.1 60000))then yLz a else a
def yn1 (l:List dM) (ks:List Int) (id fuse:Int):dA×Bool :=bif(yfI (yag l ks) id).2 then(ylN (bif leb (-1) fuse&&leb fuse 1000 then yhD (yfI (yag l ks) id).1 fuse (ya (yfI (yag l ks) id).1)else(yfI (yag l ks) id).1),true)else(yaD,false)
theorem y1O (a:dA):(yhH a).2.1=a.2.1:=yah (ya2 _ _)
theorem y4D (a:dA):(yku a).2.1=a.2.1:=(yah (yd7 (yC (yhH a)) _ _)).trans (y1O a)
theorem y4E (a:dA):(yku a).2.2.1.length=a.2.2.1.length:=(y4i (yC (yhH a)) _ _).trans (yHM a _)
theorem y1P: ∀(k i:Nat) (a b:dA),ya a=false→goE yp9 .inl k i a= .inl b→ya b=false
 | 0,_,a,b,h,e=>by cases e; exact h
 | k+1,i,a,b,h,e=>by
  unfold goE yp9 at e;cases hc:(!(yaz a a.2.2.2.2.2.1).2||leb 60000 a.2.2.2.2.2.1)
  ·rw[hc]at e
   cases hd1:ya (yhH a)
   ·rw[hd1]at e
    cases hd2:ya (yku a)
    ·rw[hd2]at e
     exact y1P k (i+1) (yku a) b hd2 e
    ·rw[hd2]at e; cases e
   ·rw[hd1]at e; cases e
  ·rw[hc]at e; cases e; exact h
theorem ynw {a b:dA} (h:yy a=yy b):a.2.2.2.1=b.2.2.2.1:=congrArg (fun x=>x.2.2.1) h
def yj (a:dA) (i:Int):dM:=nth a.2.2.1 i yc
theorem yLO {a:dA} {m i:Int} {x:dM} (hm:inb m a.2.2.1.length=true) (hi:0≤i):yj (ybp a m x) i=bif m==i then x else yj a i:=yEc hm hi
def yec (n:Int) (s:List Int) (m:dM):dM:=bif m.2.2.1 then m else(yZ m n s).1
def Did (g:dM→dM) (i:Int) (a r:dA):Prop:=yy r=yy a∧r.2.2.1.length=a.2.2.1.length ∧ ((ya r=false∧ ∀j,0≤j→yj r j=bif i==j then g (yj a j)else yj a j)∨(ya r=true∧ ∀j,yj r j=yj a j))
theorem yB5 {a:dA} {m:Int} (n:Int) (s:List Int) (h:ya a=false) (hm:inb m a.2.2.1.length=true):Did (yec n s) m a (ybq a m n s):=by
 refine⟨yhq _ _ _ _,yo7 _ _ _ _,?_⟩;have hd:=y1M h m n s;unfold ybq at hd ⊢;cases hf:(nth a.2.2.1 m yc).2.2.1
 ·rw[hf]at hd
  cases ho:(opA a).1
  ·rw[ho]at hd
   refine .inr ⟨hd,fun j=> ?_⟩;show nth (opA a).2.2.2.1 j yc=yj a j;rw[yaP]; rfl
  ·rw[ho]at hd
   refine .inl ⟨hd,fun j hj=> ?_⟩;show yj (ybp (opA a).2 m (yZ (nth a.2.2.1 m yc) n s).1) j=_;rw[yLO (by rw[yaP]; exact hm) hj];cases hj2:(m==j)
   ·show nth (opA a).2.2.2.1 j yc=yj a j
    rw[yaP]; rfl
   ·have:=beq_iff_eq.1 hj2
    subst this;show _=yec n s (yj a m);unfold yec yj;rw[hf]; rfl
 ·refine .inl ⟨h,fun j hj=> ?_⟩
  cases hj2:(m==j)
  ·rfl
  ·have:=beq_iff_eq.1 hj2
   subst this;show yj a m=yec n s (yj a m);unfold yec yj;rw[hf]; rfl
theorem y4F {a:dA} {i:Nat} (h:ya a=false) (hm:i<a.2.2.1.length):Did yE i a (yab a i):=by
 refine⟨yLA _ _,ylQ _ _,?_⟩;have hd:=yLB h i;unfold yab at hd ⊢;cases hf:(nth a.2.2.1 i yc).2.2.1
 ·rw[hf]at hd
  cases ho:(opA a).1
  ·rw[ho]at hd
   refine .inr ⟨hd,fun j=> ?_⟩;show nth (opA a).2.2.2.1 j yc=yj a j;rw[yaP]; rfl
  ·rw[ho]at hd
   refine .inl ⟨hd,fun j hj=> ?_⟩;show yj (ybp (opA a).2 i (yE (nth a.2.2.1 i yc))) j=_;rw[yLO (by rw[yaP]; exact zkP hm) hj];cases hj2:((i:Int)==j)
   ·show nth (opA a).2.2.2.1 j yc=yj a j
    rw[yaP]; rfl
   ·have:=beq_iff_eq.1 hj2
    subst this; rfl
 ·refine .inl ⟨h,fun j hj=> ?_⟩
  cases hj2:((i:Int)==j)
  ·rfl
  ·have:=beq_iff_eq.1 hj2
   subst this;show yj a i=yE (yj a i);unfold yE yj;rw[hf,Bool.not_true,Bool.and_false]; rfl
def Adv (g:Int→dM→dM) (a r:dA) (n:Nat):Prop:=yy r=yy a∧r.2.2.1.length=a.2.2.1.length ∧ ∃k:Nat,k≤n∧(∀j:Int,0≤j→yj r j=bif ltb j k then g j (yj a j)else yj a j)∧(ya r=false→k=n)
theorem yCZ {one:dA→Nat→dA} {g:Int→dM→dM} {a:dA} (hs: ∀b i,ya b=true→one b i=b)
  (ho: ∀(b:dA) (i:Nat),yy b=yy a→b.2.2.1.length=a.2.2.1.length→i<a.2.2.1.length→ya b=false→yj b i=yj a i→Did (g i) i b (one b i)) (hd:ya a=false) :
  ∀n,n≤a.2.2.1.length→Adv g a ((List.range n).foldl one a) n
 | 0,_=>⟨rfl,rfl,0,Nat.le_refl _,fun j hj=>by rw[zk1 (show((0:Nat):Int)≤j by omega)]; rfl,fun _=>rfl⟩
 | n+1,hn=>by
  obtain⟨h1,h2,k,h3,h4,h5⟩:=yCZ hs ho hd n (by omega);rw[List.range_succ,List.foldl_append,List.foldl_cons,List.foldl_nil];generalize (List.range n).foldl one a=R at h1 h2 h4 h5 ⊢;cases hR:ya R
  ·have hk:=h5 hR
   subst hk;have e:yj R k=yj a k:=by rw[h4 k (by omega),zk1 (Int.le_refl _)]; rfl
   obtain⟨g1,g2,g3⟩:=ho R k h1 h2 (by omega) hR e;refine⟨g1.trans h1,g2.trans h2,?_⟩;rcases g3 with⟨g3,g4⟩ | ⟨g3,g4⟩
   ·refine⟨k+1,Nat.le_refl _,fun j hj=> ?_,fun _=>rfl⟩
    rw[g4 j hj];by_cases hj2:(k:Int)=j
    ·subst hj2
     rw[show((k:Int)==(k:Int))=true from beq_self_eq_true _,zkw (show(k:Int)<((k+1:Nat):Int)by omega),e]; try rfl
    ·rw[show((k:Int)==j)=false from beq_eq_false_iff_ne.2 hj2,cond_false,h4 j hj,show ltb j ((k+1:Nat):Int)=ltb j k by rw[Bool.eq_iff_iff,zj8,zj8]; omega]
   ·refine⟨k,by omega,fun j hj=>by rw[g4 j,h4 j hj],fun h=> ?_⟩
    rw[g3]at h; cases h
  ·rw[hs R n hR]
   exact⟨h1,h2,k,by omega,h4,fun h=>by rw[hR]at h; cases h⟩
theorem yRX {a:dA} (hd:ya a=false):Adv (fun _=>yE) a (ye a) a.2.2.1.length :=
 yCZ (one:=yab) (g:=fun _=>yE) (fun _ i h=>yEK i h) (fun b i _ h2 hi hb _=>y4F hb (by omega)) hd _ (Nat.le_refl _)
theorem y1i {a b:dA} (h:yy b=yy a) (i:Int):yLT b i=yLT a i:=by
 unfold yy at h;simp only[Prod.mk.injEq]at h;obtain⟨h1,h2,h3,h4,h5,h6,h7,h8,h9⟩:=h;unfold yLT;rw[h1,h2,h3,h4,h6,h7]
theorem yrB {a b:dA} (h:yy b=yy a):b.2.2.2.2.2.2.2.1=a.2.2.2.2.2.2.2.1:=congrArg (fun x=>x.2.2.2.2.2.2.1) h
theorem yrA {a b:dA} (h:yy b=yy a):b.2.2.2.2.2.2.2.2.2.2.2=a.2.2.2.2.2.2.2.2.2.2.2:=congrArg (fun x=>x.2.2.2.2.2.2.2.2) h
theorem y4W {a b:dA} (h:yy b=yy a):b.1=a.1:=congrArg (fun x=>x.1) h
def y0P (a:dA) (i:Int) (m:dM):dM:=yec (a.2.2.2.2.2.2.2.1.tmod 2) (ym (yLT a i)) m
theorem y1z {a:dA} (hd:ya a=false):Adv (y0P a) a ((List.range a.2.2.1.length).foldl yae a) a.2.2.1.length :=
 yCZ (one:=yae) (g:=y0P a) (fun _ i h=>ynU h _ _ _) (fun b i h1 h2 hi hb _=>by
  have:=yB5 (b.2.2.2.2.2.2.2.1.tmod 2) (ym (yLT b i)) hb (show inb (i:Int) b.2.2.1.length=true from zkP (by omega));rw[yrB h1,y1i h1]at this;unfold y0P yae;rw[yrB h1,y1i h1]
  exact this) hd _ (Nat.le_refl _)
theorem y2J {a:dA} (r:dN) (hd:ya a=false):Adv (fun _=>yec (yh r.1) (yac r)) a ((List.range a.2.2.1.length).foldl (ya8 r) a) a.2.2.1.length :=
 yCZ (one:=ya8 r) (g:=fun _=>yec (yh r.1) (yac r)) (fun _ i h=>yOr r i h) (fun b i _ h2 hi hb _=>yB5 _ _ hb (zkP (by omega))) hd _ (Nat.le_refl _)
def yaf (L B i s:Int) (m:dM):Bool:= !m.2.2.1&&(i !=L||ltb s B)
theorem y2B {a:dA} {i s:Int} (hi:inb i a.2.2.1.length=true):ycC a i s=yaf a.2.2.2.1 a.2.2.2.2.1 i s (yj a i):=by
 unfold ycC yaf yj;rw[hi]; rfl
def yiP (L B p N s:Int) (d:List Int) (i:Int) (m:dM):dM:=bif yaf L B i s m then(yZ m (yA s) [ycd p N (yay d) d i]).1 else m
theorem yO3 {a:dA} (s:Int) (d:List Int) (hd:ya a=false):Adv (yiP a.2.2.2.1 a.2.2.2.2.1 (yk a.2.1 s) a.2.1.1 s d) a (yB a s d) a.2.2.1.length :=
 yCZ (one:=ya9 (yk a.2.1 s) a.2.1.1 s d) (g:=yiP a.2.2.2.1 a.2.2.2.2.1 (yk a.2.1 s) a.2.1.1 s d) (fun _ i h=>yDw _ _ _ _ i h) (fun b i h1 h2 hi hb _=>by
  have hib:inb (i:Int) b.2.2.1.length=true:=zkP (by omega);unfold ya9;rw[y2B hib,ynw h1,yiN h1];cases hl:yaf a.2.2.2.1 a.2.2.2.2.1 i s (yj b i)
  ·refine⟨rfl,rfl,.inl ⟨hb,fun j hj=> ?_⟩⟩
   by_cases hj2:(i:Int)=j
   ·subst hj2
    rw[beq_self_eq_true];show yj b i=yiP _ _ _ _ _ _ _ (yj b i);unfold yiP;rw[hl]; rfl
   ·rw[show((i:Int)==j)=false from beq_eq_false_iff_ne.2 hj2]; rfl
  ·obtain⟨g1,g2,g3⟩:=yB5 (yA s) [ycd (yk a.2.1 s) a.2.1.1 (yay d) d i] hb hib
   refine⟨g1,g2,g3.imp (fun⟨g3,g4⟩=>⟨g3,fun j hj=> ?_⟩) id⟩;show yj (ybq b i (yA s) _) j=_;rw[g4 j hj];by_cases hj2:(i:Int)=j
   ·subst hj2
    rw[beq_self_eq_true,cond_true,cond_true];unfold yiP yec;rw[hl,cond_true];simp only[yaf,Bool.and_eq_true,Bool.not_eq_true']at hl;rw[hl.1]; rfl
   ·rw[show((i:Int)==j)=false from beq_eq_false_iff_ne.2 hj2]; rfl) hd _ (Nat.le_refl _)
theorem yLo (s:dS):yaw (ym s)=true:=by
 unfold ym;cases h:yH s
 ·rfl
 ·unfold yH at h
  simp only[ybM]at h;cases hg:yd (s.2.2.2.1,s.2.2.2.2.1)
  ·rw[hg]at h; cases h
  have hge:=yl.1 hg;simp only at hge;rw[hg,wq (s.2.2.2.1-1) (by omega) (by omega)]at h;cases h2:(leb 1 s.1&&leb s.1 60000)
  ·rw[h2]at h; cases h
  cases h3:(leb 0 s.2.1&&leb s.2.1 60000)
  ·rw[h2,h3]at h; cases h
  cases h4:(leb 0 s.2.2.1&&leb s.2.2.1 (s.2.2.2.1-1))
  ·rw[h2,h3,h4]at h; cases h
  cases h5:(leb 0 s.2.2.2.2.2.1&&leb s.2.2.2.2.2.1 60000)
  ·rw[h2,h3,h4,h5]at h; cases h
  cases h6:(leb (-1) s.2.2.2.2.2.2.1&&leb s.2.2.2.2.2.2.1 (s.2.2.2.1-1))
  ·rw[h2,h3,h4,h5,h6]at h; cases h
  cases h7:(leb 0 s.2.2.2.2.2.2.2&&leb s.2.2.2.2.2.2.2 s.2.2.2.2.1)
  ·rw[h2,h3,h4,h5,h6,h7]at h; cases h
  simp only[Bool.and_eq_true,zj5]at h2 h3 h4 h5 h6 h7;rw[yyI];refine⟨by show(9:Nat)≤12; omega,?_⟩;have hw:i64.wrap (s.2.2.2.2.2.2.1+1)=s.2.2.2.2.2.2.1+1:=wr (by omega) (by omega);simp only[Bool.not_true,cond_false,hw,List.mem_cons,List.not_mem_nil,or_false]
  rintro x (rfl | rfl | rfl | rfl | rfl | rfl | rfl | rfl | rfl)<;>omega
theorem yo1 {g:dG} (id i:Int) (hg:yd g=true):yw (yQ id g i)=true∧((yQ id g i).1.length:Int)=6+g.2∧(yQ id g i).2=([],false,[]):=by
 have hge:=yl.1 hg
 have hm:ya5 (6+g.2)=(List.replicate (6+g.2).toNat [],[],false,[]):=by
  unfold ya5;rw[zk0 (show 1≤6+g.2 by omega),zk0 (show 6+g.2≤20 by omega)]; rfl
 have key: ∀(l:List Nat) (m:dM),m.1.all yaw=true∧m.2=([],false,[])→(l.foldl yo0 m).1.all yaw=true∧(l.foldl yo0 m).2=([],false,[]):=by
  intro l
  induction l with
  | nil=>intro m h; exact h
  | cons x t ih =>
   intro m h;refine ih _ ⟨?_,h.2⟩;rw[List.all_eq_true];intro y hy;rcases List.mem_or_eq_of_mem_set hy with h1 | rfl
   ·exact List.all_eq_true.1 h.1 y h1
   ·rfl
 have ht:(yi2 id g i).1.all yaw=true∧(yi2 id g i).2=([],false,[]):=by
  unfold yi2;rw[hm];refine⟨?_,rfl⟩;rw[List.all_eq_true];intro y hy;rcases List.mem_or_eq_of_mem_set hy with h1 | rfl
  ·rw[List.eq_of_mem_replicate h1]; rfl
  ·exact yLo _
 have hl:((yQ id g i).1.length:Int)=6+g.2:=by
  unfold yQ;rw[yOo];unfold yi2;rw[hm];show(((List.replicate (6+g.2).toNat ([]:List Int)).set 0 _).length:Int)=_;rw[List.length_set,List.length_replicate]; omega
 obtain⟨h1,h2⟩:=key (List.range g.2.toNat) _ ht;refine⟨yrC h1 ?_ ?_ ?_ ?_ ?_,hl,h2⟩
 ·show List.all ((yQ id g i).2).1 _=true
  rw[show(yQ id g i).2=([],false,[])from h2]; rfl
 ·show yoP _ ((yQ id g i).2).2.2=true
  rw[show(yQ id g i).2=([],false,[])from h2,ysr];exact⟨fun x hx=>absurd hx List.not_mem_nil,List.Pairwise.nil⟩
 ·show 1≤(yQ id g i).1.length; omega
 ·show(yQ id g i).1.length≤20; omega
 ·show((yQ id g i).2).1.length≤60
  rw[show(yQ id g i).2=([],false,[])from h2]; exact Nat.zero_le _
theorem yE1 {id:Int} {g:dG} (hg:yd g=true) (h1:1≤id) (h2:id≤60000):yer id g=(id,g,(List.range g.1.toNat).map (fun(i:Nat)=>yQ id g i),-1,0,0,0,0,[],-1,false,false):=by
 unfold yer;rw[hg,zk0 h1,zk0 h2]
 have: ∀(n:Nat),(List.range n).foldl (fun a (i:Nat)=>yCX a (yQ id g i)) (yC2 id g)=(id,g,(List.range n).map (fun(i:Nat)=>yQ id g i),-1,0,0,0,0,[],-1,false,false):=by
  intro n
  induction n with
  | zero=>rfl
  | succ n ih=>rw[List.range_succ,List.foldl_append,ih,List.map_append]; rfl
 exact this _
theorem y1X {id:Int} {g:dG} (hg:yd g=true) (h1:1≤id) (h2:id≤60000):Wk 0 (yer id g):=by
 have hge:=yl.1 hg;rw[yE1 hg h1 h2];have hl:((List.range g.1.toNat).map (fun(i:Nat)=>yQ id g i)).length=g.1.toNat:=by rw[List.length_map,List.length_range]
 refine⟨⟨hg,⟨h1,h2⟩,?_,⟨Int.le_refl _,?_⟩,⟨Int.le_refl _,?_⟩,fun _=>rfl,?_,?_,?_,?_,?_⟩,⟨⟨fun i hi=> ?_,?_⟩,?_,?_⟩,⟨rfl,rfl⟩,rfl,Int.le_refl _⟩
 ·rfl
 ·show(-1:Int)≤g.1-1; omega
 ·show(0:Int)≤g.2; omega
 ·show(0:Int)≤0∧(0:Int)≤60000; omega
 ·show(0:Int)≤0∧(0:Int)≤60000; omega
 ·show(0:Int)≤0+4; omega
 ·show(0:Int)≤0; omega
 ·show(0:Int)≤60000; omega
 ·have hi':i<((List.range g.1.toNat).map (fun(i:Nat)=>yQ id g i)).length:=hi
  show yz8 (-1) false g.2 i (nth ((List.range g.1.toNat).map (fun(i:Nat)=>yQ id g i)) i yc);rw[zkQ,zkH hi',List.getElem_map,List.getElem_range];obtain⟨k1,k2,k3⟩:=yo1 id i hg;refine⟨k1,k2,fun e=> ?_⟩;rw[show(yQ id g i).2=([],false,[])from k3]at e;cases e
 ·show(((List.range g.1.toNat).map (fun(i:Nat)=>yQ id g i)).length:Int)=g.1
  rw[hl]; omega
 ·show(-1:Int)≤ -1; omega
 ·show(-1:Int)≤1000; omega
def yv (a:dA):dA:=bif leb 4 (i64.wrap (a.2.2.2.2.2.1-a.2.2.2.2.2.2.1))then yp a else a
def yz (a:dA) (s:Int) (d:List Int):Int×dA :=bif ya (yv a)then(6,yv a)else bif ya (yo (yv a) ((yv a).2.2.2.2.2.1,s,d))then(6,yo (yv a) ((yv a).2.2.2.2.2.1,s,d))else (bif ya (yB (yC (yo (yv a) ((yv a).2.2.2.2.2.1,s,d))) s d)then 6 else 0,yB (yC (yo (yv a) ((yv a).2.2.2.2.2.1,s,d))) s d)
theorem yJU (a:dA):(yp a).2.1=a.2.1:=by
 unfold yp;cases ya (ye a)
 ·exact(yah (yiQ (yU (ye a)))).trans (show(ye a).2.1=a.2.1 from yah (yaF a))
 ·exact yah (yaF a)
theorem yWF (a:dA):(yv a).2.1=a.2.1:=by
 unfold yv;cases leb 4 (i64.wrap (a.2.2.2.2.2.1-a.2.2.2.2.2.2.1))
 ·rfl
 ·exact yJU a
theorem y4N {k m n:Int} {a:dA} (h:Wk k a) (hm:inb m a.2.2.1.length=true):Wk k (ybp a m (spoil (nth a.2.2.1 m yc) n)) :=
 y34 h hm (fun g=>⟨yRW n g.1,by rw[(yn2 _ _).1]; exact g.2.1,by rw[(yn2 _ _).2]; exact g.2.2⟩)
theorem y3z {α:Type} {c:Bool} {x y:α} (h:c=true):(bif !c then x else y)=y:=by subst h; rfl
theorem yHY {α:Type} {c:Bool} {x y:α} (h:c=false):(bif !c then x else y)=x:=by subst h; rfl
theorem ydP {a:dA} (h:yI a) {i:Int} (h0:0≤i) (h1:i<a.2.1.1):yw (yj a i)=true∧((yj a i).1.length:Int)=6+a.2.1.2∧((yj a i).2.2.1=true→i=a.2.2.2.1∨a.2.2.2.2.2.2.2.2.2.2.2=true):=by
 have:=h.1.1 i.toNat (by have:=h.1.2; omega);unfold yz8 at this;rw[Int.toNat_of_nonneg h0]at this;exact this
theorem yiO {s:Int} (h0:0≤s) (h1:s≤1000):yA s=s+6:=by
 unfold yA;rw[zk0 h0,zk0 (show s≤1099511627776 by omega)]; rfl
def yad (a:dA) (s i:Int):Bool:=yaf a.2.2.2.1 a.2.2.2.2.1 i s (yj a i)&& !(yaZ (yj a i) (s+6))
def yHT (V:Int→Int→Int) (a:dA):Prop:= ∀i s,0≤i→i<a.2.1.1→0≤s→s<a.2.1.2→yad a s i=true→ycb (yj a i) (s+6)= [V s i]
def ydL (V:Int→Int→Int) (N:Int) (s:Int):List Int:=(List.range N.toNat).map (fun(i:Nat)=>V s i)
structure EvV (g:dG) (V:Int→Int→Int):Prop where
 ev: ∀s,0≤s→s<g.2→yay (ydL V g.1 s)=0
 ew: ∀s i,0≤s→s<g.2→0≤i→i<g.1→isW (V s i)=true
theorem ysI {V:Int→Int→Int} {a:dA} {i s:Int} (hg:yd a.2.1=true) (hk:yI a) (hv:yHT V a) (i0:0≤i) (i1:i<a.2.1.1) (s0:0≤s) (s1:s<a.2.1.2):yF a i s=yad a s i∧(yad a s i=true→yjj a i s=V s i):=by
 have hge:=yl.1 hg;have hin:inb i a.2.2.1.length=true:=zj4.2 (by have:=hk.1.2; omega);obtain⟨d1,d2,d3⟩:=ydP hk i0 i1
 have key:yaf a.2.2.2.1 a.2.2.2.2.1 i s (yj a i)=true→ydj a i s=bif yaZ (yj a i) (s+6)then([],false)else(ycb (yj a i) (s+6),true):=fun hl=>by
  simp only[yaf,Bool.and_eq_true,Bool.not_eq_true']at hl;unfold ydj;rw[yiO s0 (by omega)];exact yRV d1 hl.1 (zj4.2 (show 0≤s+6∧s+6<((yj a i).1.length:Int)by omega))
 have hw:yF a i s=yad a s i:=by
  unfold yF;rw[y2B hin];cases hl:yaf a.2.2.2.1 a.2.2.2.2.1 i s (yj a i)
  ·unfold yad; rw[hl]; rfl
  ·rw[key hl]
   cases hb:yaZ (yj a i) (s+6)
   ·have hh:yad a s i=true:=by unfold yad; rw[hl,hb]; rfl
    rw[hh,cond_false,hv i s i0 i1 s0 s1 hh]; rfl
   ·unfold yad; rw[hl,hb]; rfl
 refine⟨hw,fun hh=> ?_⟩;unfold yjj;rw[hw,hh,cond_true];have hh':=hh;unfold yad at hh';rw[Bool.and_eq_true,Bool.not_eq_true']at hh';rw[key hh'.1,hh'.2,cond_false,hv i s i0 i1 s0 s1 hh]; rfl
theorem y4R: ∀(l:List Int) (k:Nat) (x:Int),k<l.length→yfm (l.set k x)=yfm l ^^^ bv (nth l k 0) ^^^ bv x:=by
 intro l k x hk
 have e1:l=l.take k++nth l k 0::l.drop (k+1):=by
  rw[zkQ,zkH hk,← List.drop_eq_getElem_cons hk,List.take_append_drop]
 have e2:l.set k x=l.take k++x::l.drop (k+1):=by
  rw[List.set_eq_take_append_cons_drop,if_pos hk]
 have fo: ∀(l:List Int) (v:BitVec 64),l.foldl (fun v x=>v ^^^ bv x) v=v ^^^ yfm l:=by
  intro l
  induction l with
  | nil=>intro v; show v=v ^^^ 0#64; rw[BitVec.xor_zero]
  | cons y t ih =>
   intro v;unfold yfm;rw[List.foldl_cons,List.foldl_cons,ih,ih (0#64 ^^^ bv y),BitVec.zero_xor,BitVec.xor_assoc]
 have cut: ∀(A:List Int) (y:Int) (B:List Int),yfm (A++y::B)=yfm A ^^^ bv y ^^^ yfm B:=fun A y B=>by
  show(A++y::B).foldl _ _=_;rw[List.foldl_append,List.foldl_cons,fo]; rfl
 rw[e2,cut]
 conv=>rhs; rw[e1]
 rw[cut];have hn:nth (List.take k l++nth l (↑k) 0::List.drop (k+1) l) (k:Int) 0=nth l k 0:=by rw[← e1]
 rw[hn,BitVec.xor_assoc (yfm (l.take k)),BitVec.xor_assoc (yfm (l.take k)),BitVec.xor_comm (bv (nth l k 0)),BitVec.xor_assoc (yfm (l.take k)),yY3,BitVec.xor_comm (bv x),BitVec.xor_assoc]
theorem y3u {l:List Int} (h:yay l=0):yfm l=0#64:=by
 rw[yoi]at h;have:=congrArg bv h;rw[ywQ]at this;rw[this]; rfl
theorem yYP {p:Nat→Bool}: ∀{n:Nat},yeQ p n=false→ ∀j,j<n→p j=true∨(j:Int)=yJ p n
 | 0,_,j,hj=>absurd hj (Nat.not_lt_zero _)
 | n+1,h,j,hj=>by
  have h':yeQ p n=false:=by
   unfold yeQ at h ⊢;rw[List.range_succ,List.any_append,Bool.or_eq_false_iff]at h;exact h.1
  have hl:(!p n&&leb 0 (yJ p n))=false:=by
   unfold yeQ at h;rw[List.range_succ,List.any_append,Bool.or_eq_false_iff]at h;simpa using h.2
  unfold yJ;rcases Nat.lt_succ_iff_lt_or_eq.1 hj with hj | rfl
  ·rcases yYP h' j hj with h1 | h1
   ·exact .inl h1
   ·cases hp:p n
    ·rw[hp,← h1]at hl
     rw[zk0 (show(0:Int)≤j by omega)]at hl; cases hl
    ·exact .inr h1
  ·cases hp:p j
   ·exact .inr rfl
   ·exact .inl rfl
theorem yYO {p:Nat→Bool}: ∀{n:Nat},leb 0 (yJ p n)=false→ ∀j,j<n→p j=true
 | 0,_,j,hj=>absurd hj (Nat.not_lt_zero _)
 | n+1,h,j,hj=>by
  unfold yJ at h;cases hp:p n
  ·rw[hp,cond_false,zk0 (show(0:Int)≤n by omega)]at h; cases h
  ·rw[hp,cond_true]at h
   rcases Nat.lt_succ_iff_lt_or_eq.1 hj with hj | rfl
   ·exact yYO h j hj
   ·exact hp
theorem yLE (V:Int→Int→Int) (N s:Int):(ydL V N s).length=N.toNat:=by unfold ydL; rw[List.length_map,List.length_range]
theorem y33 (V:Int→Int→Int) (N s:Int) {j:Nat} (h:j<(ydL V N s).length):(ydL V N s)[j]=V s j:=by simp[ydL]
theorem yR0 (V:Int→Int→Int) {N s i:Int} (h0:0≤i) (h1:i<N):nth (ydL V N s) i 0=V s i:=by
 unfold ydL nth;rw[zkH (by rw[List.length_map,List.length_range]; omega),List.getElem_map,List.getElem_range,Int.toNat_of_nonneg h0]
theorem yVT {V:Int→Int→Int} {a:dA} {s:Int} (hg:yd a.2.1=true) (hk:yI a) (he:EvV a.2.1 V) (hv:yHT V a) (s0:0≤s) (s1:s<a.2.1.2) :
  yS a s=bif yeQ (fun(i:Nat)=>yad a s i) a.2.1.1.toNat then([],false)else(ydL V a.2.1.1 s,true):=by
 have hw: ∀i:Nat,i<a.2.1.1.toNat→yF a i s=yad a s i:=fun i hi=>(ysI hg hk hv (by omega) (by omega) s0 s1).1
 have hm: ∀n,n≤a.2.1.1.toNat→yJ (fun(i:Nat)=>yF a i s) n=yJ (fun(i:Nat)=>yad a s i) n:=by
  intro n
  induction n with
  | zero=>intro _; rfl
  | succ n ih=>intro hn; unfold yJ; rw[hw n (by omega),ih (by omega)]
 have h2:yeQ (fun(i:Nat)=>yF a i s) a.2.1.1.toNat=yeQ (fun(i:Nat)=>yad a s i) a.2.1.1.toNat:=by
  unfold yeQ;rw[Bool.eq_iff_iff,List.any_eq_true,List.any_eq_true];constructor
  ·rintro⟨i,hi,h⟩
   have hi':=List.mem_range.1 hi;exact⟨i,hi,by dsimp only at h ⊢; rw[hw i hi',hm i (by omega)]at h; exact h⟩
  ·rintro⟨i,hi,h⟩
   have hi':=List.mem_range.1 hi;exact⟨i,hi,by dsimp only at h ⊢; rw[hw i hi',hm i (by omega)]; exact h⟩
 unfold yS;rw[h2,hm _ (Nat.le_refl _)];cases hc:yeQ (fun(i:Nat)=>yad a s i) a.2.1.1.toNat
 ·simp only[cond_false]
  cases hn:leb 0 (yJ (fun(i:Nat)=>yad a s i) a.2.1.1.toNat)
  ·simp only[cond_false]
   congr 1;refine List.map_congr_left fun i hi=> ?_
   have hi':=List.mem_range.1 hi;exact(ysI hg hk hv (by omega) (by omega) s0 s1).2 (yYO hn i hi')
  ·simp only[cond_true]
   congr 1;rcases yKH (fun(i:Nat)=>yad a s i) a.2.1.1.toNat with h3 | ⟨k0,k1,k2⟩
   ·rw[h3]at hn; cases hn
   ·have hu:=yYP hc
    generalize yJ (fun(i:Nat)=>yad a s i) a.2.1.1.toNat=k at *;obtain⟨k,rfl⟩: ∃m:Nat,k=m:=⟨k.toNat,by omega⟩;rw[Int.toNat_natCast]at k2 ⊢;have hkl:k<(ydL V a.2.1.1 s).length:=by rw[yLE]; omega
    have e:yai a s a.2.1.1.toNat=(ydL V a.2.1.1 s).set k 0:=by
     refine List.ext_getElem (by rw[yfl,List.length_set,yLE]) fun j h3 h4=> ?_
     rw[yfl]at h3;rw[List.getElem_set];have e1:(yai a s a.2.1.1.toNat)[j]'(by rw[yfl]; exact h3)=yjj a j s:=by unfold yai; simp
     have e2:(ydL V a.2.1.1 s)[j]'(by rw[yLE]; exact h3)=V s j:=by unfold ydL; simp
     rw[e1];by_cases hj:k=j
     ·subst hj
      rw[if_pos rfl];unfold yjj;rw[hw k (by omega),k2]; rfl
     ·rw[if_neg hj,e2]
      rcases hu j h3 with h5 | h5
      ·exact(ysI hg hk hv (by omega) (by omega) s0 s1).2 h5
      ·exact absurd h5 (by omega)
    have hx:yay (yai a s a.2.1.1.toNat)=V s k:=by
     rw[e,yoi,y4R _ _ _ hkl,y3u (he.ev s s0 s1),BitVec.zero_xor,show bv 0=0#64 by decide,BitVec.xor_zero,yR0 V (by omega) (by omega)];have:=yoT.1 (he.ew s k s0 s1 (by omega) (by omega));exact y4G (by omega) (by omega)
    rw[hx,e,List.set_set];refine List.ext_getElem (by rw[List.length_set]) fun j h3 h4=> ?_
    rw[List.getElem_set];by_cases hj:k=j
    ·subst hj
     rw[if_pos rfl];exact(y33 _ _ _ h4).symm
    ·rw[if_neg hj]
 ·rfl
def yY4:Code:=(f192.body).getD .skip
def yZB:Env:=zku TT [] []
theorem yO6:FrOk prog ⟨yZB,26,fun _=>none⟩ yY4:=zky yf yg trivial
abbrev yy8:List Par:= [.pt tA (.pr .fz (.pr (.pr .fz .fz) (.pr (.ow (.pr (.ow (.ow .fz)) (.pr (.ow (.pr .fz (.ow .fz))) (.pr .fz (.ow .fz))))) (.pr .fz (.pr .fz (.pr .fz (.pr .fz (.pr .fz (.pr (.ow (.pr .fz (.ow .fz))) (.pr .fz (.pr .fz .fz)))))))))))]
abbrev yzt:List OT:= [⟨false,tB,.fz⟩]
def yFY (a0:dA):Option (zaY yzt×zak yy8) :=bif(a0.2.2.2.2.2.2.2.2.2.1==0)then some ((false,()),((a0.1,a0.2.1,a0.2.2.1,a0.2.2.2.1,a0.2.2.2.2.1,a0.2.2.2.2.2.1,a0.2.2.2.2.2.2.1,a0.2.2.2.2.2.2.2.1,a0.2.2.2.2.2.2.2.2.1,(-1),true,a0.2.2.2.2.2.2.2.2.2.2.2),())) else bif(ltb 0 a0.2.2.2.2.2.2.2.2.2.1)then some ((true,()),((a0.1,a0.2.1,a0.2.2.1,a0.2.2.2.1,a0.2.2.2.2.1,a0.2.2.2.2.2.1,a0.2.2.2.2.2.2.1,a0.2.2.2.2.2.2.2.1,a0.2.2.2.2.2.2.2.2.1,(i64.wrap (a0.2.2.2.2.2.2.2.2.2.1-1)),a0.2.2.2.2.2.2.2.2.2.2),())) else some ((true,()),(a0,()))
theorem yUu:ConOk prog 192 ⟨yy8,yzt,fun x=>yFY x.1⟩:=zkG (yO6) func192 ntmps192.symm fun x=>by kernel_rfl
def yhL (a0:dA):Bool×dA :=bif(a0.2.2.2.2.2.2.2.2.2.1==0)then (false,(a0.1,a0.2.1,a0.2.2.1,a0.2.2.2.1,a0.2.2.2.2.1,a0.2.2.2.2.2.1,a0.2.2.2.2.2.2.1,a0.2.2.2.2.2.2.2.1,a0.2.2.2.2.2.2.2.2.1,(-1),true,a0.2.2.2.2.2.2.2.2.2.2.2)) else bif(ltb 0 a0.2.2.2.2.2.2.2.2.2.1)then (true,(a0.1,a0.2.1,a0.2.2.1,a0.2.2.2.1,a0.2.2.2.2.1,a0.2.2.2.2.2.1,a0.2.2.2.2.2.2.1,a0.2.2.2.2.2.2.2.1,a0.2.2.2.2.2.2.2.2.1,(i64.wrap (a0.2.2.2.2.2.2.2.2.2.1-1)),a0.2.2.2.2.2.2.2.2.2.2)) else (true,a0)
def yt5:Con:=⟨yy8,yzt,fun x=>(fun n=>some ((n.1,()),(n.2,()))) (yhL x.1)⟩
theorem yWU (a0:dA):yFY a0=(fun n=>some ((n.1,()),(n.2,()))) (yhL a0):=zkT (p:=fun(n:Bool×dA)=>((n.1,()),(n.2,()))) (zkE (p:=fun(n:Bool×dA)=>((n.1,()),(n.2,()))) rfl (zkE (p:=fun(n:Bool×dA)=>((n.1,()),(n.2,()))) rfl rfl))
theorem yHn:ConOk prog 192 yt5:=(yUu).mono (fun x r _ h=>(yWU x.1).trans h)
theorem yTN {a:dA} (h:ya a=false):yhL a=opA a:=by
 unfold yhL opA;rw[h];cases(a.2.2.2.2.2.2.2.2.2.1==0)
 ·cases ltb 0 a.2.2.2.2.2.2.2.2.2.1
  ·rfl
  ·show(true,_)=(true,yhD a _ false)
   unfold yhD;rw[show a.2.2.2.2.2.2.2.2.2.2=(ya a,a.2.2.2.2.2.2.2.2.2.2.2)from rfl,h]
 ·rfl
def yLZ:Code:=(f223.body).getD .skip
def yMb:Env:=zku TT [] []
theorem yH4:FrOk prog ⟨yMb,7,fun _=>none⟩ yLZ:=zky yf yg trivial
abbrev yps:List Par:= [.rd tI,.rp tI]
abbrev ypv:List OT:= [⟨false,tB,.fz⟩]
def yvS (a0 a1:Int):Option (zaY ypv×zak yps) :=some (((a0==a1),()),())
theorem yJp:ConOk prog 223 ⟨yps,ypv,fun x=>yvS x.1 x.2.1⟩:=zkG (yH4) func223 ntmps223.symm fun x=>by kernel_rfl
def ydR (a0 a1:Int):Bool :=(a0==a1)
def ylZ:Con:=⟨yps,ypv,fun x=>(fun n=>some ((n,()),())) (ydR x.1 x.2.1)⟩
theorem yK9 (a0 a1:Int):yvS a0 a1=(fun n=>some ((n,()),())) (ydR a0 a1):=zkT (p:=fun(n:Bool)=>((n,()),())) rfl
theorem yyF:ConOk prog 223 ylZ:=(yJp).mono (fun x r _ h=>(yK9 x.1 x.2.1).trans h)
def yeN:Code:=(f244.body).getD .skip
def yi8:Env:=zku TT [(223,ylZ)] []
theorem yBQ:FrOk prog ⟨yi8,19,fun _=>none⟩ yeN:=zky yf yg ⟨yyF,trivial⟩
def ym9:Nat→Option Seg:=fun _=>none
def yan:Shape:=⟨[(0,false,[.br tI]),(1,false,[.fx 223 tI]),(7,false,[.int .i64]),(8,false,[.int .i64])],[],[]⟩
def ybm:Shape:=⟨[(0,false,[.br tI]),(1,false,[.fx 223 tI]),(7,false,[.int .i64]),(8,false,[.ci .i64 0])],[],[]⟩
def ybl:Shape:=⟨[],[],[]⟩
def ybn:Shape:=⟨[(4,false,[.int .i64])],[],[]⟩
abbrev yfK (v0:List Int) (v1 v2 v3:Int):(yan).X:=(((v0,()),(v1,()),(v2,()),(v3,()),()),(),())
abbrev yAa (v0:List Int) (v1 v2:Int):(ybm).X:=(((v0,()),(v1,()),(v2,()),((),()),()),(),())
abbrev yz9  :(ybl).X:=((),(),())
abbrev ylv (v0:Int):(ybn).X:=(((v0,()),()),(),())
def yfO (v0:List Int) (v1 v2 v3:Int):Option ((yan).X ⊕ ((ybl).X ⊕ (ybn).X)) :=bif(ltb v3 v2)then bif(inb v3 v0.length)then let r2:=ydR (nth v0 v3 0) v1;bif r2 then some (.inr (.inr (((v3,()),()),(),()))) else some (.inl (((v0,()),(v1,()),(v2,()),((i64.wrap (v3+1)),()),()),(),())) else none else some (.inr (.inl ((),(),())))
def yax (x:(yan).X):=yfO x.1.1.1 x.1.2.1.1 x.1.2.2.1.1 x.1.2.2.2.1.1
def yls (x:(ybm).X):(yan).X:=(((x.1.1.1,()),(x.1.2.1.1,()),(x.1.2.2.1.1,()),(0,()),()),(),())
def ymU:Code:=(zeJ yeN 64 52).getD .skip
theorem yBN:zeJ yeN 64 13=some (.block 0 (.loop ymU)):=by kernel_rfl
theorem yBZ (x:(yan).X):zhu ⟨yi8,19,ym9⟩ 0 ymU 52 yan ybl ybn x=yax x:=by kernel_rfl
def ylt (x:(ybm).X):Nat:=18446744073709551616
def ygu (x:(ybm).X):Option ((ybl).X ⊕ (ybn).X):=zF yax (ylt x) (yls x)
def ylO:Seg:=⟨ybm,ybl,ybn,ygu⟩
def yCf:Nat→Option Seg:=fun q=>bif Nat.beq q 13 then some ylO else ym9 q
theorem yBR:FrOk prog ⟨yi8,19,yCf⟩ yeN:=(yBQ).loop (sg:=ylO) yan yls (by decide) yBN yax ylt (by decide) (fun _=>rfl) (fun x r _ h=>h) yBZ
abbrev yeO:List Par:= [.rd tL,.fn 223 tI]
abbrev yi9:List OT:= [⟨false,tI,.fz⟩]
def yhs (a0:List Int) (a1:Int):Option (zaY yi9×zak yeO) :=zkr (ygu (((a0,()),(a1,()),((a0.length:Int),()),((),()),()),(),())) (fun y2 =>some (((-1),()),())) (fun y2 =>some ((y2.1.1.1,()),()))
theorem yEd:ConOk prog 244 ⟨yeO,yi9,fun x=>yhs x.1 x.2.1⟩:=zkG (yBR) func244 ntmps244.symm fun x=>by kernel_rfl
def ycF (a0:List Int) (a1:Int):Int:=yaj (fun e:Int=>e==a1) a0
theorem yEM (a0:List Int) (a1:Int) (hk:zjw yeO (a0,a1,())):yhs a0 a1=(fun n=>some ((n,()),())) (ycF a0 a1):=by
 have hb:a0.length*8≤2^47:=hk.1.1
 have h1:ygu (yAa a0 a1 a0.length)=some (bif leb 0 (yaj (fun e:Int=>e==a1) a0)then .inr (ylv (yaj (fun e:Int=>e==a1) a0))else .inl yz9) :=
  yKE (step:=yax) a0 0 (fun i=>yfK a0 a1 a0.length i) (fun e:Int=>e==a1) (fun i=> .inr (ylv i)) _ (fun i hi=>by
   simp only[yax,yfK,yfO,zkw (show(i:Int)<a0.length by omega),cond_true,wq ((i:Int)+1) (by omega) (by omega),Int.natCast_add,Int.natCast_one,Int.toNat_natCast,zkP hi,zkQ,ydR]
   cases(a0.getD i 0==a1)<;>rfl) (by simp only[yax,yfK,yfO,zk1 (Int.le_refl _),cond_false]) _ (by show _<18446744073709551616; omega)
 unfold yhs ycF;rw[h1];cases h:leb 0 (yaj (fun e:Int=>e==a1) a0)
 ·rw[yWQ h]; rfl
 ·rfl
def ynv:Con:=⟨yeO,yi9,fun x=>(fun n=>some ((n,()),())) (ycF x.1 x.2.1)⟩
theorem yEO:ConOk prog 244 ynv:=(yEd).mono (fun x r hk h=>(yEM x.1 x.2.1 hk).trans h)
def yed:Code:=(f222.body).getD .skip
def yhE:Env:=zku TT [(223,ylZ),(244,ynv)] []
theorem yz6:FrOk prog ⟨yhE,42,fun _=>none⟩ yed:=zky yf yg ⟨yyF,yEO,trivial⟩
def ymq:Nat→Option Seg:=fun _=>none
def yak:Shape:=⟨[(0,false,[.at 800000000]),(1,false,[.fx 223 tI]),(5,false,[.int .i64]),(6,false,[.int .i64])],[],[(800000000,tI,.fz)]⟩
def ya4:Shape:=⟨[(0,false,[.at 800000000]),(1,false,[.fx 223 tI]),(5,false,[.int .i64]),(6,false,[.int .i64])],[],[(800000000,tI,.fz)]⟩
def ya3:Shape:=⟨[(0,false,[.at 800000000]),(5,false,[.int .i64])],[],[(800000000,tI,.fz)]⟩
def ycH:Shape:=⟨[],[],[]⟩
abbrev yce (v0 v1 v2:Int) (v3:List Int):(yak).X:=((((),()),(v0,()),(v1,()),(v2,()),()),(),(v3,()))
abbrev yyD (v0 v1 v2:Int) (v3:List Int):(ya4).X:=((((),()),(v0,()),(v1,()),(v2,()),()),(),(v3,()))
abbrev yyB (v0:Int) (v1:List Int):(ya3).X:=((((),()),(v0,()),()),(),(v1,()))
def yfj (v0 v1 v2:Int) (v3:List Int):Option ((yak).X ⊕ ((ya3).X ⊕ (ycH).X)) :=bif(ltb v2 (v3.length:Int))then bif(inb v2 v3.length)then let r3:=ydR (nth v3 v2 0) v0;bif(!r3)then bif(inb v1 v3.length)then some (.inl ((((),()),(v0,()),((i64.wrap (v1+1)),()),((i64.wrap (v2+1)),()),()),(),((v3.set (v1).toNat (nth v3 v2 0)),()))) else none else some (.inl ((((),()),(v0,()),(v1,()),((i64.wrap (v2+1)),()),()),(),(v3,()))) else none else some (.inr (.inl ((((),()),(v1,()),()),(),(v3,()))))
def yas (x:(yak).X):=yfj x.1.2.1.1 x.1.2.2.1.1 x.1.2.2.2.1.1 x.2.2.1
def yky (x:(ya4).X):(yak).X:=((((),()),(x.1.2.1.1,()),(x.1.2.2.1.1,()),(x.1.2.2.2.1.1,()),()),(),(x.2.2.1,()))
def ylr:Code:=(zeJ yed 64 244).getD .skip
theorem yz3:zeJ yed 64 61=some (.block 0 (.loop ylr)):=by kernel_rfl
theorem yAh (x:(yak).X):zhu ⟨yhE,42,ymq⟩ 0 ylr 244 yak ya3 ycH x=yas x:=by kernel_rfl
def ykA (x:(ya4).X):Nat:=18446744073709551616
def yfG (x:(ya4).X):Option ((ya3).X ⊕ (ycH).X):=zF yas (ykA x) (yky x)
def ykC:Seg:=⟨ya4,ya3,ycH,yfG⟩
def yBM:Nat→Option Seg:=fun q=>bif Nat.beq q 61 then some ykC else ymq q
theorem yz7:FrOk prog ⟨yhE,42,yBM⟩ yed:=(yz6).loop (sg:=ykC) yak yky (by decide) yz3 yas ykA (by decide) (fun _=>rfl) (fun x r _ h=>h) yAh
abbrev yee:List Par:= [.kp tL (.ow .fz),.fn 223 tI]
abbrev yhF:List OT:= [⟨false,tL,(.ow .fz)⟩]
def ygv (a0:List Int) (a1:Int):Option (zaY yhF×zak yee) :=let r1:=ycF a0 a1;bif(r1==(-1))then some ((a0,()),()) else zkr (yfG ((((),()),(a1,()),(r1,()),((i64.wrap (r1+1)),()),()),(),(a0,()))) (fun y3 =>bif(zjY y3.1.2.1.1 (y3.2.2.1.length:Int) y3.2.2.1.length)then bif(zjY 0 y3.1.2.1.1 (y3.2.2.1.take (y3.1.2.1.1).toNat++(List.replicate ((y3.2.2.1.length:Int)-y3.1.2.1.1).toNat (0:Int))++y3.2.2.1.drop ((y3.1.2.1.1).toNat+(List.replicate ((y3.2.2.1.length:Int)-y3.1.2.1.1).toNat (0:Int)).length)).length)then some (((((y3.2.2.1.take (y3.1.2.1.1).toNat++(List.replicate ((y3.2.2.1.length:Int)-y3.1.2.1.1).toNat (0:Int))++y3.2.2.1.drop ((y3.1.2.1.1).toNat+(List.replicate ((y3.2.2.1.length:Int)-y3.1.2.1.1).toNat (0:Int)).length)).drop (0:Int).toNat).take (y3.1.2.1.1-0).toNat),()),()) else none else none) (fun y3 =>none)
theorem yBY:ConOk prog 222 ⟨yee,yhF,fun x=>ygv x.1 x.2.1⟩:=zkG (yz7) func222 ntmps222.symm fun x=>by kernel_rfl
def ybX (a0:List Int) (a1:Int):List Int:=yIq a0 a1
theorem yEb (a0:List Int) (a1:Int) (hk:zjw yee (a0,a1,())):ygv a0 a1=(fun n=>some ((n,()),())) (ybX a0 a1):=by
 have hb:a0.length*8≤2^47:=hk.1.1;have hs:yIq a0 a1=a0.filter (fun x=> !(x==a1)):=rfl;unfold ygv ybX ycF;simp only[];cases hi:leb 0 (yaj (fun e:Int=>e==a1) a0)
 ·rw[yWQ hi,hs,y4n hi]; rfl
 ·obtain⟨h1,h2⟩:=ynz (d:=(0:Int)) hi
  have h3:=zj4.1 h1;have h4:=yYK hi;generalize hk0:yaj (fun e:Int=>e==a1) a0=k at *;obtain⟨k,rfl⟩: ∃m:Nat,k=m:=⟨k.toNat,by omega⟩;rw[Int.toNat_natCast]at h4;rw[show((k:Int)== -1)=false from beq_eq_false_iff_ne.2 (by omega),cond_false,wq ((k:Int)+1) (by omega) (by omega)]
  obtain⟨b,e,i,s,rfl,q1,q2,q3⟩:=zji (step:=yas) (fun x=>(a0.length-Int.toNat x.1.2.2.2.1.1))
   (fun x=> ∃(i j:Nat) (s:List Int),x=yce a1 i j s∧i<j∧j≤a0.length∧s.length=a0.length∧s.take i=(a0.take j).filter (fun x=> !(x==a1))∧s.drop j=a0.drop j)
   (fun b=> ∃(i:Nat) (s:List Int),b= .inl (yyB i s)∧i≤a0.length∧s.length=a0.length∧s.take i=a0.filter (fun x=> !(x==a1)))
   (fun x hx=>by
    obtain⟨i,j,s,rfl,p1,p2,p3,p4,p5⟩:=hx;by_cases hj:j<a0.length
    ·left
     have e1:nth s j 0=a0[j]:=by
      rw[zkQ,zkH (by omega)];have:=List.getElem_drop (xs:=s) (i:=j) (j:=0) (h:=by rw[List.length_drop]; omega);have h6:(s.drop j)[0]'(by rw[List.length_drop]; omega)=(a0.drop j)[0]'(by rw[List.length_drop]; omega):=by simp only[p5]
      simpa using h6
     have e2:a0.take (j+1)=a0.take j++ [a0[j]]:=(List.take_append_getElem hj).symm;simp only[yas,yce,yfj,p3,zkw (show(j:Int)<a0.length by omega),zkP hj,zkP (show i<a0.length by omega),e1,ydR,wq ((j:Int)+1) (by omega) (by omega),wq ((i:Int)+1) (by omega) (by omega),cond_true,Int.toNat_natCast];cases hx:(a0[j]==a1)
     ·refine⟨_,rfl,⟨i+1,j+1,s.set i a0[j],rfl,by omega,by omega,by rw[List.length_set,p3],?_,?_⟩,by show a0.length-((j:Int)+1).toNat<a0.length-((j:Int)).toNat; omega⟩
      ·rw[List.take_set,← List.take_append_getElem (show i<s.length by omega),List.set_append_right _ _ (by rw[List.length_take]; omega),p4,e2,List.filter_append,List.filter_cons,hx]
       have:i-(List.filter (fun x=> !x==a1) (a0.take j)).length=0:=by rw[← p4,List.length_take]; omega
       rw[this]; rfl
      ·rw[List.drop_set_of_lt (by omega),← List.drop_drop,p5,List.drop_drop]
     ·refine⟨_,rfl,⟨i,j+1,s,rfl,by omega,by omega,p3,?_,?_⟩,by show a0.length-((j:Int)+1).toNat<a0.length-((j:Int)).toNat; omega⟩
      ·rw[p4,e2,List.filter_append,List.filter_cons,hx]; simp
      ·rw[← List.drop_drop,p5,List.drop_drop]
    ·right
     have:j=a0.length:=by omega
     subst this;rw[List.take_length]at p4;refine⟨_,?_,i,s,rfl,by omega,p3,p4⟩
     simp only[yas,yce,yfj,p3,zk1 (Int.le_refl _),cond_false]) 18446744073709551616 (yce a1 k (k+1:Nat) a0) ⟨k,k+1,a0,rfl,by omega,by omega,rfl,h4.symm,rfl⟩ (by show a0.length-((k+1:Nat):Int).toNat<18446744073709551616; omega)
  rw[show((k+1:Nat):Int)=(k:Int)+1 by omega]at e;rw[show yfG (yyD a1 k ((k:Int)+1) a0)=_ from e];rw[hs,← q3]
  have hL:(s.take i++List.replicate ((s.length:Int)-i).toNat (0:Int)++s.drop ((i:Int).toNat+(List.replicate ((s.length:Int)-i).toNat (0:Int)).length)).length=s.length:=by
   simp only[List.length_append,List.length_take,List.length_replicate,List.length_drop]; omega
  show(bif zjY i s.length s.length then bif zjY 0 i (s.take i++List.replicate ((s.length:Int)-i).toNat (0:Int)++s.drop ((i:Int).toNat+(List.replicate ((s.length:Int)-i).toNat (0:Int)).length)).length then some ((((s.take i++List.replicate ((s.length:Int)-i).toNat (0:Int)++s.drop ((i:Int).toNat+(List.replicate ((s.length:Int)-i).toNat (0:Int)).length)).drop 0).take ((i:Int)-0).toNat,()),())else none else none)=some ((s.take i,()),());rw[hL,zkx.2 (show 0≤(i:Int)∧(i:Int)≤s.length∧(s.length:Int)≤s.length by omega),zkx.2 (show(0:Int)≤0∧(0:Int)≤i∧(i:Int)≤s.length by omega),List.drop_zero,show((i:Int)-0).toNat=i by omega,List.append_assoc,List.take_append_of_le_length (by rw[List.length_take]; omega),List.take_take,Nat.min_self]; rfl
def ymW:Con:=⟨yee,yhF,fun x=>(fun n=>some ((n,()),())) (ybX x.1 x.2.1)⟩
theorem yEh:ConOk prog 222 ymW:=(yBY).mono (fun x r hk h=>(yEb x.1 x.2.1 hk).trans h)
def yR6:Code:=(f193.body).getD .skip
def ySA:Env:=zku TT [(127,yeA),(133,yhe),(156,ymV),(158,yaG),(186,ywS),(222,ymW)] []
theorem yKf:FrOk prog ⟨ySA,51,fun _=>none⟩ yR6:=zky yf yg ⟨yhQ,ym6,yw0,ybH,yIJ,yEh,trivial⟩
abbrev ymx:List Par:= [.rd tM,.rd tI,.rd tL]
abbrev ytJ:List OT:= [⟨false,tM,(.pr (.ow (.ow .fz)) (.pr (.ow (.pr .fz (.ow .fz))) (.pr .fz (.ow .fz))))⟩,⟨false,tB,.fz⟩]
def ypY (a0:dM) (a1:Int) (a2:List Int):Option (zaY ytJ×zak ymx) :=let r1:=yaN a0;let r2:=yav a0;bif(!(!r2))then bif(!a0.2.2.1)then let r3:=ybJ a0 a1;bif(!(!r3))then let r4:=yhj a2;bif(!(!r4))then bif((a0.2.1.length:Int)==60)then some ((r1,false,()),()) else let r5:=yx a2;bif(zkj r1.2.1.length ([(a1,r5)]:List dW).length 32)then let r6:=ybX r1.2.2.2 a1;some (((r1.1,(r1.2.1++([(a1,r5)]:List dW)),r1.2.2.1,r6),true,()),()) else none else some ((r1,false,()),()) else some ((r1,false,()),()) else some ((r1,false,()),()) else some ((r1,false,()),())
theorem yNG:ConOk prog 193 ⟨ymx,ytJ,fun x=>ypY x.1 x.2.1 x.2.2.1⟩:=zkG (yKf) func193 ntmps193.symm fun x=>by kernel_rfl
def yiX (a0:dM) (a1:Int) (a2:List Int):dM×Bool:=yZ a0 a1 a2
theorem yQH (a0:dM) (a1:Int) (a2:List Int) (hk:zjw ymx (a0,a1,a2,())):ypY a0 a1 a2=(fun n=>some ((n.1,n.2,()),())) (yiX a0 a1 a2):=by
 have hb1:a0.1.length*24≤2^47:=hk.1.1.1;unfold ypY yiX yZ ybj;simp only[yaN,yav,ybJ,yao,ynA (show a0.1.length≤1152921504606846976 by omega),yGw,yx,ybX];cases hm:yw a0
 ·rfl
 have hc:=(ycD hm).2.2.2.2.2;cases a0.2.2.1
 ·cases inb a1 a0.1.length
  ·rfl
  cases yaw a2
  ·rfl
  by_cases h:(a0.2.1.length:Int)<60
  ·rw[zkw h,show((a0.2.1.length:Int)==60)=false from beq_eq_false_iff_ne.2 (by omega),zkD.2 (show(a0.2.1.length+ [(a1,a2)].length)*32≤140737488355328 by simp only[List.length_cons,List.length_nil]; omega)]; rfl
  ·rw[zk1 (by omega),show((a0.2.1.length:Int)==60)=true from beq_iff_eq.2 (by omega)]; rfl
 ·rfl
def yAQ:Con:=⟨ymx,ytJ,fun x=>(fun n=>some ((n.1,n.2,()),())) (yiX x.1 x.2.1 x.2.2.1)⟩
theorem yRv:ConOk prog 193 yAQ:=(yNG).mono (fun x r hk h=>(yQH x.1 x.2.1 x.2.2.1 hk).trans h)
def yOx:Code:=(f139.body).getD .skip
def yON:Env:=zku TT [(192,yt5),(193,yAQ)] []
theorem yI2:FrOk prog ⟨yON,39,fun _=>none⟩ yOx:=zky yf yg ⟨yHn,yRv,trivial⟩
abbrev ygN:List Par:= [.pt tA (.pr .fz (.pr (.pr .fz .fz) (.pr (.ow (.pr (.ow (.ow .fz)) (.pr (.ow (.pr .fz (.ow .fz))) (.pr .fz (.ow .fz))))) (.pr .fz (.pr .fz (.pr .fz (.pr .fz (.pr .fz (.pr (.ow (.pr .fz (.ow .fz))) (.pr .fz (.pr .fz .fz))))))))))),.rd tI,.rd tI,.rd tL]
abbrev ykN:List OT:= [⟨false,tB,.fz⟩]
def ynY (a0:dA) (a1 a2:Int) (a3:List Int):Option (zaY ykN×zak ygN) :=bif(inb a1 a0.2.2.1.length)then bif(((nth a0.2.2.1 a1 ([],[],false,[])).2).2).1 then some ((true,()),(a0,())) else let r1:=yhL a0;bif(!r1.1)then some ((false,()),(r1.2,())) else bif(inb a1 r1.2.2.2.1.length)then let r2:=yiX ((nth r1.2.2.2.1 a1 ([],[],false,[])).1,((nth r1.2.2.2.1 a1 ([],[],false,[])).2).1,(((nth r1.2.2.2.1 a1 ([],[],false,[])).2).2)) a2 a3;bif(inb a1 r1.2.2.2.1.length)then some ((true,()),((r1.2.1,r1.2.2.1,(r1.2.2.2.1.set (a1).toNat r2.1),r1.2.2.2.2),())) else none else none else none
theorem yLd:ConOk prog 139 ⟨ygN,ykN,fun x=>ynY x.1 x.2.1 x.2.2.1 x.2.2.2.1⟩:=zkG (yI2) func139 ntmps139.symm fun x=>by kernel_rfl
def ycW (a0:dA) (a1 a2:Int) (a3:List Int):Bool×dA:=(!(ya (ybq a0 a1 a2 a3)),ybq a0 a1 a2 a3)
def ycX (a0:dA) (a1 a2:Int) (a3:List Int):Bool:=inb a1 a0.2.2.1.length&& !(ya a0)
theorem yNt (a0:dA) (a1 a2:Int) (a3:List Int) (hk:zjw ygN (a0,a1,a2,a3,())) (hq:ycX a0 a1 a2 a3=true):ynY a0 a1 a2 a3=(fun n=>some ((n.1,()),(n.2,()))) (ycW a0 a1 a2 a3):=by
 simp only[ycX,Bool.and_eq_true,Bool.not_eq_true']at hq;unfold ynY ycW;simp only[y1M hq.2];unfold ybq ybp;simp only[yTN hq.2,yaP,hq.1,zkV,yiX];cases(nth a0.2.2.1 a1 yc).2.2.1<;>cases(opA a0).1<;>rfl
def yeF (a0:dA) (a1 a2:Int) (a3:List Int):Option (zaY ykN×zak ygN):=bif ycX a0 a1 a2 a3 then(fun n=>some ((n.1,()),(n.2,()))) (ycW a0 a1 a2 a3)else none
theorem ypP (a0:dA) (a1 a2:Int) (a3:List Int) (h:ycX a0 a1 a2 a3=true):yeF a0 a1 a2 a3=(fun n=>some ((n.1,()),(n.2,()))) (ycW a0 a1 a2 a3):=by unfold yeF; rw[h]; rfl
def yiL:Con:=⟨ygN,ykN,fun x=>yeF x.1 x.2.1 x.2.2.1 x.2.2.2.1⟩
theorem ypO:ConOk prog 139 yiL:=(yLd).mono (fun x r hk h=>zkW h (fun hq=>yNt x.1 x.2.1 x.2.2.1 x.2.2.2.1 hk hq))
def yZa:Code:=(f164.body).getD .skip
def yZH:Env:=zku TT [(159,ywR)] []
theorem yPe:FrOk prog ⟨yZH,17,fun _=>none⟩ yZa:=zky yf yg ⟨yII,trivial⟩
abbrev yqQ:List Par:= [.rd tN]
abbrev yzA:List OT:= [⟨false,tL,(.ow .fz)⟩]
def yuX (a0:dN):Option (zaY yzA×zak yqQ) :=let r1:=ykc a0;bif(!r1)then some (([],()),()) else bif(zkj ([21322,a0.1,a0.2.1,(a0.2.2.length:Int)]:List Int).length a0.2.2.length 8)then some (((([21322,a0.1,a0.2.1,(a0.2.2.length:Int)]:List Int)++a0.2.2),()),()) else none
theorem yUB:ConOk prog 164 ⟨yqQ,yzA,fun x=>yuX x.1⟩:=zkG (yPe) func164 ntmps164.symm fun x=>by kernel_rfl
def ylA (a0:dN):List Int:=yac a0
theorem yW1 (a0:dN) (hk:zjw yqQ (a0,())):yuX a0=(fun n=>some ((n,()),())) (ylA a0):=by
 unfold yuX ylA yac;simp only[yOl];cases hr:yW a0
 ·rfl
 ·have:=(ysD.1 hr).2.2.1
  rw[zkD.2 (show(([21322,a0.1,a0.2.1,(a0.2.2.length:Int)]:List Int).length+a0.2.2.length)*8≤140737488355328 by simp only[List.length_cons,List.length_nil]; omega)]; rfl
def yFm:Con:=⟨yqQ,yzA,fun x=>(fun n=>some ((n,()),())) (ylA x.1)⟩
theorem yXW:ConOk prog 164 yFm:=(yUB).mono (fun x r hk h=>(yW1 x.1 hk).trans h)
def yml:Code:=(f205.body).getD .skip
def ys0:Env:=zku TT [(127,yeA),(133,yhe),(158,yaG)] []
theorem yJ8:FrOk prog ⟨ys0,34,fun _=>none⟩ yml:=zky yf yg ⟨yhQ,ym6,ybH,trivial⟩
def yAp:Nat→Option Seg:=fun _=>none
def ybC:Shape:=⟨[(2,false,[.ptr 64 0]),(3,false,[.ptr 4224 0]),(17,false,[.br tW]),(18,false,[.int .i64]),(19,false,[.int .i64])],[(64,[.nil,.nil,.bool,.nil]),(4224,[.at 800000000,.at 800000001,.bool,.at 800000002])],[(800000000,tL,(.ow .fz)),(800000001,tW,(.pr .fz (.ow .fz))),(800000002,tI,.fz)]⟩
def ye4:Shape:=⟨[(2,false,[.ptr 64 0]),(3,false,[.ptr 4224 0]),(17,false,[.br tW]),(18,false,[.int .i64]),(19,false,[.ci .i64 0])],[(64,[.nil,.nil,.bool,.nil]),(4224,[.at 800000000,.at 800000001,.bool,.at 800000002])],[(800000000,tL,(.ow .fz)),(800000001,tW,(.pr .fz (.ow .fz))),(800000002,tI,.fz)]⟩
def yeW:Shape:=⟨[(2,false,[.ptr 64 0]),(3,false,[.ptr 4224 0])],[(64,[.nil,.nil,.bool,.nil]),(4224,[.at 800000000,.at 800000001,.bool,.at 800000002])],[(800000000,tL,(.ow .fz)),(800000001,tW,(.pr .fz (.ow .fz))),(800000002,tI,.fz)]⟩
def yiz:Shape:=⟨[],[],[]⟩
abbrev yl3 (v0:List dW) (v1 v2:Int) (v3 v4:dM):(ybC).X:=((((),()),((),()),(v0,()),(v1,()),(v2,()),()),(((),(),v3.2.2.1,(),()),((),(),v4.2.2.1,(),()),()),(v4.1,v4.2.1,v4.2.2.2,()))
abbrev yJe (v0:List dW) (v1:Int) (v2 v3:dM):(ye4).X:=((((),()),((),()),(v0,()),(v1,()),((),()),()),(((),(),v2.2.2.1,(),()),((),(),v3.2.2.1,(),()),()),(v3.1,v3.2.1,v3.2.2.2,()))
abbrev yvP (v0 v1:dM):(yeW).X:=((((),()),((),()),()),(((),(),v0.2.2.1,(),()),((),(),v1.2.2.1,(),()),()),(v1.1,v1.2.1,v1.2.2.2,()))
def ymg (v0:List dW) (v1 v2:Int) (v3 v4:Bool) (v5:List (List Int)) (v6:List dW) (v7:List Int):Option ((ybC).X ⊕ ((yeW).X ⊕ (yiz).X)) :=bif(ltb v2 v1)then bif(inb v2 v0.length)then let r4:=yx ((nth v0 v2 (0,[])).2);bif(inb ((nth v0 v2 (0,[])).1) v5.length)then some (.inl ((((),()),((),()),(v0,()),(v1,()),((i64.wrap (v2+1)),()),()),(((),(),v3,(),()),((),(),v4,(),()),()),((v5.set ((nth v0 v2 (0,[])).1).toNat r4),v6,v7,()))) else none else none else some (.inr (.inl ((((),()),((),()),()),(((),(),v3,(),()),((),(),v4,(),()),()),(v5,v6,v7,()))))
def ybU (x:(ybC).X):=ymg x.1.2.2.1.1 x.1.2.2.2.1.1 x.1.2.2.2.2.1.1 x.2.1.1.2.2.1 x.2.1.2.1.2.2.1 x.2.2.1 x.2.2.2.1 x.2.2.2.2.1
def yvB (x:(ye4).X):(ybC).X:=((((),()),((),()),(x.1.2.2.1.1,()),(x.1.2.2.2.1.1,()),(0,()),()),(((),(),x.2.1.1.2.2.1,(),()),((),(),x.2.1.2.1.2.2.1,(),()),()),(x.2.2.1,x.2.2.2.1,x.2.2.2.2.1,()))
def yxP:Code:=(zeJ yml 64 244).getD .skip
theorem yJO:zeJ yml 64 61=some (.block 0 (.loop yxP)):=by kernel_rfl
theorem yLt (x:(ybC).X):zhu ⟨ys0,34,yAp⟩ 0 yxP 244 ybC yeW yiz x=ybU x:=by kernel_rfl
def yvJ (x:(ye4).X):Nat:=18446744073709551616
def ynf (x:(ye4).X):Option ((yeW).X ⊕ (yiz).X):=zF ybU (yvJ x) (yvB x)
def yvY:Seg:=⟨ye4,yeW,yiz,ynf⟩
def yL4:Nat→Option Seg:=fun q=>bif Nat.beq q 61 then some yvY else yAp q
theorem yJ9:FrOk prog ⟨ys0,34,yL4⟩ yml:=(yJ8).loop (sg:=yvY) ybC yvB (by decide) yJO ybU yvJ (by decide) (fun _=>rfl) (fun x r _ h=>h) yLt
abbrev yms:List Par:= [.rd tM]
abbrev ytD:List OT:= [⟨false,tM,(.pr (.ow (.ow .fz)) (.pr (.ow (.pr .fz (.ow .fz))) (.pr .fz (.ow .fz))))⟩]
def ypT (a0:dM):Option (zaY ytD×zak yms) :=let r1:=yaN a0;let r2:=yav a0;bif(!(!r2))then bif a0.2.2.1 then some ((r1,()),()) else zkr (ynf ((((),()),((),()),(a0.2.1,()),((a0.2.1.length:Int),()),((),()),()),(((),(),false,(),()),((),(),r1.2.2.1,(),()),()),(r1.1,r1.2.1,r1.2.2.2,()))) (fun y4 =>some (((y4.2.2.1,[],y4.2.1.2.1.2.2.1,y4.2.2.2.2.1),()),())) (fun y4 =>none) else some ((r1,()),())
theorem yNA:ConOk prog 205 ⟨yms,ytD,fun x=>ypT x.1⟩:=zkG (yJ9) func205 ntmps205.symm fun x=>by kernel_rfl
def yiT (a0:dM):dM:=yE a0
theorem yQB (a0:dM) (hk:zjw yms (a0,())):ypT a0=(fun n=>some ((n,()),())) (yiT a0):=by
 have hb2:a0.2.1.length*32≤2^47:=hk.1.2.1.1;unfold ypT yiT yE;simp only[yaN,yav];cases hm:yw a0
 ·rfl
 have h1:ynf (yJe a0.2.1 a0.2.1.length yc a0)=some (.inl (yvP yc (ygB (fun _=>true) a0.2.1 a0.1,a0.2))) :=
  zkB (step:=ybU) a0.2.1.length (fun i s=>yl3 a0.2.1 a0.2.1.length i yc (s,a0.2)) (yfb (fun _=>true) a0.2.1) (fun i s=>s.length=a0.1.length) (fun s=> .inl (yvP yc (s,a0.2))) (fun i s hi hs=>by
   have hw:=(yP3 hm hi).1;refine⟨?_,yuD.trans hs⟩
   simp only[ybU,yl3,ymg,zkw (show(i:Int)<a0.2.1.length by omega),cond_true,wq ((i:Int)+1) (by omega) (by omega),Int.natCast_add,Int.natCast_one,Int.toNat_natCast,zkP hi,hs,hw,yfb,yx]) (fun s hs=>by simp only[ybU,yl3,ymg,zk1 (Int.le_refl _),cond_false]) a0.1 rfl _ (by show _<18446744073709551616; omega)
 rw[h1];cases hf:a0.2.2.1
 ·exact congrArg (fun z=>some (((ygB (fun _=>true) a0.2.1 a0.1,([]:List dW),z,a0.2.2.2),()),())) hf
 ·rfl
def yAL:Con:=⟨yms,ytD,fun x=>(fun n=>some ((n,()),())) (yiT x.1)⟩
theorem yRq:ConOk prog 205 yAL:=(yNA).mono (fun x r hk h=>(yQB x.1 hk).trans h)
def ymk:Code:=(f165.body).getD .skip
def ysZ:Env:=zku TT [(192,yt5),(205,yAL)] []
theorem yJ3:FrOk prog ⟨ysZ,38,fun _=>none⟩ ymk:=zky yf yg ⟨yHn,yRq,trivial⟩
def yAn:Nat→Option Seg:=fun _=>none
def ybz:Shape:=⟨[(0,false,[.ptr 1000000000 0]),(8,false,[.int .i64]),(9,false,[.int .i64])],[(1000000000,[.int .i64,.int .i64,.int .i64,.at 800000000,.int .i64,.int .i64,.int .i64,.int .i64,.int .i64,.at 800000001,.int .i64,.bool,.bool])],[(800000000,tM,(.pr (.ow (.ow .fz)) (.pr (.ow (.pr .fz (.ow .fz))) (.pr .fz (.ow .fz))))),(800000001,tW,(.pr .fz (.ow .fz)))]⟩
def ye1:Shape:=⟨[(0,false,[.ptr 1000000000 0]),(8,false,[.int .i64]),(9,false,[.ci .i64 0])],[(1000000000,[.int .i64,.int .i64,.int .i64,.at 800000000,.int .i64,.int .i64,.int .i64,.int .i64,.int .i64,.at 800000001,.int .i64,.bool,.bool])],[(800000000,tM,(.pr (.ow (.ow .fz)) (.pr (.ow (.pr .fz (.ow .fz))) (.pr .fz (.ow .fz))))),(800000001,tW,(.pr .fz (.ow .fz)))]⟩
def yeT:Shape:=⟨[],[(1000000000,[.int .i64,.int .i64,.int .i64,.at 800000000,.int .i64,.int .i64,.int .i64,.int .i64,.int .i64,.at 800000001,.int .i64,.bool,.bool])],[(800000000,tM,(.pr (.ow (.ow .fz)) (.pr (.ow (.pr .fz (.ow .fz))) (.pr .fz (.ow .fz))))),(800000001,tW,(.pr .fz (.ow .fz)))]⟩
def ye9:Shape:=⟨[(2,false,[.bool])],[(1000000000,[.int .i64,.int .i64,.int .i64,.at 800000000,.int .i64,.int .i64,.int .i64,.int .i64,.int .i64,.at 800000001,.int .i64,.bool,.bool])],[(800000000,tM,(.pr (.ow (.ow .fz)) (.pr (.ow (.pr .fz (.ow .fz))) (.pr .fz (.ow .fz))))),(800000001,tW,(.pr .fz (.ow .fz)))]⟩
abbrev yhB (v0 v1:Int) (v2:dA):(ybz).X:=((((),()),(v0,()),(v1,()),()),((v2.1,v2.2.1.1,v2.2.1.2,(),v2.2.2.2.1,v2.2.2.2.2.1,v2.2.2.2.2.2.1,v2.2.2.2.2.2.2.1,v2.2.2.2.2.2.2.2.1,(),v2.2.2.2.2.2.2.2.2.2.1,v2.2.2.2.2.2.2.2.2.2.2.1,v2.2.2.2.2.2.2.2.2.2.2.2,()),()),(v2.2.2.1,v2.2.2.2.2.2.2.2.2.1,()))
abbrev yJb (v0:Int) (v1:dA):(ye1).X:=((((),()),(v0,()),((),()),()),((v1.1,v1.2.1.1,v1.2.1.2,(),v1.2.2.2.1,v1.2.2.2.2.1,v1.2.2.2.2.2.1,v1.2.2.2.2.2.2.1,v1.2.2.2.2.2.2.2.1,(),v1.2.2.2.2.2.2.2.2.2.1,v1.2.2.2.2.2.2.2.2.2.2.1,v1.2.2.2.2.2.2.2.2.2.2.2,()),()),(v1.2.2.1,v1.2.2.2.2.2.2.2.2.1,()))
abbrev yl7 (v0:dA):(yeT).X:=((),((v0.1,v0.2.1.1,v0.2.1.2,(),v0.2.2.2.1,v0.2.2.2.2.1,v0.2.2.2.2.2.1,v0.2.2.2.2.2.2.1,v0.2.2.2.2.2.2.2.1,(),v0.2.2.2.2.2.2.2.2.2.1,v0.2.2.2.2.2.2.2.2.2.2.1,v0.2.2.2.2.2.2.2.2.2.2.2,()),()),(v0.2.2.1,v0.2.2.2.2.2.2.2.2.1,()))
abbrev yl9 (v0:Bool) (v1:dA):(ye9).X:=(((v0,()),()),((v1.1,v1.2.1.1,v1.2.1.2,(),v1.2.2.2.1,v1.2.2.2.2.1,v1.2.2.2.2.2.1,v1.2.2.2.2.2.2.1,v1.2.2.2.2.2.2.2.1,(),v1.2.2.2.2.2.2.2.2.2.1,v1.2.2.2.2.2.2.2.2.2.2.1,v1.2.2.2.2.2.2.2.2.2.2.2,()),()),(v1.2.2.1,v1.2.2.2.2.2.2.2.2.1,()))
def ymd (v0 v1 v2 v3 v4 v5 v6 v7 v8 v9 v10:Int) (v11 v12:Bool) (v13:List dM) (v14:List dW):Option ((ybz).X ⊕ ((yeT).X ⊕ (ye9).X)) :=bif(ltb v1 v0)then bif(inb v1 v13.length)then bif(((nth v13 v1 ([],[],false,[])).2).2).1 then some (.inl ((((),()),(v0,()),((i64.wrap (v1+1)),()),()),((v2,v3,v4,(),v5,v6,v7,v8,v9,(),v10,v11,v12,()),()),(v13,v14,()))) else let r3:=yhL (v2,(v3,v4),v13,v5,v6,v7,v8,v9,v14,v10,v11,v12);bif(!r3.1)then some (.inr (.inr (((false,()),()),((r3.2.1,r3.2.2.1.1,r3.2.2.1.2,(),r3.2.2.2.2.1,r3.2.2.2.2.2.1,r3.2.2.2.2.2.2.1,r3.2.2.2.2.2.2.2.1,r3.2.2.2.2.2.2.2.2.1,(),r3.2.2.2.2.2.2.2.2.2.2.1,r3.2.2.2.2.2.2.2.2.2.2.2.1,r3.2.2.2.2.2.2.2.2.2.2.2.2,()),()),(r3.2.2.2.1,r3.2.2.2.2.2.2.2.2.2.1,())))) else bif(inb v1 r3.2.2.2.1.length)then let r4:=yiT ((nth r3.2.2.2.1 v1 ([],[],false,[])).1,((nth r3.2.2.2.1 v1 ([],[],false,[])).2).1,(((nth r3.2.2.2.1 v1 ([],[],false,[])).2).2));bif(inb v1 r3.2.2.2.1.length)then some (.inl ((((),()),(v0,()),((i64.wrap (v1+1)),()),()),((r3.2.1,r3.2.2.1.1,r3.2.2.1.2,(),r3.2.2.2.2.1,r3.2.2.2.2.2.1,r3.2.2.2.2.2.2.1,r3.2.2.2.2.2.2.2.1,r3.2.2.2.2.2.2.2.2.1,(),r3.2.2.2.2.2.2.2.2.2.2.1,r3.2.2.2.2.2.2.2.2.2.2.2.1,r3.2.2.2.2.2.2.2.2.2.2.2.2,()),()),((r3.2.2.2.1.set (v1).toNat r4),r3.2.2.2.2.2.2.2.2.2.1,()))) else none else none else none else some (.inr (.inl ((),((v2,v3,v4,(),v5,v6,v7,v8,v9,(),v10,v11,v12,()),()),(v13,v14,()))))
def ybR (x:(ybz).X):=ymd x.1.2.1.1 x.1.2.2.1.1 x.2.1.1.1 x.2.1.1.2.1 x.2.1.1.2.2.1 x.2.1.1.2.2.2.2.1 x.2.1.1.2.2.2.2.2.1 x.2.1.1.2.2.2.2.2.2.1 x.2.1.1.2.2.2.2.2.2.2.1 x.2.1.1.2.2.2.2.2.2.2.2.1 x.2.1.1.2.2.2.2.2.2.2.2.2.2.1 x.2.1.1.2.2.2.2.2.2.2.2.2.2.2.1 x.2.1.1.2.2.2.2.2.2.2.2.2.2.2.2.1 x.2.2.1 x.2.2.2.1
def yvy (x:(ye1).X):(ybz).X:=((((),()),(x.1.2.1.1,()),(0,()),()),((x.2.1.1.1,x.2.1.1.2.1,x.2.1.1.2.2.1,(),x.2.1.1.2.2.2.2.1,x.2.1.1.2.2.2.2.2.1,x.2.1.1.2.2.2.2.2.2.1,x.2.1.1.2.2.2.2.2.2.2.1,x.2.1.1.2.2.2.2.2.2.2.2.1,(),x.2.1.1.2.2.2.2.2.2.2.2.2.2.1,x.2.1.1.2.2.2.2.2.2.2.2.2.2.2.1,x.2.1.1.2.2.2.2.2.2.2.2.2.2.2.2.1,()),()),(x.2.2.1,x.2.2.2.1,()))
def yxM:Code:=(zeJ ymk 64 52).getD .skip
theorem yJL:zeJ ymk 64 13=some (.block 0 (.loop yxM)):=by kernel_rfl
theorem yLq (x:(ybz).X):zhu ⟨ysZ,38,yAn⟩ 0 yxM 52 ybz yeT ye9 x=ybR x:=by kernel_rfl
def yvG (x:(ye1).X):Nat:=18446744073709551616
def ynd (x:(ye1).X):Option ((yeT).X ⊕ (ye9).X):=zF ybR (yvG x) (yvy x)
def yvV:Seg:=⟨ye1,yeT,ye9,ynd⟩
def yL2:Nat→Option Seg:=fun q=>bif Nat.beq q 13 then some yvV else yAn q
theorem yJ4:FrOk prog ⟨ysZ,38,yL2⟩ ymk:=(yJ3).loop (sg:=yvV) ybz yvy (by decide) yJL ybR yvG (by decide) (fun _=>rfl) (fun x r _ h=>h) yLq
abbrev yhX:List Par:= [.pt tA (.pr .fz (.pr (.pr .fz .fz) (.pr (.ow (.pr (.ow (.ow .fz)) (.pr (.ow (.pr .fz (.ow .fz))) (.pr .fz (.ow .fz))))) (.pr .fz (.pr .fz (.pr .fz (.pr .fz (.pr .fz (.pr (.ow (.pr .fz (.ow .fz))) (.pr .fz (.pr .fz .fz)))))))))))]
abbrev ymJ:List OT:= [⟨false,tB,.fz⟩]
def ypR (a0:dA):Option (zaY ymJ×zak yhX) :=zkr (ynd ((((),()),((a0.2.2.1.length:Int),()),((),()),()),((a0.1,a0.2.1.1,a0.2.1.2,(),a0.2.2.2.1,a0.2.2.2.2.1,a0.2.2.2.2.2.1,a0.2.2.2.2.2.2.1,a0.2.2.2.2.2.2.2.1,(),a0.2.2.2.2.2.2.2.2.2.1,a0.2.2.2.2.2.2.2.2.2.2.1,a0.2.2.2.2.2.2.2.2.2.2.2,()),()),(a0.2.2.1,a0.2.2.2.2.2.2.2.2.1,()))) (fun y4 =>some ((true,()),((y4.2.1.1.1,(y4.2.1.1.2.1,y4.2.1.1.2.2.1),y4.2.2.1,y4.2.1.1.2.2.2.2.1,y4.2.1.1.2.2.2.2.2.1,y4.2.1.1.2.2.2.2.2.2.1,y4.2.1.1.2.2.2.2.2.2.2.1,y4.2.1.1.2.2.2.2.2.2.2.2.1,y4.2.2.2.1,y4.2.1.1.2.2.2.2.2.2.2.2.2.2.1,y4.2.1.1.2.2.2.2.2.2.2.2.2.2.2.1,y4.2.1.1.2.2.2.2.2.2.2.2.2.2.2.2.1),()))) (fun y4 =>some ((y4.1.1.1,()),((y4.2.1.1.1,(y4.2.1.1.2.1,y4.2.1.1.2.2.1),y4.2.2.1,y4.2.1.1.2.2.2.2.1,y4.2.1.1.2.2.2.2.2.1,y4.2.1.1.2.2.2.2.2.2.1,y4.2.1.1.2.2.2.2.2.2.2.1,y4.2.1.1.2.2.2.2.2.2.2.2.1,y4.2.2.2.1,y4.2.1.1.2.2.2.2.2.2.2.2.2.2.1,y4.2.1.1.2.2.2.2.2.2.2.2.2.2.2.1,y4.2.1.1.2.2.2.2.2.2.2.2.2.2.2.2.1),())))
theorem yNy:ConOk prog 165 ⟨yhX,ymJ,fun x=>ypR x.1⟩:=zkG (yJ4) func165 ntmps165.symm fun x=>by kernel_rfl
def yiR (a0:dA):Bool×dA:=(!(ya (ye a0)),ye a0)
def yfz (a0:dA):Bool:= !(ya a0)
theorem yQz (a0:dA) (hk:zjw yhX (a0,())) (hq:yfz a0=true):ypR a0=(fun n=>some ((n.1,()),(n.2,()))) (yiR a0):=by
 have hb:a0.2.2.1.length*80≤2^47:=hk.1.2.2.1.1
 have h1:ynd (yJb a0.2.2.1.length a0)=some (bif ya (ye a0)then .inr (yl9 false (ye a0))else .inl (yl7 (ye a0))):=by
  have:=zkA (step:=ybR) a0.2.2.1.length (fun i s=>yhB a0.2.2.1.length i s) (fun i s=>bif ya (yab s i)then(.inr (yab s i):dA ⊕ dA)else .inl (yab s i)) (fun _ s=>s.2.2.1.length=a0.2.2.1.length∧ya s=false) id
   (fun b=>bif ya b then .inr (yl9 false b)else .inl (yl7 b)) (fun i s hi hs=>by
    constructor
    ·rw[yLB hs.2]
     simp only[ybR,yhB,ymd,hs.1,zkw (show(i:Int)<a0.2.2.1.length by omega),cond_true,wq ((i:Int)+1) (by omega) (by omega),Int.natCast_add,Int.natCast_one,Int.toNat_natCast,zkP hi,zkV,yTN hs.2,yaP,yiT];cases hf:(nth s.2.2.1 i yc).2.2.1
     ·cases ho:(opA s).1
      ·have e:yab s i=(opA s).2:=by unfold yab; rw[hf,ho]; rfl
       have d:ya (opA s).2=true:=by rw[yYe hs.2,ho]; rfl
       rw[e];simp only[Bool.not_false,Bool.and_self,cond_true,cond_false,d,yaP,yl9]
      ·have e:yab s i=ybp (opA s).2 i (yE (nth s.2.2.1 i yc)):=by unfold yab; rw[hf,ho]; rfl
       rw[e];simp only[Bool.not_true,Bool.not_false,Bool.and_false,cond_true,cond_false,yhB,ybp,yaP,Int.toNat_natCast]
     ·have e:yab s i=s:=by unfold yab; rw[hf]; rfl
      rw[e]; rfl
    ·intro s' h
     cases hd:ya (yab s i)
     ·rw[hd]at h
      cases h;exact⟨(ylQ s i).trans hs.1,hd⟩
     ·rw[hd]at h; cases h) (fun s hs=>by simp only[ybR,yhB,ymd,hs.2,zk1 (Int.le_refl _),cond_false,id,yl7]) a0 ⟨rfl,by simpa [yfz]using hq⟩ 18446744073709551616 (by omega)
  rw[yD3 (fun a i h=>yEK i h),← List.range_eq_range']at this;exact this
 unfold ypR yiR;rw[h1];cases hd:ya (ye a0)<;>rfl
def yfy (a0:dA):Option (zaY ymJ×zak yhX):=bif yfz a0 then(fun n=>some ((n.1,()),(n.2,()))) (yiR a0)else none
theorem yrS (a0:dA) (h:yfz a0=true):yfy a0=(fun n=>some ((n.1,()),(n.2,()))) (yiR a0):=by unfold yfy; rw[h]; rfl
def yjA:Con:=⟨yhX,ymJ,fun x=>yfy x.1⟩
theorem yrR:ConOk prog 165 yjA:=(yNy).mono (fun x r hk h=>zkW h (fun hq=>yQz x.1 hk hq))
def yjk:Code:=(f97.body).getD .skip
def ypb:Env:=zku TT [(88,yua),(139,yiL),(164,yFm),(165,yjA)] []
theorem yH0:FrOk prog ⟨ypb,26,fun _=>none⟩ yjk:=zky yf yg ⟨yHr,ypO,yXW,yrR,trivial⟩
def yvn:Nat→Option Seg:=fun _=>none
def yaX:Shape:=⟨[(0,false,[.ptr 1000000000 0]),(3,false,[.ptr 0 0]),(10,false,[.int .i64]),(11,false,[.int .i64])],[(0,[.int .i64,.int .i64,.br tI]),(1000000000,[.int .i64,.int .i64,.int .i64,.at 800000000,.int .i64,.int .i64,.int .i64,.int .i64,.int .i64,.at 800000001,.int .i64,.bool,.bool])],[(800000000,tM,(.pr (.ow (.ow .fz)) (.pr (.ow (.pr .fz (.ow .fz))) (.pr .fz (.ow .fz))))),(800000001,tW,(.pr .fz (.ow .fz)))]⟩
def ydB:Shape:=⟨[(0,false,[.ptr 1000000000 0]),(3,false,[.ptr 0 0]),(10,false,[.int .i64]),(11,false,[.ci .i64 0])],[(0,[.int .i64,.int .i64,.br tI]),(1000000000,[.int .i64,.int .i64,.int .i64,.at 800000000,.int .i64,.int .i64,.int .i64,.int .i64,.int .i64,.at 800000001,.int .i64,.bool,.bool])],[(800000000,tM,(.pr (.ow (.ow .fz)) (.pr (.ow (.pr .fz (.ow .fz))) (.pr .fz (.ow .fz))))),(800000001,tW,(.pr .fz (.ow .fz)))]⟩
def ydz:Shape:=⟨[(0,false,[.ptr 1000000000 0])],[(1000000000,[.int .i64,.int .i64,.int .i64,.at 800000000,.int .i64,.int .i64,.int .i64,.int .i64,.int .i64,.at 800000001,.int .i64,.bool,.bool])],[(800000000,tM,(.pr (.ow (.ow .fz)) (.pr (.ow (.pr .fz (.ow .fz))) (.pr .fz (.ow .fz))))),(800000001,tW,(.pr .fz (.ow .fz)))]⟩
def ydD:Shape:=⟨[(4,false,[.bool])],[(1000000000,[.int .i64,.int .i64,.int .i64,.at 800000000,.int .i64,.int .i64,.int .i64,.int .i64,.int .i64,.at 800000001,.int .i64,.bool,.bool])],[(800000000,tM,(.pr (.ow (.ow .fz)) (.pr (.ow (.pr .fz (.ow .fz))) (.pr .fz (.ow .fz))))),(800000001,tW,(.pr .fz (.ow .fz)))]⟩
abbrev yj5 (v0 v1:Int) (v2:dN) (v3:dA):(yaX).X:=((((),()),((),()),(v0,()),(v1,()),()),((v2.1,v2.2.1,v2.2.2,()),(v3.1,v3.2.1.1,v3.2.1.2,(),v3.2.2.2.1,v3.2.2.2.2.1,v3.2.2.2.2.2.1,v3.2.2.2.2.2.2.1,v3.2.2.2.2.2.2.2.1,(),v3.2.2.2.2.2.2.2.2.2.1,v3.2.2.2.2.2.2.2.2.2.2.1,v3.2.2.2.2.2.2.2.2.2.2.2,()),()),(v3.2.2.1,v3.2.2.2.2.2.2.2.2.1,()))
abbrev yHl (v0:Int) (v1:dN) (v2:dA):(ydB).X:=((((),()),((),()),(v0,()),((),()),()),((v1.1,v1.2.1,v1.2.2,()),(v2.1,v2.2.1.1,v2.2.1.2,(),v2.2.2.2.1,v2.2.2.2.2.1,v2.2.2.2.2.2.1,v2.2.2.2.2.2.2.1,v2.2.2.2.2.2.2.2.1,(),v2.2.2.2.2.2.2.2.2.2.1,v2.2.2.2.2.2.2.2.2.2.2.1,v2.2.2.2.2.2.2.2.2.2.2.2,()),()),(v2.2.2.1,v2.2.2.2.2.2.2.2.2.1,()))
abbrev yj7 (v0:dA):(ydz).X:=((((),()),()),((v0.1,v0.2.1.1,v0.2.1.2,(),v0.2.2.2.1,v0.2.2.2.2.1,v0.2.2.2.2.2.1,v0.2.2.2.2.2.2.1,v0.2.2.2.2.2.2.2.1,(),v0.2.2.2.2.2.2.2.2.2.1,v0.2.2.2.2.2.2.2.2.2.2.1,v0.2.2.2.2.2.2.2.2.2.2.2,()),()),(v0.2.2.1,v0.2.2.2.2.2.2.2.2.1,()))
abbrev yj9 (v0:Bool) (v1:dA):(ydD).X:=(((v0,()),()),((v1.1,v1.2.1.1,v1.2.1.2,(),v1.2.2.2.1,v1.2.2.2.2.1,v1.2.2.2.2.2.1,v1.2.2.2.2.2.2.1,v1.2.2.2.2.2.2.2.1,(),v1.2.2.2.2.2.2.2.2.2.1,v1.2.2.2.2.2.2.2.2.2.2.1,v1.2.2.2.2.2.2.2.2.2.2.2,()),()),(v1.2.2.1,v1.2.2.2.2.2.2.2.2.1,()))
def ykw (v0 v1 v2 v3:Int) (v4:List Int) (v5 v6 v7 v8 v9 v10 v11 v12 v13:Int) (v14 v15:Bool) (v16:List dM) (v17:List dW):Option ((yaX).X ⊕ ((ydz).X ⊕ (ydD).X)) :=bif(ltb v1 v0)then let r4:=ylB v2;let r5:=ylA (v2,v3,v4);bnd (yeF (v5,(v6,v7),v16,v8,v9,v10,v11,v12,v17,v13,v14,v15) v1 r4 r5) fun r6 =>bif(!r6.1.1)then some (.inr (.inr (((false,()),()),((r6.2.1.1,r6.2.1.2.1.1,r6.2.1.2.1.2,(),r6.2.1.2.2.2.1,r6.2.1.2.2.2.2.1,r6.2.1.2.2.2.2.2.1,r6.2.1.2.2.2.2.2.2.1,r6.2.1.2.2.2.2.2.2.2.1,(),r6.2.1.2.2.2.2.2.2.2.2.2.1,r6.2.1.2.2.2.2.2.2.2.2.2.2.1,r6.2.1.2.2.2.2.2.2.2.2.2.2.2,()),()),(r6.2.1.2.2.1,r6.2.1.2.2.2.2.2.2.2.2.1,())))) else some (.inl ((((),()),((),()),(v0,()),((i64.wrap (v1+1)),()),()),((v2,v3,v4,()),(r6.2.1.1,r6.2.1.2.1.1,r6.2.1.2.1.2,(),r6.2.1.2.2.2.1,r6.2.1.2.2.2.2.1,r6.2.1.2.2.2.2.2.1,r6.2.1.2.2.2.2.2.2.1,r6.2.1.2.2.2.2.2.2.2.1,(),r6.2.1.2.2.2.2.2.2.2.2.2.1,r6.2.1.2.2.2.2.2.2.2.2.2.2.1,r6.2.1.2.2.2.2.2.2.2.2.2.2.2,()),()),(r6.2.1.2.2.1,r6.2.1.2.2.2.2.2.2.2.2.1,()))) else some (.inr (.inl ((((),()),()),((v5,v6,v7,(),v8,v9,v10,v11,v12,(),v13,v14,v15,()),()),(v16,v17,()))))
def yba (x:(yaX).X):=ykw x.1.2.2.1.1 x.1.2.2.2.1.1 x.2.1.1.1 x.2.1.1.2.1 x.2.1.1.2.2.1 x.2.1.2.1.1 x.2.1.2.1.2.1 x.2.1.2.1.2.2.1 x.2.1.2.1.2.2.2.2.1 x.2.1.2.1.2.2.2.2.2.1 x.2.1.2.1.2.2.2.2.2.2.1 x.2.1.2.1.2.2.2.2.2.2.2.1 x.2.1.2.1.2.2.2.2.2.2.2.2.1 x.2.1.2.1.2.2.2.2.2.2.2.2.2.2.1 x.2.1.2.1.2.2.2.2.2.2.2.2.2.2.2.1 x.2.1.2.1.2.2.2.2.2.2.2.2.2.2.2.2.1 x.2.2.1 x.2.2.2.1
def ysw (x:(ydB).X):(yaX).X:=((((),()),((),()),(x.1.2.2.1.1,()),(0,()),()),((x.2.1.1.1,x.2.1.1.2.1,x.2.1.1.2.2.1,()),(x.2.1.2.1.1,x.2.1.2.1.2.1,x.2.1.2.1.2.2.1,(),x.2.1.2.1.2.2.2.2.1,x.2.1.2.1.2.2.2.2.2.1,x.2.1.2.1.2.2.2.2.2.2.1,x.2.1.2.1.2.2.2.2.2.2.2.1,x.2.1.2.1.2.2.2.2.2.2.2.2.1,(),x.2.1.2.1.2.2.2.2.2.2.2.2.2.2.1,x.2.1.2.1.2.2.2.2.2.2.2.2.2.2.2.1,x.2.1.2.1.2.2.2.2.2.2.2.2.2.2.2.2.1,()),()),(x.2.2.1,x.2.2.2.1,()))
def yt3:Code:=(zeJ yjk 64 52).getD .skip
theorem yHU:zeJ yjk 64 13=some (.block 0 (.loop yt3)):=by kernel_rfl
theorem yIn (x:(yaX).X):zhu ⟨ypb,26,yvn⟩ 0 yt3 52 yaX ydz ydD x=yba x:=by kernel_rfl
def ysz (x:(ydB).X):Nat:=18446744073709551616
def ykG (x:(ydB).X):Option ((ydz).X ⊕ (ydD).X):=zF yba (ysz x) (ysw x)
def ysF:Seg:=⟨ydB,ydz,ydD,ykG⟩
def yIR:Nat→Option Seg:=fun q=>bif Nat.beq q 13 then some ysF else yvn q
theorem yH1:FrOk prog ⟨ypb,26,yIR⟩ yjk:=(yH0).loop (sg:=ysF) yaX ysw (by decide) yHU yba ysz (by decide) (fun _=>rfl) (fun x r _ h=>h) yIn
abbrev yfP:List Par:= [.pt tA (.pr .fz (.pr (.pr .fz .fz) (.pr (.ow (.pr (.ow (.ow .fz)) (.pr (.ow (.pr .fz (.ow .fz))) (.pr .fz (.ow .fz))))) (.pr .fz (.pr .fz (.pr .fz (.pr .fz (.pr .fz (.pr (.ow (.pr .fz (.ow .fz))) (.pr .fz (.pr .fz .fz))))))))))),.rd tN]
abbrev yjp:List OT:= [⟨false,tB,.fz⟩]
def yma (a0:dA) (a1:dN):Option (zaY yjp×zak yfP) :=zkr (ykG ((((),()),((),()),((a0.2.2.1.length:Int),()),((),()),()),((a1.1,a1.2.1,a1.2.2,()),(a0.1,a0.2.1.1,a0.2.1.2,(),a0.2.2.2.1,a0.2.2.2.2.1,a0.2.2.2.2.2.1,a0.2.2.2.2.2.2.1,a0.2.2.2.2.2.2.2.1,(),a0.2.2.2.2.2.2.2.2.2.1,a0.2.2.2.2.2.2.2.2.2.2.1,a0.2.2.2.2.2.2.2.2.2.2.2,()),()),(a0.2.2.1,a0.2.2.2.2.2.2.2.2.1,()))) (fun y6 =>bnd (yfy (y6.2.1.1.1,(y6.2.1.1.2.1,y6.2.1.1.2.2.1),y6.2.2.1,y6.2.1.1.2.2.2.2.1,y6.2.1.1.2.2.2.2.2.1,y6.2.1.1.2.2.2.2.2.2.1,y6.2.1.1.2.2.2.2.2.2.2.1,y6.2.1.1.2.2.2.2.2.2.2.2.1,y6.2.2.2.1,y6.2.1.1.2.2.2.2.2.2.2.2.2.2.1,y6.2.1.1.2.2.2.2.2.2.2.2.2.2.2.1,y6.2.1.1.2.2.2.2.2.2.2.2.2.2.2.2.1)) fun r8 =>some ((r8.1.1,()),(r8.2.1,()))) (fun y6 =>some ((y6.1.1.1,()),((y6.2.1.1.1,(y6.2.1.1.2.1,y6.2.1.1.2.2.1),y6.2.2.1,y6.2.1.1.2.2.2.2.1,y6.2.1.1.2.2.2.2.2.1,y6.2.1.1.2.2.2.2.2.2.1,y6.2.1.1.2.2.2.2.2.2.2.1,y6.2.1.1.2.2.2.2.2.2.2.2.1,y6.2.2.2.1,y6.2.1.1.2.2.2.2.2.2.2.2.2.2.1,y6.2.1.1.2.2.2.2.2.2.2.2.2.2.2.1,y6.2.1.1.2.2.2.2.2.2.2.2.2.2.2.2.1),())))
theorem yJm:ConOk prog 97 ⟨yfP,yjp,fun x=>yma x.1 x.2.1⟩:=zkG (yH1) func97 ntmps97.symm fun x=>by kernel_rfl
def ygn (a0:dA) (a1:dN):Bool×dA:=(!(ya (yo a0 a1)),yo a0 a1)
def ydS (a0:dA) (a1:dN):Bool:= !(ya a0)
theorem yK6 (a0:dA) (a1:dN) (hk:zjw yfP (a0,a1,())) (hq:ydS a0 a1=true):yma a0 a1=(fun n=>some ((n.1,()),(n.2,()))) (ygn a0 a1):=by
 have hb:a0.2.2.1.length*80≤2^47:=hk.1.2.2.1.1;have hd0:ya a0=false:=by simpa [ydS]using hq
 have h1:ykG (yHl a0.2.2.1.length a1 a0)=some (bif ya ((List.range a0.2.2.1.length).foldl (ya8 a1) a0)then .inr (yj9 false ((List.range a0.2.2.1.length).foldl (ya8 a1) a0))else .inl (yj7 ((List.range a0.2.2.1.length).foldl (ya8 a1) a0))):=by
  have:=zkA (step:=yba) a0.2.2.1.length (fun i s=>yj5 a0.2.2.1.length i a1 s) (fun i s=>bif ya (ya8 a1 s i)then(.inr (ya8 a1 s i):dA ⊕ dA)else .inl (ya8 a1 s i)) (fun _ s=>s.2.2.1.length=a0.2.2.1.length∧ya s=false) id
   (fun b=>bif ya b then .inr (yj9 false b)else .inl (yj7 b)) (fun i s hi hs=>by
    constructor
    ·simp only[yba,yj5,ykw,zkw (show(i:Int)<a0.2.2.1.length by omega),cond_true,wq ((i:Int)+1) (by omega) (by omega),Int.natCast_add,Int.natCast_one,Int.toNat_natCast,zkV,yKB,ylA]
     rw[ypP s i (yh a1.1) (yac a1) (by unfold ycX; rw[zkP (by rw[hs.1]; exact hi),hs.2]; rfl)];simp only[zkF,ycW];rw[show ybq s i (yh a1.1) (yac a1)=ya8 a1 s i from rfl];cases hd:ya (ya8 a1 s i)
     ·rfl
     ·simp only[hd,Bool.not_true,Bool.not_false,cond_true,yj9]
    ·intro s' h
     cases hd:ya (ya8 a1 s i)
     ·rw[hd]at h
      cases h;exact⟨(ylb a1 s i).trans hs.1,hd⟩
     ·rw[hd]at h; cases h) (fun s hs=>by simp only[yba,yj5,ykw,hs.2,zk1 (Int.le_refl _),cond_false,id,yj7]) a0 ⟨rfl,hd0⟩ 18446744073709551616 (by omega)
  rw[yD3 (fun a i h=>yOr a1 i h),← List.range_eq_range']at this;exact this
 unfold yma ygn yo;refine(congrArg (fun z=>zkr z _ _) h1).trans ?_;cases hd:ya ((List.range a0.2.2.1.length).foldl (ya8 a1) a0)
 ·simp only[cond_false,zkL,zkV]
  rw[yrS _ (by unfold yfz; rw[hd]; rfl)]; rfl
 ·rw[ysH hd]
  simp only[cond_true,zkM,zkV];rw[hd]; rfl
def ybc (a0:dA) (a1:dN):Option (zaY yjp×zak yfP):=bif ydS a0 a1 then(fun n=>some ((n.1,()),(n.2,()))) (ygn a0 a1)else none
theorem yyG (a0:dA) (a1:dN) (h:ydS a0 a1=true):ybc a0 a1=(fun n=>some ((n.1,()),(n.2,()))) (ygn a0 a1):=by unfold ybc; rw[h]; rfl
def ylY:Con:=⟨yfP,yjp,fun x=>ybc x.1 x.2.1⟩
theorem yyE:ConOk prog 97 ylY:=(yJm).mono (fun x r hk h=>zkW h (fun hq=>yK6 x.1 x.2.1 hk hq))
def yY6:Code:=(f111.body).getD .skip
def yZD:Env:=zku TT [(81,yN)] []
theorem yO8:FrOk prog ⟨yZD,9,fun _=>none⟩ yY6:=zky yf yg ⟨y9,trivial⟩
abbrev yza:List Par:= [.rd tI]
abbrev yzv:List OT:= [⟨false,tI,.fz⟩]
def yF0 (a0:Int):Option (zaY yzv×zak yza) :=let r1:=yi a0 0 1099511627776;bif(!r1)then some (((-1),()),()) else some (((i64.wrap ((i64.wrap (a0+2))+4)),()),())
theorem yUw:ConOk prog 111 ⟨yza,yzv,fun x=>yF0 x.1⟩:=zkG (yO8) func111 ntmps111.symm fun x=>by kernel_rfl
def ylx (a0:Int):Int :=let r1:=yi a0 0 1099511627776;bif(!r1)then (-1) else (i64.wrap ((i64.wrap (a0+2))+4))
def yt6:Con:=⟨yza,yzv,fun x=>(fun n=>some ((n,()),())) (ylx x.1)⟩
theorem yWW (a0:Int):yF0 a0=(fun n=>some ((n,()),())) (ylx a0):=zkT (p:=fun(n:Int)=>((n,()),())) (zkE (p:=fun(n:Int)=>((n,()),())) rfl rfl)
theorem yHo:ConOk prog 111 yt6:=(yUw).mono (fun x r _ h=>(yWW x.1).trans h)
def yZk:Code:=(f113.body).getD .skip
def yZR:Env:=zku TT [(82,yM)] []
theorem yPw:FrOk prog ⟨yZR,9,fun _=>none⟩ yZk:=zky yf yg ⟨yX,trivial⟩
abbrev yzj:List Par:= [.rd tI]
abbrev yzL:List OT:= [⟨false,tI,.fz⟩]
def yF9 (a0:Int):Option (zaY yzL×zak yzj) :=let r1:=yb a0 0 1099511627776;bif(!r1)then some (((-1),()),()) else some (((i64.wrap ((i64.wrap (a0+2))+4)),()),())
theorem yUO:ConOk prog 113 ⟨yzj,yzL,fun x=>yF9 x.1⟩:=zkG (yPw) func113 ntmps113.symm fun x=>by kernel_rfl
def ybK (a0:Int):Int :=let r1:=yb a0 0 1099511627776;bif(!r1)then (-1) else (i64.wrap ((i64.wrap (a0+2))+4))
def yfs:Con:=⟨yzj,yzL,fun x=>(fun n=>some ((n,()),())) (ybK x.1)⟩
theorem yXe (a0:Int):yF9 a0=(fun n=>some ((n,()),())) (ybK a0):=zkT (p:=fun(n:Int)=>((n,()),())) (zkE (p:=fun(n:Int)=>((n,()),())) rfl rfl)
theorem yko:ConOk prog 113 yfs:=(yUO).mono (fun x r _ h=>(yXe x.1).trans h)
theorem ygH (s:Int):ybK s=yA s:=by
 unfold ybK yA;rw[ybM];by_cases h:0≤s∧s≤1099511627776
 ·rw[zk0 h.1,zk0 h.2,wq (s+2) (by omega) (by omega),wr (by omega) (by omega)]
  show s+2+4=s+6;omega
 ·cases h1:(leb 0 s&&leb s 1099511627776)
  ·rfl
  ·rw[Bool.and_eq_true,zj5,zj5]at h1; exact absurd h1 h
theorem yHk (s:Int):ylx s=yA s:=ygH s
def yR2:Code:=(f167.body).getD .skip
def ySw:Env:=zku TT [(109,yc5)] []
theorem yKb:FrOk prog ⟨ySw,17,fun _=>none⟩ yR2:=zky yf yg ⟨ygp,trivial⟩
abbrev ymu:List Par:= [.rd tG,.rd tI]
abbrev ytF:List OT:= [⟨false,tI,.fz⟩]
def ypV (a0:dG) (a1:Int):Option (zaY ytF×zak ymu) :=let r1:=yaC a0 a1;bif(!r1)then some (((-1),()),()) else bif(a0.1 !=0)then some (((i64.wrap ((i64.wrap (a0.1-1))-(a1.tmod a0.1))),()),()) else none
theorem yNC:ConOk prog 167 ⟨ymu,ytF,fun x=>ypV x.1 x.2.1⟩:=zkG (yKb) func167 ntmps167.symm fun x=>by kernel_rfl
def ydH (a0:dG) (a1:Int):Int:=yk a0 a1
theorem yQD (a0:dG) (a1:Int) (hk:zjw ymu (a0,a1,())):ypV a0 a1=(fun n=>some ((n,()),())) (ydH a0 a1):=by
 unfold ypV ydH;rw[yxE];cases hs:yL a0 a1
 ·unfold yk; rw[hs]; rfl
 ·have h1:=yV.1 hs
  have h2:=yl.1 h1.1;have h3:=yi5 hs;have h4:yk a0 a1=a0.1-1-a1.tmod a0.1:=by unfold yk; rw[hs]; rfl
  rw[show(a0.1 !=0)=true from bne_iff_ne.2 (by omega),wq (a0.1-1) (by omega) (by omega),wq (a0.1-1-a1.tmod a0.1) (by omega) (by omega),h4]; rfl
def ypx:Con:=⟨ymu,ytF,fun x=>(fun n=>some ((n,()),())) (ydH x.1 x.2.1)⟩
theorem yEe:ConOk prog 167 ypx:=(yNC).mono (fun x r hk h=>(yQD x.1 x.2.1 hk).trans h)
def yY7:Code:=(f142.body).getD .skip
def yZE:Env:=zku TT [(81,yN),(109,yc5),(167,ypx)] []
theorem yPb:FrOk prog ⟨yZE,28,fun _=>none⟩ yY7:=zky yf yg ⟨y9,ygp,yEe,trivial⟩
abbrev yqN:List Par:= [.rd tG,.rd tI,.rd tI]
abbrev yzx:List OT:= [⟨false,tI,.fz⟩]
def yuU (a0:dG) (a1 a2:Int):Option (zaY yzx×zak yqN) :=let r1:=yaC a0 a1;bif(!(!r1))then let r2:=yi a2 0 (i64.wrap (a0.1-2));bif(!r2)then some (((-1),()),()) else let r3:=ydH a0 a1;bif(a0.1 !=0)then some ((((i64.wrap ((i64.wrap (r3+1))+a2)).tmod a0.1),()),()) else none else some (((-1),()),())
theorem yUy:ConOk prog 142 ⟨yqN,yzx,fun x=>yuU x.1 x.2.1 x.2.2.1⟩:=zkG (yPb) func142 ntmps142.symm fun x=>by kernel_rfl
def yfL (a0:dG) (a1 a2:Int):Int:=yaQ a0 a1 a2
theorem yWY (a0:dG) (a1 a2:Int) (hk:zjw yqN (a0,a1,a2,())):yuU a0 a1 a2=(fun n=>some ((n,()),())) (yfL a0 a1 a2):=by
 unfold yuU yfL yaQ ydH;rw[yxE];cases hs:yL a0 a1
 ·rfl
 ·have h1:=yV.1 hs
  have h2:=yl.1 h1.1;have h3:=yi5 hs;rw[yao,ybM,wq (a0.1-2) (by omega) (by omega)];cases hi:(leb 0 a2&&leb a2 (a0.1-2))
  ·rfl
  ·rw[Bool.and_eq_true,zj5,zj5]at hi
   rw[show(a0.1 !=0)=true from bne_iff_ne.2 (by omega)];show some (((i64.wrap (i64.wrap (yk a0 a1+1)+a2)).tmod a0.1,()),())=some (((yk a0 a1+1+a2).tmod a0.1,()),());rw[wq (yk a0 a1+1) (by omega) (by omega),wq (yk a0 a1+1+a2) (by omega) (by omega)]
def yt7:Con:=⟨yqN,yzx,fun x=>(fun n=>some ((n,()),())) (yfL x.1 x.2.1 x.2.2.1)⟩
theorem yHp:ConOk prog 142 yt7:=(yUy).mono (fun x r hk h=>(yWY x.1 x.2.1 x.2.2.1 hk).trans h)
end
end Go.Tf
