/- Functions of the program, and what they come to. -/
import Derived.Test.YtolmneojjjpnjaaGreatSureF0
namespace Go.Tf
noncomputable section
open Go.Proofs Go.Proofs.Tryz IntKind
set_option synthInstance.maxHeartbeats 400000
set_option synthInstance.maxSize 10000
set_option linter.unusedVariables false
set_option linter.unusedSimpArgs false
set_option maxRecDepth 100000
def yc9:Code:=(f16.body).getD .skip
def yhm:Env:=zku TT [(55,yf6),(73,yz0),(74,yoU)] []
theorem yIS:FrOk prog ⟨yhm,109,fun _=>none⟩ yc9:=zky yg yh ⟨ylb,yP6,yDd,trivial⟩
def yzx:Nat→Option Seg:=fun _=>none
def ybu:Shape:=⟨[(0,false,[.br tM]),(1,false,[.int .i64]),(4,false,[.ptr 0 0]),(6,false,[.ptr 4160 0]),(7,false,[.bool]),(18,false,[.br tM]),(19,false,[.int .i64]),(20,false,[.int .i64])],[(0,[.int .i64,.int .i64,.int .i64,.nil,.int .i64,.int .i64,.int .i64,.int .i64,.int .i64,.nil,.int .i64,.bool,.bool]),(4160,[.int .i64,.int .i64,.int .i64,.int .i64,.int .i64,.int .i64,.int .i64,.int .i64])],[]⟩
def yeK:Shape:=⟨[(0,false,[.br tM]),(1,false,[.int .i64]),(4,false,[.ptr 0 0]),(6,false,[.ptr 4160 0]),(7,false,[.cb false]),(18,false,[.br tM]),(19,false,[.int .i64]),(20,false,[.ci .i64 0])],[(0,[.int .i64,.int .i64,.int .i64,.nil,.int .i64,.int .i64,.int .i64,.int .i64,.int .i64,.nil,.int .i64,.bool,.bool]),(4160,[.int .i64,.int .i64,.int .i64,.int .i64,.int .i64,.int .i64,.int .i64,.int .i64])],[]⟩
def yeC:Shape:=⟨[(0,false,[.br tM]),(1,false,[.int .i64]),(4,false,[.ptr 0 0]),(6,false,[.ptr 4160 0]),(7,false,[.bool])],[(0,[.int .i64,.int .i64,.int .i64,.nil,.int .i64,.int .i64,.int .i64,.int .i64,.int .i64,.nil,.int .i64,.bool,.bool]),(4160,[.int .i64,.int .i64,.int .i64,.int .i64,.int .i64,.int .i64,.int .i64,.int .i64])],[]⟩
def yh0:Shape:=⟨[],[],[]⟩
abbrev yls (v0:List dM) (v1:Int) (v2:Bool) (v3:List dM) (v4 v5:Int) (v6:dA) (v7:dS):(ybu).X:=(((v0,()),(v1,()),((),()),((),()),(v2,()),(v3,()),(v4,()),(v5,()),()),((v6.1,v6.2.1.1,v6.2.1.2,(),v6.2.2.2.1,v6.2.2.2.2.1,v6.2.2.2.2.2.1,v6.2.2.2.2.2.2.1,v6.2.2.2.2.2.2.2.1,(),v6.2.2.2.2.2.2.2.2.2.1,v6.2.2.2.2.2.2.2.2.2.2.1,v6.2.2.2.2.2.2.2.2.2.2.2,()),(v7.1,v7.2.1,v7.2.2.1,v7.2.2.2.1,v7.2.2.2.2.1,v7.2.2.2.2.2.1,v7.2.2.2.2.2.2.1,v7.2.2.2.2.2.2.2,()),()),())
abbrev yH5 (v0:List dM) (v1:Int) (v2:List dM) (v3:Int) (v4:dA) (v5:dS):(yeK).X:=(((v0,()),(v1,()),((),()),((),()),((),()),(v2,()),(v3,()),((),()),()),((v4.1,v4.2.1.1,v4.2.1.2,(),v4.2.2.2.1,v4.2.2.2.2.1,v4.2.2.2.2.2.1,v4.2.2.2.2.2.2.1,v4.2.2.2.2.2.2.2.1,(),v4.2.2.2.2.2.2.2.2.2.1,v4.2.2.2.2.2.2.2.2.2.2.1,v4.2.2.2.2.2.2.2.2.2.2.2,()),(v5.1,v5.2.1,v5.2.2.1,v5.2.2.2.1,v5.2.2.2.2.1,v5.2.2.2.2.2.1,v5.2.2.2.2.2.2.1,v5.2.2.2.2.2.2.2,()),()),())
abbrev yu6 (v0:List dM) (v1:Int) (v2:Bool) (v3:dA) (v4:dS):(yeC).X:=(((v0,()),(v1,()),((),()),((),()),(v2,()),()),((v3.1,v3.2.1.1,v3.2.1.2,(),v3.2.2.2.1,v3.2.2.2.2.1,v3.2.2.2.2.2.1,v3.2.2.2.2.2.2.1,v3.2.2.2.2.2.2.2.1,(),v3.2.2.2.2.2.2.2.2.2.1,v3.2.2.2.2.2.2.2.2.2.2.1,v3.2.2.2.2.2.2.2.2.2.2.2,()),(v4.1,v4.2.1,v4.2.2.1,v4.2.2.2.1,v4.2.2.2.2.1,v4.2.2.2.2.2.1,v4.2.2.2.2.2.2.1,v4.2.2.2.2.2.2.2,()),()),())
def ylE (v0:List dM) (v1:Int) (v2:Bool) (v3:List dM) (v4 v5 v6 v7 v8 v9 v10 v11 v12 v13 v14:Int) (v15 v16:Bool) (v17 v18 v19 v20 v21 v22 v23 v24:Int):Option ((ybu).X ⊕ ((yeC).X ⊕ (yh0).X)) :=bif(ltb v5 v4)then bif(inb v5 v3.length)then let r2:=ydz ((nth v3 v5 ([],[],false,[])).1,((nth v3 v5 ([],[],false,[])).2).1,(((nth v3 v5 ([],[],false,[])).2).2)) v5 v1;bif r2.2 then bif(!(!v2))then bif(ltb v18 r2.1.2.1)then some (.inl (((v0,()),(v1,()),((),()),((),()),(true,()),(v3,()),(v4,()),((i64.wrap (v5+1)),()),()),((v6,v7,v8,(),v9,v10,v11,v12,v13,(),v14,v15,v16,()),(r2.1.1,r2.1.2.1,r2.1.2.2.1,r2.1.2.2.2.1,r2.1.2.2.2.2.1,r2.1.2.2.2.2.2.1,r2.1.2.2.2.2.2.2.1,r2.1.2.2.2.2.2.2.2,()),()),())) else some (.inl (((v0,()),(v1,()),((),()),((),()),(v2,()),(v3,()),(v4,()),((i64.wrap (v5+1)),()),()),((v6,v7,v8,(),v9,v10,v11,v12,v13,(),v14,v15,v16,()),(v17,v18,v19,v20,v21,v22,v23,v24,()),()),())) else some (.inl (((v0,()),(v1,()),((),()),((),()),(true,()),(v3,()),(v4,()),((i64.wrap (v5+1)),()),()),((v6,v7,v8,(),v9,v10,v11,v12,v13,(),v14,v15,v16,()),(r2.1.1,r2.1.2.1,r2.1.2.2.1,r2.1.2.2.2.1,r2.1.2.2.2.2.1,r2.1.2.2.2.2.2.1,r2.1.2.2.2.2.2.2.1,r2.1.2.2.2.2.2.2.2,()),()),())) else some (.inl (((v0,()),(v1,()),((),()),((),()),(v2,()),(v3,()),(v4,()),((i64.wrap (v5+1)),()),()),((v6,v7,v8,(),v9,v10,v11,v12,v13,(),v14,v15,v16,()),(v17,v18,v19,v20,v21,v22,v23,v24,()),()),())) else none else some (.inr (.inl (((v0,()),(v1,()),((),()),((),()),(v2,()),()),((v6,v7,v8,(),v9,v10,v11,v12,v13,(),v14,v15,v16,()),(v17,v18,v19,v20,v21,v22,v23,v24,()),()),())))
def ybI (x:(ybu).X):=ylE x.1.1.1 x.1.2.1.1 x.1.2.2.2.2.1.1 x.1.2.2.2.2.2.1.1 x.1.2.2.2.2.2.2.1.1 x.1.2.2.2.2.2.2.2.1.1 x.2.1.1.1 x.2.1.1.2.1 x.2.1.1.2.2.1 x.2.1.1.2.2.2.2.1 x.2.1.1.2.2.2.2.2.1 x.2.1.1.2.2.2.2.2.2.1 x.2.1.1.2.2.2.2.2.2.2.1 x.2.1.1.2.2.2.2.2.2.2.2.1 x.2.1.1.2.2.2.2.2.2.2.2.2.2.1 x.2.1.1.2.2.2.2.2.2.2.2.2.2.2.1 x.2.1.1.2.2.2.2.2.2.2.2.2.2.2.2.1 x.2.1.2.1.1 x.2.1.2.1.2.1 x.2.1.2.1.2.2.1 x.2.1.2.1.2.2.2.1 x.2.1.2.1.2.2.2.2.1 x.2.1.2.1.2.2.2.2.2.1 x.2.1.2.1.2.2.2.2.2.2.1 x.2.1.2.1.2.2.2.2.2.2.2.1
def yuQ (x:(yeK).X):(ybu).X:=(((x.1.1.1,()),(x.1.2.1.1,()),((),()),((),()),(false,()),(x.1.2.2.2.2.2.1.1,()),(x.1.2.2.2.2.2.2.1.1,()),(0,()),()),((x.2.1.1.1,x.2.1.1.2.1,x.2.1.1.2.2.1,(),x.2.1.1.2.2.2.2.1,x.2.1.1.2.2.2.2.2.1,x.2.1.1.2.2.2.2.2.2.1,x.2.1.1.2.2.2.2.2.2.2.1,x.2.1.1.2.2.2.2.2.2.2.2.1,(),x.2.1.1.2.2.2.2.2.2.2.2.2.2.1,x.2.1.1.2.2.2.2.2.2.2.2.2.2.2.1,x.2.1.1.2.2.2.2.2.2.2.2.2.2.2.2.1,()),(x.2.1.2.1.1,x.2.1.2.1.2.1,x.2.1.2.1.2.2.1,x.2.1.2.1.2.2.2.1,x.2.1.2.1.2.2.2.2.1,x.2.1.2.1.2.2.2.2.2.1,x.2.1.2.1.2.2.2.2.2.2.1,x.2.1.2.1.2.2.2.2.2.2.2.1,()),()),())
def yw3:Code:=(zeJ yc9 64 116).getD .skip
theorem yIy:zeJ yc9 64 29=some (.block 0 (.loop yw3)):=by kernel_rfl
theorem yKd (x:(ybu).X):zhu ⟨yhm,109,yzx⟩ 0 yw3 116 ybu yeC yh0 x=ybI x:=by kernel_rfl
def yuZ (x:(yeK).X):Nat:=18446744073709551616
def ymG (x:(yeK).X):Option ((yeC).X ⊕ (yh0).X):=zF ybI (yuZ x) (yuQ x)
def yvf:Seg:=⟨yeK,yeC,yh0,ymG⟩
def yox:Nat→Option Seg:=fun q=>bif Nat.beq q 29 then some yvf else yzx q
theorem yIT:FrOk prog ⟨yhm,109,yox⟩ yc9:=(yIS).loop (sg:=yvf) ybu yuQ (by decide) yIy ybI yuZ (by decide) (fun _=>rfl) (fun x r _ h=>h) yKd
def ya7:Shape:=⟨[(1,false,[.int .i64]),(4,false,[.ptr 0 0]),(12,false,[.ptr 46272 0]),(75,false,[.br tM]),(76,false,[.int .i64]),(77,false,[.int .i64])],[(0,[.int .i64,.int .i64,.int .i64,.nil,.int .i64,.int .i64,.int .i64,.int .i64,.int .i64,.nil,.int .i64,.bool,.bool]),(46272,[.int .i64,.int .i64,.int .i64,.at 800000000,.int .i64,.int .i64,.int .i64,.int .i64,.int .i64,.nil,.int .i64,.bool,.bool])],[(800000000,tM,(.pr (.ow (.ow .fz)) (.pr (.ow (.pr .fz (.ow .fz))) (.pr .fz (.ow .fz)))))]⟩
def yd8:Shape:=⟨[(1,false,[.int .i64]),(4,false,[.ptr 0 0]),(12,false,[.ptr 46272 0]),(75,false,[.br tM]),(76,false,[.int .i64]),(77,false,[.ci .i64 0])],[(0,[.int .i64,.int .i64,.int .i64,.nil,.int .i64,.int .i64,.int .i64,.int .i64,.int .i64,.nil,.int .i64,.bool,.bool]),(46272,[.int .i64,.int .i64,.int .i64,.at 800000000,.int .i64,.int .i64,.int .i64,.int .i64,.int .i64,.nil,.int .i64,.bool,.bool])],[(800000000,tM,(.pr (.ow (.ow .fz)) (.pr (.ow (.pr .fz (.ow .fz))) (.pr .fz (.ow .fz)))))]⟩
def yd2:Shape:=⟨[(4,false,[.ptr 0 0]),(12,false,[.ptr 46272 0])],[(0,[.int .i64,.int .i64,.int .i64,.nil,.int .i64,.int .i64,.int .i64,.int .i64,.int .i64,.nil,.int .i64,.bool,.bool]),(46272,[.int .i64,.int .i64,.int .i64,.at 800000000,.int .i64,.int .i64,.int .i64,.int .i64,.int .i64,.nil,.int .i64,.bool,.bool])],[(800000000,tM,(.pr (.ow (.ow .fz)) (.pr (.ow (.pr .fz (.ow .fz))) (.pr .fz (.ow .fz)))))]⟩
def yg2:Shape:=⟨[],[],[]⟩
abbrev yks (v0:Int) (v1:List dM) (v2 v3:Int) (v4 v5:dA):(ya7).X:=(((v0,()),((),()),((),()),(v1,()),(v2,()),(v3,()),()),((v4.1,v4.2.1.1,v4.2.1.2,(),v4.2.2.2.1,v4.2.2.2.2.1,v4.2.2.2.2.2.1,v4.2.2.2.2.2.2.1,v4.2.2.2.2.2.2.2.1,(),v4.2.2.2.2.2.2.2.2.2.1,v4.2.2.2.2.2.2.2.2.2.2.1,v4.2.2.2.2.2.2.2.2.2.2.2,()),(v5.1,v5.2.1.1,v5.2.1.2,(),v5.2.2.2.1,v5.2.2.2.2.1,v5.2.2.2.2.2.1,v5.2.2.2.2.2.2.1,v5.2.2.2.2.2.2.2.1,(),v5.2.2.2.2.2.2.2.2.2.1,v5.2.2.2.2.2.2.2.2.2.2.1,v5.2.2.2.2.2.2.2.2.2.2.2,()),()),(v5.2.2.1,()))
abbrev yG7 (v0:Int) (v1:List dM) (v2:Int) (v3 v4:dA):(yd8).X:=(((v0,()),((),()),((),()),(v1,()),(v2,()),((),()),()),((v3.1,v3.2.1.1,v3.2.1.2,(),v3.2.2.2.1,v3.2.2.2.2.1,v3.2.2.2.2.2.1,v3.2.2.2.2.2.2.1,v3.2.2.2.2.2.2.2.1,(),v3.2.2.2.2.2.2.2.2.2.1,v3.2.2.2.2.2.2.2.2.2.2.1,v3.2.2.2.2.2.2.2.2.2.2.2,()),(v4.1,v4.2.1.1,v4.2.1.2,(),v4.2.2.2.1,v4.2.2.2.2.1,v4.2.2.2.2.2.1,v4.2.2.2.2.2.2.1,v4.2.2.2.2.2.2.2.1,(),v4.2.2.2.2.2.2.2.2.2.1,v4.2.2.2.2.2.2.2.2.2.2.1,v4.2.2.2.2.2.2.2.2.2.2.2,()),()),(v4.2.2.1,()))
abbrev ytZ (v0 v1:dA):(yd2).X:=((((),()),((),()),()),((v0.1,v0.2.1.1,v0.2.1.2,(),v0.2.2.2.1,v0.2.2.2.2.1,v0.2.2.2.2.2.1,v0.2.2.2.2.2.2.1,v0.2.2.2.2.2.2.2.1,(),v0.2.2.2.2.2.2.2.2.2.1,v0.2.2.2.2.2.2.2.2.2.2.1,v0.2.2.2.2.2.2.2.2.2.2.2,()),(v1.1,v1.2.1.1,v1.2.1.2,(),v1.2.2.2.1,v1.2.2.2.2.1,v1.2.2.2.2.2.1,v1.2.2.2.2.2.2.1,v1.2.2.2.2.2.2.2.1,(),v1.2.2.2.2.2.2.2.2.2.1,v1.2.2.2.2.2.2.2.2.2.2.1,v1.2.2.2.2.2.2.2.2.2.2.2,()),()),(v1.2.2.1,()))
def ykH (v0:Int) (v1:List dM) (v2 v3 v4 v5 v6 v7 v8 v9 v10 v11 v12:Int) (v13 v14:Bool) (v15 v16 v17 v18 v19 v20 v21 v22 v23:Int) (v24 v25:Bool) (v26:List dM):Option ((ya7).X ⊕ ((yd2).X ⊕ (yg2).X)) :=bif(ltb v3 v2)then bif(inb v3 v1.length)then let r6:=ydz ((nth v1 v3 ([],[],false,[])).1,((nth v1 v3 ([],[],false,[])).2).1,(((nth v1 v3 ([],[],false,[])).2).2)) v3 v0;bif r6.2 then some (.inl (((v0,()),((),()),((),()),(v1,()),(v2,()),((i64.wrap (v3+1)),()),()),((v4,v5,v6,(),v7,v8,v9,v10,v11,(),v12,v13,v14,()),(v15,v16,v17,(),v18,v19,v20,v21,v22,(),v23,v24,v25,()),()),(v26,()))) else bif(!(v18==(-1)))then bif(v18==v3)then some (.inl (((v0,()),((),()),((),()),(v1,()),(v2,()),((i64.wrap (v3+1)),()),()),((v4,v5,v6,(),v7,v8,v9,v10,v11,(),v12,v13,v14,()),(v15,v16,v17,(),v3,0,v20,v21,v22,(),v23,v24,v25,()),()),(v26,()))) else some (.inl (((v0,()),((),()),((),()),(v1,()),(v2,()),((i64.wrap (v3+1)),()),()),((v4,v5,v6,(),v7,v8,v9,v10,v11,(),v12,v13,v14,()),(v15,v16,v17,(),v18,v19,v20,v21,v22,(),v23,v24,true,()),()),(v26,()))) else some (.inl (((v0,()),((),()),((),()),(v1,()),(v2,()),((i64.wrap (v3+1)),()),()),((v4,v5,v6,(),v7,v8,v9,v10,v11,(),v12,v13,v14,()),(v15,v16,v17,(),v3,0,v20,v21,v22,(),v23,v24,v25,()),()),(v26,()))) else none else some (.inr (.inl ((((),()),((),()),()),((v4,v5,v6,(),v7,v8,v9,v10,v11,(),v12,v13,v14,()),(v15,v16,v17,(),v18,v19,v20,v21,v22,(),v23,v24,v25,()),()),(v26,()))))
def ybm (x:(ya7).X):=ykH x.1.1.1 x.1.2.2.2.1.1 x.1.2.2.2.2.1.1 x.1.2.2.2.2.2.1.1 x.2.1.1.1 x.2.1.1.2.1 x.2.1.1.2.2.1 x.2.1.1.2.2.2.2.1 x.2.1.1.2.2.2.2.2.1 x.2.1.1.2.2.2.2.2.2.1 x.2.1.1.2.2.2.2.2.2.2.1 x.2.1.1.2.2.2.2.2.2.2.2.1 x.2.1.1.2.2.2.2.2.2.2.2.2.2.1 x.2.1.1.2.2.2.2.2.2.2.2.2.2.2.1 x.2.1.1.2.2.2.2.2.2.2.2.2.2.2.2.1 x.2.1.2.1.1 x.2.1.2.1.2.1 x.2.1.2.1.2.2.1 x.2.1.2.1.2.2.2.2.1 x.2.1.2.1.2.2.2.2.2.1 x.2.1.2.1.2.2.2.2.2.2.1 x.2.1.2.1.2.2.2.2.2.2.2.1 x.2.1.2.1.2.2.2.2.2.2.2.2.1 x.2.1.2.1.2.2.2.2.2.2.2.2.2.2.1 x.2.1.2.1.2.2.2.2.2.2.2.2.2.2.2.1 x.2.1.2.1.2.2.2.2.2.2.2.2.2.2.2.2.1 x.2.2.1
def ytE (x:(yd8).X):(ya7).X:=(((x.1.1.1,()),((),()),((),()),(x.1.2.2.2.1.1,()),(x.1.2.2.2.2.1.1,()),(0,()),()),((x.2.1.1.1,x.2.1.1.2.1,x.2.1.1.2.2.1,(),x.2.1.1.2.2.2.2.1,x.2.1.1.2.2.2.2.2.1,x.2.1.1.2.2.2.2.2.2.1,x.2.1.1.2.2.2.2.2.2.2.1,x.2.1.1.2.2.2.2.2.2.2.2.1,(),x.2.1.1.2.2.2.2.2.2.2.2.2.2.1,x.2.1.1.2.2.2.2.2.2.2.2.2.2.2.1,x.2.1.1.2.2.2.2.2.2.2.2.2.2.2.2.1,()),(x.2.1.2.1.1,x.2.1.2.1.2.1,x.2.1.2.1.2.2.1,(),x.2.1.2.1.2.2.2.2.1,x.2.1.2.1.2.2.2.2.2.1,x.2.1.2.1.2.2.2.2.2.2.1,x.2.1.2.1.2.2.2.2.2.2.2.1,x.2.1.2.1.2.2.2.2.2.2.2.2.1,(),x.2.1.2.1.2.2.2.2.2.2.2.2.2.2.1,x.2.1.2.1.2.2.2.2.2.2.2.2.2.2.2.1,x.2.1.2.1.2.2.2.2.2.2.2.2.2.2.2.2.1,()),()),(x.2.2.1,()))
def yuG:Code:=(zeJ yc9 64 1012).getD .skip
theorem yHM:zeJ yc9 64 253=some (.block 2 (.loop yuG)):=by kernel_rfl
theorem yIm (x:(ya7).X):zhu ⟨yhm,109,yox⟩ 2 yuG 1012 ya7 yd2 yg2 x=ybm x:=by kernel_rfl
def ytM (x:(yd8).X):Nat:=18446744073709551616
def ylk (x:(yd8).X):Option ((yd2).X ⊕ (yg2).X):=zF ybm (ytM x) (ytE x)
def yuv:Seg:=⟨yd8,yd2,yg2,ylk⟩
def yKN:Nat→Option Seg:=fun q=>bif Nat.beq q 253 then some yuv else yox q
theorem yIU:FrOk prog ⟨yhm,109,yKN⟩ yc9:=(yIT).loop (sg:=yuv) ya7 ytE (by decide) yHM ybm ytM (by decide) (fun _=>rfl) (fun x r _ h=>h) yIm
abbrev ylT:List Par:= [.rd tMs,.rd tI]
abbrev ysW:List OT:= [⟨false,tA,(.pr .fz (.pr (.pr .fz .fz) (.pr (.ow (.pr (.ow (.ow .fz)) (.pr (.ow (.pr .fz (.ow .fz))) (.pr .fz (.ow .fz))))) (.pr .fz (.pr .fz (.pr .fz (.pr .fz (.pr .fz (.pr (.ow (.pr .fz (.ow .fz))) (.pr .fz (.pr .fz .fz)))))))))))⟩,⟨false,tB,.fz⟩]
def ypd (a0:List dM) (a1:Int):Option (zaY ysW×zak ylT) :=zkr (ymG (((a0,()),(a1,()),((),()),((),()),((),()),(a0,()),((a0.length:Int),()),((),()),()),((0,0,0,(),0,0,0,0,0,(),0,false,false,()),(0,0,0,0,0,0,0,0,()),()),())) (fun y2 =>bif(!(!y2.1.2.2.2.2.1.1))then bif((y2.1.1.1.length:Int) !=y2.2.1.2.1.2.2.2.1)then some (((0,(0,0),[],0,0,0,0,0,[],0,false,false),false,()),()) else let r4:=ye9 y2.1.1.1;zkr (ylk (((y2.1.2.1.1,()),((),()),((),()),(y2.1.1.1,()),((y2.1.1.1.length:Int),()),((),()),()),((y2.2.1.1.1,y2.2.1.1.2.1,y2.2.1.1.2.2.1,(),y2.2.1.1.2.2.2.2.1,y2.2.1.1.2.2.2.2.2.1,y2.2.1.1.2.2.2.2.2.2.1,y2.2.1.1.2.2.2.2.2.2.2.1,y2.2.1.1.2.2.2.2.2.2.2.2.1,(),y2.2.1.1.2.2.2.2.2.2.2.2.2.2.1,y2.2.1.1.2.2.2.2.2.2.2.2.2.2.2.1,y2.2.1.1.2.2.2.2.2.2.2.2.2.2.2.2.1,()),(y2.1.2.1.1,y2.2.1.2.1.2.2.2.1,y2.2.1.2.1.2.2.2.2.1,(),y2.2.1.2.1.2.2.2.2.2.2.1,y2.2.1.2.1.2.2.2.2.2.2.2.1,y2.2.1.2.1.2.2.2.2.2.1,y2.2.1.2.1.2.2.2.2.2.1,y2.2.1.2.1.2.1,(),(-1),false,false,()),()),(r4,()))) (fun y6 =>let r8:=yaj (y6.2.1.2.1.1,(y6.2.1.2.1.2.1,y6.2.1.2.1.2.2.1),y6.2.2.1,y6.2.1.2.1.2.2.2.2.1,y6.2.1.2.1.2.2.2.2.2.1,y6.2.1.2.1.2.2.2.2.2.2.1,y6.2.1.2.1.2.2.2.2.2.2.2.1,y6.2.1.2.1.2.2.2.2.2.2.2.2.1,[],y6.2.1.2.1.2.2.2.2.2.2.2.2.2.2.1,y6.2.1.2.1.2.2.2.2.2.2.2.2.2.2.2.1,y6.2.1.2.1.2.2.2.2.2.2.2.2.2.2.2.2.1);bif(!r8)then some (((0,(0,0),[],0,0,0,0,0,[],0,false,false),false,()),()) else some (((y6.2.1.2.1.1,(y6.2.1.2.1.2.1,y6.2.1.2.1.2.2.1),y6.2.2.1,y6.2.1.2.1.2.2.2.2.1,y6.2.1.2.1.2.2.2.2.2.1,y6.2.1.2.1.2.2.2.2.2.2.1,y6.2.1.2.1.2.2.2.2.2.2.2.1,y6.2.1.2.1.2.2.2.2.2.2.2.2.1,[],y6.2.1.2.1.2.2.2.2.2.2.2.2.2.2.1,y6.2.1.2.1.2.2.2.2.2.2.2.2.2.2.2.1,y6.2.1.2.1.2.2.2.2.2.2.2.2.2.2.2.2.1),true,()),())) (fun y6 =>none) else some (((0,(0,0),[],0,0,0,0,0,[],0,false,false),false,()),())) (fun y2 =>none)
theorem yMh:ConOk prog 16 ⟨ylT,ysW,fun x=>ypd x.1 x.2.1⟩:=zkG (yIU) func16 ntmps16.symm fun x=>by kernel_rfl
def yil (a0:List dM) (a1:Int):dA×Bool:=yfl a0 a1
theorem yPc (a0:List dM) (a1:Int) (hk:zjw ylT (a0,a1,())):ypd a0 a1=(fun n=>some ((n.1,n.2,()),())) (yil a0 a1):=by
 have hb:a0.length*80≤2^47:=hk.1.1
 have h0:ymG (yH5 a0 a1 a0 a0.length yaB yeo)=some (.inl (yu6 a0 a1 (ydu a0 a1).2 yaB (ydu a0 a1).1)) :=
  zkB (step:=ybI) a0.length (fun i (s:dS×Bool)=>yls a0 a1 s.2 a0 a0.length i yaB s.1) (fun(s:dS×Bool) (i:Nat)=>ykT s (yg8 (nth a0 i yc) i a1) (yan (nth a0 i yc) a1).1) (fun _ _=>True) (fun(s:dS×Bool)=> .inl (yu6 a0 a1 s.2 yaB s.1)) (fun i s hi _=>⟨by
  simp only[ybI,yls,ylE,zkw (show(i:Int)<a0.length by omega),cond_true,wq ((i:Int)+1) (by omega) (by omega),Int.natCast_add,Int.natCast_one,Int.toNat_natCast,zkP hi,zkV,ydz];cases yg8 (nth a0 i yc) i a1
  ·rfl
  simp only[cond_true];unfold ykT
  cases hf:s.2<;>cases ltb s.1.2.1 (yan (nth a0 i yc) a1).1.2.1<;>simp only[Bool.not_true,Bool.not_false,cond_true,cond_false,Bool.and_true,Bool.true_and,Bool.false_and,Bool.and_false,Bool.or_true,Bool.true_or,Bool.false_or,Bool.or_false,hf],trivial⟩) (fun s _=>by simp only[ybI,yls,ylE,zk1 (Int.le_refl _),cond_false]) (yeo,false) trivial _ (by show _<18446744073709551616; omega)
 have h1: ∀(b:dS) (s:Int×Int×Bool),ylk (yG7 a1 a0 a0.length yaB (ytl b a0 a1 s))=some (.inl (ytZ yaB (ytl b a0 a1 ((List.range a0.length).foldl (yjr a0 a1) s)))):=fun b s =>
  zkB (step:=ybm) a0.length (fun i s=>yks a1 a0 a0.length i yaB (ytl b a0 a1 s)) (yjr a0 a1) (fun _ _=>True) (fun s=> .inl (ytZ yaB (ytl b a0 a1 s))) (fun i s hi _=>⟨by
   simp only[ybm,yks,ykH,zkw (show(i:Int)<a0.length by omega),cond_true,wq ((i:Int)+1) (by omega) (by omega),Int.natCast_add,Int.natCast_one,Int.toNat_natCast,zkP hi,zkV,ydz,ytl];unfold yjr
   cases yg8 (nth a0 i yc) i a1<;>cases(s.1== -1)<;>cases(s.1==(i:Int))<;>rfl,trivial⟩) (fun s _=>by simp only[ybm,yks,ykH,zk1 (Int.le_refl _),cond_false]) s trivial _ (by show _<18446744073709551616; omega)
 unfold ypd yil yfl yFU;refine(congrArg (fun z=>zkr z _ _) h0).trans ?_;simp only[zkL,ye9,bne];cases(ydu a0 a1).2
 ·rfl
 cases((a0.length:Int)==(ydu a0 a1).1.2.2.2.1)
 ·rfl
 have h2:=h1 (ydu a0 a1).1 ((ydu a0 a1).1.2.2.2.2.2.2.1,(ydu a0 a1).1.2.2.2.2.2.2.2,false);simp only[Bool.not_true,Bool.not_false,cond_true,cond_false,Bool.true_and];refine(congrArg (fun z=>zkr z _ _) h2).trans ?_;simp only[zkL,yaj];show(bif !(yal (ytl (ydu a0 a1).1 a0 a1 ((List.range a0.length).foldl (yjr a0 a1) ((ydu a0 a1).1.2.2.2.2.2.2.1,(ydu a0 a1).1.2.2.2.2.2.2.2,false))))then _ else _)=_;cases yal (ytl (ydu a0 a1).1 a0 a1 ((List.range a0.length).foldl (yjr a0 a1) ((ydu a0 a1).1.2.2.2.2.2.2.1,(ydu a0 a1).1.2.2.2.2.2.2.2,false)))<;>rfl
def yzT:Con:=⟨ylT,ysW,fun x=>(fun n=>some ((n.1,n.2,()),())) (yil x.1 x.2.1)⟩
theorem yPZ:ConOk prog 16 yzT:=(yMh).mono (fun x r hk h=>(yPc x.1 x.2.1 hk).trans h)
def yXu:Code:=(f88.body).getD .skip
def yX0:Env:=zku TT [] []
theorem yNW:FrOk prog ⟨yX0,8,fun _=>none⟩ yXu:=zky yg yh trivial
abbrev yym:List Par:= [.rd tI]
abbrev yyL:List OT:= [⟨false,tI,.fz⟩]
def yEY (a0:Int):Option (zaY yyL×zak yym) :=bif(ltb a0 0)then some (((-1),()),()) else some (((i64.wrap (2+(a0.tmod 4))),()),())
theorem yS6:ConOk prog 88 ⟨yym,yyL,fun x=>yEY x.1⟩:=zkG (yNW) func88 ntmps88.symm fun x=>by kernel_rfl
def yk3 (a0:Int):Int :=bif(ltb a0 0)then (-1) else (i64.wrap (2+(a0.tmod 4)))
def ytt:Con:=⟨yym,yyL,fun x=>(fun n=>some ((n,()),())) (yk3 x.1)⟩
theorem yVr (a0:Int):yEY a0=(fun n=>some ((n,()),())) (yk3 a0):=zkT (p:=fun(n:Int)=>((n,()),())) (zkE (p:=fun(n:Int)=>((n,()),())) rfl rfl)
theorem yGp:ConOk prog 88 ytt:=(yS6).mono (fun x r _ h=>(yVr x.1).trans h)
def yXM:Code:=(f226.body).getD .skip
def yYi:Env:=zku TT [(82,yL)] []
theorem yOj:FrOk prog ⟨yYi,5,fun _=>none⟩ yXM:=zky yg yh ⟨yS,trivial⟩
abbrev yyz:List Par:= [.rd tI]
abbrev yy4:List OT:= [⟨false,tB,.fz⟩]
def yE8 (a0:Int):Option (zaY yy4×zak yyz) :=let r1:=yb a0 0 65535;some ((r1,()),())
theorem yTq:ConOk prog 226 ⟨yyz,yy4,fun x=>yE8 x.1⟩:=zkG (yOj) func226 ntmps226.symm fun x=>by kernel_rfl
def yaF (a0:Int):Bool :=let r1:=yb a0 0 65535;r1
def yEt:Con:=⟨yyz,yy4,fun x=>(fun n=>some ((n,()),())) (yaF x.1)⟩
theorem yVI (a0:Int):yE8 a0=(fun n=>some ((n,()),())) (yaF a0):=zkT (p:=fun(n:Bool)=>((n,()),())) rfl
theorem yWv:ConOk prog 226 yEt:=(yTq).mono (fun x r _ h=>(yVI x.1).trans h)
def ynO:Code:=(f200.body).getD .skip
def yvy:Env:=zku TT [(226,yEt)] []
theorem yLF:FrOk prog ⟨yvy,16,fun _=>none⟩ ynO:=zky yg yh ⟨yWv,trivial⟩
def yBg:Nat→Option Seg:=fun _=>none
def ydC:Shape:=⟨[(0,false,[.br tI]),(3,false,[.int .i64])],[],[]⟩
def yiM:Shape:=⟨[(0,false,[.br tI]),(3,false,[.ci .i64 0])],[],[]⟩
def yiK:Shape:=⟨[],[],[]⟩
def yiV:Shape:=⟨[(2,false,[.bool])],[],[]⟩
def ynB (v0:List Int) (v1:Int):Option ((ydC).X ⊕ ((yiK).X ⊕ (yiV).X)) :=bif(ltb v1 (v0.length:Int))then bif(inb v1 v0.length)then let r2:=yaF (nth v0 v1 0);bif(!r2)then some (.inr (.inr (((false,()),()),(),()))) else some (.inl (((v0,()),((i64.wrap (v1+1)),()),()),(),())) else none else some (.inr (.inl ((),(),())))
def yci (x:(ydC).X):=ynB x.1.1.1 x.1.2.1.1
def yxr (x:(yiM).X):(ydC).X:=(((x.1.1.1,()),(0,()),()),(),())
def yzO:Code:=(zeJ ynO 64 52).getD .skip
theorem yK7:zeJ ynO 64 13=some (.block 0 (.loop yzO)):=by kernel_rfl
theorem yMU (x:(ydC).X):zhu ⟨yvy,16,yBg⟩ 0 yzO 52 ydC yiK yiV x=yci x:=by kernel_rfl
def yxG (x:(yiM).X):Nat:=18446744073709551616
def yoJ (x:(yiM).X):Option ((yiK).X ⊕ (yiV).X):=zF yci (yxG x) (yxr x)
def yx6:Seg:=⟨yiM,yiK,yiV,yoJ⟩
def yNo:Nat→Option Seg:=fun q=>bif Nat.beq q 13 then some yx6 else yBg q
theorem yLG:FrOk prog ⟨yvy,16,yNo⟩ ynO:=(yLF).loop (sg:=yx6) ydC yxr (by decide) yK7 yci yxG (by decide) (fun _=>rfl) (fun x r _ h=>h) yMU
abbrev yn1:List Par:= [.rd tL]
abbrev yv6:List OT:= [⟨false,tB,.fz⟩]
def yrq (a0:List Int):Option (zaY yv6×zak yn1) :=zkr (yoJ (((a0,()),((),()),()),(),())) (fun y2 =>some ((true,()),())) (fun y2 =>some ((y2.1.1.1,()),()))
theorem yPR:ConOk prog 200 ⟨yn1,yv6,fun x=>yrq x.1⟩:=zkG (yLG) func200 ntmps200.symm fun x=>by kernel_rfl
def yao (a0:List Int):Bool:=a0.all yaF
theorem ySS (a0:List Int) (hk:zjw yn1 (a0,())):yrq a0=(fun n=>some ((n,()),())) (yao a0):=by
 have hb:a0.length*8≤2^47:=hk.1.1
 have hl:yoJ (((a0,()),((),()),()),(),())=some (bif a0.all yaF then .inl ((),(),())else .inr (((false,()),()),(),())) :=
  zj7 (step:=yci) a0 0 (fun i=>(((a0,()),((i:Int),()),()),(),())) yaF _ _ (fun i hi=>by
   simp only[yci,ynB,zkP hi,zkQ,zkw (show(i:Int)<a0.length by omega),cond_true,wq ((i:Int)+1) (by omega) (by omega),Int.natCast_add,Int.natCast_one]
   cases yaF (a0.getD i 0)<;>rfl) (by simp only[yci,ynB,zk1 (Int.le_refl _),cond_false]) _ (by show _<18446744073709551616; omega)
 unfold yrq yao;rw[hl];cases a0.all yaF<;>rfl
def ygM:Con:=⟨yn1,yv6,fun x=>(fun n=>some ((n,()),())) (yao x.1)⟩
theorem ymz:ConOk prog 200 ygM:=(yPR).mono (fun x r hk h=>(ySS x.1 hk).trans h)
def ynP:Code:=(f152.body).getD .skip
def yvz:Env:=zku TT [(82,yL),(200,ygM)] []
theorem yLH:FrOk prog ⟨yvz,57,fun _=>none⟩ ynP:=zky yg yh ⟨yS,ymz,trivial⟩
def yBh:Nat→Option Seg:=fun _=>none
def ybY:Shape:=⟨[(1,false,[.ptr 0 0]),(3,false,[.int .i64])],[(0,[.int .i64,.int .i64,.int .i64,.br tM,.int .i64,.int .i64,.int .i64,.int .i64,.int .i64,.br tW,.int .i64,.bool,.bool])],[]⟩
def yfO:Shape:=⟨[(1,false,[.ptr 0 0]),(3,false,[.ci .i64 0])],[(0,[.int .i64,.int .i64,.int .i64,.br tM,.int .i64,.int .i64,.int .i64,.int .i64,.int .i64,.br tW,.int .i64,.bool,.bool])],[]⟩
def yfC:Shape:=⟨[],[],[]⟩
def yfU:Shape:=⟨[(2,false,[.bool])],[],[]⟩
abbrev ynb (v0:Int) (v1:dA):(ybY).X:=((((),()),(v0,()),()),((v1.1,v1.2.1.1,v1.2.1.2,v1.2.2.1,v1.2.2.2.1,v1.2.2.2.2.1,v1.2.2.2.2.2.1,v1.2.2.2.2.2.2.1,v1.2.2.2.2.2.2.2.1,v1.2.2.2.2.2.2.2.2.1,v1.2.2.2.2.2.2.2.2.2.1,v1.2.2.2.2.2.2.2.2.2.2.1,v1.2.2.2.2.2.2.2.2.2.2.2,()),()),())
abbrev yJL (v0:dA):(yfO).X:=((((),()),((),()),()),((v0.1,v0.2.1.1,v0.2.1.2,v0.2.2.1,v0.2.2.2.1,v0.2.2.2.2.1,v0.2.2.2.2.2.1,v0.2.2.2.2.2.2.1,v0.2.2.2.2.2.2.2.1,v0.2.2.2.2.2.2.2.2.1,v0.2.2.2.2.2.2.2.2.2.1,v0.2.2.2.2.2.2.2.2.2.2.1,v0.2.2.2.2.2.2.2.2.2.2.2,()),()),())
abbrev yJz  :(yfC).X:=((),(),())
abbrev yJR (v0:Bool):(yfU).X:=(((v0,()),()),(),())
def ynC (v0 v1 v2 v3:Int) (v4:List dM) (v5 v6 v7 v8 v9:Int) (v10:List dW) (v11:Int) (v12 v13:Bool):Option ((ybY).X ⊕ ((yfC).X ⊕ (yfU).X)) :=bif(ltb v0 (v10.length:Int))then bif(inb v0 v10.length)then let r3:=yb ((nth v10 v0 (0,[])).1) 0 (i64.wrap (v3-1));bif(!(!r3))then bif(!((((nth v10 v0 (0,[])).2).length:Int) !=(i64.wrap (v2-1))))then let r4:=yao ((nth v10 v0 (0,[])).2);bif(!(!r4))then bif(ltb 0 v0)then bif(inb (i64.wrap (v0-1)) v10.length)then bif(leb ((nth v10 v0 (0,[])).1) ((nth v10 (i64.wrap (v0-1)) (0,[])).1))then some (.inr (.inr (((false,()),()),(),()))) else some (.inl ((((),()),((i64.wrap (v0+1)),()),()),((v1,v2,v3,v4,v5,v6,v7,v8,v9,v10,v11,v12,v13,()),()),())) else none else some (.inl ((((),()),((i64.wrap (v0+1)),()),()),((v1,v2,v3,v4,v5,v6,v7,v8,v9,v10,v11,v12,v13,()),()),())) else some (.inr (.inr (((false,()),()),(),()))) else some (.inr (.inr (((false,()),()),(),()))) else some (.inr (.inr (((false,()),()),(),()))) else none else some (.inr (.inl ((),(),())))
def ycj (x:(ybY).X):=ynC x.1.2.1.1 x.2.1.1.1 x.2.1.1.2.1 x.2.1.1.2.2.1 x.2.1.1.2.2.2.1 x.2.1.1.2.2.2.2.1 x.2.1.1.2.2.2.2.2.1 x.2.1.1.2.2.2.2.2.2.1 x.2.1.1.2.2.2.2.2.2.2.1 x.2.1.1.2.2.2.2.2.2.2.2.1 x.2.1.1.2.2.2.2.2.2.2.2.2.1 x.2.1.1.2.2.2.2.2.2.2.2.2.2.1 x.2.1.1.2.2.2.2.2.2.2.2.2.2.2.1 x.2.1.1.2.2.2.2.2.2.2.2.2.2.2.2.1
def yxs (x:(yfO).X):(ybY).X:=((((),()),(0,()),()),((x.2.1.1.1,x.2.1.1.2.1,x.2.1.1.2.2.1,x.2.1.1.2.2.2.1,x.2.1.1.2.2.2.2.1,x.2.1.1.2.2.2.2.2.1,x.2.1.1.2.2.2.2.2.2.1,x.2.1.1.2.2.2.2.2.2.2.1,x.2.1.1.2.2.2.2.2.2.2.2.1,x.2.1.1.2.2.2.2.2.2.2.2.2.1,x.2.1.1.2.2.2.2.2.2.2.2.2.2.1,x.2.1.1.2.2.2.2.2.2.2.2.2.2.2.1,x.2.1.1.2.2.2.2.2.2.2.2.2.2.2.2.1,()),()),())
def yzP:Code:=(zeJ ynP 64 52).getD .skip
theorem yK8:zeJ ynP 64 13=some (.block 0 (.loop yzP)):=by kernel_rfl
theorem yMV (x:(ybY).X):zhu ⟨yvz,57,yBh⟩ 0 yzP 52 ybY yfC yfU x=ycj x:=by kernel_rfl
def yxH (x:(yfO).X):Nat:=18446744073709551616
def yoK (x:(yfO).X):Option ((yfC).X ⊕ (yfU).X):=zF ycj (yxH x) (yxs x)
def yx7:Seg:=⟨yfO,yfC,yfU,yoK⟩
def yNp:Nat→Option Seg:=fun q=>bif Nat.beq q 13 then some yx7 else yBh q
theorem yLI:FrOk prog ⟨yvz,57,yNp⟩ ynP:=(yLH).loop (sg:=yx7) ybY yxs (by decide) yK8 ycj yxH (by decide) (fun _=>rfl) (fun x r _ h=>h) yMV
abbrev yjb:List Par:= [.rd tA]
abbrev yn6:List OT:= [⟨false,tB,.fz⟩]
def yrr (a0:dA):Option (zaY yn6×zak yjb) :=zkr (yoK ((((),()),((),()),()),((a0.1,a0.2.1.1,a0.2.1.2,a0.2.2.1,a0.2.2.2.1,a0.2.2.2.2.1,a0.2.2.2.2.2.1,a0.2.2.2.2.2.2.1,a0.2.2.2.2.2.2.2.1,a0.2.2.2.2.2.2.2.2.1,a0.2.2.2.2.2.2.2.2.2.1,a0.2.2.2.2.2.2.2.2.2.2.1,a0.2.2.2.2.2.2.2.2.2.2.2,()),()),())) (fun y4 =>some ((true,()),())) (fun y4 =>some ((y4.1.1.1,()),()))
theorem yPS:ConOk prog 152 ⟨yjb,yn6,fun x=>yrr x.1⟩:=zkG (yLI) func152 ntmps152.symm fun x=>by kernel_rfl
def yjI (a0:dA):Bool:=yaO a0.2.1 a0.2.2.2.2.2.2.2.2.1
def ywr (a0:dA):Bool:=ye a0.2.1
theorem yqw (l:List Int):yao l=l.all isW:=by
 unfold yao;rw[show yaF=isW from funext fun x=>by unfold yaF; rw[ycx]; rfl]
theorem yST (a0:dA) (hk:zjw yjb (a0,())) (hq:ywr a0=true):yrr a0=(fun n=>some ((n,()),())) (yjI a0):=by
 have hb:a0.2.2.2.2.2.2.2.2.1.length*32≤2^47:=hk.1.2.2.2.2.2.2.2.2.1.1;have hg:=yn.1 hq
 have h1:yoK (yJL a0)=some (bif(List.range a0.2.2.2.2.2.2.2.2.1.length).any (yhd a0.2.1 a0.2.2.2.2.2.2.2.2.1)then .inr (yJR false)else .inl yJz) :=
  zjh (step:=ycj) (fun i=>ynb i a0) a0.2.2.2.2.2.2.2.2.1.length (yhd a0.2.1 a0.2.2.2.2.2.2.2.2.1) _ _ (fun i hi=>by
   simp only[ycj,ynb,ynC,zkw (show(i:Int)<a0.2.2.2.2.2.2.2.2.1.length by omega),cond_true,wq ((i:Int)+1) (by omega) (by omega),Int.natCast_add,Int.natCast_one,Int.toNat_natCast,zkP hi,ycx,yqw,wq (a0.2.1.2-1) (by omega) (by omega),wq (a0.2.1.1-1) (by omega) (by omega),yhd];rcases Nat.eq_zero_or_pos i with rfl | h0
   ·cases(leb 0 (nth a0.2.2.2.2.2.2.2.2.1 ((0:Nat):Int) (0,[])).1&&leb (nth a0.2.2.2.2.2.2.2.2.1 ((0:Nat):Int) (0,[])).1 (a0.2.1.2-1))<;>cases(((nth a0.2.2.2.2.2.2.2.2.1 ((0:Nat):Int) (0,[])).2.length:Int) !=a0.2.1.1-1)<;>cases((nth a0.2.2.2.2.2.2.2.2.1 ((0:Nat):Int) (0,[])).2.all isW)<;>rfl
   ·rw[show i64.wrap ((i:Int)-1)=((i-1:Nat):Int)by rw[wr (by omega) (by omega)]; omega,zkP (show i-1<a0.2.2.2.2.2.2.2.2.1.length by omega),zkw (show(0:Int)<i by omega),decide_eq_true h0]
    cases(leb 0 (nth a0.2.2.2.2.2.2.2.2.1 (i:Int) (0,[])).1&&leb (nth a0.2.2.2.2.2.2.2.2.1 (i:Int) (0,[])).1 (a0.2.1.2-1))<;>cases(((nth a0.2.2.2.2.2.2.2.2.1 (i:Int) (0,[])).2.length:Int) !=a0.2.1.1-1)<;>cases((nth a0.2.2.2.2.2.2.2.2.1 (i:Int) (0,[])).2.all isW)<;>cases leb (nth a0.2.2.2.2.2.2.2.2.1 (i:Int) (0,[])).1 (nth a0.2.2.2.2.2.2.2.2.1 ((i-1:Nat):Int) (0,[])).1<;>rfl) (by simp only[ycj,ynb,ynC,zk1 (Int.le_refl _),cond_false]) _ (by show _<18446744073709551616; omega)
 unfold yrr yjI yaO;rw[h1];cases(List.range a0.2.2.2.2.2.2.2.2.1.length).any (yhd a0.2.1 a0.2.2.2.2.2.2.2.2.1)<;>rfl
def yor (a0:dA):Option (zaY yn6×zak yjb):=bif ywr a0 then(fun n=>some ((n,()),())) (yjI a0)else none
theorem yTX (a0:dA) (h:ywr a0=true):yor a0=(fun n=>some ((n,()),())) (yjI a0):=by unfold yor; rw[h]; rfl
def yCt:Con:=⟨yjb,yn6,fun x=>yor x.1⟩
theorem yTQ:ConOk prog 152 yCt:=(yPS).mono (fun x r hk h=>zkW h (fun hq=>yST x.1 hk hq))
def yZd:Code:=(f159.body).getD .skip
def yZp:Env:=zku TT [(81,yO),(187,ykp)] []
theorem yRM:FrOk prog ⟨yZp,22,fun _=>none⟩ yZd:=zky yg yh ⟨yaa,yt8,trivial⟩
abbrev yBw:List Par:= [.rd tN]
abbrev yBI:List OT:= [⟨false,tB,.fz⟩]
def yGD (a0:dN):Option (zaY yBI×zak yBw) :=let r1:=yj a0.1 0 60000;bif r1 then let r2:=yj a0.2.1 0 7;bif r2 then let r3:=yj (a0.2.2.length:Int) 2 4;bif r3 then let r4:=yaz a0.2.2;some ((r4,()),()) else some ((false,()),()) else some ((false,()),()) else some ((false,()),())
theorem yVX:ConOk prog 159 ⟨yBw,yBI,fun x=>yGD x.1⟩:=zkG (yRM) func159 ntmps159.symm fun x=>by kernel_rfl
def yjB (a0:dN):Bool :=let r1:=yj a0.1 0 60000;bif r1 then let r2:=yj a0.2.1 0 7;bif r2 then let r3:=yj (a0.2.2.length:Int) 2 4;bif r3 then let r4:=yaz a0.2.2;r4 else false else false else false
def ywa:Con:=⟨yBw,yBI,fun x=>(fun n=>some ((n,()),())) (yjB x.1)⟩
theorem yYu (a0:dN):yGD a0=(fun n=>some ((n,()),())) (yjB a0):=zkT (p:=fun(n:Bool)=>((n,()),())) (zkE (p:=fun(n:Bool)=>((n,()),())) (zkE (p:=fun(n:Bool)=>((n,()),())) (zkE (p:=fun(n:Bool)=>((n,()),())) rfl rfl) rfl) rfl)
theorem yHB:ConOk prog 159 ywa:=(yVX).mono (fun x r _ h=>(yYu x.1).trans h)
def yZh:Code:=(f162.body).getD .skip
def yZt:Env:=zku TT [(82,yL),(200,ygM)] []
theorem yR0:FrOk prog ⟨yZt,22,fun _=>none⟩ yZh:=zky yg yh ⟨yS,ymz,trivial⟩
abbrev yBz:List Par:= [.rd tN]
abbrev yBQ:List OT:= [⟨false,tB,.fz⟩]
def yGG (a0:dN):Option (zaY yBQ×zak yBz) :=let r1:=yb a0.1 0 60000;bif r1 then let r2:=yb a0.2.1 0 7;bif r2 then let r3:=yb (a0.2.2.length:Int) 2 4;bif r3 then let r4:=yao a0.2.2;some ((r4,()),()) else some ((false,()),()) else some ((false,()),()) else some ((false,()),())
theorem yV5:ConOk prog 162 ⟨yBz,yBQ,fun x=>yGG x.1⟩:=zkG (yR0) func162 ntmps162.symm fun x=>by kernel_rfl
def yR (a0:dN):Bool :=let r1:=yb a0.1 0 60000;bif r1 then let r2:=yb a0.2.1 0 7;bif r2 then let r3:=yb (a0.2.2.length:Int) 2 4;bif r3 then let r4:=yao a0.2.2;r4 else false else false else false
def yF3:Con:=⟨yBz,yBQ,fun x=>(fun n=>some ((n,()),())) (yR x.1)⟩
theorem yYC (a0:dN):yGG a0=(fun n=>some ((n,()),())) (yR a0):=zkT (p:=fun(n:Bool)=>((n,()),())) (zkE (p:=fun(n:Bool)=>((n,()),())) (zkE (p:=fun(n:Bool)=>((n,()),())) (zkE (p:=fun(n:Bool)=>((n,()),())) rfl rfl) rfl) rfl)
theorem yYV:ConOk prog 162 yF3:=(yV5).mono (fun x r _ h=>(yYC x.1).trans h)
abbrev yKC:dN:=(0,0,[])
def yX (r:dN):List Int:=bif yR r then 21322::r.1::r.2.1::(r.2.2.length:Int)::r.2.2 else[]
def yHj (l:List Int):dN:=(nth l 1 0,nth l 2 0,l.drop 4)
def yaA (l:List Int):dN×Bool:=bif leb 4 (l.length:Int)&&(nth l 0 0==21322&&(nth l 3 0==(l.length:Int)-4&&yR (yHj l)))then(yHj l,true)else(yKC,false)
theorem yrY {r:dN}:yR r=true↔(0≤r.1∧r.1≤60000)∧(0≤r.2.1∧r.2.1≤7)∧(2≤(r.2.2.length:Int)∧(r.2.2.length:Int)≤4)∧r.2.2.all isW=true:=by
 unfold yR;simp only[yqw,← ytR];cases yb r.1 0 60000<;>cases yb r.2.1 0 7<;>cases yb (r.2.2.length:Int) 2 4<;>simp
theorem yM3 (r:dN):yjB r=yR r:=by
 unfold yjB yR;simp only[yau,yEI,yqw]
def yXr:Code:=(f89.body).getD .skip
def yXX:Env:=zku TT [(158,ya5),(159,ywa)] []
theorem yNR:FrOk prog ⟨yXX,39,fun _=>none⟩ yXr:=zky yg yh ⟨ycN,yHB,trivial⟩
abbrev yp6:List Par:= [.rd tL]
abbrev yyH:List OT:= [⟨false,tN,(.pr .fz (.pr .fz (.ow .fz)))⟩,⟨false,tB,.fz⟩]
def yuc (a0:List Int):Option (zaY yyH×zak yp6) :=bif(!(ltb (a0.length:Int) 4))then bif(inb 0 a0.length)then bif(!((nth a0 0 0) !=21322))then bif(inb 3 a0.length)then bif((nth a0 3 0) !=(i64.wrap ((a0.length:Int)-4)))then some (((0,0,[]),false,()),()) else bif(inb 1 a0.length)then bif(inb 2 a0.length)then bif(zjY 4 (a0.length:Int) a0.length)then let r1:=yB ((a0.drop (4:Int).toNat).take ((a0.length:Int)-4).toNat);let r2:=yjB ((nth a0 1 0),(nth a0 2 0),r1);bif(!r2)then some (((0,0,[]),false,()),()) else some ((((nth a0 1 0),(nth a0 2 0),r1),true,()),()) else none else none else none else none else some (((0,0,[]),false,()),()) else none else some (((0,0,[]),false,()),())
theorem yS2:ConOk prog 89 ⟨yp6,yyH,fun x=>yuc x.1⟩:=zkG (yNR) func89 ntmps89.symm fun x=>by kernel_rfl
def yk1 (a0:List Int):dN×Bool:=yaA a0
theorem yVn (a0:List Int) (hk:zjw yp6 (a0,())):yuc a0=(fun n=>some ((n.1,n.2,()),())) (yk1 a0):=by
 have hb:a0.length*8≤2^47:=hk.1.1;unfold yuc yk1 yaA yB;by_cases h:(a0.length:Int)<4
 ·rw[zkw h,zkZ h]; rfl
 ·have ht:(a0.drop (4:Int).toNat).take ((a0.length:Int)-4).toNat=a0.drop 4:=List.take_of_length_le (by rw[List.length_drop]; show a0.length-4≤_; omega)
  rw[zk1 (Int.not_lt.1 h),zk0 (Int.not_lt.1 h)];simp only[bne,Bool.not_false,cond_true,zj4.2 (show(0:Int)≤0∧(0:Int)<a0.length by omega),zj4.2 (show(0:Int)≤1∧(1:Int)<a0.length by omega),zj4.2 (show(0:Int)≤2∧(2:Int)<a0.length by omega),zj4.2 (show(0:Int)≤3∧(3:Int)<a0.length by omega),zkx.2 (show(0:Int)≤4∧(4:Int)≤a0.length∧(a0.length:Int)≤a0.length by omega),ht,wq ((a0.length:Int)-4) (by omega) (by omega),yM3];rw[show yR (nth a0 1 0,nth a0 2 0,a0.drop 4)=yR (yHj a0)from rfl];cases(nth a0 0 0==21322)<;>cases(nth a0 3 0==(a0.length:Int)-4)<;>cases yR (yHj a0)<;>rfl
def yEh:Con:=⟨yp6,yyH,fun x=>(fun n=>some ((n.1,n.2,()),())) (yk1 x.1)⟩
theorem yWi:ConOk prog 89 yEh:=(yS2).mono (fun x r hk h=>(yVn x.1 hk).trans h)
def yXH:Code:=(f91.body).getD .skip
def yYd:Env:=zku TT [] []
theorem yOe:FrOk prog ⟨yYd,8,fun _=>none⟩ yXH:=zky yg yh trivial
abbrev yyu:List Par:= [.rd tI]
abbrev yyZ:List OT:= [⟨false,tI,.fz⟩]
def yE6 (a0:Int):Option (zaY yyZ×zak yyu) :=bif(ltb a0 0)then some (((-1),()),()) else some (((i64.wrap (2+(a0.tmod 4))),()),())
theorem yTl:ConOk prog 91 ⟨yyu,yyZ,fun x=>yE6 x.1⟩:=zkG (yOe) func91 ntmps91.symm fun x=>by kernel_rfl
def yf (a0:Int):Int :=bif(ltb a0 0)then (-1) else (i64.wrap (2+(a0.tmod 4)))
def yEp:Con:=⟨yyu,yyZ,fun x=>(fun n=>some ((n,()),())) (yf x.1)⟩
theorem yVG (a0:Int):yE6 a0=(fun n=>some ((n,()),())) (yf a0):=zkT (p:=fun(n:Int)=>((n,()),())) (zkE (p:=fun(n:Int)=>((n,()),())) rfl rfl)
theorem yWr:ConOk prog 91 yEp:=(yTl).mono (fun x r _ h=>(yVG x.1).trans h)
def yGI (a:dA) (q:Int) (i:Nat):List Int×Bool:=yN (nth a.2.2.1 i yc) (yf q)
def yqv (a:dA) (q:Int) (i:Nat):dN:=(yaA (yGI a q i).1).1
def yjU (a:dA) (q:Int) (i:Nat):Bool:=(yGI a q i).2&&((yaA (yGI a q i).1).2&&((yqv a q i).1==q&&((leb 0 (yqv a q i).2.1&&leb (yqv a q i).2.1 (a.2.1.2-1))&&((yqv a q i).2.2.length:Int)==a.2.1.1-1)))
def yay (a:dA) (q:Int):dN×Bool:=bif leb 0 (yaf (yjU a q) (List.range a.2.2.1.length))then(yqv a q (yaf (yjU a q) (List.range a.2.2.1.length)).toNat,true)else(yKC,false)
theorem yUe {n i:Nat} (h:i<n):(List.range n).getD i 0=i:=by rw[zkH (by rw[List.length_range]; exact h)]; simp
theorem y1P {l:List Int} (h:(yaA l).2=true):yR (yaA l).1=true∧l=yX (yaA l).1:=by
 unfold yaA at h ⊢;cases hc:(leb 4 (l.length:Int)&&(nth l 0 0==21322&&(nth l 3 0==(l.length:Int)-4&&yR (yHj l))))
 ·rw[hc]at h; cases h
 ·simp only[Bool.and_eq_true,zj5,beq_iff_eq]at hc
  refine⟨hc.2.2.2,?_⟩;show l=yX (yHj l);unfold yX;rw[hc.2.2.2]
  match l,hc with
  | x0::x1::x2::x3::t,hc =>
   have e0:x0=21322:=hc.2.1;have e3:x3=((x0::x1::x2::x3::t).length:Int)-4:=hc.2.2.1;have e4:x3=(t.length:Int):=by rw[e3]; simp only[List.length_cons]; omega
   subst e0;rw[e4]; rfl
  | [],hc=>exact absurd hc.1 (by simp)
  | [_],hc=>exact absurd hc.1 (by simp)
  | [_,_],hc=>exact absurd hc.1 (by simp)
  | [_,_,_],hc=>exact absurd hc.1 (by simp)
theorem yNL {a:dA} {q:Int} (h:(yay a q).2=true): ∃i,i<a.2.2.1.length∧yjU a q i=true∧(yay a q).1=yqv a q i:=by
 unfold yay at h ⊢;cases hk:leb 0 (yaf (yjU a q) (List.range a.2.2.1.length))
 ·rw[hk]at h; cases h
 ·obtain⟨h1,h2⟩:=ymY (d:=0) hk
  have h3:=zj4.1 h1;rw[List.length_range]at h3;refine⟨(yaf (yjU a q) (List.range a.2.2.1.length)).toNat,by omega,?_,rfl⟩;unfold nth at h2;rwa[yUe (by omega)]at h2
theorem y3e {a:dA} {q:Int} (hg:ye a.2.1=true) (h:(yay a q).2=true):yac a.2.1 (yay a q).1.2.1=true∧((yay a q).1.2.2.length:Int)=a.2.1.1-1:=by
 obtain⟨i,_,h1,h2⟩:=yNL h;rw[h2];simp only[yjU,Bool.and_eq_true,zj5,beq_iff_eq]at h1;exact⟨yY.2 ⟨hg,h1.2.2.2.1.1,h1.2.2.2.1.2⟩,h1.2.2.2.2⟩
theorem yJp (q:Int):yk3 q=yf q:=rfl
def ynI:Code:=(f23.body).getD .skip
def yvs:Env:=zku TT [(87,yko),(88,ytt),(89,yEh)] []
theorem yLf:FrOk prog ⟨yvs,67,fun _=>none⟩ ynI:=zky yg yh ⟨yt7,yGp,yWi,trivial⟩
def yA8:Nat→Option Seg:=fun _=>none
def ybR:Shape:=⟨[(1,false,[.int .i64]),(2,false,[.ptr 0 0]),(4,false,[.ptr 64 0]),(13,false,[.br tM]),(14,false,[.int .i64]),(15,false,[.int .i64])],[(0,[.int .i64,.int .i64,.int .i64,.br tM,.int .i64,.int .i64,.int .i64,.int .i64,.int .i64,.br tW,.int .i64,.bool,.bool]),(64,[.int .i64,.int .i64,.nil])],[]⟩
def yfH:Shape:=⟨[(1,false,[.int .i64]),(2,false,[.ptr 0 0]),(4,false,[.ptr 64 0]),(13,false,[.br tM]),(14,false,[.int .i64]),(15,false,[.ci .i64 0])],[(0,[.int .i64,.int .i64,.int .i64,.br tM,.int .i64,.int .i64,.int .i64,.int .i64,.int .i64,.br tW,.int .i64,.bool,.bool]),(64,[.int .i64,.int .i64,.nil])],[]⟩
def yfv:Shape:=⟨[(4,false,[.ptr 64 0])],[(64,[.int .i64,.int .i64,.nil])],[]⟩
def yfS:Shape:=⟨[(4,false,[.ptr 64 0]),(5,false,[.bool])],[(64,[.int .i64,.int .i64,.at 800000000])],[(800000000,tI,.fz)]⟩
abbrev ym4 (v0:Int) (v1:List dM) (v2 v3:Int) (v4:dA) (v5:dN):(ybR).X:=(((v0,()),((),()),((),()),(v1,()),(v2,()),(v3,()),()),((v4.1,v4.2.1.1,v4.2.1.2,v4.2.2.1,v4.2.2.2.1,v4.2.2.2.2.1,v4.2.2.2.2.2.1,v4.2.2.2.2.2.2.1,v4.2.2.2.2.2.2.2.1,v4.2.2.2.2.2.2.2.2.1,v4.2.2.2.2.2.2.2.2.2.1,v4.2.2.2.2.2.2.2.2.2.2.1,v4.2.2.2.2.2.2.2.2.2.2.2,()),(v5.1,v5.2.1,(),()),()),())
abbrev yJE (v0:Int) (v1:List dM) (v2:Int) (v3:dA) (v4:dN):(yfH).X:=(((v0,()),((),()),((),()),(v1,()),(v2,()),((),()),()),((v3.1,v3.2.1.1,v3.2.1.2,v3.2.2.1,v3.2.2.2.1,v3.2.2.2.2.1,v3.2.2.2.2.2.1,v3.2.2.2.2.2.2.1,v3.2.2.2.2.2.2.2.1,v3.2.2.2.2.2.2.2.2.1,v3.2.2.2.2.2.2.2.2.2.1,v3.2.2.2.2.2.2.2.2.2.2.1,v3.2.2.2.2.2.2.2.2.2.2.2,()),(v4.1,v4.2.1,(),()),()),())
abbrev yJw (v0:dN):(yfv).X:=((((),()),()),((v0.1,v0.2.1,(),()),()),())
abbrev yJP (v0:Bool) (v1:dN):(yfS).X:=((((),()),(v0,()),()),((v1.1,v1.2.1,(),()),()),(v1.2.2,()))
def ynt (v0:Int) (v1:List dM) (v2 v3 v4 v5 v6:Int) (v7:List dM) (v8 v9 v10 v11 v12:Int) (v13:List dW) (v14:Int) (v15 v16:Bool) (v17 v18:Int):Option ((ybR).X ⊕ ((yfv).X ⊕ (yfS).X)) :=bif(ltb v3 v2)then bif(inb v3 v1.length)then let r4:=yk3 v0;let r5:=ybF ((nth v1 v3 ([],[],false,[])).1,((nth v1 v3 ([],[],false,[])).2).1,(((nth v1 v3 ([],[],false,[])).2).2)) r4;let r6:=yk1 r5.1;bif r5.2 then bif r6.2 then bif(r6.1.1==v0)then bif(leb 0 r6.1.2.1)then bif(ltb r6.1.2.1 v6)then bif((i64.wrap ((r6.1.2.2.length:Int)+1))==v5)then some (.inr (.inr ((((),()),(true,()),()),((r6.1.1,r6.1.2.1,(),()),()),(r6.1.2.2,())))) else some (.inl (((v0,()),((),()),((),()),(v1,()),(v2,()),((i64.wrap (v3+1)),()),()),((v4,v5,v6,v7,v8,v9,v10,v11,v12,v13,v14,v15,v16,()),(v17,v18,(),()),()),())) else some (.inl (((v0,()),((),()),((),()),(v1,()),(v2,()),((i64.wrap (v3+1)),()),()),((v4,v5,v6,v7,v8,v9,v10,v11,v12,v13,v14,v15,v16,()),(v17,v18,(),()),()),())) else some (.inl (((v0,()),((),()),((),()),(v1,()),(v2,()),((i64.wrap (v3+1)),()),()),((v4,v5,v6,v7,v8,v9,v10,v11,v12,v13,v14,v15,v16,()),(v17,v18,(),()),()),())) else some (.inl (((v0,()),((),()),((),()),(v1,()),(v2,()),((i64.wrap (v3+1)),()),()),((v4,v5,v6,v7,v8,v9,v10,v11,v12,v13,v14,v15,v16,()),(v17,v18,(),()),()),())) else some (.inl (((v0,()),((),()),((),()),(v1,()),(v2,()),((i64.wrap (v3+1)),()),()),((v4,v5,v6,v7,v8,v9,v10,v11,v12,v13,v14,v15,v16,()),(v17,v18,(),()),()),())) else some (.inl (((v0,()),((),()),((),()),(v1,()),(v2,()),((i64.wrap (v3+1)),()),()),((v4,v5,v6,v7,v8,v9,v10,v11,v12,v13,v14,v15,v16,()),(v17,v18,(),()),()),())) else none else some (.inr (.inl ((((),()),()),((v17,v18,(),()),()),())))
def yca (x:(ybR).X):=ynt x.1.1.1 x.1.2.2.2.1.1 x.1.2.2.2.2.1.1 x.1.2.2.2.2.2.1.1 x.2.1.1.1 x.2.1.1.2.1 x.2.1.1.2.2.1 x.2.1.1.2.2.2.1 x.2.1.1.2.2.2.2.1 x.2.1.1.2.2.2.2.2.1 x.2.1.1.2.2.2.2.2.2.1 x.2.1.1.2.2.2.2.2.2.2.1 x.2.1.1.2.2.2.2.2.2.2.2.1 x.2.1.1.2.2.2.2.2.2.2.2.2.1 x.2.1.1.2.2.2.2.2.2.2.2.2.2.1 x.2.1.1.2.2.2.2.2.2.2.2.2.2.2.1 x.2.1.1.2.2.2.2.2.2.2.2.2.2.2.2.1 x.2.1.2.1.1 x.2.1.2.1.2.1
def yxj (x:(yfH).X):(ybR).X:=(((x.1.1.1,()),((),()),((),()),(x.1.2.2.2.1.1,()),(x.1.2.2.2.2.1.1,()),(0,()),()),((x.2.1.1.1,x.2.1.1.2.1,x.2.1.1.2.2.1,x.2.1.1.2.2.2.1,x.2.1.1.2.2.2.2.1,x.2.1.1.2.2.2.2.2.1,x.2.1.1.2.2.2.2.2.2.1,x.2.1.1.2.2.2.2.2.2.2.1,x.2.1.1.2.2.2.2.2.2.2.2.1,x.2.1.1.2.2.2.2.2.2.2.2.2.1,x.2.1.1.2.2.2.2.2.2.2.2.2.2.1,x.2.1.1.2.2.2.2.2.2.2.2.2.2.2.1,x.2.1.1.2.2.2.2.2.2.2.2.2.2.2.2.1,()),(x.2.1.2.1.1,x.2.1.2.1.2.1,(),()),()),())
def yzG:Code:=(zeJ ynI 64 52).getD .skip
theorem yKZ:zeJ ynI 64 13=some (.block 0 (.loop yzG)):=by kernel_rfl
theorem yMM (x:(ybR).X):zhu ⟨yvs,67,yA8⟩ 0 yzG 52 ybR yfv yfS x=yca x:=by kernel_rfl
def yxy (x:(yfH).X):Nat:=18446744073709551616
def yoB (x:(yfH).X):Option ((yfv).X ⊕ (yfS).X):=zF yca (yxy x) (yxj x)
def yxY:Seg:=⟨yfH,yfv,yfS,yoB⟩
def yNh:Nat→Option Seg:=fun q=>bif Nat.beq q 13 then some yxY else yA8 q
theorem yLg:FrOk prog ⟨yvs,67,yNh⟩ ynI:=(yLf).loop (sg:=yxY) ybR yxj (by decide) yKZ yca yxy (by decide) (fun _=>rfl) (fun x r _ h=>h) yMM
abbrev yi7:List Par:= [.rd tA,.rd tI]
abbrev yn2:List OT:= [⟨false,tN,(.pr .fz (.pr .fz (.ow .fz)))⟩,⟨false,tB,.fz⟩]
def yrf (a0:dA) (a1:Int):Option (zaY yn2×zak yi7) :=zkr (yoB (((a1,()),((),()),((),()),(a0.2.2.1,()),((a0.2.2.1.length:Int),()),((),()),()),((a0.1,a0.2.1.1,a0.2.1.2,a0.2.2.1,a0.2.2.2.1,a0.2.2.2.2.1,a0.2.2.2.2.2.1,a0.2.2.2.2.2.2.1,a0.2.2.2.2.2.2.2.1,a0.2.2.2.2.2.2.2.2.1,a0.2.2.2.2.2.2.2.2.2.1,a0.2.2.2.2.2.2.2.2.2.2.1,a0.2.2.2.2.2.2.2.2.2.2.2,()),(0,0,(),()),()),())) (fun y6 =>some (((0,0,[]),false,()),())) (fun y6 =>some (((y6.2.1.1.1,y6.2.1.1.2.1,y6.2.2.1),y6.1.2.1.1,()),()))
theorem yPz:ConOk prog 23 ⟨yi7,yn2,fun x=>yrf x.1 x.2.1⟩:=zkG (yLg) func23 ntmps23.symm fun x=>by kernel_rfl
def yjA (a0:dA) (a1:Int):dN×Bool:=yay a0 a1
def yov (a0:dA) (a1:Int):Bool:=ye a0.2.1||y1O a0.2.1
theorem ySC (a0:dA) (a1:Int) (hk:zjw yi7 (a0,a1,())) (hq:yov a0 a1=true):yrf a0 a1=(fun n=>some ((n.1,n.2,()),())) (yjA a0 a1):=by
 have hb:a0.2.2.1.length*80≤2^47:=hk.1.2.2.1.1;have hg:=y1Q hq
 have h1:=yJs (step:=yca) (List.range a0.2.2.1.length) 0 (fun i=>ym4 a1 a0.2.2.1 a0.2.2.1.length i a0 yKC) (yjU a0 a1) (fun k=> .inr (yJP true (yqv a0 a1 k.toNat))) (.inl (yJw yKC)) (fun i hi=>by
  rw[List.length_range]at hi;rw[yUe hi];simp only[yca,ym4,ynt,zkw (show(i:Int)<a0.2.2.1.length by omega),cond_true,wq ((i:Int)+1) (by omega) (by omega),Int.natCast_add,Int.natCast_one,Int.toNat_natCast,zkP hi,zkV,ybF,yk1,yJp,yjU,yqv,yGI,yc];have e1:ltb (yaA (yN (nth a0.2.2.1 i ([],[],false,[])) (yf a1)).1).1.2.1 a0.2.1.2=leb (yaA (yN (nth a0.2.2.1 i ([],[],false,[])) (yf a1)).1).1.2.1 (a0.2.1.2-1):=by rw[Bool.eq_iff_iff,zj8,zj5]; omega
  cases hr:(yN (nth a0.2.2.1 i ([],[],false,[])) (yf a1)).2
  ·rfl
  cases hg2:(yaA (yN (nth a0.2.2.1 i ([],[],false,[])) (yf a1)).1).2
  ·rfl
  have hl:=(yrY.1 (y1P hg2).1).2.2.1;have e2:(i64.wrap (((yaA (yN (nth a0.2.2.1 i ([],[],false,[])) (yf a1)).1).1.2.2.length:Int)+1)==a0.2.1.1)=(((yaA (yN (nth a0.2.2.1 i ([],[],false,[])) (yf a1)).1).1.2.2.length:Int)==a0.2.1.1-1):=by rw[wr (by omega) (by omega),Bool.eq_iff_iff,beq_iff_eq,beq_iff_eq]; omega
  rw[e1,e2]
  cases((yaA (yN (nth a0.2.2.1 i ([],[],false,[])) (yf a1)).1).1.1==a1)<;>cases leb 0 (yaA (yN (nth a0.2.2.1 i ([],[],false,[])) (yf a1)).1).1.2.1<;>cases leb (yaA (yN (nth a0.2.2.1 i ([],[],false,[])) (yf a1)).1).1.2.1 (a0.2.1.2-1)<;>cases(((yaA (yN (nth a0.2.2.1 i ([],[],false,[])) (yf a1)).1).1.2.2.length:Int)==a0.2.1.1-1)<;>rfl) (by
   rw[List.length_range]; simp only[yca,ym4,ynt,zk1 (Int.le_refl _),cond_false]) 18446744073709551616 (by rw[List.length_range]; omega)
 unfold yrf yjA yay;rw[show yoB (yJE a1 a0.2.2.1 a0.2.2.1.length a0 yKC)=_ from h1];cases leb 0 (yaf (yjU a0 a1) (List.range a0.2.2.1.length))<;>rfl
def yop (a0:dA) (a1:Int):Option (zaY yn2×zak yi7):=bif yov a0 a1 then(fun n=>some ((n.1,n.2,()),())) (yjA a0 a1)else none
theorem yTT (a0:dA) (a1:Int) (h:yov a0 a1=true):yop a0 a1=(fun n=>some ((n.1,n.2,()),())) (yjA a0 a1):=by unfold yop; rw[h]; rfl
def yCh:Con:=⟨yi7,yn2,fun x=>yop x.1 x.2.1⟩
theorem yTE:ConOk prog 23 yCh:=(yPz).mono (fun x r hk h=>zkW h (fun hq=>ySC x.1 x.2.1 hk hq))
def ynK:Code:=(f95.body).getD .skip
def yvu:Env:=zku TT [(74,yoU),(158,ya5)] []
theorem yLl:FrOk prog ⟨yvu,31,fun _=>none⟩ ynK:=zky yg yh ⟨yDd,ycN,trivial⟩
def yBa:Nat→Option Seg:=fun _=>none
def ybT:Shape:=⟨[(1,false,[.ptr 0 0]),(2,false,[.ptr 64 0]),(3,false,[.at 800000000]),(8,false,[.br tW]),(9,false,[.int .i64]),(10,false,[.int .i64])],[(0,[.int .i64,.int .i64,.int .i64,.br tM,.int .i64,.int .i64,.int .i64,.int .i64,.int .i64,.br tW,.int .i64,.bool,.bool]),(64,[.int .i64,.int .i64,.int .i64,.nil,.int .i64,.int .i64,.int .i64,.int .i64,.int .i64,.nil,.int .i64,.bool,.bool])],[(800000000,tW,(.pr .fz (.ow .fz)))]⟩
def yfJ:Shape:=⟨[(1,false,[.ptr 0 0]),(2,false,[.ptr 64 0]),(3,false,[.at 800000000]),(8,false,[.br tW]),(9,false,[.int .i64]),(10,false,[.ci .i64 0])],[(0,[.int .i64,.int .i64,.int .i64,.br tM,.int .i64,.int .i64,.int .i64,.int .i64,.int .i64,.br tW,.int .i64,.bool,.bool]),(64,[.int .i64,.int .i64,.int .i64,.nil,.int .i64,.int .i64,.int .i64,.int .i64,.int .i64,.nil,.int .i64,.bool,.bool])],[(800000000,tW,(.pr .fz (.ow .fz)))]⟩
def yfx:Shape:=⟨[(1,false,[.ptr 0 0]),(2,false,[.ptr 64 0]),(3,false,[.at 800000000])],[(0,[.int .i64,.int .i64,.int .i64,.br tM,.int .i64,.int .i64,.int .i64,.int .i64,.int .i64,.br tW,.int .i64,.bool,.bool]),(64,[.int .i64,.int .i64,.int .i64,.nil,.int .i64,.int .i64,.int .i64,.int .i64,.int .i64,.nil,.int .i64,.bool,.bool])],[(800000000,tW,(.pr .fz (.ow .fz)))]⟩
def yiQ:Shape:=⟨[],[],[]⟩
abbrev ym6 (v0:List dW) (v1 v2:Int) (v3 v4:dA) (v5:List dW):(ybT).X:=((((),()),((),()),((),()),(v0,()),(v1,()),(v2,()),()),((v3.1,v3.2.1.1,v3.2.1.2,v3.2.2.1,v3.2.2.2.1,v3.2.2.2.2.1,v3.2.2.2.2.2.1,v3.2.2.2.2.2.2.1,v3.2.2.2.2.2.2.2.1,v3.2.2.2.2.2.2.2.2.1,v3.2.2.2.2.2.2.2.2.2.1,v3.2.2.2.2.2.2.2.2.2.2.1,v3.2.2.2.2.2.2.2.2.2.2.2,()),(v4.1,v4.2.1.1,v4.2.1.2,(),v4.2.2.2.1,v4.2.2.2.2.1,v4.2.2.2.2.2.1,v4.2.2.2.2.2.2.1,v4.2.2.2.2.2.2.2.1,(),v4.2.2.2.2.2.2.2.2.2.1,v4.2.2.2.2.2.2.2.2.2.2.1,v4.2.2.2.2.2.2.2.2.2.2.2,()),()),(v5,()))
abbrev yJG (v0:List dW) (v1:Int) (v2 v3:dA) (v4:List dW):(yfJ).X:=((((),()),((),()),((),()),(v0,()),(v1,()),((),()),()),((v2.1,v2.2.1.1,v2.2.1.2,v2.2.2.1,v2.2.2.2.1,v2.2.2.2.2.1,v2.2.2.2.2.2.1,v2.2.2.2.2.2.2.1,v2.2.2.2.2.2.2.2.1,v2.2.2.2.2.2.2.2.2.1,v2.2.2.2.2.2.2.2.2.2.1,v2.2.2.2.2.2.2.2.2.2.2.1,v2.2.2.2.2.2.2.2.2.2.2.2,()),(v3.1,v3.2.1.1,v3.2.1.2,(),v3.2.2.2.1,v3.2.2.2.2.1,v3.2.2.2.2.2.1,v3.2.2.2.2.2.2.1,v3.2.2.2.2.2.2.2.1,(),v3.2.2.2.2.2.2.2.2.2.1,v3.2.2.2.2.2.2.2.2.2.2.1,v3.2.2.2.2.2.2.2.2.2.2.2,()),()),(v4,()))
abbrev yJx (v0 v1:dA) (v2:List dW):(yfx).X:=((((),()),((),()),((),()),()),((v0.1,v0.2.1.1,v0.2.1.2,v0.2.2.1,v0.2.2.2.1,v0.2.2.2.2.1,v0.2.2.2.2.2.1,v0.2.2.2.2.2.2.1,v0.2.2.2.2.2.2.2.1,v0.2.2.2.2.2.2.2.2.1,v0.2.2.2.2.2.2.2.2.2.1,v0.2.2.2.2.2.2.2.2.2.2.1,v0.2.2.2.2.2.2.2.2.2.2.2,()),(v1.1,v1.2.1.1,v1.2.1.2,(),v1.2.2.2.1,v1.2.2.2.2.1,v1.2.2.2.2.2.1,v1.2.2.2.2.2.2.1,v1.2.2.2.2.2.2.2.1,(),v1.2.2.2.2.2.2.2.2.2.1,v1.2.2.2.2.2.2.2.2.2.2.1,v1.2.2.2.2.2.2.2.2.2.2.2,()),()),(v2,()))
def ynv (v0:List dW) (v1 v2 v3 v4 v5:Int) (v6:List dM) (v7 v8 v9 v10 v11:Int) (v12:List dW) (v13:Int) (v14 v15:Bool) (v16 v17 v18 v19 v20 v21 v22 v23 v24:Int) (v25 v26:Bool) (v27:List dW):Option ((ybT).X ⊕ ((yfx).X ⊕ (yiQ).X)) :=bif(ltb v2 v1)then bif(inb v2 v0.length)then let r2:=yB ((nth v0 v2 (0,[])).2);bif(zkj v27.length ([((nth v0 v2 (0,[])).1,r2)]:List dW).length 32)then some (.inl ((((),()),((),()),((),()),(v0,()),(v1,()),((i64.wrap (v2+1)),()),()),((v3,v4,v5,v6,v7,v8,v9,v10,v11,v12,v13,v14,v15,()),(v16,v17,v18,(),v19,v20,v21,v22,v23,(),v24,v25,v26,()),()),((v27++([((nth v0 v2 (0,[])).1,r2)]:List dW)),()))) else none else none else some (.inr (.inl ((((),()),((),()),((),()),()),((v3,v4,v5,v6,v7,v8,v9,v10,v11,v12,v13,v14,v15,()),(v16,v17,v18,(),v19,v20,v21,v22,v23,(),v24,v25,v26,()),()),(v27,()))))
def ycc (x:(ybT).X):=ynv x.1.2.2.2.1.1 x.1.2.2.2.2.1.1 x.1.2.2.2.2.2.1.1 x.2.1.1.1 x.2.1.1.2.1 x.2.1.1.2.2.1 x.2.1.1.2.2.2.1 x.2.1.1.2.2.2.2.1 x.2.1.1.2.2.2.2.2.1 x.2.1.1.2.2.2.2.2.2.1 x.2.1.1.2.2.2.2.2.2.2.1 x.2.1.1.2.2.2.2.2.2.2.2.1 x.2.1.1.2.2.2.2.2.2.2.2.2.1 x.2.1.1.2.2.2.2.2.2.2.2.2.2.1 x.2.1.1.2.2.2.2.2.2.2.2.2.2.2.1 x.2.1.1.2.2.2.2.2.2.2.2.2.2.2.2.1 x.2.1.2.1.1 x.2.1.2.1.2.1 x.2.1.2.1.2.2.1 x.2.1.2.1.2.2.2.2.1 x.2.1.2.1.2.2.2.2.2.1 x.2.1.2.1.2.2.2.2.2.2.1 x.2.1.2.1.2.2.2.2.2.2.2.1 x.2.1.2.1.2.2.2.2.2.2.2.2.1 x.2.1.2.1.2.2.2.2.2.2.2.2.2.2.1 x.2.1.2.1.2.2.2.2.2.2.2.2.2.2.2.1 x.2.1.2.1.2.2.2.2.2.2.2.2.2.2.2.2.1 x.2.2.1
def yxl (x:(yfJ).X):(ybT).X:=((((),()),((),()),((),()),(x.1.2.2.2.1.1,()),(x.1.2.2.2.2.1.1,()),(0,()),()),((x.2.1.1.1,x.2.1.1.2.1,x.2.1.1.2.2.1,x.2.1.1.2.2.2.1,x.2.1.1.2.2.2.2.1,x.2.1.1.2.2.2.2.2.1,x.2.1.1.2.2.2.2.2.2.1,x.2.1.1.2.2.2.2.2.2.2.1,x.2.1.1.2.2.2.2.2.2.2.2.1,x.2.1.1.2.2.2.2.2.2.2.2.2.1,x.2.1.1.2.2.2.2.2.2.2.2.2.2.1,x.2.1.1.2.2.2.2.2.2.2.2.2.2.2.1,x.2.1.1.2.2.2.2.2.2.2.2.2.2.2.2.1,()),(x.2.1.2.1.1,x.2.1.2.1.2.1,x.2.1.2.1.2.2.1,(),x.2.1.2.1.2.2.2.2.1,x.2.1.2.1.2.2.2.2.2.1,x.2.1.2.1.2.2.2.2.2.2.1,x.2.1.2.1.2.2.2.2.2.2.2.1,x.2.1.2.1.2.2.2.2.2.2.2.2.1,(),x.2.1.2.1.2.2.2.2.2.2.2.2.2.2.1,x.2.1.2.1.2.2.2.2.2.2.2.2.2.2.2.1,x.2.1.2.1.2.2.2.2.2.2.2.2.2.2.2.2.1,()),()),(x.2.2.1,()))
def yzI:Code:=(zeJ ynK 64 116).getD .skip
theorem yK1:zeJ ynK 64 29=some (.block 0 (.loop yzI)):=by kernel_rfl
theorem yMO (x:(ybT).X):zhu ⟨yvu,31,yBa⟩ 0 yzI 116 ybT yfx yiQ x=ycc x:=by kernel_rfl
def yxA (x:(yfJ).X):Nat:=18446744073709551616
def yoD (x:(yfJ).X):Option ((yfx).X ⊕ (yiQ).X):=zF ycc (yxA x) (yxl x)
def yx0:Seg:=⟨yfJ,yfx,yiQ,yoD⟩
def yNj:Nat→Option Seg:=fun q=>bif Nat.beq q 29 then some yx0 else yBa q
theorem yLm:FrOk prog ⟨yvu,31,yNj⟩ ynK:=(yLl).loop (sg:=yx0) ybT yxl (by decide) yK1 ycc yxA (by decide) (fun _=>rfl) (fun x r _ h=>h) yMO
abbrev ynW:List Par:= [.rd tA]
abbrev yvV:List OT:= [⟨false,tA,(.pr .fz (.pr (.pr .fz .fz) (.pr (.ow (.pr (.ow (.ow .fz)) (.pr (.ow (.pr .fz (.ow .fz))) (.pr .fz (.ow .fz))))) (.pr .fz (.pr .fz (.pr .fz (.pr .fz (.pr .fz (.pr (.ow (.pr .fz (.ow .fz))) (.pr .fz (.pr .fz .fz)))))))))))⟩]
def yri (a0:dA):Option (zaY yvV×zak ynW) :=zkr (yoD ((((),()),((),()),((),()),(a0.2.2.2.2.2.2.2.2.1,()),((a0.2.2.2.2.2.2.2.2.1.length:Int),()),((),()),()),((a0.1,a0.2.1.1,a0.2.1.2,a0.2.2.1,a0.2.2.2.1,a0.2.2.2.2.1,a0.2.2.2.2.2.1,a0.2.2.2.2.2.2.1,a0.2.2.2.2.2.2.2.1,a0.2.2.2.2.2.2.2.2.1,a0.2.2.2.2.2.2.2.2.2.1,a0.2.2.2.2.2.2.2.2.2.2.1,a0.2.2.2.2.2.2.2.2.2.2.2,()),(0,0,0,(),0,0,0,0,0,(),0,false,false,()),()),(([]:List dW),()))) (fun y2 =>let r4:=ye9 y2.2.1.1.2.2.2.1;some (((y2.2.1.1.1,(y2.2.1.1.2.1,y2.2.1.1.2.2.1),r4,y2.2.1.1.2.2.2.2.1,y2.2.1.1.2.2.2.2.2.1,y2.2.1.1.2.2.2.2.2.2.1,y2.2.1.1.2.2.2.2.2.2.2.1,y2.2.1.1.2.2.2.2.2.2.2.2.1,y2.2.2.1,y2.2.1.1.2.2.2.2.2.2.2.2.2.2.1,y2.2.1.1.2.2.2.2.2.2.2.2.2.2.2.1,y2.2.1.1.2.2.2.2.2.2.2.2.2.2.2.2.1),()),())) (fun y2 =>none)
theorem yPD:ConOk prog 95 ⟨ynW,yvV,fun x=>yri x.1⟩:=zkG (yLm) func95 ntmps95.symm fun x=>by kernel_rfl
def yen (a0:dA):dA:=a0
theorem ySG (a0:dA) (hk:zjw ynW (a0,())):yri a0=(fun n=>some ((n,()),())) (yen a0):=by
 have hb:a0.2.2.2.2.2.2.2.2.1.length*32≤2^47:=hk.1.2.2.2.2.2.2.2.2.1.1
 have h1:=zkv (step:=ycc) a0.2.2.2.2.2.2.2.2.1 (0,[]) (fun i s=>ym6 a0.2.2.2.2.2.2.2.2.1 a0.2.2.2.2.2.2.2.2.1.length i a0 yaB s) (fun s x=>s++ [x]) (fun i s=>s.length=i) (fun s=> .inl (yJx a0 yaB s)) (fun i s hi hs=>⟨by
   simp only[ycc,ym6,ynv,zkw (show(i:Int)<a0.2.2.2.2.2.2.2.2.1.length by omega),cond_true,wq ((i:Int)+1) (by omega) (by omega),Int.natCast_add,Int.natCast_one,Int.toNat_natCast,zkP hi,zkQ,yB,zkV]
   rw[zkD.2 (show(s.length+ [a0.2.2.2.2.2.2.2.2.1.getD i (0,[])].length)*32≤140737488355328 by simp only[List.length_cons,List.length_nil]; omega)]; rfl,by simp[hs]⟩) (fun s hs=>by simp only[ycc,ym6,ynv,zk1 (Int.le_refl _),cond_false]) [] rfl 18446744073709551616 (by omega)
 rw[ywg]at h1;unfold yri yen;rw[show yoD (yJG a0.2.2.2.2.2.2.2.2.1 a0.2.2.2.2.2.2.2.2.1.length a0 yaB [])=_ from h1]; rfl
def yqQ:Con:=⟨ynW,yvV,fun x=>(fun n=>some ((n,()),())) (yen x.1)⟩
theorem yEQ:ConOk prog 95 yqQ:=(yPD).mono (fun x r hk h=>(ySG x.1 hk).trans h)
def yQG:Code:=(f96.body).getD .skip
def yQ7:Env:=zku TT [(55,yf6)] []
theorem yI5:FrOk prog ⟨yQ7,15,fun _=>none⟩ yQG:=zky yg yh ⟨ylb,trivial⟩
abbrev ysL:List Par:= [.rd tA]
abbrev ys5:List OT:= [⟨false,tB,.fz⟩]
def yAC (a0:dA):Option (zaY ys5×zak ysL) :=let r1:=yaj a0;bif r1 then bif(!a0.2.2.2.2.2.2.2.2.2.2.1)then some (((ltb a0.2.2.2.2.2.2.2.1 60000),()),()) else some ((false,()),()) else some ((false,()),())
theorem yMq:ConOk prog 96 ⟨ysL,ys5,fun x=>yAC x.1⟩:=zkG (yI5) func96 ntmps96.symm fun x=>by kernel_rfl
def ydy (a0:dA):Bool :=let r1:=yaj a0;bif r1 then bif(!a0.2.2.2.2.2.2.2.2.2.2.1)then (ltb a0.2.2.2.2.2.2.2.1 60000) else false else false
def yzZ:Con:=⟨ysL,ys5,fun x=>(fun n=>some ((n,()),())) (ydy x.1)⟩
theorem yPl (a0:dA):yAC a0=(fun n=>some ((n,()),())) (ydy a0):=zkT (p:=fun(n:Bool)=>((n,()),())) (zkE (p:=fun(n:Bool)=>((n,()),())) (zkE (p:=fun(n:Bool)=>((n,()),())) rfl rfl) rfl)
theorem yP5:ConOk prog 96 yzZ:=(yMq).mono (fun x r _ h=>(yPl x.1).trans h)
def yQK:Code:=(f144.body).getD .skip
def yRb:Env:=zku TT [(195,yCq)] []
theorem yJd:FrOk prog ⟨yRb,25,fun _=>none⟩ yQK:=zky yg yh ⟨yTN,trivial⟩
abbrev ysP:List Par:= [.rd tS]
abbrev ytb:List OT:= [⟨false,tL,(.ow .fz)⟩]
def yAD (a0:dS):Option (zaY ytb×zak ysP) :=let r1:=yD a0;bif(!r1)then some ((([]:List Int),()),()) else some ((([21317,a0.1,a0.2.1,a0.2.2.1,a0.2.2.2.1,a0.2.2.2.2.1,a0.2.2.2.2.2.1,(i64.wrap (a0.2.2.2.2.2.2.1+1)),a0.2.2.2.2.2.2.2]:List Int),()),())
theorem yMw:ConOk prog 144 ⟨ysP,ytb,fun x=>yAD x.1⟩:=zkG (yJd) func144 ntmps144.symm fun x=>by kernel_rfl
def yl (a0:dS):(List Int) :=let r1:=yD a0;bif(!r1)then ([]:List Int) else ([21317,a0.1,a0.2.1,a0.2.2.1,a0.2.2.2.1,a0.2.2.2.2.1,a0.2.2.2.2.2.1,(i64.wrap (a0.2.2.2.2.2.2.1+1)),a0.2.2.2.2.2.2.2]:List Int)
def yoW:Con:=⟨ysP,ytb,fun x=>(fun n=>some ((n,()),())) (yl x.1)⟩
theorem yPq (a0:dS):yAD a0=(fun n=>some ((n,()),())) (yl a0):=zkT (p:=fun(n:(List Int))=>((n,()),())) (zkE (p:=fun(n:(List Int))=>((n,()),())) rfl rfl)
theorem yDg:ConOk prog 144 yoW:=(yMw).mono (fun x r _ h=>(yPq x.1).trans h)
theorem yHz {s:dS} (h:yD s=true):yel (yl s)=(s,true):=by
 have hs:=ywV.1 h;have hg:=yn.1 hs.1;simp only at hg
 have hp:yl s= [21317,s.1,s.2.1,s.2.2.1,s.2.2.2.1,s.2.2.2.2.1,s.2.2.2.2.2.1,s.2.2.2.2.2.2.1+1,s.2.2.2.2.2.2.2]:=by
  unfold yl;rw[h,wq (s.2.2.2.2.2.2.1+1) (by omega) (by omega)]; rfl
 have ha:yGK (yl s)=s:=by
  rw[hp];show(s.1,s.2.1,s.2.2.1,s.2.2.2.1,s.2.2.2.2.1,s.2.2.2.2.2.1,i64.wrap (s.2.2.2.2.2.2.1+1-1),s.2.2.2.2.2.2.2)=s;rw[wq (s.2.2.2.2.2.2.1+1-1) (by omega) (by omega),Int.add_sub_cancel]
 unfold yel;rw[ha,h,hp]; rfl
abbrev ya (a:dA):Bool:=a.2.2.2.2.2.2.2.2.2.2.1
def ykF (a:dA) (f:Int) (d:Bool):dA:=(a.1,a.2.1,a.2.2.1,a.2.2.2.1,a.2.2.2.2.1,a.2.2.2.2.2.1,a.2.2.2.2.2.2.1,a.2.2.2.2.2.2.2.1,a.2.2.2.2.2.2.2.2.1,f,d,a.2.2.2.2.2.2.2.2.2.2.2)
def opA (a:dA):Bool×dA:=bif ya a then(false,a)else bif a.2.2.2.2.2.2.2.2.2.1==0 then(false,ykF a (-1) true)else bif ltb 0 a.2.2.2.2.2.2.2.2.2.1 then(true,ykF a (i64.wrap (a.2.2.2.2.2.2.2.2.2.1-1)) (ya a))else(true,a)
def ybj (a:dA) (m:Int) (x:dM):dA:=(a.1,a.2.1,a.2.2.1.set m.toNat x,a.2.2.2)
def ybk (a:dA) (m n:Int) (s:List Int):dA:=bif(nth a.2.2.1 m yc).2.2.1 then a else bif(opA a).1 then ybj (opA a).2 m (yT (nth a.2.2.1 m yc) n s).1 else(opA a).2
def yW (a:dA) (i:Nat):dA:=bif(nth a.2.2.1 i yc).2.2.1 then a else bif(opA a).1 then ybj (opA a).2 i (yz (nth a.2.2.1 i yc))else(opA a).2
def yd (a:dA):dA:=(List.range a.2.2.1.length).foldl yW a
def yKF (a:dA) (i:Int):dS:=(a.1,a.2.2.2.2.2.2.2.1,i,a.2.1.1,a.2.1.2,a.2.2.2.2.2.2.1,a.2.2.2.1,a.2.2.2.2.1)
def y9 (a:dA) (i:Nat):dA:=ybk a i (a.2.2.2.2.2.2.2.1.tmod 2) (yl (yKF a i))
def yaq (a:dA):dA:=(a.1,a.2.1,a.2.2.1,a.2.2.2.1,a.2.2.2.2.1,a.2.2.2.2.2.1,a.2.2.2.2.2.2.1,i64.wrap (a.2.2.2.2.2.2.2.1+1),a.2.2.2.2.2.2.2.2)
def yy (a:dA):dA:=yd ((List.range a.2.2.1.length).foldl y9 (yaq a))
theorem yaL (a:dA):(opA a).2.2.2.1=a.2.2.1:=by
 unfold opA;cases ya a
 ·cases(a.2.2.2.2.2.2.2.2.2.1==0)
  ·cases ltb 0 a.2.2.2.2.2.2.2.2.2.1<;>rfl
  ·rfl
 ·rfl
theorem yWB {a:dA} (h:ya a=false):ya (opA a).2= !(opA a).1:=by
 unfold opA;rw[h];cases(a.2.2.2.2.2.2.2.2.2.1==0)
 ·cases ltb 0 a.2.2.2.2.2.2.2.2.2.1
  ·exact h
  ·rfl
 ·rfl
theorem y0U {a:dA} (h:ya a=true):opA a=(false,a):=by unfold opA; rw[h]; rfl
theorem you (a:dA) (m n:Int) (s:List Int):(ybk a m n s).2.2.1.length=a.2.2.1.length:=by
 unfold ybk;cases(nth a.2.2.1 m yc).2.2.1
 ·cases(opA a).1
  ·show(opA a).2.2.2.1.length=_; rw[yaL]
  ·show((opA a).2.2.2.1.set m.toNat _).length=_; rw[List.length_set,yaL]
 ·rfl
theorem yli (a:dA) (i:Nat):(yW a i).2.2.1.length=a.2.2.1.length:=by
 unfold yW;cases(nth a.2.2.1 i yc).2.2.1
 ·cases(opA a).1
  ·show(opA a).2.2.2.1.length=_; rw[yaL]
  ·show((opA a).2.2.2.1.set _ _).length=_; rw[List.length_set,yaL]
 ·rfl
theorem yiB {one:dA→Nat→dA} (h: ∀a i,(one a i).2.2.1.length=a.2.2.1.length): ∀(l:List Nat) (a:dA),(l.foldl one a).2.2.1.length=a.2.2.1.length
 | [],_=>rfl
 | x::l,a=>by rw[List.foldl_cons,yiB h l,h]
theorem yHn (a:dA):(yd a).2.2.1.length=a.2.2.1.length:=yiB yli _ _
theorem yni {a:dA} (h:ya a=true) (m n:Int) (s:List Int):ybk a m n s=a:=by
 unfold ybk;rw[y0U h];cases(nth a.2.2.1 m yc).2.2.1<;>rfl
theorem yDH {a:dA} (i:Nat) (h:ya a=true):yW a i=a:=by
 unfold yW;rw[y0U h];cases(nth a.2.2.1 i yc).2.2.1<;>rfl
theorem yj0 {one:dA→Nat→dA} (hs: ∀a i,ya a=true→one a i=a): ∀(l:List Nat) (a:dA),ya a=true→l.foldl one a=a
 | [],_,_=>rfl
 | x::l,a,h=>by rw[List.foldl_cons,hs a x h]; exact yj0 hs l a h
theorem yr2 {a:dA} (h:ya a=true):yd a=a:=yj0 (fun _ i h=>yDH i h) _ a h
theorem yZ3 {a:dA} (h:ya a=false) (m n:Int) (s:List Int):ya (ybk a m n s)=(!(nth a.2.2.1 m yc).2.2.1&& !(opA a).1):=by
 have:=yWB h;unfold ybk;cases(nth a.2.2.1 m yc).2.2.1
 ·cases ho:(opA a).1
  ·rw[ho]at this; exact this
  ·rw[ho]at this; exact this
 ·exact h
theorem yKo {a:dA} (h:ya a=false) (i:Nat):ya (yW a i)=(!(nth a.2.2.1 i yc).2.2.1&& !(opA a).1):=by
 have:=yWB h;unfold yW;cases(nth a.2.2.1 i yc).2.2.1
 ·cases ho:(opA a).1
  ·rw[ho]at this; exact this
  ·rw[ho]at this; exact this
 ·exact h
theorem yC2 {one:dA→Nat→dA} (hs: ∀a i,ya a=true→one a i=a): ∀(k i:Nat) (s:dA),goE (fun i s=>bif ya (one s i)then(.inr (one s i):dA ⊕ dA)else .inl (one s i)) id k i s=(List.range' i k).foldl one s
 | 0,_,_=>rfl
 | k+1,i,s=>by
  rw[List.range'_succ,List.foldl_cons,goE];cases hd:ya (one s i)
  ·exact yC2 hs k (i+1) (one s i)
  ·exact(yj0 hs _ _ hd).symm
def yas (a:dA) (m:Int):dA:=(a.1,a.2.1,a.2.2.1.set m.toNat (ye7 (nth a.2.2.1 m yc)),m,0,a.2.2.2.2.2)
def yRC (a:dA) (m:Int):dA:=(a.1,a.2.1,a.2.2.1.set m.toNat (ye7 (nth a.2.2.1 m yc)),a.2.2.2.1,a.2.2.2.2.1,a.2.2.2.2.2.1,a.2.2.2.2.2.2.1,a.2.2.2.2.2.2.2.1,a.2.2.2.2.2.2.2.2.1,a.2.2.2.2.2.2.2.2.2.1,a.2.2.2.2.2.2.2.2.2.2.1,true)
def yhe (a:dA) (m:Int):dA:=bif a.2.2.2.1== -1||a.2.2.2.1==m then(bif !(ya a)&&(!a.2.2.2.2.2.2.2.2.2.2.2&&ltb a.2.2.2.2.2.2.2.1 60000)then yy (yas a m)else yas a m)else yRC a m
theorem y2H (a:dA):(yy a).2.2.1.length=a.2.2.1.length:=(yHn _).trans (yiB (one:=y9) (fun _ _=>you _ _ _ _) _ (yaq a))
theorem yHg (a:dA):(opA a).2.2.2.2.2.2.2.2.2.1=a.2.2.2.2.2.2.2.2.1:=by
 unfold opA;cases ya a
 ·cases(a.2.2.2.2.2.2.2.2.2.1==0)
  ·cases ltb 0 a.2.2.2.2.2.2.2.2.2.1<;>rfl
  ·rfl
 ·rfl
theorem y13 (a:dA) (m n:Int) (s:List Int):(ybk a m n s).2.2.2.2.2.2.2.2.1=a.2.2.2.2.2.2.2.2.1:=by
 unfold ybk;cases(nth a.2.2.1 m yc).2.2.1
 ·cases(opA a).1
  ·exact yHg a
  ·exact yHg a
 ·rfl
theorem yY6 (a:dA) (i:Nat):(yW a i).2.2.2.2.2.2.2.2.1=a.2.2.2.2.2.2.2.2.1:=by
 unfold yW;cases(nth a.2.2.1 i yc).2.2.1
 ·cases(opA a).1
  ·exact yHg a
  ·exact yHg a
 ·rfl
theorem yGV {one:dA→Nat→dA} (h: ∀a i,(one a i).2.2.2.2.2.2.2.2.1=a.2.2.2.2.2.2.2.2.1): ∀(l:List Nat) (a:dA),(l.foldl one a).2.2.2.2.2.2.2.2.1=a.2.2.2.2.2.2.2.2.1
 | [],_=>rfl
 | x::l,a=>by rw[List.foldl_cons,yGV h l,h]
theorem yHl (a:dA):(yd a).2.2.2.2.2.2.2.2.1=a.2.2.2.2.2.2.2.2.1:=yGV yY6 _ _
theorem y1k (a:dA):(yy a).2.2.2.2.2.2.2.2.1=a.2.2.2.2.2.2.2.2.1:=(yHl _).trans (yGV (one:=y9) (fun _ _=>y13 _ _ _ _) _ (yaq a))
def yaY (n:Int):dM:=bif leb 1 n&&leb n 20 then(List.replicate n.toNat [],[],false,[])else yc
theorem yJu {n:Int} (h1:1≤n) (h2:n≤20):yu (yaY n)=true:=by
 unfold yaY;rw[zk0 h1,zk0 h2];refine yqW ?_ rfl rfl ?_ ?_ (Nat.zero_le _)
 ·show(List.replicate n.toNat ([]:List Int)).all yav=true
  rw[List.all_eq_true];intro x hx;rw[(List.mem_replicate.1 hx).2]; rfl
 ·show 1≤(List.replicate n.toNat ([]:List Int)).length; rw[List.length_replicate]; omega
 ·show(List.replicate n.toNat ([]:List Int)).length≤20; rw[List.length_replicate]; omega
def yV (a:dA):dA:=(a.1,a.2.1,a.2.2.1.set a.2.2.2.1.toNat (yaY (6+a.2.1.2)),a.2.2.2.1,0,a.2.2.2.2.2)
def yQ (a:dA):dA:=(a.1,a.2.1,a.2.2.1,a.2.2.2.1,a.2.2.2.2.1,a.2.2.2.2.2.1,a.2.2.2.2.2.1,a.2.2.2.2.2.2.2)
def yo (a:dA):dA:=bif ya (yd a)then yd a else yy (yQ (yd a))
theorem y1F (a:dA):(yo a).2.2.1.length=a.2.2.1.length:=by
 unfold yo;cases ya (yd a)
 ·exact(y2H (yQ (yd a))).trans (yHn a)
 ·exact yHn a
theorem yMY (a:dA):(yo a).2.2.2.2.2.2.2.2.1=a.2.2.2.2.2.2.2.2.1:=by
 unfold yo;cases ya (yd a)
 ·exact(y1k (yQ (yd a))).trans (yHl a)
 ·exact yHl a
def yZT (id:Int) (g:dG) (i:Int):dS:=(id,0,i,g.1,g.2,0,-1,0)
def yon (m:dM) (s:Nat):dM:=(m.1.set (s+6) [0],m.2)
def yiu (id:Int) (g:dG) (i:Int):dM:=((yaY (6+g.2)).1.set 0 (yl (yZT id g i)),(yaY (6+g.2)).2)
def yM (id:Int) (g:dG) (i:Int):dM:=(List.range g.2.toNat).foldl yon (yiu id g i)
def yBY (a:dA) (m:dM):dA:=(a.1,a.2.1,a.2.2.1++ [m],a.2.2.2)
def yB3 (id:Int) (g:dG):dA:=(id,g,[],-1,0,0,0,0,[],-1,false,false)
def yed (id:Int) (g:dG):dA:=bif ye g&&(leb 1 id&&leb id 60000)then(List.range g.1.toNat).foldl (fun a (i:Nat)=>yBY a (yM id g i)) (yB3 id g)else yaB
theorem yM6 (l:List Nat) (m:dM):(l.foldl yon m).1.length=m.1.length:=by
 induction l generalizing m with
 | nil=>rfl
 | cons x t ih=>rw[List.foldl_cons,ih]; show(m.1.set _ _).length=_; rw[List.length_set]
def yw (a:dA):Int×(Int×Int)×Int×Int×Int×Int×Int×List dW×Bool:=(a.1,a.2.1,a.2.2.2.1,a.2.2.2.2.1,a.2.2.2.2.2.1,a.2.2.2.2.2.2.1,a.2.2.2.2.2.2.2.1,a.2.2.2.2.2.2.2.2.1,a.2.2.2.2.2.2.2.2.2.2.2)
theorem yGx (a:dA):yw (opA a).2=yw a:=by
 unfold opA;cases ya a
 ·cases(a.2.2.2.2.2.2.2.2.2.1==0)
  ·cases ltb 0 a.2.2.2.2.2.2.2.2.2.1<;>rfl
  ·rfl
 ·rfl
theorem ygW (a:dA) (m n:Int) (s:List Int):yw (ybk a m n s)=yw a:=by
 unfold ybk;cases(nth a.2.2.1 m yc).2.2.1
 ·cases(opA a).1
  ·exact yGx a
  ·exact yGx a
 ·rfl
theorem yKn (a:dA) (i:Nat):yw (yW a i)=yw a:=by
 unfold yW;cases(nth a.2.2.1 i yc).2.2.1
 ·cases(opA a).1
  ·exact yGx a
  ·exact yGx a
 ·rfl
theorem ymX {one:dA→Nat→dA} (h: ∀a i,yw (one a i)=yw a): ∀(l:List Nat) (a:dA),yw (l.foldl one a)=yw a
 | [],_=>rfl
 | x::l,a=>by rw[List.foldl_cons,ymX h l,h]
theorem yaD (a:dA):yw (yd a)=yw a:=ymX yKn _ _
theorem yij (a:dA):yw (yy a)=yw (yaq a):=(yaD _).trans (ymX (one:=y9) (fun _ _=>ygW _ _ _ _) _ _)
theorem yah {a b:dA} (h:yw a=yw b):a.2.1=b.2.1:=congrArg (fun x=>x.2.1) h
theorem yig {a b:dA} (h:yw a=yw b):a.2.2.2.2.1=b.2.2.2.2.1:=congrArg (fun x=>x.2.2.2.1) h
theorem yRA {a b:dA} (h:yw a=yw b):a.2.2.2.2.2.2.2.2.1=b.2.2.2.2.2.2.2.2.1:=congrArg (fun x=>x.2.2.2.2.2.2.2.1) h
def y14 (b:dA):dA:=(b.1,b.2.1,b.2.2.1,b.2.2.2.1,i64.wrap (b.2.2.2.2.1+1),b.2.2.2.2.2)
def yaC (a:dA):dA:=ybk a a.2.2.2.1 (yx a.2.2.2.2.1) [nth (yP a a.2.2.2.2.1).1 a.2.2.2.1 0]
def yfg (a:dA):Int×dA:=bif(yP a a.2.2.2.2.1).2 then(bif ya (yaC a)then(6,yaC a)else(0,y14 (yaC a)))else(5,a)
def yzh (lost:Int) (br:Bool) (S:Int) (i:Nat) (m:dM):Prop:=yu m=true∧(m.1.length:Int)=6+S∧(m.2.2.1=true→(i:Int)=lost∨br=true)
def yEM (lost:Int) (br:Bool) (S:Int) (l:List dM):Prop:= ∀i,i<l.length→yzh lost br S i (nth l i yc)
theorem ym0 {lost S:Int} {br:Bool} {l:List dM} {i:Nat} {x:dM} (h:yEM lost br S l) (hx:i<l.length→yzh lost br S i x):yEM lost br S (l.set i x):=fun j hj=>by
 rw[List.length_set]at hj;by_cases e:j=i
 ·subst e
  rw[zkQ,zkH (by rw[List.length_set]; exact hj),List.getElem_set_self]; exact hx hj
 ·have:=h j hj
  rw[zkQ,zkH hj]at this;rw[zkQ,zkH (by rw[List.length_set]; exact hj),List.getElem_set_ne (fun e'=>e e'.symm)]; exact this
theorem y1n {a:dA}:ykX a=true↔yEM a.2.2.2.1 a.2.2.2.2.2.2.2.2.2.2.2 a.2.1.2 a.2.2.1∧(a.2.2.1.length:Int)=a.2.1.1:=by
 constructor
 ·intro h
  refine⟨fun i hi=>y1U h hi,?_⟩;simp only[ykX,Bool.and_eq_true,beq_iff_eq]at h; exact h.2
 ·rintro⟨h1,h2⟩
  simp only[ykX,Bool.and_eq_true,beq_iff_eq,Bool.not_eq_true',List.any_eq_false,List.mem_range];refine⟨fun i hi=> ?_,h2⟩;obtain⟨g1,g2,g3⟩:=h1 i hi;unfold ygN;rw[g1,show(((nth a.2.2.1 i yc).1.length:Int) !=6+a.2.1.2)=false from bne_eq_false_iff_eq.2 g2];cases hf:(nth a.2.2.1 i yc).2.2.1
  ·simp
  ·rcases g3 hf with e | e
   ·rw[show((i:Int) !=a.2.2.2.1)=false from bne_eq_false_iff_eq.2 e]; simp
   ·rw[e]; simp
def fuz (a:dA):Int:=a.2.2.2.2.2.2.2.2.2.1
def yE (a:dA):Prop:=(yEM a.2.2.2.1 a.2.2.2.2.2.2.2.2.2.2.2 a.2.1.2 a.2.2.1∧(a.2.2.1.length:Int)=a.2.1.1)∧ -1≤fuz a∧fuz a≤1000
def yU (a:dA):Prop:=ye a.2.1=true∧(1≤a.1∧a.1≤60000)∧yaO a.2.1 a.2.2.2.2.2.2.2.2.1=true∧(-1≤a.2.2.2.1∧a.2.2.2.1≤a.2.1.1-1)∧(0≤a.2.2.2.2.1∧a.2.2.2.2.1≤a.2.1.2)∧(a.2.2.2.1= -1→a.2.2.2.2.1=0) ∧ (0≤a.2.2.2.2.2.2.1∧a.2.2.2.2.2.2.1≤60000)∧(a.2.2.2.2.2.2.1≤a.2.2.2.2.2.1∧a.2.2.2.2.2.1≤60000)∧a.2.2.2.2.2.1≤a.2.2.2.2.2.2.1+4∧0≤a.2.2.2.2.2.2.2.1∧a.2.2.2.2.2.2.2.1≤60000
theorem yFT {a:dA}:yal a=true↔yU a∧yE a:=by
 unfold yal yU yE fuz;simp only[Bool.and_eq_true,zj5,y1n,Bool.not_eq_true',Bool.and_eq_false_iff,beq_eq_false_iff_ne,bne_eq_false_iff_eq];constructor
 ·rintro⟨h1,h2,h3,h4,h5,h6,h7,h8,h9,h10,h11,h12⟩
  exact⟨⟨h1,h2,h4,h5,h6,fun e=>h7.resolve_left (fun g=>g e),h8,h9,h10,h11.1,h11.2⟩,h3,h12⟩
 ·rintro⟨⟨h1,h2,h4,h5,h6,h7,h8,h9,h10,h11,h11'⟩,h3,h12⟩
  exact⟨h1,h2,h3,h4,h5,h6,(Decidable.em (a.2.2.2.1= -1)).elim (fun e=> .inr (h7 e)) (fun e=> .inl e),h8,h9,h10,⟨h11,h11'⟩,h12⟩
theorem yA3 {a b:dA} (h:yw b=yw a) (ha:yU a):yU b:=by
 unfold yw at h;simp only[Prod.mk.injEq]at h;obtain⟨h1,h2,h3,h4,h5,h6,h7,h8,h9⟩:=h;unfold yU at *;rw[h1,h2,h3,h4,h5,h6,h7,h8]; exact ha
theorem y3i {a b:dA} (h:yw b=yw a) (hl:b.2.2.1.length=a.2.2.1.length) (hm:yEM a.2.2.2.1 a.2.2.2.2.2.2.2.2.2.2.2 a.2.1.2 b.2.2.1) (hn:(a.2.2.1.length:Int)=a.2.1.1) (hf: -1≤fuz b∧fuz b≤1000):yE b:=by
 unfold yw at h;simp only[Prod.mk.injEq]at h;obtain⟨h1,h2,h3,h4,h5,h6,h7,h8,h9⟩:=h;unfold yE;rw[h2,h3,h9,hl]; exact⟨⟨hm,hn⟩,hf⟩
theorem y3I {a:dA} (h: -1≤fuz a∧fuz a≤1000): -1≤fuz (opA a).2∧fuz (opA a).2≤1000:=by
 unfold opA;cases ya a
 ·cases h0:(a.2.2.2.2.2.2.2.2.2.1==0)
  ·cases h1:ltb 0 a.2.2.2.2.2.2.2.2.2.1
   ·exact h
   ·have:=zj8.1 h1
    unfold fuz at h;show -1≤i64.wrap (a.2.2.2.2.2.2.2.2.2.1-1)∧i64.wrap (a.2.2.2.2.2.2.2.2.2.1-1)≤1000;rw[wr (by omega) (by omega)]; omega
  ·show -1≤(-1:Int)∧(-1:Int)≤1000; omega
 ·exact h
theorem yKB {a:dA} (h:yE a):yE (opA a).2:=y3i (yGx a) (by rw[yaL]) (by rw[yaL]; exact h.1.1) h.1.2 (y3I h.2)
theorem ypM {a:dA} {m:Int} {x:dM} (h:yE a) (hm:inb m a.2.2.1.length=true) (hx:yzh a.2.2.2.1 a.2.2.2.2.2.2.2.2.2.2.2 a.2.1.2 m.toNat (nth a.2.2.1 m yc)→yzh a.2.2.2.1 a.2.2.2.2.2.2.2.2.2.2.2 a.2.1.2 m.toNat x):yE (ybj a m x):=by
 have hm:=zj4.1 hm;refine⟨⟨ym0 h.1.1 (fun hi=>hx ?_),by show((a.2.2.1.set m.toNat x).length:Int)=_; rw[List.length_set]; exact h.1.2⟩,h.2⟩;have:=h.1.1 m.toNat hi;rwa[Int.toNat_of_nonneg hm.1]at this
theorem y1m {lost S:Int} {br:Bool} {i:Nat} {m:dM} (n:Int) (s:List Int) (h:yzh lost br S i m):yzh lost br S i (yT m n s).1 :=
 ⟨y0h n s h.1,by rw[(yya m n s).1]; exact h.2.1,by rw[(yya m n s).2]; exact h.2.2⟩
theorem y1l {lost S:Int} {br:Bool} {i:Nat} {m:dM} (h:yzh lost br S i m):yzh lost br S i (yz m) :=
 ⟨y2w h.1,by rw[(yrS m).1]; exact h.2.1,by rw[(yrS m).2]; exact h.2.2⟩
theorem ywi {a:dA} {m n:Int} {s:List Int} (h:yE a) (hm:inb m a.2.2.1.length=true):yE (ybk a m n s):=by
 unfold ybk;cases(nth a.2.2.1 m yc).2.2.1
 ·cases(opA a).1
  ·exact yKB h
  ·exact ypM (yKB h) (by rw[yaL]; exact hm) (fun g=>by rw[yaL]at g; exact y1m _ _ g)
 ·exact h
theorem yZK {a:dA} {i:Nat} (h:yE a) (hi:i<a.2.2.1.length):yE (yW a i):=by
 unfold yW;cases(nth a.2.2.1 i yc).2.2.1
 ·cases(opA a).1
  ·exact yKB h
  ·exact ypM (yKB h) (by rw[yaL]; exact zkP hi) (fun g=>by rw[yaL]at g; exact y1l g)
 ·exact h
theorem ykq {P:dA→Prop} {one:dA→Nat→dA} (hl: ∀a i,(one a i).2.2.1.length=a.2.2.1.length) (ho: ∀a i,P a→i<a.2.2.1.length→P (one a i)): ∀(n:Nat) (a:dA),n≤a.2.2.1.length→P a→P ((List.range n).foldl one a)
 | 0,_,_,h=>h
 | n+1,a,hn,h=>by
  rw[List.range_succ,List.foldl_append];exact ho _ _ (ykq hl ho n a (by omega) h) (by rw[yiB hl]; exact hn)
theorem yj2 {a:dA} (h:yE a):yE (yd a):=ykq (P:=yE) (one:=yW) yli (fun _ _=>yZK) _ a (Nat.le_refl _) h
theorem yxK {a:dA} (h:yE a):yE (yy a) :=yj2 (ykq (P:=yE) (one:=y9) (fun _ _=>you _ _ _ _) (fun _ _ h hi=>ywi h (zkP hi)) _ (yaq a) (Nat.le_refl _) h)
theorem yAY {a:dA} (h:yE a):yE (yo a):=by
 unfold yo;cases ya (yd a)
 ·exact yxK (a:=yQ (yd a)) (yj2 h)
 ·exact yj2 h
def ycp (a:dA):Prop:=ya a=false∧fuz a= -1
theorem y0T {a:dA} (h:ycp a):opA a=(true,a):=by
 unfold opA;rw[h.1,show a.2.2.2.2.2.2.2.2.2.1= -1 from h.2]; rfl
theorem yG1 {a:dA} (h:ycp a) (m n:Int) (s:List Int):ycp (ybk a m n s):=by
 unfold ybk;rw[y0T h];cases(nth a.2.2.1 m yc).2.2.1<;>exact h
theorem yZH {a:dA} (h:ycp a) (i:Nat):ycp (yW a i):=by
 unfold yW;rw[y0T h];cases(nth a.2.2.1 i yc).2.2.1<;>exact h
theorem yxv {a:dA} (h:ycp a):ycp (yd a):=ykq (P:=ycp) (one:=yW) yli (fun _ i h _=>yZH h i) _ a (Nat.le_refl _) h
theorem yW5 {a:dA} (h:ycp a):ycp (yy a) :=yxv (ykq (P:=ycp) (one:=y9) (fun _ _=>you _ _ _ _) (fun _ _ h _=>yG1 h _ _ _) _ (yaq a) (Nat.le_refl _) h)
theorem yGT {a:dA} (h:ycp a):yo a=yy (yQ (yd a)):=by
 unfold yo;rw[(yxv h).1]; rfl
theorem y1e {a:dA} (h:ycp a):ycp (yo a):=by
 rw[yGT h]; exact yW5 (a:=yQ (yd a)) (yxv h)
def Wk (k:Int) (a:dA):Prop:=yU a∧yE a∧ycp a∧a.2.2.2.2.2.2.2.2.2.2.2=false∧a.2.2.2.2.2.2.2.1≤k
theorem y3P {k:Int} {a:dA} (h:Wk k a):yal a=true:=yFT.2 ⟨h.1,h.2.1⟩
theorem yc7 {k j:Int} {a:dA} (h:Wk k a) (hj:k≤j):Wk j a:=⟨h.1,h.2.1,h.2.2.1,h.2.2.2.1,Int.le_trans h.2.2.2.2 hj⟩
theorem yA5 {k:Int} {a b:dA} (hc:yw b=yw a) (hk:yE b) (hf:ycp b) (h:Wk k a):Wk k b:=by
 refine⟨yA3 hc h.1,hk,hf,?_⟩;unfold yw at hc;simp only[Prod.mk.injEq]at hc;obtain⟨_,_,_,_,_,_,h7,_,h9⟩:=hc;rw[h7,h9]; exact h.2.2.2
theorem y3R {k:Int} {a:dA} {m n:Int} {s:List Int} (h:Wk k a) (hm:inb m a.2.2.1.length=true):Wk k (ybk a m n s):=yA5 (ygW _ _ _ _) (ywi h.2.1 hm) (yG1 h.2.2.1 _ _ _) h
theorem y3u {k:Int} {a:dA} (h:Wk k a):Wk k (yd a):=yA5 (yaD _) (yj2 h.2.1) (yxv h.2.2.1) h
theorem y2W {k:Int} {a:dA} (h:Wk k a) (hk:k+1≤60000):Wk (k+1) (yaq a):=by
 obtain⟨⟨c1,c2,c3,c4,c5,c6,c7,c8,c9,c10,c11⟩,h2,h3,h4,h5⟩:=h;have e:i64.wrap (a.2.2.2.2.2.2.2.1+1)=a.2.2.2.2.2.2.2.1+1:=wr (by omega) (by omega);refine⟨⟨c1,c2,c3,c4,c5,c6,c7,c8,c9,?_,?_⟩,h2,h3,h4,?_⟩
 ·show 0≤i64.wrap (a.2.2.2.2.2.2.2.1+1); omega
 ·show i64.wrap (a.2.2.2.2.2.2.2.1+1)≤_; omega
 ·show i64.wrap (a.2.2.2.2.2.2.2.1+1)≤_; omega
theorem yWN {k:Int} {a:dA} (h:Wk k a) (hk:k+1≤60000):Wk (k+1) (yy a):=yA5 (yij _) (yxK h.2.1) (yW5 h.2.2.1) (y2W h hk)
theorem y2f {k:Int} {a:dA} (h:Wk k a):Wk k (yQ a):=by
 obtain⟨⟨c1,c2,c3,c4,c5,c6,c7,c8,c9,c10,c11⟩,h2,h3,h4,h5⟩:=h;refine⟨⟨c1,c2,c3,c4,c5,c6,⟨?_,?_⟩,⟨Int.le_refl _,c8.2⟩,?_,c10,c11⟩,h2,h3,h4,h5⟩
 ·show 0≤a.2.2.2.2.2.1; omega
 ·show a.2.2.2.2.2.1≤60000; omega
 ·show a.2.2.2.2.2.1≤a.2.2.2.2.2.1+4; omega
theorem y0d {k:Int} {a:dA} (h:Wk k a) (hk:k+1≤60000):Wk (k+1) (yo a):=by
 rw[yGT h.2.2.1]; exact yWN (y2f (y3u h)) hk
theorem y2e {k:Int} {a:dA} {m:Int} {x:dM} (h:Wk k a) (hm:inb m a.2.2.1.length=true) (hx:yzh a.2.2.2.1 a.2.2.2.2.2.2.2.2.2.2.2 a.2.1.2 m.toNat (nth a.2.2.1 m yc)→yzh a.2.2.2.1 a.2.2.2.2.2.2.2.2.2.2.2 a.2.1.2 m.toNat x):Wk k (ybj a m x) :=yA5 (a:=a) (b:=ybj a m x) rfl (ypM h.2.1 hm hx) h.2.2.1 h
theorem y3s {k m:Int} {a:dA} (h:Wk k a) (hl:a.2.2.2.1= -1) (hm:inb m a.2.2.1.length=true) (hk:k+1≤60000):Wk (k+1) (yhe a m):=by
 have hmi:=zj4.1 hm
 have hw:Wk k (yas a m):=by
  obtain⟨⟨c1,c2,c3,c4,c5,c6,c7,c8,c9,c10,c11⟩,⟨⟨g1,g2⟩,g3⟩,f,b,t⟩:=h;refine⟨⟨c1,c2,c3,⟨?_,?_⟩,⟨Int.le_refl _,by show(0:Int)≤a.2.1.2; omega⟩,fun e=>rfl,c7,c8,c9,c10,c11⟩,⟨⟨?_,?_⟩,g3⟩,f,b,t⟩
  ·show -1≤m; omega
  ·show m≤a.2.1.1-1; omega
  ·show yEM m a.2.2.2.2.2.2.2.2.2.2.2 a.2.1.2 (a.2.2.1.set m.toNat (ye7 (nth a.2.2.1 m yc)))
   refine ym0 (fun i hi=> ?_) (fun hi=> ?_)
   ·obtain⟨e1,e2,e3⟩:=g1 i hi
    refine⟨e1,e2,fun e=> ?_⟩;rcases e3 e with e | e
    ·omega
    ·exact .inr e
   ·have:=g1 m.toNat hi
    rw[Int.toNat_of_nonneg hmi.1]at this;exact⟨yU7 this.1,this.2.1,fun _=> .inl (Int.toNat_of_nonneg hmi.1)⟩
  ·show((a.2.2.1.set m.toNat (ye7 (nth a.2.2.1 m yc))).length:Int)=a.2.1.1
   rw[List.length_set]; exact g2
 unfold yhe;rw[show(a.2.2.2.1== -1)=true from beq_iff_eq.2 hl,h.2.2.1.1,h.2.2.2.1];cases ltb a.2.2.2.2.2.2.2.1 60000
 ·exact yc7 hw (by omega)
 ·exact yWN hw hk
theorem y2Y {k:Int} {a:dA} (h:Wk k a) (hl:inb a.2.2.2.1 a.2.2.1.length=true) (hk:k+1≤60000):Wk (k+1) (yy (yV a)):=by
 have hmi:=zj4.1 hl;refine yWN ?_ hk;obtain⟨⟨c1,c2,c3,c4,c5,c6,c7,c8,c9,c10,c11⟩,⟨⟨g1,g2⟩,g3⟩,f,b,t⟩:=h;have hg:=yn.1 c1;refine⟨⟨c1,c2,c3,c4,⟨Int.le_refl _,by show(0:Int)≤a.2.1.2; omega⟩,fun e=>rfl,c7,c8,c9,c10,c11⟩,⟨⟨ym0 g1 (fun hi=>⟨yJu (by omega) (by omega),?_,fun e=> ?_⟩),?_⟩,g3⟩,f,b,t⟩
 ·unfold yaY
  rw[zk0 (show 1≤6+a.2.1.2 by omega),zk0 (show 6+a.2.1.2≤20 by omega)];show((List.replicate (6+a.2.1.2).toNat ([]:List Int)).length:Int)=6+a.2.1.2;rw[List.length_replicate]; omega
 ·unfold yaY at e
  rw[zk0 (show 1≤6+a.2.1.2 by omega),zk0 (show 6+a.2.1.2≤20 by omega)]at e;cases e
 ·show((a.2.2.1.set a.2.2.2.1.toNat (yaY (6+a.2.1.2))).length:Int)=a.2.1.1
  rw[List.length_set]; exact g2
theorem y3t {k:Int} {a:dA} (h:Wk k a) (hl:inb a.2.2.2.1 a.2.2.1.length=true) (hb:a.2.2.2.2.1<a.2.1.2):Wk k (yfg a).2:=by
 have hp:Wk k (yaC a):=y3R h hl;have e:=ygW a a.2.2.2.1 (yx a.2.2.2.2.1) [nth (yP a a.2.2.2.2.1).1 a.2.2.2.1 0];have e1:(yaC a).2.2.2.2.1=a.2.2.2.2.1:=yig e;have e2:(yaC a).2.1=a.2.1:=yah e;have e3:(yaC a).2.2.2.1=a.2.2.2.1:=congrArg (fun x=>x.2.2.1) e;unfold yfg;cases(yP a a.2.2.2.2.1).2
 ·exact h
 ·generalize yaC a=R at hp e1 e2 e3 ⊢
  rw[hp.2.2.1.1];have hmi:=zj4.1 hl;obtain⟨⟨c1,c2,c3,c4,c5,c6,c7,c8,c9,c10,c11⟩,g2,g3,g4,g5⟩:=hp;have hg:=yn.1 c1;have e4:i64.wrap (R.2.2.2.2.1+1)=R.2.2.2.2.1+1:=wr (by omega) (by omega);refine⟨⟨c1,c2,c3,c4,⟨?_,?_⟩,fun e=> ?_,c7,c8,c9,c10,c11⟩,g2,g3,g4,g5⟩
  ·show 0≤i64.wrap (R.2.2.2.2.1+1); omega
  ·show i64.wrap (R.2.2.2.2.1+1)≤R.2.1.2; rw[e4,e1,e2]; omega
  ·have:R.2.2.2.1= -1:=e
   omega
def ya1 (r:dN) (a:dA) (i:Nat):dA:=ybk a i (yf r.1) (yX r)
def yp (a:dA) (r:dN):dA:=yd ((List.range a.2.2.1.length).foldl (ya1 r) a)
theorem ykE (r:dN) (a:dA) (i:Nat):(ya1 r a i).2.2.1.length=a.2.2.1.length:=you _ _ _ _
theorem yM9 (r:dN) {a:dA} (i:Nat) (h:ya a=true):ya1 r a i=a:=yni h _ _ _
theorem yKE (a:dA) (r:dN):(yp a r).2.2.1.length=a.2.2.1.length:=(yHn _).trans (yiB (ykE r) _ _)
theorem ybe (a:dA) (r:dN):yw (yp a r)=yw a:=(yaD _).trans (ymX (one:=ya1 r) (fun _ _=>ygW _ _ _ _) _ _)
def ycw (p N x:Int) (data:List Int) (i:Int):Int:=bif i==p then x else nth data ((i-p-1+N).tmod N) 0
def ya2 (p N s:Int) (data:List Int) (a:dA) (i:Nat):dA:=bif ycq a i s then ybk a i (yx s) [ycw p N (yax data) data i]else a
def yF (a:dA) (s:Int) (data:List Int):dA:=(List.range a.2.2.1.length).foldl (ya2 (yk a.2.1 s) a.2.1.1 s data) a
theorem ypH (p N s:Int) (data:List Int) (a:dA) (i:Nat):(ya2 p N s data a i).2.2.1.length=a.2.2.1.length:=by
 unfold ya2; cases ycq a i s
 ·rfl
 ·exact you _ _ _ _
theorem yCw (p N s:Int) (data:List Int) {a:dA} (i:Nat) (h:ya a=true):ya2 p N s data a i=a:=by
 unfold ya2; cases ycq a i s
 ·rfl
 ·exact yni h _ _ _
theorem yIJ (p N s:Int) (data:List Int) (a:dA) (i:Nat):yw (ya2 p N s data a i)=yw a:=by
 unfold ya2; cases ycq a i s
 ·rfl
 ·exact ygW _ _ _ _
theorem y2s (a:dA) (s:Int) (data:List Int):(yF a s data).2.2.1.length=a.2.2.1.length:=yiB (ypH _ _ _ _) _ _
theorem ydU (a:dA) (s:Int) (data:List Int):yw (yF a s data)=yw a:=ymX (yIJ _ _ _ _) _ _
theorem y35 {N i p:Int} (h:3≤N∧N≤5) (hi:0≤i∧i<N) (hp:0≤p∧p≤N-1) (hne:i≠p):0≤(i-p-1+N).tmod N∧(i-p-1+N).tmod N<N-1:=by
 rw[Int.tmod_eq_emod_of_nonneg (by omega)];have:N=3∨N=4∨N=5:=by omega
 rcases this with rfl | rfl | rfl<;>omega
theorem y1x {N p x:Int} {data:List Int} (h:3≤N∧N≤5) (hp:0≤p∧p≤N-1) (hd:(data.length:Int)=N-1) :
  (List.range data.length).foldl (fun l (i:Nat)=>l.set ((p+1+i).tmod N).toNat (nth data i 0)) ((List.replicate N.toNat 0).set p.toNat x)=(List.range N.toNat).map (fun(i:Nat)=>ycw p N x data i):=by
 have:N=3∨N=4∨N=5:=by omega
 rcases this with rfl | rfl | rfl
 ·match data,hd with
  | [a,b],_ =>
   have:p=0∨p=1∨p=2:=by omega
   rcases this with rfl | rfl | rfl<;>simp[ycw,nth,List.range_succ,List.replicate_succ]
  | [],hd=>simp at hd
  | [_],hd=>simp at hd
  | _::_::_::_,hd=>simp only[List.length_cons]at hd; omega
 ·match data,hd with
  | [a,b,c],_ =>
   have:p=0∨p=1∨p=2∨p=3:=by omega
   rcases this with rfl | rfl | rfl | rfl<;>simp[ycw,nth,List.range_succ,List.replicate_succ]
  | [],hd=>simp at hd
  | [_],hd=>simp at hd
  | [_,_],hd=>simp at hd
  | _::_::_::_::_,hd=>simp only[List.length_cons]at hd; omega
 ·match data,hd with
  | [a,b,c,d],_ =>
   have:p=0∨p=1∨p=2∨p=3∨p=4:=by omega
   rcases this with rfl | rfl | rfl | rfl | rfl<;>simp[ycw,nth,List.range_succ,List.replicate_succ]
  | [],hd=>simp at hd
  | [_],hd=>simp at hd
  | [_,_],hd=>simp at hd
  | [_,_,_],hd=>simp at hd
  | _::_::_::_::_::_,hd=>simp only[List.length_cons]at hd; omega
def yhc (a:dA):dA:=yp a (yay a a.2.2.2.2.2.1).1
def yjV (a:dA):dA:=yF (yJ (yhc a)) (yay a a.2.2.2.2.2.1).1.2.1 (yay a a.2.2.2.2.2.1).1.2.2
def ypu (_:Nat) (a:dA):dA ⊕ (dA ⊕ dA) :=bif !(yay a a.2.2.2.2.2.1).2||leb 60000 a.2.2.2.2.2.1 then .inr (.inl a)else bif ya (yhc a)then .inr (.inr (yhc a))else bif ya (yjV a)then .inr (.inr (yjV a))else .inl (yjV a)
def yKm (a:dA):dA:=match goE ypu .inl 4 0 a with
 | .inl b=>yo b
 | .inr b=>b
def ylg (a:dA):dA:=bif yal a&&(!(ya a)&&(!a.2.2.2.2.2.2.2.2.2.2.2&&ltb a.2.2.2.2.2.2.2.1 60000))then yKm a else a
def ynp (l:List dM) (ks:List Int) (id fuse:Int):dA×Bool :=bif(yfl (yad l ks) id).2 then(ylg (bif leb (-1) fuse&&leb fuse 1000 then ykF (yfl (yad l ks) id).1 fuse (ya (yfl (yad l ks) id).1)else(yfl (yad l ks) id).1),true)else(yaB,false)
theorem yZ6 (a:dA):(yhc a).2.1=a.2.1:=yah (ybe _ _)
theorem y2P (a:dA):(yjV a).2.1=a.2.1:=(yah (ydU (yJ (yhc a)) _ _)).trans (yZ6 a)
theorem y2Q (a:dA):(yjV a).2.2.1.length=a.2.2.1.length:=(y2s (yJ (yhc a)) _ _).trans (yKE a _)
theorem yZ7: ∀(k i:Nat) (a b:dA),ya a=false→goE ypu .inl k i a= .inl b→ya b=false
 | 0,_,a,b,h,e=>by cases e; exact h
 | k+1,i,a,b,h,e=>by
  unfold goE ypu at e;cases hc:(!(yay a a.2.2.2.2.2.1).2||leb 60000 a.2.2.2.2.2.1)
  ·rw[hc]at e
   cases hd1:ya (yhc a)
   ·rw[hd1]at e
    cases hd2:ya (yjV a)
    ·rw[hd2]at e
     exact yZ7 k (i+1) (yjV a) b hd2 e
    ·rw[hd2]at e; cases e
   ·rw[hd1]at e; cases e
  ·rw[hc]at e; cases e; exact h
theorem ymV {a b:dA} (h:yw a=yw b):a.2.2.2.1=b.2.2.2.1:=congrArg (fun x=>x.2.2.1) h
def yi (a:dA) (i:Int):dM:=nth a.2.2.1 i yc
theorem yKz {a:dA} {m i:Int} {x:dM} (hm:inb m a.2.2.1.length=true) (hi:0≤i):yi (ybj a m x) i=bif m==i then x else yi a i:=yDa hm hi
def ydY (n:Int) (s:List Int) (m:dM):dM:=bif m.2.2.1 then m else(yT m n s).1
def Did (g:dM→dM) (i:Int) (a r:dA):Prop:=yw r=yw a∧r.2.2.1.length=a.2.2.1.length ∧ ((ya r=false∧ ∀j,0≤j→yi r j=bif i==j then g (yi a j)else yi a j)∨(ya r=true∧ ∀j,yi r j=yi a j))
theorem yA4 {a:dA} {m:Int} (n:Int) (s:List Int) (h:ya a=false) (hm:inb m a.2.2.1.length=true):Did (ydY n s) m a (ybk a m n s):=by
 refine⟨ygW _ _ _ _,you _ _ _ _,?_⟩;have hd:=yZ3 h m n s;unfold ybk at hd ⊢;cases hf:(nth a.2.2.1 m yc).2.2.1
 ·rw[hf]at hd
  cases ho:(opA a).1
  ·rw[ho]at hd
   refine .inr ⟨hd,fun j=> ?_⟩;show nth (opA a).2.2.2.1 j yc=yi a j;rw[yaL]; rfl
  ·rw[ho]at hd
   refine .inl ⟨hd,fun j hj=> ?_⟩;show yi (ybj (opA a).2 m (yT (nth a.2.2.1 m yc) n s).1) j=_;rw[yKz (by rw[yaL]; exact hm) hj];cases hj2:(m==j)
   ·show nth (opA a).2.2.2.1 j yc=yi a j
    rw[yaL]; rfl
   ·have:=beq_iff_eq.1 hj2
    subst this;show _=ydY n s (yi a m);unfold ydY yi;rw[hf]; rfl
 ·refine .inl ⟨h,fun j hj=> ?_⟩
  cases hj2:(m==j)
  ·rfl
  ·have:=beq_iff_eq.1 hj2
   subst this;show yi a m=ydY n s (yi a m);unfold ydY yi;rw[hf]; rfl
theorem y2R {a:dA} {i:Nat} (h:ya a=false) (hm:i<a.2.2.1.length):Did yz i a (yW a i):=by
 refine⟨yKn _ _,yli _ _,?_⟩;have hd:=yKo h i;unfold yW at hd ⊢;cases hf:(nth a.2.2.1 i yc).2.2.1
 ·rw[hf]at hd
  cases ho:(opA a).1
  ·rw[ho]at hd
   refine .inr ⟨hd,fun j=> ?_⟩;show nth (opA a).2.2.2.1 j yc=yi a j;rw[yaL]; rfl
  ·rw[ho]at hd
   refine .inl ⟨hd,fun j hj=> ?_⟩;show yi (ybj (opA a).2 i (yz (nth a.2.2.1 i yc))) j=_;rw[yKz (by rw[yaL]; exact zkP hm) hj];cases hj2:((i:Int)==j)
   ·show nth (opA a).2.2.2.1 j yc=yi a j
    rw[yaL]; rfl
   ·have:=beq_iff_eq.1 hj2
    subst this; rfl
 ·refine .inl ⟨h,fun j hj=> ?_⟩
  cases hj2:((i:Int)==j)
  ·rfl
  ·have:=beq_iff_eq.1 hj2
   subst this;show yi a i=yz (yi a i);unfold yz yi;rw[hf,Bool.not_true,Bool.and_false]; rfl
def Adv (g:Int→dM→dM) (a r:dA) (n:Nat):Prop:=yw r=yw a∧r.2.2.1.length=a.2.2.1.length ∧ ∃k:Nat,k≤n∧(∀j:Int,0≤j→yi r j=bif ltb j k then g j (yi a j)else yi a j)∧(ya r=false→k=n)
theorem yB0 {one:dA→Nat→dA} {g:Int→dM→dM} {a:dA} (hs: ∀b i,ya b=true→one b i=b)
  (ho: ∀(b:dA) (i:Nat),yw b=yw a→b.2.2.1.length=a.2.2.1.length→i<a.2.2.1.length→ya b=false→yi b i=yi a i→Did (g i) i b (one b i)) (hd:ya a=false) :
  ∀n,n≤a.2.2.1.length→Adv g a ((List.range n).foldl one a) n
 | 0,_=>⟨rfl,rfl,0,Nat.le_refl _,fun j hj=>by rw[zk1 (show((0:Nat):Int)≤j by omega)]; rfl,fun _=>rfl⟩
 | n+1,hn=>by
  obtain⟨h1,h2,k,h3,h4,h5⟩:=yB0 hs ho hd n (by omega);rw[List.range_succ,List.foldl_append,List.foldl_cons,List.foldl_nil];generalize (List.range n).foldl one a=R at h1 h2 h4 h5 ⊢;cases hR:ya R
  ·have hk:=h5 hR
   subst hk;have e:yi R k=yi a k:=by rw[h4 k (by omega),zk1 (Int.le_refl _)]; rfl
   obtain⟨g1,g2,g3⟩:=ho R k h1 h2 (by omega) hR e;refine⟨g1.trans h1,g2.trans h2,?_⟩;rcases g3 with⟨g3,g4⟩ | ⟨g3,g4⟩
   ·refine⟨k+1,Nat.le_refl _,fun j hj=> ?_,fun _=>rfl⟩
    rw[g4 j hj];by_cases hj2:(k:Int)=j
    ·subst hj2
     rw[show((k:Int)==(k:Int))=true from beq_self_eq_true _,zkw (show(k:Int)<((k+1:Nat):Int)by omega),e]; try rfl
    ·rw[show((k:Int)==j)=false from beq_eq_false_iff_ne.2 hj2,cond_false,h4 j hj,show ltb j ((k+1:Nat):Int)=ltb j k by rw[Bool.eq_iff_iff,zj8,zj8]; omega]
   ·refine⟨k,by omega,fun j hj=>by rw[g4 j,h4 j hj],fun h=> ?_⟩
    rw[g3]at h; cases h
  ·rw[hs R n hR]
   exact⟨h1,h2,k,by omega,h4,fun h=>by rw[hR]at h; cases h⟩
theorem yQx {a:dA} (hd:ya a=false):Adv (fun _=>yz) a (yd a) a.2.2.1.length :=
 yB0 (one:=yW) (g:=fun _=>yz) (fun _ i h=>yDH i h) (fun b i _ h2 hi hb _=>y2R hb (by omega)) hd _ (Nat.le_refl _)
theorem yZC {a b:dA} (h:yw b=yw a) (i:Int):yKF b i=yKF a i:=by
 unfold yw at h;simp only[Prod.mk.injEq]at h;obtain⟨h1,h2,h3,h4,h5,h6,h7,h8,h9⟩:=h;unfold yKF;rw[h1,h2,h3,h4,h6,h7]
theorem yqV {a b:dA} (h:yw b=yw a):b.2.2.2.2.2.2.2.1=a.2.2.2.2.2.2.2.1:=congrArg (fun x=>x.2.2.2.2.2.2.1) h
theorem yqU {a b:dA} (h:yw b=yw a):b.2.2.2.2.2.2.2.2.2.2.2=a.2.2.2.2.2.2.2.2.2.2.2:=congrArg (fun x=>x.2.2.2.2.2.2.2.2) h
theorem y28 {a b:dA} (h:yw b=yw a):b.1=a.1:=congrArg (fun x=>x.1) h
def yY9 (a:dA) (i:Int) (m:dM):dM:=ydY (a.2.2.2.2.2.2.2.1.tmod 2) (yl (yKF a i)) m
theorem yZQ {a:dA} (hd:ya a=false):Adv (yY9 a) a ((List.range a.2.2.1.length).foldl y9 a) a.2.2.1.length :=
 yB0 (one:=y9) (g:=yY9 a) (fun _ i h=>yni h _ _ _) (fun b i h1 h2 hi hb _=>by
  have:=yA4 (b.2.2.2.2.2.2.2.1.tmod 2) (yl (yKF b i)) hb (show inb (i:Int) b.2.2.1.length=true from zkP (by omega));rw[yqV h1,yZC h1]at this;unfold yY9 y9;rw[yqV h1,yZC h1]
  exact this) hd _ (Nat.le_refl _)
theorem y0V {a:dA} (r:dN) (hd:ya a=false):Adv (fun _=>ydY (yf r.1) (yX r)) a ((List.range a.2.2.1.length).foldl (ya1 r) a) a.2.2.1.length :=
 yB0 (one:=ya1 r) (g:=fun _=>ydY (yf r.1) (yX r)) (fun _ i h=>yM9 r i h) (fun b i _ h2 hi hb _=>yA4 _ _ hb (zkP (by omega))) hd _ (Nat.le_refl _)
def yab (L B i s:Int) (m:dM):Bool:= !m.2.2.1&&(i !=L||ltb s B)
theorem y0O {a:dA} {i s:Int} (hi:inb i a.2.2.1.length=true):ycq a i s=yab a.2.2.2.1 a.2.2.2.2.1 i s (yi a i):=by
 unfold ycq yab yi;rw[hi]; rfl
def yii (L B p N s:Int) (d:List Int) (i:Int) (m:dM):dM:=bif yab L B i s m then(yT m (yx s) [ycw p N (yax d) d i]).1 else m
theorem yNJ {a:dA} (s:Int) (d:List Int) (hd:ya a=false):Adv (yii a.2.2.2.1 a.2.2.2.2.1 (yk a.2.1 s) a.2.1.1 s d) a (yF a s d) a.2.2.1.length :=
 yB0 (one:=ya2 (yk a.2.1 s) a.2.1.1 s d) (g:=yii a.2.2.2.1 a.2.2.2.2.1 (yk a.2.1 s) a.2.1.1 s d) (fun _ i h=>yCw _ _ _ _ i h) (fun b i h1 h2 hi hb _=>by
  have hib:inb (i:Int) b.2.2.1.length=true:=zkP (by omega);unfold ya2;rw[y0O hib,ymV h1,yig h1];cases hl:yab a.2.2.2.1 a.2.2.2.2.1 i s (yi b i)
  ·refine⟨rfl,rfl,.inl ⟨hb,fun j hj=> ?_⟩⟩
   by_cases hj2:(i:Int)=j
   ·subst hj2
    rw[beq_self_eq_true];show yi b i=yii _ _ _ _ _ _ _ (yi b i);unfold yii;rw[hl]; rfl
   ·rw[show((i:Int)==j)=false from beq_eq_false_iff_ne.2 hj2]; rfl
  ·obtain⟨g1,g2,g3⟩:=yA4 (yx s) [ycw (yk a.2.1 s) a.2.1.1 (yax d) d i] hb hib
   refine⟨g1,g2,g3.imp (fun⟨g3,g4⟩=>⟨g3,fun j hj=> ?_⟩) id⟩;show yi (ybk b i (yx s) _) j=_;rw[g4 j hj];by_cases hj2:(i:Int)=j
   ·subst hj2
    rw[beq_self_eq_true,cond_true,cond_true];unfold yii ydY;rw[hl,cond_true];simp only[yab,Bool.and_eq_true,Bool.not_eq_true']at hl;rw[hl.1]; rfl
   ·rw[show((i:Int)==j)=false from beq_eq_false_iff_ne.2 hj2]; rfl) hd _ (Nat.le_refl _)
theorem yKa (s:dS):yav (yl s)=true:=by
 unfold yl;cases h:yD s
 ·rfl
 ·unfold yD at h
  simp only[ycx]at h;cases hg:ye (s.2.2.2.1,s.2.2.2.2.1)
  ·rw[hg]at h; cases h
  have hge:=yn.1 hg;simp only at hge;rw[hg,wq (s.2.2.2.1-1) (by omega) (by omega)]at h;cases h2:(leb 1 s.1&&leb s.1 60000)
  ·rw[h2]at h; cases h
  cases h3:(leb 0 s.2.1&&leb s.2.1 60000)
  ·rw[h2,h3]at h; cases h
  cases h4:(leb 0 s.2.2.1&&leb s.2.2.1 (s.2.2.2.1-1))
  ·rw[h2,h3,h4]at h; cases h
  cases h5:(leb 0 s.2.2.2.2.2.1&&leb s.2.2.2.2.2.1 60000)
  ·rw[h2,h3,h4,h5]at h; cases h
  cases h6:(leb (-1) s.2.2.2.2.2.2.1&&leb s.2.2.2.2.2.2.1 (s.2.2.2.1-1))
  ·rw[h2,h3,h4,h5,h6]at h; cases h
  cases h7:(leb 0 s.2.2.2.2.2.2.2&&leb s.2.2.2.2.2.2.2 s.2.2.2.2.1)
  ·rw[h2,h3,h4,h5,h6,h7]at h; cases h
  simp only[Bool.and_eq_true,zj5]at h2 h3 h4 h5 h6 h7;rw[yxV];refine⟨by show(9:Nat)≤12; omega,?_⟩;have hw:i64.wrap (s.2.2.2.2.2.2.1+1)=s.2.2.2.2.2.2.1+1:=wr (by omega) (by omega);simp only[Bool.not_true,cond_false,hw,List.mem_cons,List.not_mem_nil,or_false]
  rintro x (rfl | rfl | rfl | rfl | rfl | rfl | rfl | rfl | rfl)<;>omega
theorem yoo {g:dG} (id i:Int) (hg:ye g=true):yu (yM id g i)=true∧((yM id g i).1.length:Int)=6+g.2∧(yM id g i).2=([],false,[]):=by
 have hge:=yn.1 hg
 have hm:yaY (6+g.2)=(List.replicate (6+g.2).toNat [],[],false,[]):=by
  unfold yaY;rw[zk0 (show 1≤6+g.2 by omega),zk0 (show 6+g.2≤20 by omega)]; rfl
 have key: ∀(l:List Nat) (m:dM),m.1.all yav=true∧m.2=([],false,[])→(l.foldl yon m).1.all yav=true∧(l.foldl yon m).2=([],false,[]):=by
  intro l
  induction l with
  | nil=>intro m h; exact h
  | cons x t ih =>
   intro m h;refine ih _ ⟨?_,h.2⟩;rw[List.all_eq_true];intro y hy;rcases List.mem_or_eq_of_mem_set hy with h1 | rfl
   ·exact List.all_eq_true.1 h.1 y h1
   ·rfl
 have ht:(yiu id g i).1.all yav=true∧(yiu id g i).2=([],false,[]):=by
  unfold yiu;rw[hm];refine⟨?_,rfl⟩;rw[List.all_eq_true];intro y hy;rcases List.mem_or_eq_of_mem_set hy with h1 | rfl
  ·rw[List.eq_of_mem_replicate h1]; rfl
  ·exact yKa _
 have hl:((yM id g i).1.length:Int)=6+g.2:=by
  unfold yM;rw[yM6];unfold yiu;rw[hm];show(((List.replicate (6+g.2).toNat ([]:List Int)).set 0 _).length:Int)=_;rw[List.length_set,List.length_replicate]; omega
 obtain⟨h1,h2⟩:=key (List.range g.2.toNat) _ ht;refine⟨yqW h1 ?_ ?_ ?_ ?_ ?_,hl,h2⟩
 ·show List.all ((yM id g i).2).1 _=true
  rw[show(yM id g i).2=([],false,[])from h2]; rfl
 ·show yob _ ((yM id g i).2).2.2=true
  rw[show(yM id g i).2=([],false,[])from h2,yrL];exact⟨fun x hx=>absurd hx List.not_mem_nil,List.Pairwise.nil⟩
 ·show 1≤(yM id g i).1.length; omega
 ·show(yM id g i).1.length≤20; omega
 ·show((yM id g i).2).1.length≤60
  rw[show(yM id g i).2=([],false,[])from h2]; exact Nat.zero_le _
theorem yDX {id:Int} {g:dG} (hg:ye g=true) (h1:1≤id) (h2:id≤60000):yed id g=(id,g,(List.range g.1.toNat).map (fun(i:Nat)=>yM id g i),-1,0,0,0,0,[],-1,false,false):=by
 unfold yed;rw[hg,zk0 h1,zk0 h2]
 have: ∀(n:Nat),(List.range n).foldl (fun a (i:Nat)=>yBY a (yM id g i)) (yB3 id g)=(id,g,(List.range n).map (fun(i:Nat)=>yM id g i),-1,0,0,0,0,[],-1,false,false):=by
  intro n
  induction n with
  | zero=>rfl
  | succ n ih=>rw[List.range_succ,List.foldl_append,ih,List.map_append]; rfl
 exact this _
theorem y0g {id:Int} {g:dG} (hg:ye g=true) (h1:1≤id) (h2:id≤60000):Wk 0 (yed id g):=by
 have hge:=yn.1 hg;rw[yDX hg h1 h2];have hl:((List.range g.1.toNat).map (fun(i:Nat)=>yM id g i)).length=g.1.toNat:=by rw[List.length_map,List.length_range]
 refine⟨⟨hg,⟨h1,h2⟩,?_,⟨Int.le_refl _,?_⟩,⟨Int.le_refl _,?_⟩,fun _=>rfl,?_,?_,?_,?_,?_⟩,⟨⟨fun i hi=> ?_,?_⟩,?_,?_⟩,⟨rfl,rfl⟩,rfl,Int.le_refl _⟩
 ·rfl
 ·show(-1:Int)≤g.1-1; omega
 ·show(0:Int)≤g.2; omega
 ·show(0:Int)≤0∧(0:Int)≤60000; omega
 ·show(0:Int)≤0∧(0:Int)≤60000; omega
 ·show(0:Int)≤0+4; omega
 ·show(0:Int)≤0; omega
 ·show(0:Int)≤60000; omega
 ·have hi':i<((List.range g.1.toNat).map (fun(i:Nat)=>yM id g i)).length:=hi
  show yzh (-1) false g.2 i (nth ((List.range g.1.toNat).map (fun(i:Nat)=>yM id g i)) i yc);rw[zkQ,zkH hi',List.getElem_map,List.getElem_range];obtain⟨k1,k2,k3⟩:=yoo id i hg;refine⟨k1,k2,fun e=> ?_⟩;rw[show(yM id g i).2=([],false,[])from k3]at e;cases e
 ·show(((List.range g.1.toNat).map (fun(i:Nat)=>yM id g i)).length:Int)=g.1
  rw[hl]; omega
 ·show(-1:Int)≤ -1; omega
 ·show(-1:Int)≤1000; omega
def yv (a:dA):dA:=bif leb 4 (i64.wrap (a.2.2.2.2.2.1-a.2.2.2.2.2.2.1))then yo a else a
def yK (a:dA) (s:Int) (d:List Int):Int×dA :=bif ya (yv a)then(6,yv a)else bif ya (yp (yv a) ((yv a).2.2.2.2.2.1,s,d))then(6,yp (yv a) ((yv a).2.2.2.2.2.1,s,d))else (bif ya (yF (yJ (yp (yv a) ((yv a).2.2.2.2.2.1,s,d))) s d)then 6 else 0,yF (yJ (yp (yv a) ((yv a).2.2.2.2.2.1,s,d))) s d)
theorem yWR (a:dA):(yo a).2.1=a.2.1:=by
 unfold yo;cases ya (yd a)
 ·exact(yah (yij (yQ (yd a)))).trans (show(yd a).2.1=a.2.1 from yah (yaD a))
 ·exact yah (yaD a)
theorem yU4 (a:dA):(yv a).2.1=a.2.1:=by
 unfold yv;cases leb 4 (i64.wrap (a.2.2.2.2.2.1-a.2.2.2.2.2.2.1))
 ·rfl
 ·exact yWR a
theorem y2Z {k m n:Int} {a:dA} (h:Wk k a) (hm:inb m a.2.2.1.length=true):Wk k (ybj a m (spoil (nth a.2.2.1 m yc) n)) :=
 y2e h hm (fun g=>⟨yQw n g.1,by rw[(ynq _ _).1]; exact g.2.1,by rw[(ynq _ _).2]; exact g.2.2⟩)
theorem y1G {α:Type} {c:Bool} {x y:α} (h:c=true):(bif !c then x else y)=y:=by subst h; rfl
theorem yZB {α:Type} {c:Bool} {x y:α} (h:c=false):(bif !c then x else y)=x:=by subst h; rfl
theorem ydD {a:dA} (h:yE a) {i:Int} (h0:0≤i) (h1:i<a.2.1.1):yu (yi a i)=true∧((yi a i).1.length:Int)=6+a.2.1.2∧((yi a i).2.2.1=true→i=a.2.2.2.1∨a.2.2.2.2.2.2.2.2.2.2.2=true):=by
 have:=h.1.1 i.toNat (by have:=h.1.2; omega);unfold yzh at this;rw[Int.toNat_of_nonneg h0]at this;exact this
theorem yih {s:Int} (h0:0≤s) (h1:s≤1000):yx s=s+6:=by
 unfold yx;rw[zk0 h0,zk0 (show s≤1099511627776 by omega)]; rfl
def yZ (a:dA) (s i:Int):Bool:=yab a.2.2.2.1 a.2.2.2.2.1 i s (yi a i)&& !(yaT (yi a i) (s+6))
def yGQ (V:Int→Int→Int) (a:dA):Prop:= ∀i s,0≤i→i<a.2.1.1→0≤s→s<a.2.1.2→yZ a s i=true→yb1 (yi a i) (s+6)= [V s i]
def yez (V:Int→Int→Int) (N:Int) (s:Int):List Int:=(List.range N.toNat).map (fun(i:Nat)=>V s i)
structure EvV (g:dG) (V:Int→Int→Int):Prop where
 ev: ∀s,0≤s→s<g.2→yax (yez V g.1 s)=0
 ew: ∀s i,0≤s→s<g.2→0≤i→i<g.1→isW (V s i)=true
theorem yr3 {V:Int→Int→Int} {a:dA} {i s:Int} (hg:ye a.2.1=true) (hk:yE a) (hv:yGQ V a) (i0:0≤i) (i1:i<a.2.1.1) (s0:0≤s) (s1:s<a.2.1.2):yA a i s=yZ a s i∧(yZ a s i=true→yiH a i s=V s i):=by
 have hge:=yn.1 hg;have hin:inb i a.2.2.1.length=true:=zj4.2 (by have:=hk.1.2; omega);obtain⟨d1,d2,d3⟩:=ydD hk i0 i1
 have key:yab a.2.2.2.1 a.2.2.2.2.1 i s (yi a i)=true→yc8 a i s=bif yaT (yi a i) (s+6)then([],false)else(yb1 (yi a i) (s+6),true):=fun hl=>by
  simp only[yab,Bool.and_eq_true,Bool.not_eq_true']at hl;unfold yc8;rw[yih s0 (by omega)];exact yQv d1 hl.1 (zj4.2 (show 0≤s+6∧s+6<((yi a i).1.length:Int)by omega))
 have hw:yA a i s=yZ a s i:=by
  unfold yA;rw[y0O hin];cases hl:yab a.2.2.2.1 a.2.2.2.2.1 i s (yi a i)
  ·unfold yZ; rw[hl]; rfl
  ·rw[key hl]
   cases hb:yaT (yi a i) (s+6)
   ·have hh:yZ a s i=true:=by unfold yZ; rw[hl,hb]; rfl
    rw[hh,cond_false,hv i s i0 i1 s0 s1 hh]; rfl
   ·unfold yZ; rw[hl,hb]; rfl
 refine⟨hw,fun hh=> ?_⟩;unfold yiH;rw[hw,hh,cond_true];have hh':=hh;unfold yZ at hh';rw[Bool.and_eq_true,Bool.not_eq_true']at hh';rw[key hh'.1,hh'.2,cond_false,hv i s i0 i1 s0 s1 hh]; rfl
theorem y22: ∀(l:List Int) (k:Nat) (x:Int),k<l.length→ye2 (l.set k x)=ye2 l ^^^ bv (nth l k 0) ^^^ bv x:=by
 intro l k x hk
 have e1:l=l.take k++nth l k 0::l.drop (k+1):=by
  rw[zkQ,zkH hk,← List.drop_eq_getElem_cons hk,List.take_append_drop]
 have e2:l.set k x=l.take k++x::l.drop (k+1):=by
  rw[List.set_eq_take_append_cons_drop,if_pos hk]
 have fo: ∀(l:List Int) (v:BitVec 64),l.foldl (fun v x=>v ^^^ bv x) v=v ^^^ ye2 l:=by
  intro l
  induction l with
  | nil=>intro v; show v=v ^^^ 0#64; rw[BitVec.xor_zero]
  | cons y t ih =>
   intro v;unfold ye2;rw[List.foldl_cons,List.foldl_cons,ih,ih (0#64 ^^^ bv y),BitVec.zero_xor,BitVec.xor_assoc]
 have cut: ∀(A:List Int) (y:Int) (B:List Int),ye2 (A++y::B)=ye2 A ^^^ bv y ^^^ ye2 B:=fun A y B=>by
  show(A++y::B).foldl _ _=_;rw[List.foldl_append,List.foldl_cons,fo]; rfl
 rw[e2,cut]
 conv=>rhs; rw[e1]
 rw[cut];have hn:nth (List.take k l++nth l (↑k) 0::List.drop (k+1) l) (k:Int) 0=nth l k 0:=by rw[← e1]
 rw[hn,BitVec.xor_assoc (ye2 (l.take k)),BitVec.xor_assoc (ye2 (l.take k)),BitVec.xor_comm (bv (nth l k 0)),BitVec.xor_assoc (ye2 (l.take k)),yXn,BitVec.xor_comm (bv x),BitVec.xor_assoc]
theorem y1y {l:List Int} (h:yax l=0):ye2 l=0#64:=by
 rw[ynF]at h;have:=congrArg bv h;rw[yv9]at this;rw[this]; rfl
theorem yXc {p:Nat→Bool}: ∀{n:Nat},yey p n=false→ ∀j,j<n→p j=true∨(j:Int)=yG p n
 | 0,_,j,hj=>absurd hj (Nat.not_lt_zero _)
 | n+1,h,j,hj=>by
  have h':yey p n=false:=by
   unfold yey at h ⊢;rw[List.range_succ,List.any_append,Bool.or_eq_false_iff]at h;exact h.1
  have hl:(!p n&&leb 0 (yG p n))=false:=by
   unfold yey at h;rw[List.range_succ,List.any_append,Bool.or_eq_false_iff]at h;simpa using h.2
  unfold yG;rcases Nat.lt_succ_iff_lt_or_eq.1 hj with hj | rfl
  ·rcases yXc h' j hj with h1 | h1
   ·exact .inl h1
   ·cases hp:p n
    ·rw[hp,← h1]at hl
     rw[zk0 (show(0:Int)≤j by omega)]at hl; cases hl
    ·exact .inr h1
  ·cases hp:p j
   ·exact .inr rfl
   ·exact .inl rfl
theorem yXb {p:Nat→Bool}: ∀{n:Nat},leb 0 (yG p n)=false→ ∀j,j<n→p j=true
 | 0,_,j,hj=>absurd hj (Nat.not_lt_zero _)
 | n+1,h,j,hj=>by
  unfold yG at h;cases hp:p n
  ·rw[hp,cond_false,zk0 (show(0:Int)≤n by omega)]at h; cases h
  ·rw[hp,cond_true]at h
   rcases Nat.lt_succ_iff_lt_or_eq.1 hj with hj | rfl
   ·exact yXb h j hj
   ·exact hp
theorem yKr (V:Int→Int→Int) (N s:Int):(yez V N s).length=N.toNat:=by unfold yez; rw[List.length_map,List.length_range]
theorem y2d (V:Int→Int→Int) (N s:Int) {j:Nat} (h:j<(yez V N s).length):(yez V N s)[j]=V s j:=by simp[yez]
theorem y0c (V:Int→Int→Int) {N s i:Int} (h0:0≤i) (h1:i<N):nth (yez V N s) i 0=V s i:=by
 unfold yez nth;rw[zkH (by rw[List.length_map,List.length_range]; omega),List.getElem_map,List.getElem_range,Int.toNat_of_nonneg h0]
theorem yUj {V:Int→Int→Int} {a:dA} {s:Int} (hg:ye a.2.1=true) (hk:yE a) (he:EvV a.2.1 V) (hv:yGQ V a) (s0:0≤s) (s1:s<a.2.1.2) :
  yP a s=bif yey (fun(i:Nat)=>yZ a s i) a.2.1.1.toNat then([],false)else(yez V a.2.1.1 s,true):=by
 have hw: ∀i:Nat,i<a.2.1.1.toNat→yA a i s=yZ a s i:=fun i hi=>(yr3 hg hk hv (by omega) (by omega) s0 s1).1
 have hm: ∀n,n≤a.2.1.1.toNat→yG (fun(i:Nat)=>yA a i s) n=yG (fun(i:Nat)=>yZ a s i) n:=by
  intro n
  induction n with
  | zero=>intro _; rfl
  | succ n ih=>intro hn; unfold yG; rw[hw n (by omega),ih (by omega)]
 have h2:yey (fun(i:Nat)=>yA a i s) a.2.1.1.toNat=yey (fun(i:Nat)=>yZ a s i) a.2.1.1.toNat:=by
  unfold yey;rw[Bool.eq_iff_iff,List.any_eq_true,List.any_eq_true];constructor
  ·rintro⟨i,hi,h⟩
   have hi':=List.mem_range.1 hi;exact⟨i,hi,by dsimp only at h ⊢; rw[hw i hi',hm i (by omega)]at h; exact h⟩
  ·rintro⟨i,hi,h⟩
   have hi':=List.mem_range.1 hi;exact⟨i,hi,by dsimp only at h ⊢; rw[hw i hi',hm i (by omega)]; exact h⟩
 unfold yP;rw[h2,hm _ (Nat.le_refl _)];cases hc:yey (fun(i:Nat)=>yZ a s i) a.2.1.1.toNat
 ·simp only[cond_false]
  cases hn:leb 0 (yG (fun(i:Nat)=>yZ a s i) a.2.1.1.toNat)
  ·simp only[cond_false]
   congr 1;refine List.map_congr_left fun i hi=> ?_
   have hi':=List.mem_range.1 hi;exact(yr3 hg hk hv (by omega) (by omega) s0 s1).2 (yXb hn i hi')
  ·simp only[cond_true]
   congr 1;rcases yJv (fun(i:Nat)=>yZ a s i) a.2.1.1.toNat with h3 | ⟨k0,k1,k2⟩
   ·rw[h3]at hn; cases hn
   ·have hu:=yXc hc
    generalize yG (fun(i:Nat)=>yZ a s i) a.2.1.1.toNat=k at *;obtain⟨k,rfl⟩: ∃m:Nat,k=m:=⟨k.toNat,by omega⟩;rw[Int.toNat_natCast]at k2 ⊢;have hkl:k<(yez V a.2.1.1 s).length:=by rw[yKr]; omega
    have e:yae a s a.2.1.1.toNat=(yez V a.2.1.1 s).set k 0:=by
     refine List.ext_getElem (by rw[ye1,List.length_set,yKr]) fun j h3 h4=> ?_
     rw[ye1]at h3;rw[List.getElem_set];have e1:(yae a s a.2.1.1.toNat)[j]'(by rw[ye1]; exact h3)=yiH a j s:=by unfold yae; simp
     have e2:(yez V a.2.1.1 s)[j]'(by rw[yKr]; exact h3)=V s j:=by unfold yez; simp
     rw[e1];by_cases hj:k=j
     ·subst hj
      rw[if_pos rfl];unfold yiH;rw[hw k (by omega),k2]; rfl
     ·rw[if_neg hj,e2]
      rcases hu j h3 with h5 | h5
      ·exact(yr3 hg hk hv (by omega) (by omega) s0 s1).2 h5
      ·exact absurd h5 (by omega)
    have hx:yax (yae a s a.2.1.1.toNat)=V s k:=by
     rw[e,ynF,y22 _ _ _ hkl,y1y (he.ev s s0 s1),BitVec.zero_xor,show bv 0=0#64 by decide,BitVec.xor_zero,y0c V (by omega) (by omega)];have:=yrV.1 (he.ew s k s0 s1 (by omega) (by omega));exact y2S (by omega) (by omega)
    rw[hx,e,List.set_set];refine List.ext_getElem (by rw[List.length_set]) fun j h3 h4=> ?_
    rw[List.getElem_set];by_cases hj:k=j
    ·subst hj
     rw[if_pos rfl];exact(y2d _ _ _ h4).symm
    ·rw[if_neg hj]
 ·rfl
def yXo:Code:=(f192.body).getD .skip
def yXU:Env:=zku TT [] []
theorem yNM:FrOk prog ⟨yXU,26,fun _=>none⟩ yXo:=zky yg yh trivial
abbrev yyk:List Par:= [.pt tA (.pr .fz (.pr (.pr .fz .fz) (.pr (.ow (.pr (.ow (.ow .fz)) (.pr (.ow (.pr .fz (.ow .fz))) (.pr .fz (.ow .fz))))) (.pr .fz (.pr .fz (.pr .fz (.pr .fz (.pr .fz (.pr (.ow (.pr .fz (.ow .fz))) (.pr .fz (.pr .fz .fz)))))))))))]
abbrev yyD:List OT:= [⟨false,tB,.fz⟩]
def yEW (a0:dA):Option (zaY yyD×zak yyk) :=bif(a0.2.2.2.2.2.2.2.2.2.1==0)then some ((false,()),((a0.1,a0.2.1,a0.2.2.1,a0.2.2.2.1,a0.2.2.2.2.1,a0.2.2.2.2.2.1,a0.2.2.2.2.2.2.1,a0.2.2.2.2.2.2.2.1,a0.2.2.2.2.2.2.2.2.1,(-1),true,a0.2.2.2.2.2.2.2.2.2.2.2),())) else bif(ltb 0 a0.2.2.2.2.2.2.2.2.2.1)then some ((true,()),((a0.1,a0.2.1,a0.2.2.1,a0.2.2.2.1,a0.2.2.2.2.1,a0.2.2.2.2.2.1,a0.2.2.2.2.2.2.1,a0.2.2.2.2.2.2.2.1,a0.2.2.2.2.2.2.2.2.1,(i64.wrap (a0.2.2.2.2.2.2.2.2.2.1-1)),a0.2.2.2.2.2.2.2.2.2.2),())) else some ((true,()),(a0,()))
theorem ySY:ConOk prog 192 ⟨yyk,yyD,fun x=>yEW x.1⟩:=zkG (yNM) func192 ntmps192.symm fun x=>by kernel_rfl
def yhf (a0:dA):Bool×dA :=bif(a0.2.2.2.2.2.2.2.2.2.1==0)then (false,(a0.1,a0.2.1,a0.2.2.1,a0.2.2.2.1,a0.2.2.2.2.1,a0.2.2.2.2.2.1,a0.2.2.2.2.2.2.1,a0.2.2.2.2.2.2.2.1,a0.2.2.2.2.2.2.2.2.1,(-1),true,a0.2.2.2.2.2.2.2.2.2.2.2)) else bif(ltb 0 a0.2.2.2.2.2.2.2.2.2.1)then (true,(a0.1,a0.2.1,a0.2.2.1,a0.2.2.2.1,a0.2.2.2.2.1,a0.2.2.2.2.2.1,a0.2.2.2.2.2.2.1,a0.2.2.2.2.2.2.2.1,a0.2.2.2.2.2.2.2.2.1,(i64.wrap (a0.2.2.2.2.2.2.2.2.2.1-1)),a0.2.2.2.2.2.2.2.2.2.2)) else (true,a0)
def yto:Con:=⟨yyk,yyD,fun x=>(fun n=>some ((n.1,()),(n.2,()))) (yhf x.1)⟩
theorem yVj (a0:dA):yEW a0=(fun n=>some ((n.1,()),(n.2,()))) (yhf a0):=zkT (p:=fun(n:Bool×dA)=>((n.1,()),(n.2,()))) (zkE (p:=fun(n:Bool×dA)=>((n.1,()),(n.2,()))) rfl (zkE (p:=fun(n:Bool×dA)=>((n.1,()),(n.2,()))) rfl rfl))
theorem yGl:ConOk prog 192 yto:=(ySY).mono (fun x r _ h=>(yVj x.1).trans h)
theorem ySi {a:dA} (h:ya a=false):yhf a=opA a:=by
 unfold yhf opA;rw[h];cases(a.2.2.2.2.2.2.2.2.2.1==0)
 ·cases ltb 0 a.2.2.2.2.2.2.2.2.2.1
  ·rfl
  ·show(true,_)=(true,ykF a _ false)
   unfold ykF;rw[show a.2.2.2.2.2.2.2.2.2.2=(ya a,a.2.2.2.2.2.2.2.2.2.2.2)from rfl,h]
 ·rfl
def yKJ:Code:=(f223.body).getD .skip
def yKV:Env:=zku TT [] []
theorem yGZ:FrOk prog ⟨yKV,7,fun _=>none⟩ yKJ:=zky yg yh trivial
abbrev yoO:List Par:= [.rd tI,.rp tI]
abbrev yoR:List OT:= [⟨false,tB,.fz⟩]
def yvb (a0 a1:Int):Option (zaY yoR×zak yoO) :=some (((a0==a1),()),())
theorem yIg:ConOk prog 223 ⟨yoO,yoR,fun x=>yvb x.1 x.2.1⟩:=zkG (yGZ) func223 ntmps223.symm fun x=>by kernel_rfl
def ydF (a0 a1:Int):Bool :=(a0==a1)
def ylq:Con:=⟨yoO,yoR,fun x=>(fun n=>some ((n,()),())) (ydF x.1 x.2.1)⟩
theorem yJV (a0 a1:Int):yvb a0 a1=(fun n=>some ((n,()),())) (ydF a0 a1):=zkT (p:=fun(n:Bool)=>((n,()),())) rfl
theorem yxT:ConOk prog 223 ylq:=(yIg).mono (fun x r _ h=>(yJV x.1 x.2.1).trans h)
def yew:Code:=(f244.body).getD .skip
def yiz:Env:=zku TT [(223,ylq)] []
theorem yAU:FrOk prog ⟨yiz,19,fun _=>none⟩ yew:=zky yg yh ⟨yxT,trivial⟩
def ymB:Nat→Option Seg:=fun _=>none
def yak:Shape:=⟨[(0,false,[.br tI]),(1,false,[.fx 223 tI]),(7,false,[.int .i64]),(8,false,[.int .i64])],[],[]⟩
def ybg:Shape:=⟨[(0,false,[.br tI]),(1,false,[.fx 223 tI]),(7,false,[.int .i64]),(8,false,[.ci .i64 0])],[],[]⟩
def ybf:Shape:=⟨[],[],[]⟩
def ybh:Shape:=⟨[(4,false,[.int .i64])],[],[]⟩
abbrev yfn (v0:List Int) (v1 v2 v3:Int):(yak).X:=(((v0,()),(v1,()),(v2,()),(v3,()),()),(),())
abbrev yzj (v0:List Int) (v1 v2:Int):(ybg).X:=(((v0,()),(v1,()),(v2,()),((),()),()),(),())
abbrev yzi  :(ybf).X:=((),(),())
abbrev ykY (v0:Int):(ybh).X:=(((v0,()),()),(),())
def yfr (v0:List Int) (v1 v2 v3:Int):Option ((yak).X ⊕ ((ybf).X ⊕ (ybh).X)) :=bif(ltb v3 v2)then bif(inb v3 v0.length)then let r2:=ydF (nth v0 v3 0) v1;bif r2 then some (.inr (.inr (((v3,()),()),(),()))) else some (.inl (((v0,()),(v1,()),(v2,()),((i64.wrap (v3+1)),()),()),(),())) else none else some (.inr (.inl ((),(),())))
def yaw (x:(yak).X):=yfr x.1.1.1 x.1.2.1.1 x.1.2.2.1.1 x.1.2.2.2.1.1
def ykV (x:(ybg).X):(yak).X:=(((x.1.1.1,()),(x.1.2.1.1,()),(x.1.2.2.1.1,()),(0,()),()),(),())
def ymm:Code:=(zeJ yew 64 52).getD .skip
theorem yAR:zeJ yew 64 13=some (.block 0 (.loop ymm)):=by kernel_rfl
theorem yA2 (x:(yak).X):zhu ⟨yiz,19,ymB⟩ 0 ymm 52 yak ybf ybh x=yaw x:=by kernel_rfl
def ykW (x:(ybg).X):Nat:=18446744073709551616
def yf2 (x:(ybg).X):Option ((ybf).X ⊕ (ybh).X):=zF yaw (ykW x) (ykV x)
def ylh:Seg:=⟨ybg,ybf,ybh,yf2⟩
def yBe:Nat→Option Seg:=fun q=>bif Nat.beq q 13 then some ylh else ymB q
theorem yAV:FrOk prog ⟨yiz,19,yBe⟩ yew:=(yAU).loop (sg:=ylh) yak ykV (by decide) yAR yaw ykW (by decide) (fun _=>rfl) (fun x r _ h=>h) yA2
abbrev yex:List Par:= [.rd tL,.fn 223 tI]
abbrev yiA:List OT:= [⟨false,tI,.fz⟩]
def ygY (a0:List Int) (a1:Int):Option (zaY yiA×zak yex) :=zkr (yf2 (((a0,()),(a1,()),((a0.length:Int),()),((),()),()),(),())) (fun y2 =>some (((-1),()),())) (fun y2 =>some ((y2.1.1.1,()),()))
theorem yDb:ConOk prog 244 ⟨yex,yiA,fun x=>ygY x.1 x.2.1⟩:=zkG (yAV) func244 ntmps244.symm fun x=>by kernel_rfl
def yct (a0:List Int) (a1:Int):Int:=yaf (fun e:Int=>e==a1) a0
theorem yDJ (a0:List Int) (a1:Int) (hk:zjw yex (a0,a1,())):ygY a0 a1=(fun n=>some ((n,()),())) (yct a0 a1):=by
 have hb:a0.length*8≤2^47:=hk.1.1
 have h1:yf2 (yzj a0 a1 a0.length)=some (bif leb 0 (yaf (fun e:Int=>e==a1) a0)then .inr (ykY (yaf (fun e:Int=>e==a1) a0))else .inl yzi) :=
  yJs (step:=yaw) a0 0 (fun i=>yfn a0 a1 a0.length i) (fun e:Int=>e==a1) (fun i=> .inr (ykY i)) _ (fun i hi=>by
   simp only[yaw,yfn,yfr,zkw (show(i:Int)<a0.length by omega),cond_true,wq ((i:Int)+1) (by omega) (by omega),Int.natCast_add,Int.natCast_one,Int.toNat_natCast,zkP hi,zkQ,ydF]
   cases(a0.getD i 0==a1)<;>rfl) (by simp only[yaw,yfn,yfr,zk1 (Int.le_refl _),cond_false]) _ (by show _<18446744073709551616; omega)
 unfold ygY yct;rw[h1];cases h:leb 0 (yaf (fun e:Int=>e==a1) a0)
 ·rw[yVg h]; rfl
 ·rfl
def ymU:Con:=⟨yex,yiA,fun x=>(fun n=>some ((n,()),())) (yct x.1 x.2.1)⟩
theorem yDL:ConOk prog 244 ymU:=(yDb).mono (fun x r hk h=>(yDJ x.1 x.2.1 hk).trans h)
def ydZ:Code:=(f222.body).getD .skip
def yg9:Env:=zku TT [(223,ylq),(244,ymU)] []
theorem yzf:FrOk prog ⟨yg9,42,fun _=>none⟩ ydZ:=zky yg yh ⟨yxT,yDL,trivial⟩
def ylS:Nat→Option Seg:=fun _=>none
def yag:Shape:=⟨[(0,false,[.at 800000000]),(1,false,[.fx 223 tI]),(5,false,[.int .i64]),(6,false,[.int .i64])],[],[(800000000,tI,.fz)]⟩
def yaX:Shape:=⟨[(0,false,[.at 800000000]),(1,false,[.fx 223 tI]),(5,false,[.int .i64]),(6,false,[.int .i64])],[],[(800000000,tI,.fz)]⟩
def yaW:Shape:=⟨[(0,false,[.at 800000000]),(5,false,[.int .i64])],[],[(800000000,tI,.fz)]⟩
def ycv:Shape:=⟨[],[],[]⟩
abbrev yb3 (v0 v1 v2:Int) (v3:List Int):(yag).X:=((((),()),(v0,()),(v1,()),(v2,()),()),(),(v3,()))
abbrev yxS (v0 v1 v2:Int) (v3:List Int):(yaX).X:=((((),()),(v0,()),(v1,()),(v2,()),()),(),(v3,()))
abbrev yxQ (v0:Int) (v1:List Int):(yaW).X:=((((),()),(v0,()),()),(),(v1,()))
def yeZ (v0 v1 v2:Int) (v3:List Int):Option ((yag).X ⊕ ((yaW).X ⊕ (ycv).X)) :=bif(ltb v2 (v3.length:Int))then bif(inb v2 v3.length)then let r3:=ydF (nth v3 v2 0) v0;bif(!r3)then bif(inb v1 v3.length)then some (.inl ((((),()),(v0,()),((i64.wrap (v1+1)),()),((i64.wrap (v2+1)),()),()),(),((v3.set (v1).toNat (nth v3 v2 0)),()))) else none else some (.inl ((((),()),(v0,()),(v1,()),((i64.wrap (v2+1)),()),()),(),(v3,()))) else none else some (.inr (.inl ((((),()),(v1,()),()),(),(v3,()))))
def yap (x:(yag).X):=yeZ x.1.2.1.1 x.1.2.2.1.1 x.1.2.2.2.1.1 x.2.2.1
def yjZ (x:(yaX).X):(yag).X:=((((),()),(x.1.2.1.1,()),(x.1.2.2.1.1,()),(x.1.2.2.2.1.1,()),()),(),(x.2.2.1,()))
def ykU:Code:=(zeJ ydZ 64 244).getD .skip
theorem yzc:zeJ ydZ 64 61=some (.block 0 (.loop ykU)):=by kernel_rfl
theorem yzq (x:(yag).X):zhu ⟨yg9,42,ylS⟩ 0 ykU 244 yag yaW ycv x=yap x:=by kernel_rfl
def yj1 (x:(yaX).X):Nat:=18446744073709551616
def yfj (x:(yaX).X):Option ((yaW).X ⊕ (ycv).X):=zF yap (yj1 x) (yjZ x)
def yj4:Seg:=⟨yaX,yaW,ycv,yfj⟩
def yAQ:Nat→Option Seg:=fun q=>bif Nat.beq q 61 then some yj4 else ylS q
theorem yzg:FrOk prog ⟨yg9,42,yAQ⟩ ydZ:=(yzf).loop (sg:=yj4) yag yjZ (by decide) yzc yap yj1 (by decide) (fun _=>rfl) (fun x r _ h=>h) yzq
abbrev yd0:List Par:= [.kp tL (.ow .fz),.fn 223 tI]
abbrev yha:List OT:= [⟨false,tL,(.ow .fz)⟩]
def yf3 (a0:List Int) (a1:Int):Option (zaY yha×zak yd0) :=let r1:=yct a0 a1;bif(r1==(-1))then some ((a0,()),()) else zkr (yfj ((((),()),(a1,()),(r1,()),((i64.wrap (r1+1)),()),()),(),(a0,()))) (fun y3 =>bif(zjY y3.1.2.1.1 (y3.2.2.1.length:Int) y3.2.2.1.length)then bif(zjY 0 y3.1.2.1.1 (y3.2.2.1.take (y3.1.2.1.1).toNat++(List.replicate ((y3.2.2.1.length:Int)-y3.1.2.1.1).toNat (0:Int))++y3.2.2.1.drop ((y3.1.2.1.1).toNat+(List.replicate ((y3.2.2.1.length:Int)-y3.1.2.1.1).toNat (0:Int)).length)).length)then some (((((y3.2.2.1.take (y3.1.2.1.1).toNat++(List.replicate ((y3.2.2.1.length:Int)-y3.1.2.1.1).toNat (0:Int))++y3.2.2.1.drop ((y3.1.2.1.1).toNat+(List.replicate ((y3.2.2.1.length:Int)-y3.1.2.1.1).toNat (0:Int)).length)).drop (0:Int).toNat).take (y3.1.2.1.1-0).toNat),()),()) else none else none) (fun y3 =>none)
theorem yA1:ConOk prog 222 ⟨yd0,yha,fun x=>yf3 x.1 x.2.1⟩:=zkG (yzg) func222 ntmps222.symm fun x=>by kernel_rfl
def ybO (a0:List Int) (a1:Int):List Int:=yHk a0 a1
theorem yC9 (a0:List Int) (a1:Int) (hk:zjw yd0 (a0,a1,())):yf3 a0 a1=(fun n=>some ((n,()),())) (ybO a0 a1):=by
 have hb:a0.length*8≤2^47:=hk.1.1;have hs:yHk a0 a1=a0.filter (fun x=> !(x==a1)):=rfl;unfold yf3 ybO yct;simp only[];cases hi:leb 0 (yaf (fun e:Int=>e==a1) a0)
 ·rw[yVg hi,hs,y2x hi]; rfl
 ·obtain⟨h1,h2⟩:=ymY (d:=(0:Int)) hi
  have h3:=zj4.1 h1;have h4:=yW7 hi;generalize hk0:yaf (fun e:Int=>e==a1) a0=k at *;obtain⟨k,rfl⟩: ∃m:Nat,k=m:=⟨k.toNat,by omega⟩;rw[Int.toNat_natCast]at h4;rw[show((k:Int)== -1)=false from beq_eq_false_iff_ne.2 (by omega),cond_false,wq ((k:Int)+1) (by omega) (by omega)]
  obtain⟨b,e,i,s,rfl,q1,q2,q3⟩:=zji (step:=yap) (fun x=>(a0.length-Int.toNat x.1.2.2.2.1.1))
   (fun x=> ∃(i j:Nat) (s:List Int),x=yb3 a1 i j s∧i<j∧j≤a0.length∧s.length=a0.length∧s.take i=(a0.take j).filter (fun x=> !(x==a1))∧s.drop j=a0.drop j)
   (fun b=> ∃(i:Nat) (s:List Int),b= .inl (yxQ i s)∧i≤a0.length∧s.length=a0.length∧s.take i=a0.filter (fun x=> !(x==a1)))
   (fun x hx=>by
    obtain⟨i,j,s,rfl,p1,p2,p3,p4,p5⟩:=hx;by_cases hj:j<a0.length
    ·left
     have e1:nth s j 0=a0[j]:=by
      rw[zkQ,zkH (by omega)];have:=List.getElem_drop (xs:=s) (i:=j) (j:=0) (h:=by rw[List.length_drop]; omega);have h6:(s.drop j)[0]'(by rw[List.length_drop]; omega)=(a0.drop j)[0]'(by rw[List.length_drop]; omega):=by simp only[p5]
      simpa using h6
     have e2:a0.take (j+1)=a0.take j++ [a0[j]]:=(List.take_append_getElem hj).symm;simp only[yap,yb3,yeZ,p3,zkw (show(j:Int)<a0.length by omega),zkP hj,zkP (show i<a0.length by omega),e1,ydF,wq ((j:Int)+1) (by omega) (by omega),wq ((i:Int)+1) (by omega) (by omega),cond_true,Int.toNat_natCast];cases hx:(a0[j]==a1)
     ·refine⟨_,rfl,⟨i+1,j+1,s.set i a0[j],rfl,by omega,by omega,by rw[List.length_set,p3],?_,?_⟩,by show a0.length-((j:Int)+1).toNat<a0.length-((j:Int)).toNat; omega⟩
      ·rw[List.take_set,← List.take_append_getElem (show i<s.length by omega),List.set_append_right _ _ (by rw[List.length_take]; omega),p4,e2,List.filter_append,List.filter_cons,hx]
       have:i-(List.filter (fun x=> !x==a1) (a0.take j)).length=0:=by rw[← p4,List.length_take]; omega
       rw[this]; rfl
      ·rw[List.drop_set_of_lt (by omega),← List.drop_drop,p5,List.drop_drop]
     ·refine⟨_,rfl,⟨i,j+1,s,rfl,by omega,by omega,p3,?_,?_⟩,by show a0.length-((j:Int)+1).toNat<a0.length-((j:Int)).toNat; omega⟩
      ·rw[p4,e2,List.filter_append,List.filter_cons,hx]; simp
      ·rw[← List.drop_drop,p5,List.drop_drop]
    ·right
     have:j=a0.length:=by omega
     subst this;rw[List.take_length]at p4;refine⟨_,?_,i,s,rfl,by omega,p3,p4⟩
     simp only[yap,yb3,yeZ,p3,zk1 (Int.le_refl _),cond_false]) 18446744073709551616 (yb3 a1 k (k+1:Nat) a0) ⟨k,k+1,a0,rfl,by omega,by omega,rfl,h4.symm,rfl⟩ (by show a0.length-((k+1:Nat):Int).toNat<18446744073709551616; omega)
  rw[show((k+1:Nat):Int)=(k:Int)+1 by omega]at e;rw[show yfj (yxS a1 k ((k:Int)+1) a0)=_ from e];rw[hs,← q3]
  have hL:(s.take i++List.replicate ((s.length:Int)-i).toNat (0:Int)++s.drop ((i:Int).toNat+(List.replicate ((s.length:Int)-i).toNat (0:Int)).length)).length=s.length:=by
   simp only[List.length_append,List.length_take,List.length_replicate,List.length_drop]; omega
  show(bif zjY i s.length s.length then bif zjY 0 i (s.take i++List.replicate ((s.length:Int)-i).toNat (0:Int)++s.drop ((i:Int).toNat+(List.replicate ((s.length:Int)-i).toNat (0:Int)).length)).length then some ((((s.take i++List.replicate ((s.length:Int)-i).toNat (0:Int)++s.drop ((i:Int).toNat+(List.replicate ((s.length:Int)-i).toNat (0:Int)).length)).drop 0).take ((i:Int)-0).toNat,()),())else none else none)=some ((s.take i,()),());rw[hL,zkx.2 (show 0≤(i:Int)∧(i:Int)≤s.length∧(s.length:Int)≤s.length by omega),zkx.2 (show(0:Int)≤0∧(0:Int)≤i∧(i:Int)≤s.length by omega),List.drop_zero,show((i:Int)-0).toNat=i by omega,List.append_assoc,List.take_append_of_le_length (by rw[List.length_take]; omega),List.take_take,Nat.min_self]; rfl
def ymo:Con:=⟨yd0,yha,fun x=>(fun n=>some ((n,()),())) (ybO x.1 x.2.1)⟩
theorem yDe:ConOk prog 222 ymo:=(yA1).mono (fun x r hk h=>(yC9 x.1 x.2.1 hk).trans h)
def yQE:Code:=(f193.body).getD .skip
def yQ5:Env:=zku TT [(127,yek),(133,ygL),(156,ymn),(158,ya5),(186,ywb),(222,ymo)] []
theorem yI1:FrOk prog ⟨yQ5,51,fun _=>none⟩ yQE:=zky yg yh ⟨yhj,ymy,ywk,ycN,yHC,yDe,trivial⟩
abbrev ylY:List Par:= [.rd tM,.rd tI,.rd tL]
abbrev ys2:List OT:= [⟨false,tM,(.pr (.ow (.ow .fz)) (.pr (.ow (.pr .fz (.ow .fz))) (.pr .fz (.ow .fz))))⟩,⟨false,tB,.fz⟩]
def ypi (a0:dM) (a1:Int) (a2:List Int):Option (zaY ys2×zak ylY) :=let r1:=yaJ a0;let r2:=yat a0;bif(!(!r2))then bif(!a0.2.2.1)then let r3:=ybC a0 a1;bif(!(!r3))then let r4:=ygP a2;bif(!(!r4))then bif((a0.2.1.length:Int)==60)then some ((r1,false,()),()) else let r5:=yB a2;bif(zkj r1.2.1.length ([(a1,r5)]:List dW).length 32)then let r6:=ybO r1.2.2.2 a1;some (((r1.1,(r1.2.1++([(a1,r5)]:List dW)),r1.2.2.1,r6),true,()),()) else none else some ((r1,false,()),()) else some ((r1,false,()),()) else some ((r1,false,()),()) else some ((r1,false,()),())
theorem yMn:ConOk prog 193 ⟨ylY,ys2,fun x=>ypi x.1 x.2.1 x.2.2.1⟩:=zkG (yI1) func193 ntmps193.symm fun x=>by kernel_rfl
def yip (a0:dM) (a1:Int) (a2:List Int):dM×Bool:=yT a0 a1 a2
theorem yPi (a0:dM) (a1:Int) (a2:List Int) (hk:zjw ylY (a0,a1,a2,())):ypi a0 a1 a2=(fun n=>some ((n.1,n.2,()),())) (yip a0 a1 a2):=by
 have hb1:a0.1.length*24≤2^47:=hk.1.1.1;unfold ypi yip yT ybc;simp only[yaJ,yat,ybC,yau,ymZ (show a0.1.length≤1152921504606846976 by omega),yFs,yB,ybO];cases hm:yu a0
 ·rfl
 have hc:=(ycr hm).2.2.2.2.2;cases a0.2.2.1
 ·cases inb a1 a0.1.length
  ·rfl
  cases yav a2
  ·rfl
  by_cases h:(a0.2.1.length:Int)<60
  ·rw[zkw h,show((a0.2.1.length:Int)==60)=false from beq_eq_false_iff_ne.2 (by omega),zkD.2 (show(a0.2.1.length+ [(a1,a2)].length)*32≤140737488355328 by simp only[List.length_cons,List.length_nil]; omega)]; rfl
  ·rw[zk1 (by omega),show((a0.2.1.length:Int)==60)=true from beq_iff_eq.2 (by omega)]; rfl
 ·rfl
def yzY:Con:=⟨ylY,ys2,fun x=>(fun n=>some ((n.1,n.2,()),())) (yip x.1 x.2.1 x.2.2.1)⟩
theorem yP4:ConOk prog 193 yzY:=(yMn).mono (fun x r hk h=>(yPi x.1 x.2.1 x.2.2.1 hk).trans h)
def yNd:Code:=(f139.body).getD .skip
def yNt:Env:=zku TT [(192,yto),(193,yzY)] []
theorem yHV:FrOk prog ⟨yNt,39,fun _=>none⟩ yNd:=zky yg yh ⟨yGl,yP4,trivial⟩
abbrev ygk:List Par:= [.pt tA (.pr .fz (.pr (.pr .fz .fz) (.pr (.ow (.pr (.ow (.ow .fz)) (.pr (.ow (.pr .fz (.ow .fz))) (.pr .fz (.ow .fz))))) (.pr .fz (.pr .fz (.pr .fz (.pr .fz (.pr .fz (.pr (.ow (.pr .fz (.ow .fz))) (.pr .fz (.pr .fz .fz))))))))))),.rd tI,.rd tI,.rd tL]
abbrev ykf:List OT:= [⟨false,tB,.fz⟩]
def ynm (a0:dA) (a1 a2:Int) (a3:List Int):Option (zaY ykf×zak ygk) :=bif(inb a1 a0.2.2.1.length)then bif(((nth a0.2.2.1 a1 ([],[],false,[])).2).2).1 then some ((true,()),(a0,())) else let r1:=yhf a0;bif(!r1.1)then some ((false,()),(r1.2,())) else bif(inb a1 r1.2.2.2.1.length)then let r2:=yip ((nth r1.2.2.2.1 a1 ([],[],false,[])).1,((nth r1.2.2.2.1 a1 ([],[],false,[])).2).1,(((nth r1.2.2.2.1 a1 ([],[],false,[])).2).2)) a2 a3;bif(inb a1 r1.2.2.2.1.length)then some ((true,()),((r1.2.1,r1.2.2.1,(r1.2.2.2.1.set (a1).toNat r2.1),r1.2.2.2.2),())) else none else none else none
theorem yJZ:ConOk prog 139 ⟨ygk,ykf,fun x=>ynm x.1 x.2.1 x.2.2.1 x.2.2.2.1⟩:=zkG (yHV) func139 ntmps139.symm fun x=>by kernel_rfl
def ycM (a0:dA) (a1 a2:Int) (a3:List Int):Bool×dA:=(!(ya (ybk a0 a1 a2 a3)),ybk a0 a1 a2 a3)
def ycO (a0:dA) (a1 a2:Int) (a3:List Int):Bool:=inb a1 a0.2.2.1.length&& !(ya a0)
theorem yMb (a0:dA) (a1 a2:Int) (a3:List Int) (hk:zjw ygk (a0,a1,a2,a3,())) (hq:ycO a0 a1 a2 a3=true):ynm a0 a1 a2 a3=(fun n=>some ((n.1,()),(n.2,()))) (ycM a0 a1 a2 a3):=by
 simp only[ycO,Bool.and_eq_true,Bool.not_eq_true']at hq;unfold ynm ycM;simp only[yZ3 hq.2];unfold ybk ybj;simp only[ySi hq.2,yaL,hq.1,zkV,yip];cases(nth a0.2.2.1 a1 yc).2.2.1<;>cases(opA a0).1<;>rfl
def yep (a0:dA) (a1 a2:Int) (a3:List Int):Option (zaY ykf×zak ygk):=bif ycO a0 a1 a2 a3 then(fun n=>some ((n.1,()),(n.2,()))) (ycM a0 a1 a2 a3)else none
theorem ypa (a0:dA) (a1 a2:Int) (a3:List Int) (h:ycO a0 a1 a2 a3=true):yep a0 a1 a2 a3=(fun n=>some ((n.1,()),(n.2,()))) (ycM a0 a1 a2 a3):=by unfold yep; rw[h]; rfl
def yie:Con:=⟨ygk,ykf,fun x=>yep x.1 x.2.1 x.2.2.1 x.2.2.2.1⟩
theorem yo9:ConOk prog 139 yie:=(yJZ).mono (fun x r hk h=>zkW h (fun hq=>yMb x.1 x.2.1 x.2.2.1 x.2.2.2.1 hk hq))
def yXt:Code:=(f164.body).getD .skip
def yXZ:Env:=zku TT [(159,ywa)] []
theorem yNT:FrOk prog ⟨yXZ,17,fun _=>none⟩ yXt:=zky yg yh ⟨yHB,trivial⟩
abbrev yp8:List Par:= [.rd tN]
abbrev yyJ:List OT:= [⟨false,tL,(.ow .fz)⟩]
def yue (a0:dN):Option (zaY yyJ×zak yp8) :=let r1:=yjB a0;bif(!r1)then some (([],()),()) else bif(zkj ([21322,a0.1,a0.2.1,(a0.2.2.length:Int)]:List Int).length a0.2.2.length 8)then some (((([21322,a0.1,a0.2.1,(a0.2.2.length:Int)]:List Int)++a0.2.2),()),()) else none
theorem yS4:ConOk prog 164 ⟨yp8,yyJ,fun x=>yue x.1⟩:=zkG (yNT) func164 ntmps164.symm fun x=>by kernel_rfl
def yk2 (a0:dN):List Int:=yX a0
theorem yVp (a0:dN) (hk:zjw yp8 (a0,())):yue a0=(fun n=>some ((n,()),())) (yk2 a0):=by
 unfold yue yk2 yX;simp only[yM3];cases hr:yR a0
 ·rfl
 ·have:=(yrY.1 hr).2.2.1
  rw[zkD.2 (show(([21322,a0.1,a0.2.1,(a0.2.2.length:Int)]:List Int).length+a0.2.2.length)*8≤140737488355328 by simp only[List.length_cons,List.length_nil]; omega)]; rfl
def yEi:Con:=⟨yp8,yyJ,fun x=>(fun n=>some ((n,()),())) (yk2 x.1)⟩
theorem yWj:ConOk prog 164 yEi:=(yS4).mono (fun x r hk h=>(yVp x.1 hk).trans h)
def ylM:Code:=(f205.body).getD .skip
def ysk:Env:=zku TT [(127,yek),(133,ygL),(158,ya5)] []
theorem yIV:FrOk prog ⟨ysk,34,fun _=>none⟩ ylM:=zky yg yh ⟨yhj,ymy,ycN,trivial⟩
def yzy:Nat→Option Seg:=fun _=>none
def ybw:Shape:=⟨[(2,false,[.ptr 64 0]),(3,false,[.ptr 4224 0]),(17,false,[.br tW]),(18,false,[.int .i64]),(19,false,[.int .i64])],[(64,[.nil,.nil,.bool,.nil]),(4224,[.at 800000000,.at 800000001,.bool,.at 800000002])],[(800000000,tL,(.ow .fz)),(800000001,tW,(.pr .fz (.ow .fz))),(800000002,tI,.fz)]⟩
def yeM:Shape:=⟨[(2,false,[.ptr 64 0]),(3,false,[.ptr 4224 0]),(17,false,[.br tW]),(18,false,[.int .i64]),(19,false,[.ci .i64 0])],[(64,[.nil,.nil,.bool,.nil]),(4224,[.at 800000000,.at 800000001,.bool,.at 800000002])],[(800000000,tL,(.ow .fz)),(800000001,tW,(.pr .fz (.ow .fz))),(800000002,tI,.fz)]⟩
def yeE:Shape:=⟨[(2,false,[.ptr 64 0]),(3,false,[.ptr 4224 0])],[(64,[.nil,.nil,.bool,.nil]),(4224,[.at 800000000,.at 800000001,.bool,.at 800000002])],[(800000000,tL,(.ow .fz)),(800000001,tW,(.pr .fz (.ow .fz))),(800000002,tI,.fz)]⟩
def yh2:Shape:=⟨[],[],[]⟩
abbrev ylu (v0:List dW) (v1 v2:Int) (v3 v4:dM):(ybw).X:=((((),()),((),()),(v0,()),(v1,()),(v2,()),()),(((),(),v3.2.2.1,(),()),((),(),v4.2.2.1,(),()),()),(v4.1,v4.2.1,v4.2.2.2,()))
abbrev yH7 (v0:List dW) (v1:Int) (v2 v3:dM):(yeM).X:=((((),()),((),()),(v0,()),(v1,()),((),()),()),(((),(),v2.2.2.1,(),()),((),(),v3.2.2.1,(),()),()),(v3.1,v3.2.1,v3.2.2.2,()))
abbrev yu8 (v0 v1:dM):(yeE).X:=((((),()),((),()),()),(((),(),v0.2.2.1,(),()),((),(),v1.2.2.1,(),()),()),(v1.1,v1.2.1,v1.2.2.2,()))
def ylG (v0:List dW) (v1 v2:Int) (v3 v4:Bool) (v5:List (List Int)) (v6:List dW) (v7:List Int):Option ((ybw).X ⊕ ((yeE).X ⊕ (yh2).X)) :=bif(ltb v2 v1)then bif(inb v2 v0.length)then let r4:=yB ((nth v0 v2 (0,[])).2);bif(inb ((nth v0 v2 (0,[])).1) v5.length)then some (.inl ((((),()),((),()),(v0,()),(v1,()),((i64.wrap (v2+1)),()),()),(((),(),v3,(),()),((),(),v4,(),()),()),((v5.set ((nth v0 v2 (0,[])).1).toNat r4),v6,v7,()))) else none else none else some (.inr (.inl ((((),()),((),()),()),(((),(),v3,(),()),((),(),v4,(),()),()),(v5,v6,v7,()))))
def ybK (x:(ybw).X):=ylG x.1.2.2.1.1 x.1.2.2.2.1.1 x.1.2.2.2.2.1.1 x.2.1.1.2.2.1 x.2.1.2.1.2.2.1 x.2.2.1 x.2.2.2.1 x.2.2.2.2.1
def yuS (x:(yeM).X):(ybw).X:=((((),()),((),()),(x.1.2.2.1.1,()),(x.1.2.2.2.1.1,()),(0,()),()),(((),(),x.2.1.1.2.2.1,(),()),((),(),x.2.1.2.1.2.2.1,(),()),()),(x.2.2.1,x.2.2.2.1,x.2.2.2.2.1,()))
def yw5:Code:=(zeJ ylM 64 244).getD .skip
theorem yIA:zeJ ylM 64 61=some (.block 0 (.loop yw5)):=by kernel_rfl
theorem yKf (x:(ybw).X):zhu ⟨ysk,34,yzy⟩ 0 yw5 244 ybw yeE yh2 x=ybK x:=by kernel_rfl
def yu1 (x:(yeM).X):Nat:=18446744073709551616
def ymH (x:(yeM).X):Option ((yeE).X ⊕ (yh2).X):=zF ybK (yu1 x) (yuS x)
def yvh:Seg:=⟨yeM,yeE,yh2,ymH⟩
def yKO:Nat→Option Seg:=fun q=>bif Nat.beq q 61 then some yvh else yzy q
theorem yIW:FrOk prog ⟨ysk,34,yKO⟩ ylM:=(yIV).loop (sg:=yvh) ybw yuS (by decide) yIA ybK yu1 (by decide) (fun _=>rfl) (fun x r _ h=>h) yKf
abbrev ylU:List Par:= [.rd tM]
abbrev ysX:List OT:= [⟨false,tM,(.pr (.ow (.ow .fz)) (.pr (.ow (.pr .fz (.ow .fz))) (.pr .fz (.ow .fz))))⟩]
def ype (a0:dM):Option (zaY ysX×zak ylU) :=let r1:=yaJ a0;let r2:=yat a0;bif(!(!r2))then bif a0.2.2.1 then some ((r1,()),()) else zkr (ymH ((((),()),((),()),(a0.2.1,()),((a0.2.1.length:Int),()),((),()),()),(((),(),false,(),()),((),(),r1.2.2.1,(),()),()),(r1.1,r1.2.1,r1.2.2.2,()))) (fun y4 =>some (((y4.2.2.1,[],y4.2.1.2.1.2.2.1,y4.2.2.2.2.1),()),())) (fun y4 =>none) else some ((r1,()),())
theorem yMi:ConOk prog 205 ⟨ylU,ysX,fun x=>ype x.1⟩:=zkG (yIW) func205 ntmps205.symm fun x=>by kernel_rfl
def yim (a0:dM):dM:=yz a0
theorem yPd (a0:dM) (hk:zjw ylU (a0,())):ype a0=(fun n=>some ((n,()),())) (yim a0):=by
 have hb2:a0.2.1.length*32≤2^47:=hk.1.2.1.1;unfold ype yim yz;simp only[yaJ,yat];cases hm:yu a0
 ·rfl
 have h1:ymH (yH7 a0.2.1 a0.2.1.length yc a0)=some (.inl (yu8 yc (yf9 (fun _=>true) a0.2.1 a0.1,a0.2))) :=
  zkB (step:=ybK) a0.2.1.length (fun i s=>ylu a0.2.1 a0.2.1.length i yc (s,a0.2)) (yeT (fun _=>true) a0.2.1) (fun i s=>s.length=a0.1.length) (fun s=> .inl (yu8 yc (s,a0.2))) (fun i s hi hs=>by
   have hw:=(yOF hm hi).1;refine⟨?_,ytT.trans hs⟩
   simp only[ybK,ylu,ylG,zkw (show(i:Int)<a0.2.1.length by omega),cond_true,wq ((i:Int)+1) (by omega) (by omega),Int.natCast_add,Int.natCast_one,Int.toNat_natCast,zkP hi,hs,hw,yeT,yB]) (fun s hs=>by simp only[ybK,ylu,ylG,zk1 (Int.le_refl _),cond_false]) a0.1 rfl _ (by show _<18446744073709551616; omega)
 rw[h1];cases hf:a0.2.2.1
 ·exact congrArg (fun z=>some (((yf9 (fun _=>true) a0.2.1 a0.1,([]:List dW),z,a0.2.2.2),()),())) hf
 ·rfl
def yzU:Con:=⟨ylU,ysX,fun x=>(fun n=>some ((n,()),())) (yim x.1)⟩
theorem yP0:ConOk prog 205 yzU:=(yMi).mono (fun x r hk h=>(yPd x.1 hk).trans h)
def ylL:Code:=(f165.body).getD .skip
def ysj:Env:=zku TT [(192,yto),(205,yzU)] []
theorem yIQ:FrOk prog ⟨ysj,38,fun _=>none⟩ ylL:=zky yg yh ⟨yGl,yP0,trivial⟩
def yzw:Nat→Option Seg:=fun _=>none
def ybt:Shape:=⟨[(0,false,[.ptr 1000000000 0]),(8,false,[.int .i64]),(9,false,[.int .i64])],[(1000000000,[.int .i64,.int .i64,.int .i64,.at 800000000,.int .i64,.int .i64,.int .i64,.int .i64,.int .i64,.at 800000001,.int .i64,.bool,.bool])],[(800000000,tM,(.pr (.ow (.ow .fz)) (.pr (.ow (.pr .fz (.ow .fz))) (.pr .fz (.ow .fz))))),(800000001,tW,(.pr .fz (.ow .fz)))]⟩
def yeJ:Shape:=⟨[(0,false,[.ptr 1000000000 0]),(8,false,[.int .i64]),(9,false,[.ci .i64 0])],[(1000000000,[.int .i64,.int .i64,.int .i64,.at 800000000,.int .i64,.int .i64,.int .i64,.int .i64,.int .i64,.at 800000001,.int .i64,.bool,.bool])],[(800000000,tM,(.pr (.ow (.ow .fz)) (.pr (.ow (.pr .fz (.ow .fz))) (.pr .fz (.ow .fz))))),(800000001,tW,(.pr .fz (.ow .fz)))]⟩
def yeB:Shape:=⟨[],[(1000000000,[.int .i64,.int .i64,.int .i64,.at 800000000,.int .i64,.int .i64,.int .i64,.int .i64,.int .i64,.at 800000001,.int .i64,.bool,.bool])],[(800000000,tM,(.pr (.ow (.ow .fz)) (.pr (.ow (.pr .fz (.ow .fz))) (.pr .fz (.ow .fz))))),(800000001,tW,(.pr .fz (.ow .fz)))]⟩
def yeR:Shape:=⟨[(2,false,[.bool])],[(1000000000,[.int .i64,.int .i64,.int .i64,.at 800000000,.int .i64,.int .i64,.int .i64,.int .i64,.int .i64,.at 800000001,.int .i64,.bool,.bool])],[(800000000,tM,(.pr (.ow (.ow .fz)) (.pr (.ow (.pr .fz (.ow .fz))) (.pr .fz (.ow .fz))))),(800000001,tW,(.pr .fz (.ow .fz)))]⟩
abbrev yg7 (v0 v1:Int) (v2:dA):(ybt).X:=((((),()),(v0,()),(v1,()),()),((v2.1,v2.2.1.1,v2.2.1.2,(),v2.2.2.2.1,v2.2.2.2.2.1,v2.2.2.2.2.2.1,v2.2.2.2.2.2.2.1,v2.2.2.2.2.2.2.2.1,(),v2.2.2.2.2.2.2.2.2.2.1,v2.2.2.2.2.2.2.2.2.2.2.1,v2.2.2.2.2.2.2.2.2.2.2.2,()),()),(v2.2.2.1,v2.2.2.2.2.2.2.2.2.1,()))
abbrev yH4 (v0:Int) (v1:dA):(yeJ).X:=((((),()),(v0,()),((),()),()),((v1.1,v1.2.1.1,v1.2.1.2,(),v1.2.2.2.1,v1.2.2.2.2.1,v1.2.2.2.2.2.1,v1.2.2.2.2.2.2.1,v1.2.2.2.2.2.2.2.1,(),v1.2.2.2.2.2.2.2.2.2.1,v1.2.2.2.2.2.2.2.2.2.2.1,v1.2.2.2.2.2.2.2.2.2.2.2,()),()),(v1.2.2.1,v1.2.2.2.2.2.2.2.2.1,()))
abbrev yly (v0:dA):(yeB).X:=((),((v0.1,v0.2.1.1,v0.2.1.2,(),v0.2.2.2.1,v0.2.2.2.2.1,v0.2.2.2.2.2.1,v0.2.2.2.2.2.2.1,v0.2.2.2.2.2.2.2.1,(),v0.2.2.2.2.2.2.2.2.2.1,v0.2.2.2.2.2.2.2.2.2.2.1,v0.2.2.2.2.2.2.2.2.2.2.2,()),()),(v0.2.2.1,v0.2.2.2.2.2.2.2.2.1,()))
abbrev ylA (v0:Bool) (v1:dA):(yeR).X:=(((v0,()),()),((v1.1,v1.2.1.1,v1.2.1.2,(),v1.2.2.2.1,v1.2.2.2.2.1,v1.2.2.2.2.2.1,v1.2.2.2.2.2.2.1,v1.2.2.2.2.2.2.2.1,(),v1.2.2.2.2.2.2.2.2.2.1,v1.2.2.2.2.2.2.2.2.2.2.1,v1.2.2.2.2.2.2.2.2.2.2.2,()),()),(v1.2.2.1,v1.2.2.2.2.2.2.2.2.1,()))
def ylD (v0 v1 v2 v3 v4 v5 v6 v7 v8 v9 v10:Int) (v11 v12:Bool) (v13:List dM) (v14:List dW):Option ((ybt).X ⊕ ((yeB).X ⊕ (yeR).X)) :=bif(ltb v1 v0)then bif(inb v1 v13.length)then bif(((nth v13 v1 ([],[],false,[])).2).2).1 then some (.inl ((((),()),(v0,()),((i64.wrap (v1+1)),()),()),((v2,v3,v4,(),v5,v6,v7,v8,v9,(),v10,v11,v12,()),()),(v13,v14,()))) else let r3:=yhf (v2,(v3,v4),v13,v5,v6,v7,v8,v9,v14,v10,v11,v12);bif(!r3.1)then some (.inr (.inr (((false,()),()),((r3.2.1,r3.2.2.1.1,r3.2.2.1.2,(),r3.2.2.2.2.1,r3.2.2.2.2.2.1,r3.2.2.2.2.2.2.1,r3.2.2.2.2.2.2.2.1,r3.2.2.2.2.2.2.2.2.1,(),r3.2.2.2.2.2.2.2.2.2.2.1,r3.2.2.2.2.2.2.2.2.2.2.2.1,r3.2.2.2.2.2.2.2.2.2.2.2.2,()),()),(r3.2.2.2.1,r3.2.2.2.2.2.2.2.2.2.1,())))) else bif(inb v1 r3.2.2.2.1.length)then let r4:=yim ((nth r3.2.2.2.1 v1 ([],[],false,[])).1,((nth r3.2.2.2.1 v1 ([],[],false,[])).2).1,(((nth r3.2.2.2.1 v1 ([],[],false,[])).2).2));bif(inb v1 r3.2.2.2.1.length)then some (.inl ((((),()),(v0,()),((i64.wrap (v1+1)),()),()),((r3.2.1,r3.2.2.1.1,r3.2.2.1.2,(),r3.2.2.2.2.1,r3.2.2.2.2.2.1,r3.2.2.2.2.2.2.1,r3.2.2.2.2.2.2.2.1,r3.2.2.2.2.2.2.2.2.1,(),r3.2.2.2.2.2.2.2.2.2.2.1,r3.2.2.2.2.2.2.2.2.2.2.2.1,r3.2.2.2.2.2.2.2.2.2.2.2.2,()),()),((r3.2.2.2.1.set (v1).toNat r4),r3.2.2.2.2.2.2.2.2.2.1,()))) else none else none else none else some (.inr (.inl ((),((v2,v3,v4,(),v5,v6,v7,v8,v9,(),v10,v11,v12,()),()),(v13,v14,()))))
def ybH (x:(ybt).X):=ylD x.1.2.1.1 x.1.2.2.1.1 x.2.1.1.1 x.2.1.1.2.1 x.2.1.1.2.2.1 x.2.1.1.2.2.2.2.1 x.2.1.1.2.2.2.2.2.1 x.2.1.1.2.2.2.2.2.2.1 x.2.1.1.2.2.2.2.2.2.2.1 x.2.1.1.2.2.2.2.2.2.2.2.1 x.2.1.1.2.2.2.2.2.2.2.2.2.2.1 x.2.1.1.2.2.2.2.2.2.2.2.2.2.2.1 x.2.1.1.2.2.2.2.2.2.2.2.2.2.2.2.1 x.2.2.1 x.2.2.2.1
def yuP (x:(yeJ).X):(ybt).X:=((((),()),(x.1.2.1.1,()),(0,()),()),((x.2.1.1.1,x.2.1.1.2.1,x.2.1.1.2.2.1,(),x.2.1.1.2.2.2.2.1,x.2.1.1.2.2.2.2.2.1,x.2.1.1.2.2.2.2.2.2.1,x.2.1.1.2.2.2.2.2.2.2.1,x.2.1.1.2.2.2.2.2.2.2.2.1,(),x.2.1.1.2.2.2.2.2.2.2.2.2.2.1,x.2.1.1.2.2.2.2.2.2.2.2.2.2.2.1,x.2.1.1.2.2.2.2.2.2.2.2.2.2.2.2.1,()),()),(x.2.2.1,x.2.2.2.1,()))
def yw2:Code:=(zeJ ylL 64 52).getD .skip
theorem yIx:zeJ ylL 64 13=some (.block 0 (.loop yw2)):=by kernel_rfl
theorem yKc (x:(ybt).X):zhu ⟨ysj,38,yzw⟩ 0 yw2 52 ybt yeB yeR x=ybH x:=by kernel_rfl
def yuY (x:(yeJ).X):Nat:=18446744073709551616
def ymF (x:(yeJ).X):Option ((yeB).X ⊕ (yeR).X):=zF ybH (yuY x) (yuP x)
def yve:Seg:=⟨yeJ,yeB,yeR,ymF⟩
def yKM:Nat→Option Seg:=fun q=>bif Nat.beq q 13 then some yve else yzw q
theorem yIR:FrOk prog ⟨ysj,38,yKM⟩ ylL:=(yIQ).loop (sg:=yve) ybt yuP (by decide) yIx ybH yuY (by decide) (fun _=>rfl) (fun x r _ h=>h) yKc
abbrev yhp:List Par:= [.pt tA (.pr .fz (.pr (.pr .fz .fz) (.pr (.ow (.pr (.ow (.ow .fz)) (.pr (.ow (.pr .fz (.ow .fz))) (.pr .fz (.ow .fz))))) (.pr .fz (.pr .fz (.pr .fz (.pr .fz (.pr .fz (.pr (.ow (.pr .fz (.ow .fz))) (.pr .fz (.pr .fz .fz)))))))))))]
abbrev ymb:List OT:= [⟨false,tB,.fz⟩]
def ypc (a0:dA):Option (zaY ymb×zak yhp) :=zkr (ymF ((((),()),((a0.2.2.1.length:Int),()),((),()),()),((a0.1,a0.2.1.1,a0.2.1.2,(),a0.2.2.2.1,a0.2.2.2.2.1,a0.2.2.2.2.2.1,a0.2.2.2.2.2.2.1,a0.2.2.2.2.2.2.2.1,(),a0.2.2.2.2.2.2.2.2.2.1,a0.2.2.2.2.2.2.2.2.2.2.1,a0.2.2.2.2.2.2.2.2.2.2.2,()),()),(a0.2.2.1,a0.2.2.2.2.2.2.2.2.1,()))) (fun y4 =>some ((true,()),((y4.2.1.1.1,(y4.2.1.1.2.1,y4.2.1.1.2.2.1),y4.2.2.1,y4.2.1.1.2.2.2.2.1,y4.2.1.1.2.2.2.2.2.1,y4.2.1.1.2.2.2.2.2.2.1,y4.2.1.1.2.2.2.2.2.2.2.1,y4.2.1.1.2.2.2.2.2.2.2.2.1,y4.2.2.2.1,y4.2.1.1.2.2.2.2.2.2.2.2.2.2.1,y4.2.1.1.2.2.2.2.2.2.2.2.2.2.2.1,y4.2.1.1.2.2.2.2.2.2.2.2.2.2.2.2.1),()))) (fun y4 =>some ((y4.1.1.1,()),((y4.2.1.1.1,(y4.2.1.1.2.1,y4.2.1.1.2.2.1),y4.2.2.1,y4.2.1.1.2.2.2.2.1,y4.2.1.1.2.2.2.2.2.1,y4.2.1.1.2.2.2.2.2.2.1,y4.2.1.1.2.2.2.2.2.2.2.1,y4.2.1.1.2.2.2.2.2.2.2.2.1,y4.2.2.2.1,y4.2.1.1.2.2.2.2.2.2.2.2.2.2.1,y4.2.1.1.2.2.2.2.2.2.2.2.2.2.2.1,y4.2.1.1.2.2.2.2.2.2.2.2.2.2.2.2.1),())))
theorem yMg:ConOk prog 165 ⟨yhp,ymb,fun x=>ypc x.1⟩:=zkG (yIR) func165 ntmps165.symm fun x=>by kernel_rfl
def yik (a0:dA):Bool×dA:=(!(ya (yd a0)),yd a0)
def yfd (a0:dA):Bool:= !(ya a0)
theorem yPb (a0:dA) (hk:zjw yhp (a0,())) (hq:yfd a0=true):ypc a0=(fun n=>some ((n.1,()),(n.2,()))) (yik a0):=by
 have hb:a0.2.2.1.length*80≤2^47:=hk.1.2.2.1.1
 have h1:ymF (yH4 a0.2.2.1.length a0)=some (bif ya (yd a0)then .inr (ylA false (yd a0))else .inl (yly (yd a0))):=by
  have:=zkA (step:=ybH) a0.2.2.1.length (fun i s=>yg7 a0.2.2.1.length i s) (fun i s=>bif ya (yW s i)then(.inr (yW s i):dA ⊕ dA)else .inl (yW s i)) (fun _ s=>s.2.2.1.length=a0.2.2.1.length∧ya s=false) id
   (fun b=>bif ya b then .inr (ylA false b)else .inl (yly b)) (fun i s hi hs=>by
    constructor
    ·rw[yKo hs.2]
     simp only[ybH,yg7,ylD,hs.1,zkw (show(i:Int)<a0.2.2.1.length by omega),cond_true,wq ((i:Int)+1) (by omega) (by omega),Int.natCast_add,Int.natCast_one,Int.toNat_natCast,zkP hi,zkV,ySi hs.2,yaL,yim];cases hf:(nth s.2.2.1 i yc).2.2.1
     ·cases ho:(opA s).1
      ·have e:yW s i=(opA s).2:=by unfold yW; rw[hf,ho]; rfl
       have d:ya (opA s).2=true:=by rw[yWB hs.2,ho]; rfl
       rw[e];simp only[Bool.not_false,Bool.and_self,cond_true,cond_false,d,yaL,ylA]
      ·have e:yW s i=ybj (opA s).2 i (yz (nth s.2.2.1 i yc)):=by unfold yW; rw[hf,ho]; rfl
       rw[e];simp only[Bool.not_true,Bool.not_false,Bool.and_false,cond_true,cond_false,yg7,ybj,yaL,Int.toNat_natCast]
     ·have e:yW s i=s:=by unfold yW; rw[hf]; rfl
      rw[e]; rfl
    ·intro s' h
     cases hd:ya (yW s i)
     ·rw[hd]at h
      cases h;exact⟨(yli s i).trans hs.1,hd⟩
     ·rw[hd]at h; cases h) (fun s hs=>by simp only[ybH,yg7,ylD,hs.2,zk1 (Int.le_refl _),cond_false,id,yly]) a0 ⟨rfl,by simpa [yfd]using hq⟩ 18446744073709551616 (by omega)
  rw[yC2 (fun a i h=>yDH i h),← List.range_eq_range']at this;exact this
 unfold ypc yik;rw[h1];cases hd:ya (yd a0)<;>rfl
def yfc (a0:dA):Option (zaY ymb×zak yhp):=bif yfd a0 then(fun n=>some ((n.1,()),(n.2,()))) (yik a0)else none
theorem yrc (a0:dA) (h:yfd a0=true):yfc a0=(fun n=>some ((n.1,()),(n.2,()))) (yik a0):=by unfold yfc; rw[h]; rfl
def yiX:Con:=⟨yhp,ymb,fun x=>yfc x.1⟩
theorem yrb:ConOk prog 165 yiX:=(yMg).mono (fun x r hk h=>zkW h (fun hq=>yPb x.1 hk hq))
def yiI:Code:=(f97.body).getD .skip
def yoy:Env:=zku TT [(88,ytt),(139,yie),(164,yEi),(165,yiX)] []
theorem yGW:FrOk prog ⟨yoy,26,fun _=>none⟩ yiI:=zky yg yh ⟨yGp,yo9,yWj,yrb,trivial⟩
def yuE:Nat→Option Seg:=fun _=>none
def yaR:Shape:=⟨[(0,false,[.ptr 1000000000 0]),(3,false,[.ptr 0 0]),(10,false,[.int .i64]),(11,false,[.int .i64])],[(0,[.int .i64,.int .i64,.br tI]),(1000000000,[.int .i64,.int .i64,.int .i64,.at 800000000,.int .i64,.int .i64,.int .i64,.int .i64,.int .i64,.at 800000001,.int .i64,.bool,.bool])],[(800000000,tM,(.pr (.ow (.ow .fz)) (.pr (.ow (.pr .fz (.ow .fz))) (.pr .fz (.ow .fz))))),(800000001,tW,(.pr .fz (.ow .fz)))]⟩
def ydq:Shape:=⟨[(0,false,[.ptr 1000000000 0]),(3,false,[.ptr 0 0]),(10,false,[.int .i64]),(11,false,[.ci .i64 0])],[(0,[.int .i64,.int .i64,.br tI]),(1000000000,[.int .i64,.int .i64,.int .i64,.at 800000000,.int .i64,.int .i64,.int .i64,.int .i64,.int .i64,.at 800000001,.int .i64,.bool,.bool])],[(800000000,tM,(.pr (.ow (.ow .fz)) (.pr (.ow (.pr .fz (.ow .fz))) (.pr .fz (.ow .fz))))),(800000001,tW,(.pr .fz (.ow .fz)))]⟩
def ydo:Shape:=⟨[(0,false,[.ptr 1000000000 0])],[(1000000000,[.int .i64,.int .i64,.int .i64,.at 800000000,.int .i64,.int .i64,.int .i64,.int .i64,.int .i64,.at 800000001,.int .i64,.bool,.bool])],[(800000000,tM,(.pr (.ow (.ow .fz)) (.pr (.ow (.pr .fz (.ow .fz))) (.pr .fz (.ow .fz))))),(800000001,tW,(.pr .fz (.ow .fz)))]⟩
def yds:Shape:=⟨[(4,false,[.bool])],[(1000000000,[.int .i64,.int .i64,.int .i64,.at 800000000,.int .i64,.int .i64,.int .i64,.int .i64,.int .i64,.at 800000001,.int .i64,.bool,.bool])],[(800000000,tM,(.pr (.ow (.ow .fz)) (.pr (.ow (.pr .fz (.ow .fz))) (.pr .fz (.ow .fz))))),(800000001,tW,(.pr .fz (.ow .fz)))]⟩
abbrev yju (v0 v1:Int) (v2:dN) (v3:dA):(yaR).X:=((((),()),((),()),(v0,()),(v1,()),()),((v2.1,v2.2.1,v2.2.2,()),(v3.1,v3.2.1.1,v3.2.1.2,(),v3.2.2.2.1,v3.2.2.2.2.1,v3.2.2.2.2.2.1,v3.2.2.2.2.2.2.1,v3.2.2.2.2.2.2.2.1,(),v3.2.2.2.2.2.2.2.2.2.1,v3.2.2.2.2.2.2.2.2.2.2.1,v3.2.2.2.2.2.2.2.2.2.2.2,()),()),(v3.2.2.1,v3.2.2.2.2.2.2.2.2.1,()))
abbrev yGi (v0:Int) (v1:dN) (v2:dA):(ydq).X:=((((),()),((),()),(v0,()),((),()),()),((v1.1,v1.2.1,v1.2.2,()),(v2.1,v2.2.1.1,v2.2.1.2,(),v2.2.2.2.1,v2.2.2.2.2.1,v2.2.2.2.2.2.1,v2.2.2.2.2.2.2.1,v2.2.2.2.2.2.2.2.1,(),v2.2.2.2.2.2.2.2.2.2.1,v2.2.2.2.2.2.2.2.2.2.2.1,v2.2.2.2.2.2.2.2.2.2.2.2,()),()),(v2.2.2.1,v2.2.2.2.2.2.2.2.2.1,()))
abbrev yjw (v0:dA):(ydo).X:=((((),()),()),((v0.1,v0.2.1.1,v0.2.1.2,(),v0.2.2.2.1,v0.2.2.2.2.1,v0.2.2.2.2.2.1,v0.2.2.2.2.2.2.1,v0.2.2.2.2.2.2.2.1,(),v0.2.2.2.2.2.2.2.2.2.1,v0.2.2.2.2.2.2.2.2.2.2.1,v0.2.2.2.2.2.2.2.2.2.2.2,()),()),(v0.2.2.1,v0.2.2.2.2.2.2.2.2.1,()))
abbrev yjy (v0:Bool) (v1:dA):(yds).X:=(((v0,()),()),((v1.1,v1.2.1.1,v1.2.1.2,(),v1.2.2.2.1,v1.2.2.2.2.1,v1.2.2.2.2.2.1,v1.2.2.2.2.2.2.1,v1.2.2.2.2.2.2.2.1,(),v1.2.2.2.2.2.2.2.2.2.1,v1.2.2.2.2.2.2.2.2.2.2.1,v1.2.2.2.2.2.2.2.2.2.2.2,()),()),(v1.2.2.1,v1.2.2.2.2.2.2.2.2.1,()))
def yjX (v0 v1 v2 v3:Int) (v4:List Int) (v5 v6 v7 v8 v9 v10 v11 v12 v13:Int) (v14 v15:Bool) (v16:List dM) (v17:List dW):Option ((yaR).X ⊕ ((ydo).X ⊕ (yds).X)) :=bif(ltb v1 v0)then let r4:=yk3 v2;let r5:=yk2 (v2,v3,v4);bnd (yep (v5,(v6,v7),v16,v8,v9,v10,v11,v12,v17,v13,v14,v15) v1 r4 r5) fun r6 =>bif(!r6.1.1)then some (.inr (.inr (((false,()),()),((r6.2.1.1,r6.2.1.2.1.1,r6.2.1.2.1.2,(),r6.2.1.2.2.2.1,r6.2.1.2.2.2.2.1,r6.2.1.2.2.2.2.2.1,r6.2.1.2.2.2.2.2.2.1,r6.2.1.2.2.2.2.2.2.2.1,(),r6.2.1.2.2.2.2.2.2.2.2.2.1,r6.2.1.2.2.2.2.2.2.2.2.2.2.1,r6.2.1.2.2.2.2.2.2.2.2.2.2.2,()),()),(r6.2.1.2.2.1,r6.2.1.2.2.2.2.2.2.2.2.1,())))) else some (.inl ((((),()),((),()),(v0,()),((i64.wrap (v1+1)),()),()),((v2,v3,v4,()),(r6.2.1.1,r6.2.1.2.1.1,r6.2.1.2.1.2,(),r6.2.1.2.2.2.1,r6.2.1.2.2.2.2.1,r6.2.1.2.2.2.2.2.1,r6.2.1.2.2.2.2.2.2.1,r6.2.1.2.2.2.2.2.2.2.1,(),r6.2.1.2.2.2.2.2.2.2.2.2.1,r6.2.1.2.2.2.2.2.2.2.2.2.2.1,r6.2.1.2.2.2.2.2.2.2.2.2.2.2,()),()),(r6.2.1.2.2.1,r6.2.1.2.2.2.2.2.2.2.2.1,()))) else some (.inr (.inl ((((),()),()),((v5,v6,v7,(),v8,v9,v10,v11,v12,(),v13,v14,v15,()),()),(v16,v17,()))))
def ya3 (x:(yaR).X):=yjX x.1.2.2.1.1 x.1.2.2.2.1.1 x.2.1.1.1 x.2.1.1.2.1 x.2.1.1.2.2.1 x.2.1.2.1.1 x.2.1.2.1.2.1 x.2.1.2.1.2.2.1 x.2.1.2.1.2.2.2.2.1 x.2.1.2.1.2.2.2.2.2.1 x.2.1.2.1.2.2.2.2.2.2.1 x.2.1.2.1.2.2.2.2.2.2.2.1 x.2.1.2.1.2.2.2.2.2.2.2.2.1 x.2.1.2.1.2.2.2.2.2.2.2.2.2.2.1 x.2.1.2.1.2.2.2.2.2.2.2.2.2.2.2.1 x.2.1.2.1.2.2.2.2.2.2.2.2.2.2.2.2.1 x.2.2.1 x.2.2.2.1
def yrQ (x:(ydq).X):(yaR).X:=((((),()),((),()),(x.1.2.2.1.1,()),(0,()),()),((x.2.1.1.1,x.2.1.1.2.1,x.2.1.1.2.2.1,()),(x.2.1.2.1.1,x.2.1.2.1.2.1,x.2.1.2.1.2.2.1,(),x.2.1.2.1.2.2.2.2.1,x.2.1.2.1.2.2.2.2.2.1,x.2.1.2.1.2.2.2.2.2.2.1,x.2.1.2.1.2.2.2.2.2.2.2.1,x.2.1.2.1.2.2.2.2.2.2.2.2.1,(),x.2.1.2.1.2.2.2.2.2.2.2.2.2.2.1,x.2.1.2.1.2.2.2.2.2.2.2.2.2.2.2.1,x.2.1.2.1.2.2.2.2.2.2.2.2.2.2.2.2.1,()),()),(x.2.2.1,x.2.2.2.1,()))
def ytm:Code:=(zeJ yiI 64 52).getD .skip
theorem yGR:zeJ yiI 64 13=some (.block 0 (.loop ytm)):=by kernel_rfl
theorem yHh (x:(yaR).X):zhu ⟨yoy,26,yuE⟩ 0 ytm 52 yaR ydo yds x=ya3 x:=by kernel_rfl
def yrT (x:(ydq).X):Nat:=18446744073709551616
def yj8 (x:(ydq).X):Option ((ydo).X ⊕ (yds).X):=zF ya3 (yrT x) (yrQ x)
def yr0:Seg:=⟨ydq,ydo,yds,yj8⟩
def yHK:Nat→Option Seg:=fun q=>bif Nat.beq q 13 then some yr0 else yuE q
theorem yGX:FrOk prog ⟨yoy,26,yHK⟩ yiI:=(yGW).loop (sg:=yr0) yaR yrQ (by decide) yGR ya3 yrT (by decide) (fun _=>rfl) (fun x r _ h=>h) yHh
abbrev yfs:List Par:= [.pt tA (.pr .fz (.pr (.pr .fz .fz) (.pr (.ow (.pr (.ow (.ow .fz)) (.pr (.ow (.pr .fz (.ow .fz))) (.pr .fz (.ow .fz))))) (.pr .fz (.pr .fz (.pr .fz (.pr .fz (.pr .fz (.pr (.ow (.pr .fz (.ow .fz))) (.pr .fz (.pr .fz .fz))))))))))),.rd tN]
abbrev yiN:List OT:= [⟨false,tB,.fz⟩]
def ylB (a0:dA) (a1:dN):Option (zaY yiN×zak yfs) :=zkr (yj8 ((((),()),((),()),((a0.2.2.1.length:Int),()),((),()),()),((a1.1,a1.2.1,a1.2.2,()),(a0.1,a0.2.1.1,a0.2.1.2,(),a0.2.2.2.1,a0.2.2.2.2.1,a0.2.2.2.2.2.1,a0.2.2.2.2.2.2.1,a0.2.2.2.2.2.2.2.1,(),a0.2.2.2.2.2.2.2.2.2.1,a0.2.2.2.2.2.2.2.2.2.2.1,a0.2.2.2.2.2.2.2.2.2.2.2,()),()),(a0.2.2.1,a0.2.2.2.2.2.2.2.2.1,()))) (fun y6 =>bnd (yfc (y6.2.1.1.1,(y6.2.1.1.2.1,y6.2.1.1.2.2.1),y6.2.2.1,y6.2.1.1.2.2.2.2.1,y6.2.1.1.2.2.2.2.2.1,y6.2.1.1.2.2.2.2.2.2.1,y6.2.1.1.2.2.2.2.2.2.2.1,y6.2.1.1.2.2.2.2.2.2.2.2.1,y6.2.2.2.1,y6.2.1.1.2.2.2.2.2.2.2.2.2.2.1,y6.2.1.1.2.2.2.2.2.2.2.2.2.2.2.1,y6.2.1.1.2.2.2.2.2.2.2.2.2.2.2.2.1)) fun r8 =>some ((r8.1.1,()),(r8.2.1,()))) (fun y6 =>some ((y6.1.1.1,()),((y6.2.1.1.1,(y6.2.1.1.2.1,y6.2.1.1.2.2.1),y6.2.2.1,y6.2.1.1.2.2.2.2.1,y6.2.1.1.2.2.2.2.2.1,y6.2.1.1.2.2.2.2.2.2.1,y6.2.1.1.2.2.2.2.2.2.2.1,y6.2.1.1.2.2.2.2.2.2.2.2.1,y6.2.2.2.1,y6.2.1.1.2.2.2.2.2.2.2.2.2.2.1,y6.2.1.1.2.2.2.2.2.2.2.2.2.2.2.1,y6.2.1.1.2.2.2.2.2.2.2.2.2.2.2.2.1),())))
theorem yIe:ConOk prog 97 ⟨yfs,yiN,fun x=>ylB x.1 x.2.1⟩:=zkG (yGX) func97 ntmps97.symm fun x=>by kernel_rfl
def yiZ (a0:dA) (a1:dN):Bool×dA:=(!(ya (yp a0 a1)),yp a0 a1)
def yfY (a0:dA) (a1:dN):Bool:= !(ya a0)
theorem yJT (a0:dA) (a1:dN) (hk:zjw yfs (a0,a1,())) (hq:yfY a0 a1=true):ylB a0 a1=(fun n=>some ((n.1,()),(n.2,()))) (yiZ a0 a1):=by
 have hb:a0.2.2.1.length*80≤2^47:=hk.1.2.2.1.1;have hd0:ya a0=false:=by simpa [yfY]using hq
 have h1:yj8 (yGi a0.2.2.1.length a1 a0)=some (bif ya ((List.range a0.2.2.1.length).foldl (ya1 a1) a0)then .inr (yjy false ((List.range a0.2.2.1.length).foldl (ya1 a1) a0))else .inl (yjw ((List.range a0.2.2.1.length).foldl (ya1 a1) a0))):=by
  have:=zkA (step:=ya3) a0.2.2.1.length (fun i s=>yju a0.2.2.1.length i a1 s) (fun i s=>bif ya (ya1 a1 s i)then(.inr (ya1 a1 s i):dA ⊕ dA)else .inl (ya1 a1 s i)) (fun _ s=>s.2.2.1.length=a0.2.2.1.length∧ya s=false) id
   (fun b=>bif ya b then .inr (yjy false b)else .inl (yjw b)) (fun i s hi hs=>by
    constructor
    ·simp only[ya3,yju,yjX,zkw (show(i:Int)<a0.2.2.1.length by omega),cond_true,wq ((i:Int)+1) (by omega) (by omega),Int.natCast_add,Int.natCast_one,Int.toNat_natCast,zkV,yJp,yk2]
     rw[ypa s i (yf a1.1) (yX a1) (by unfold ycO; rw[zkP (by rw[hs.1]; exact hi),hs.2]; rfl)];simp only[zkF,ycM];rw[show ybk s i (yf a1.1) (yX a1)=ya1 a1 s i from rfl];cases hd:ya (ya1 a1 s i)
     ·rfl
     ·simp only[hd,Bool.not_true,Bool.not_false,cond_true,yjy]
    ·intro s' h
     cases hd:ya (ya1 a1 s i)
     ·rw[hd]at h
      cases h;exact⟨(ykE a1 s i).trans hs.1,hd⟩
     ·rw[hd]at h; cases h) (fun s hs=>by simp only[ya3,yju,yjX,hs.2,zk1 (Int.le_refl _),cond_false,id,yjw]) a0 ⟨rfl,hd0⟩ 18446744073709551616 (by omega)
  rw[yC2 (fun a i h=>yM9 a1 i h),← List.range_eq_range']at this;exact this
 unfold ylB yiZ yp;refine(congrArg (fun z=>zkr z _ _) h1).trans ?_;cases hd:ya ((List.range a0.2.2.1.length).foldl (ya1 a1) a0)
 ·simp only[cond_false,zkL,zkV]
  rw[yrc _ (by unfold yfd; rw[hd]; rfl)]; rfl
 ·rw[yr2 hd]
  simp only[cond_true,zkM,zkV];rw[hd]; rfl
def yfX (a0:dA) (a1:dN):Option (zaY yiN×zak yfs):=bif yfY a0 a1 then(fun n=>some ((n.1,()),(n.2,()))) (yiZ a0 a1)else none
theorem yJ8 (a0:dA) (a1:dN) (h:yfY a0 a1=true):yfX a0 a1=(fun n=>some ((n.1,()),(n.2,()))) (yiZ a0 a1):=by unfold yfX; rw[h]; rfl
def yuL:Con:=⟨yfs,yiN,fun x=>yfX x.1 x.2.1⟩
theorem yJ3:ConOk prog 97 yuL:=(yIe).mono (fun x r hk h=>zkW h (fun hq=>yJT x.1 x.2.1 hk hq))
def yXp:Code:=(f111.body).getD .skip
def yXV:Env:=zku TT [(81,yO)] []
theorem yNN:FrOk prog ⟨yXV,9,fun _=>none⟩ yXp:=zky yg yh ⟨yaa,trivial⟩
abbrev yyl:List Par:= [.rd tI]
abbrev yyE:List OT:= [⟨false,tI,.fz⟩]
def yEX (a0:Int):Option (zaY yyE×zak yyl) :=let r1:=yj a0 0 1099511627776;bif(!r1)then some (((-1),()),()) else some (((i64.wrap ((i64.wrap (a0+2))+4)),()),())
theorem ySZ:ConOk prog 111 ⟨yyl,yyE,fun x=>yEX x.1⟩:=zkG (yNN) func111 ntmps111.symm fun x=>by kernel_rfl
def ykZ (a0:Int):Int :=let r1:=yj a0 0 1099511627776;bif(!r1)then (-1) else (i64.wrap ((i64.wrap (a0+2))+4))
def ytp:Con:=⟨yyl,yyE,fun x=>(fun n=>some ((n,()),())) (ykZ x.1)⟩
theorem yVk (a0:Int):yEX a0=(fun n=>some ((n,()),())) (ykZ a0):=zkT (p:=fun(n:Int)=>((n,()),())) (zkE (p:=fun(n:Int)=>((n,()),())) rfl rfl)
theorem yGm:ConOk prog 111 ytp:=(ySZ).mono (fun x r _ h=>(yVk x.1).trans h)
def yXD:Code:=(f113.body).getD .skip
def yX9:Env:=zku TT [(82,yL)] []
theorem yN8:FrOk prog ⟨yX9,9,fun _=>none⟩ yXD:=zky yg yh ⟨yS,trivial⟩
abbrev yyt:List Par:= [.rd tI]
abbrev yyU:List OT:= [⟨false,tI,.fz⟩]
def yE5 (a0:Int):Option (zaY yyU×zak yyt) :=let r1:=yb a0 0 1099511627776;bif(!r1)then some (((-1),()),()) else some (((i64.wrap ((i64.wrap (a0+2))+4)),()),())
theorem yTg:ConOk prog 113 ⟨yyt,yyU,fun x=>yE5 x.1⟩:=zkG (yN8) func113 ntmps113.symm fun x=>by kernel_rfl
def ybD (a0:Int):Int :=let r1:=yb a0 0 1099511627776;bif(!r1)then (-1) else (i64.wrap ((i64.wrap (a0+2))+4))
def ye6:Con:=⟨yyt,yyU,fun x=>(fun n=>some ((n,()),())) (ybD x.1)⟩
theorem yVB (a0:Int):yE5 a0=(fun n=>some ((n,()),())) (ybD a0):=zkT (p:=fun(n:Int)=>((n,()),())) (zkE (p:=fun(n:Int)=>((n,()),())) rfl rfl)
theorem yjP:ConOk prog 113 ye6:=(yTg).mono (fun x r _ h=>(yVB x.1).trans h)
theorem yge (s:Int):ybD s=yx s:=by
 unfold ybD yx;rw[ycx];by_cases h:0≤s∧s≤1099511627776
 ·rw[zk0 h.1,zk0 h.2,wq (s+2) (by omega) (by omega),wr (by omega) (by omega)]
  show s+2+4=s+6;omega
 ·cases h1:(leb 0 s&&leb s 1099511627776)
  ·rfl
  ·rw[Bool.and_eq_true,zj5,zj5]at h1; exact absurd h1 h
theorem yGh (s:Int):ykZ s=yx s:=yge s
def yQB:Code:=(f167.body).getD .skip
def yQ2:Env:=zku TT [(109,yeS)] []
theorem yIY:FrOk prog ⟨yQ2,17,fun _=>none⟩ yQB:=zky yg yh ⟨yi2,trivial⟩
abbrev ylW:List Par:= [.rd tG,.rd tI]
abbrev ysZ:List OT:= [⟨false,tI,.fz⟩]
def ypg (a0:dG) (a1:Int):Option (zaY ysZ×zak ylW) :=let r1:=yaV a0 a1;bif(!r1)then some (((-1),()),()) else bif(a0.1 !=0)then some (((i64.wrap ((i64.wrap (a0.1-1))-(a1.tmod a0.1))),()),()) else none
theorem yMk:ConOk prog 167 ⟨ylW,ysZ,fun x=>ypg x.1 x.2.1⟩:=zkG (yIY) func167 ntmps167.symm fun x=>by kernel_rfl
def ydx (a0:dG) (a1:Int):Int:=yk a0 a1
theorem yPf (a0:dG) (a1:Int) (hk:zjw ylW (a0,a1,())):ypg a0 a1=(fun n=>some ((n,()),())) (ydx a0 a1):=by
 unfold ypg ydx;rw[yFt];cases hs:yac a0 a1
 ·unfold yk; rw[hs]; rfl
 ·have h1:=yY.1 hs
  have h2:=yn.1 h1.1;have h3:=yj3 hs;have h4:yk a0 a1=a0.1-1-a1.tmod a0.1:=by unfold yk; rw[hs]; rfl
  rw[show(a0.1 !=0)=true from bne_iff_ne.2 (by omega),wq (a0.1-1) (by omega) (by omega),wq (a0.1-1-a1.tmod a0.1) (by omega) (by omega),h4]; rfl
def yoT:Con:=⟨ylW,ysZ,fun x=>(fun n=>some ((n,()),())) (ydx x.1 x.2.1)⟩
theorem yDc:ConOk prog 167 yoT:=(yMk).mono (fun x r hk h=>(yPf x.1 x.2.1 hk).trans h)
def yXq:Code:=(f142.body).getD .skip
def yXW:Env:=zku TT [(81,yO),(109,yeS),(167,yoT)] []
theorem yNQ:FrOk prog ⟨yXW,28,fun _=>none⟩ yXq:=zky yg yh ⟨yaa,yi2,yDc,trivial⟩
abbrev yp5:List Par:= [.rd tG,.rd tI,.rd tI]
abbrev yyG:List OT:= [⟨false,tI,.fz⟩]
def yub (a0:dG) (a1 a2:Int):Option (zaY yyG×zak yp5) :=let r1:=yaV a0 a1;bif(!(!r1))then let r2:=yj a2 0 (i64.wrap (a0.1-2));bif(!r2)then some (((-1),()),()) else let r3:=ydx a0 a1;bif(a0.1 !=0)then some ((((i64.wrap ((i64.wrap (r3+1))+a2)).tmod a0.1),()),()) else none else some (((-1),()),())
theorem yS1:ConOk prog 142 ⟨yp5,yyG,fun x=>yub x.1 x.2.1 x.2.2.1⟩:=zkG (yNQ) func142 ntmps142.symm fun x=>by kernel_rfl
def yfo (a0:dG) (a1 a2:Int):Int:=ybA a0 a1 a2
theorem yVm (a0:dG) (a1 a2:Int) (hk:zjw yp5 (a0,a1,a2,())):yub a0 a1 a2=(fun n=>some ((n,()),())) (yfo a0 a1 a2):=by
 unfold yub yfo ybA ydx;rw[yFt];cases hs:yac a0 a1
 ·rfl
 ·have h1:=yY.1 hs
  have h2:=yn.1 h1.1;have h3:=yj3 hs;rw[yau,ycx,wq (a0.1-2) (by omega) (by omega)];cases hi:(leb 0 a2&&leb a2 (a0.1-2))
  ·rfl
  ·rw[Bool.and_eq_true,zj5,zj5]at hi
   rw[show(a0.1 !=0)=true from bne_iff_ne.2 (by omega)];show some (((i64.wrap (i64.wrap (yk a0 a1+1)+a2)).tmod a0.1,()),())=some (((yk a0 a1+1+a2).tmod a0.1,()),());rw[wq (yk a0 a1+1) (by omega) (by omega),wq (yk a0 a1+1+a2) (by omega) (by omega)]
def ytq:Con:=⟨yp5,yyG,fun x=>(fun n=>some ((n,()),())) (yfo x.1 x.2.1 x.2.2.1)⟩
theorem yGn:ConOk prog 142 ytq:=(yS1).mono (fun x r hk h=>(yVm x.1 x.2.1 x.2.2.1 hk).trans h)
end
end Go.Tf
