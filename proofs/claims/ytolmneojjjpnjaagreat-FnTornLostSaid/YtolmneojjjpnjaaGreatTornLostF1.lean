/- Functions of the program, and what they come to. -/
import Derived.Test.YtolmneojjjpnjaaGreatTornLostF0
namespace Go.Tf
noncomputable section
open Go.Proofs Go.Proofs.Tryz IntKind
set_option synthInstance.maxHeartbeats 400000
set_option synthInstance.maxSize 10000
set_option linter.unusedVariables false
set_option linter.unusedSimpArgs false
set_option maxRecDepth 100000
def ydy:Code:=(f16.body).getD .skip
def yik:Env:=zku TT [(55,yeP),(73,yBQ),(74,yqe)] []
theorem yKZ:FrOk prog ⟨yik,109,fun _=>none⟩ ydy:=zky yf yg ⟨yif,ySP,yFa,trivial⟩
def yBj:Nat→Option Seg:=fun _=>none
def ybI:Shape:=⟨[(0,false,[.br tM]),(1,false,[.int .i64]),(4,false,[.ptr 0 0]),(6,false,[.ptr 4160 0]),(7,false,[.bool]),(18,false,[.br tM]),(19,false,[.int .i64]),(20,false,[.int .i64])],[(0,[.int .i64,.int .i64,.int .i64,.nil,.int .i64,.int .i64,.int .i64,.int .i64,.int .i64,.nil,.int .i64,.bool,.bool]),(4160,[.int .i64,.int .i64,.int .i64,.int .i64,.int .i64,.int .i64,.int .i64,.int .i64])],[]⟩
def yfm:Shape:=⟨[(0,false,[.br tM]),(1,false,[.int .i64]),(4,false,[.ptr 0 0]),(6,false,[.ptr 4160 0]),(7,false,[.cb false]),(18,false,[.br tM]),(19,false,[.int .i64]),(20,false,[.ci .i64 0])],[(0,[.int .i64,.int .i64,.int .i64,.nil,.int .i64,.int .i64,.int .i64,.int .i64,.int .i64,.nil,.int .i64,.bool,.bool]),(4160,[.int .i64,.int .i64,.int .i64,.int .i64,.int .i64,.int .i64,.int .i64,.int .i64])],[]⟩
def yfd:Shape:=⟨[(0,false,[.br tM]),(1,false,[.int .i64]),(4,false,[.ptr 0 0]),(6,false,[.ptr 4160 0]),(7,false,[.bool])],[(0,[.int .i64,.int .i64,.int .i64,.nil,.int .i64,.int .i64,.int .i64,.int .i64,.int .i64,.nil,.int .i64,.bool,.bool]),(4160,[.int .i64,.int .i64,.int .i64,.int .i64,.int .i64,.int .i64,.int .i64,.int .i64])],[]⟩
def yiV:Shape:=⟨[],[],[]⟩
abbrev ymu (v0:List dM) (v1:Int) (v2:Bool) (v3:List dM) (v4 v5:Int) (v6:dA) (v7:dS):(ybI).X:=(((v0,()),(v1,()),((),()),((),()),(v2,()),(v3,()),(v4,()),(v5,()),()),((v6.1,v6.2.1.1,v6.2.1.2,(),v6.2.2.2.1,v6.2.2.2.2.1,v6.2.2.2.2.2.1,v6.2.2.2.2.2.2.1,v6.2.2.2.2.2.2.2.1,(),v6.2.2.2.2.2.2.2.2.2.1,v6.2.2.2.2.2.2.2.2.2.2.1,v6.2.2.2.2.2.2.2.2.2.2.2,()),(v7.1,v7.2.1,v7.2.2.1,v7.2.2.2.1,v7.2.2.2.2.1,v7.2.2.2.2.2.1,v7.2.2.2.2.2.2.1,v7.2.2.2.2.2.2.2,()),()),())
abbrev yJ1 (v0:List dM) (v1:Int) (v2:List dM) (v3:Int) (v4:dA) (v5:dS):(yfm).X:=(((v0,()),(v1,()),((),()),((),()),((),()),(v2,()),(v3,()),((),()),()),((v4.1,v4.2.1.1,v4.2.1.2,(),v4.2.2.2.1,v4.2.2.2.2.1,v4.2.2.2.2.2.1,v4.2.2.2.2.2.2.1,v4.2.2.2.2.2.2.2.1,(),v4.2.2.2.2.2.2.2.2.2.1,v4.2.2.2.2.2.2.2.2.2.2.1,v4.2.2.2.2.2.2.2.2.2.2.2,()),(v5.1,v5.2.1,v5.2.2.1,v5.2.2.2.1,v5.2.2.2.2.1,v5.2.2.2.2.2.1,v5.2.2.2.2.2.2.1,v5.2.2.2.2.2.2.2,()),()),())
abbrev ywv (v0:List dM) (v1:Int) (v2:Bool) (v3:dA) (v4:dS):(yfd).X:=(((v0,()),(v1,()),((),()),((),()),(v2,()),()),((v3.1,v3.2.1.1,v3.2.1.2,(),v3.2.2.2.1,v3.2.2.2.2.1,v3.2.2.2.2.2.1,v3.2.2.2.2.2.2.1,v3.2.2.2.2.2.2.2.1,(),v3.2.2.2.2.2.2.2.2.2.1,v3.2.2.2.2.2.2.2.2.2.2.1,v3.2.2.2.2.2.2.2.2.2.2.2,()),(v4.1,v4.2.1,v4.2.2.1,v4.2.2.2.1,v4.2.2.2.2.1,v4.2.2.2.2.2.1,v4.2.2.2.2.2.2.1,v4.2.2.2.2.2.2.2,()),()),())
def ymJ (v0:List dM) (v1:Int) (v2:Bool) (v3:List dM) (v4 v5 v6 v7 v8 v9 v10 v11 v12 v13 v14:Int) (v15 v16:Bool) (v17 v18 v19 v20 v21 v22 v23 v24:Int):Option ((ybI).X ⊕ ((yfd).X ⊕ (yiV).X)) :=bif(ltb v5 v4)then bif(inb v5 v3.length)then let r2:=ydX ((nth v3 v5 ([],[],false,[])).1,((nth v3 v5 ([],[],false,[])).2).1,(((nth v3 v5 ([],[],false,[])).2).2)) v5 v1;bif r2.2 then bif(!(!v2))then bif(ltb v18 r2.1.2.1)then some (.inl (((v0,()),(v1,()),((),()),((),()),(true,()),(v3,()),(v4,()),((i64.wrap (v5+1)),()),()),((v6,v7,v8,(),v9,v10,v11,v12,v13,(),v14,v15,v16,()),(r2.1.1,r2.1.2.1,r2.1.2.2.1,r2.1.2.2.2.1,r2.1.2.2.2.2.1,r2.1.2.2.2.2.2.1,r2.1.2.2.2.2.2.2.1,r2.1.2.2.2.2.2.2.2,()),()),())) else some (.inl (((v0,()),(v1,()),((),()),((),()),(v2,()),(v3,()),(v4,()),((i64.wrap (v5+1)),()),()),((v6,v7,v8,(),v9,v10,v11,v12,v13,(),v14,v15,v16,()),(v17,v18,v19,v20,v21,v22,v23,v24,()),()),())) else some (.inl (((v0,()),(v1,()),((),()),((),()),(true,()),(v3,()),(v4,()),((i64.wrap (v5+1)),()),()),((v6,v7,v8,(),v9,v10,v11,v12,v13,(),v14,v15,v16,()),(r2.1.1,r2.1.2.1,r2.1.2.2.1,r2.1.2.2.2.1,r2.1.2.2.2.2.1,r2.1.2.2.2.2.2.1,r2.1.2.2.2.2.2.2.1,r2.1.2.2.2.2.2.2.2,()),()),())) else some (.inl (((v0,()),(v1,()),((),()),((),()),(v2,()),(v3,()),(v4,()),((i64.wrap (v5+1)),()),()),((v6,v7,v8,(),v9,v10,v11,v12,v13,(),v14,v15,v16,()),(v17,v18,v19,v20,v21,v22,v23,v24,()),()),())) else none else some (.inr (.inl (((v0,()),(v1,()),((),()),((),()),(v2,()),()),((v6,v7,v8,(),v9,v10,v11,v12,v13,(),v14,v15,v16,()),(v17,v18,v19,v20,v21,v22,v23,v24,()),()),())))
def yb1 (x:(ybI).X):=ymJ x.1.1.1 x.1.2.1.1 x.1.2.2.2.2.1.1 x.1.2.2.2.2.2.1.1 x.1.2.2.2.2.2.2.1.1 x.1.2.2.2.2.2.2.2.1.1 x.2.1.1.1 x.2.1.1.2.1 x.2.1.1.2.2.1 x.2.1.1.2.2.2.2.1 x.2.1.1.2.2.2.2.2.1 x.2.1.1.2.2.2.2.2.2.1 x.2.1.1.2.2.2.2.2.2.2.1 x.2.1.1.2.2.2.2.2.2.2.2.1 x.2.1.1.2.2.2.2.2.2.2.2.2.2.1 x.2.1.1.2.2.2.2.2.2.2.2.2.2.2.1 x.2.1.1.2.2.2.2.2.2.2.2.2.2.2.2.1 x.2.1.2.1.1 x.2.1.2.1.2.1 x.2.1.2.1.2.2.1 x.2.1.2.1.2.2.2.1 x.2.1.2.1.2.2.2.2.1 x.2.1.2.1.2.2.2.2.2.1 x.2.1.2.1.2.2.2.2.2.2.1 x.2.1.2.1.2.2.2.2.2.2.2.1
def ywf (x:(yfm).X):(ybI).X:=(((x.1.1.1,()),(x.1.2.1.1,()),((),()),((),()),(false,()),(x.1.2.2.2.2.2.1.1,()),(x.1.2.2.2.2.2.2.1.1,()),(0,()),()),((x.2.1.1.1,x.2.1.1.2.1,x.2.1.1.2.2.1,(),x.2.1.1.2.2.2.2.1,x.2.1.1.2.2.2.2.2.1,x.2.1.1.2.2.2.2.2.2.1,x.2.1.1.2.2.2.2.2.2.2.1,x.2.1.1.2.2.2.2.2.2.2.2.1,(),x.2.1.1.2.2.2.2.2.2.2.2.2.2.1,x.2.1.1.2.2.2.2.2.2.2.2.2.2.2.1,x.2.1.1.2.2.2.2.2.2.2.2.2.2.2.2.1,()),(x.2.1.2.1.1,x.2.1.2.1.2.1,x.2.1.2.1.2.2.1,x.2.1.2.1.2.2.2.1,x.2.1.2.1.2.2.2.2.1,x.2.1.2.1.2.2.2.2.2.1,x.2.1.2.1.2.2.2.2.2.2.1,x.2.1.2.1.2.2.2.2.2.2.2.1,()),()),())
def yyH:Code:=(zeJ ydy 64 116).getD .skip
theorem yKF:zeJ ydy 64 29=some (.block 0 (.loop yyH)):=by kernel_rfl
theorem yMu (x:(ybI).X):zhu ⟨yik,109,yBj⟩ 0 yyH 116 ybI yfd yiV x=yb1 x:=by kernel_rfl
def ywo (x:(yfm).X):Nat:=18446744073709551616
def ynN (x:(yfm).X):Option ((yfd).X ⊕ (yiV).X):=zF yb1 (ywo x) (ywf x)
def ywE:Seg:=⟨yfm,yfd,yiV,ynN⟩
def ypQ:Nat→Option Seg:=fun q=>bif Nat.beq q 29 then some ywE else yBj q
theorem yK0:FrOk prog ⟨yik,109,ypQ⟩ ydy:=(yKZ).loop (sg:=ywE) ybI ywf (by decide) yKF yb1 ywo (by decide) (fun _=>rfl) (fun x r _ h=>h) yMu
def ybj:Shape:=⟨[(1,false,[.int .i64]),(4,false,[.ptr 0 0]),(12,false,[.ptr 46272 0]),(75,false,[.br tM]),(76,false,[.int .i64]),(77,false,[.int .i64])],[(0,[.int .i64,.int .i64,.int .i64,.nil,.int .i64,.int .i64,.int .i64,.int .i64,.int .i64,.nil,.int .i64,.bool,.bool]),(46272,[.int .i64,.int .i64,.int .i64,.at 800000000,.int .i64,.int .i64,.int .i64,.int .i64,.int .i64,.nil,.int .i64,.bool,.bool])],[(800000000,tM,(.pr (.ow (.ow .fz)) (.pr (.ow (.pr .fz (.ow .fz))) (.pr .fz (.ow .fz)))))]⟩
def yez:Shape:=⟨[(1,false,[.int .i64]),(4,false,[.ptr 0 0]),(12,false,[.ptr 46272 0]),(75,false,[.br tM]),(76,false,[.int .i64]),(77,false,[.ci .i64 0])],[(0,[.int .i64,.int .i64,.int .i64,.nil,.int .i64,.int .i64,.int .i64,.int .i64,.int .i64,.nil,.int .i64,.bool,.bool]),(46272,[.int .i64,.int .i64,.int .i64,.at 800000000,.int .i64,.int .i64,.int .i64,.int .i64,.int .i64,.nil,.int .i64,.bool,.bool])],[(800000000,tM,(.pr (.ow (.ow .fz)) (.pr (.ow (.pr .fz (.ow .fz))) (.pr .fz (.ow .fz)))))]⟩
def yes:Shape:=⟨[(4,false,[.ptr 0 0]),(12,false,[.ptr 46272 0])],[(0,[.int .i64,.int .i64,.int .i64,.nil,.int .i64,.int .i64,.int .i64,.int .i64,.int .i64,.nil,.int .i64,.bool,.bool]),(46272,[.int .i64,.int .i64,.int .i64,.at 800000000,.int .i64,.int .i64,.int .i64,.int .i64,.int .i64,.nil,.int .i64,.bool,.bool])],[(800000000,tM,(.pr (.ow (.ow .fz)) (.pr (.ow (.pr .fz (.ow .fz))) (.pr .fz (.ow .fz)))))]⟩
def yhV:Shape:=⟨[],[],[]⟩
abbrev ylq (v0:Int) (v1:List dM) (v2 v3:Int) (v4 v5:dA):(ybj).X:=(((v0,()),((),()),((),()),(v1,()),(v2,()),(v3,()),()),((v4.1,v4.2.1.1,v4.2.1.2,(),v4.2.2.2.1,v4.2.2.2.2.1,v4.2.2.2.2.2.1,v4.2.2.2.2.2.2.1,v4.2.2.2.2.2.2.2.1,(),v4.2.2.2.2.2.2.2.2.2.1,v4.2.2.2.2.2.2.2.2.2.2.1,v4.2.2.2.2.2.2.2.2.2.2.2,()),(v5.1,v5.2.1.1,v5.2.1.2,(),v5.2.2.2.1,v5.2.2.2.2.1,v5.2.2.2.2.2.1,v5.2.2.2.2.2.2.1,v5.2.2.2.2.2.2.2.1,(),v5.2.2.2.2.2.2.2.2.2.1,v5.2.2.2.2.2.2.2.2.2.2.1,v5.2.2.2.2.2.2.2.2.2.2.2,()),()),(v5.2.2.1,()))
abbrev yIX (v0:Int) (v1:List dM) (v2:Int) (v3 v4:dA):(yez).X:=(((v0,()),((),()),((),()),(v1,()),(v2,()),((),()),()),((v3.1,v3.2.1.1,v3.2.1.2,(),v3.2.2.2.1,v3.2.2.2.2.1,v3.2.2.2.2.2.1,v3.2.2.2.2.2.2.1,v3.2.2.2.2.2.2.2.1,(),v3.2.2.2.2.2.2.2.2.2.1,v3.2.2.2.2.2.2.2.2.2.2.1,v3.2.2.2.2.2.2.2.2.2.2.2,()),(v4.1,v4.2.1.1,v4.2.1.2,(),v4.2.2.2.1,v4.2.2.2.2.1,v4.2.2.2.2.2.1,v4.2.2.2.2.2.2.1,v4.2.2.2.2.2.2.2.1,(),v4.2.2.2.2.2.2.2.2.2.1,v4.2.2.2.2.2.2.2.2.2.2.1,v4.2.2.2.2.2.2.2.2.2.2.2,()),()),(v4.2.2.1,()))
abbrev yvl (v0 v1:dA):(yes).X:=((((),()),((),()),()),((v0.1,v0.2.1.1,v0.2.1.2,(),v0.2.2.2.1,v0.2.2.2.2.1,v0.2.2.2.2.2.1,v0.2.2.2.2.2.2.1,v0.2.2.2.2.2.2.2.1,(),v0.2.2.2.2.2.2.2.2.2.1,v0.2.2.2.2.2.2.2.2.2.2.1,v0.2.2.2.2.2.2.2.2.2.2.2,()),(v1.1,v1.2.1.1,v1.2.1.2,(),v1.2.2.2.1,v1.2.2.2.2.1,v1.2.2.2.2.2.1,v1.2.2.2.2.2.2.1,v1.2.2.2.2.2.2.2.1,(),v1.2.2.2.2.2.2.2.2.2.1,v1.2.2.2.2.2.2.2.2.2.2.1,v1.2.2.2.2.2.2.2.2.2.2.2,()),()),(v1.2.2.1,()))
def ylE (v0:Int) (v1:List dM) (v2 v3 v4 v5 v6 v7 v8 v9 v10 v11 v12:Int) (v13 v14:Bool) (v15 v16 v17 v18 v19 v20 v21 v22 v23:Int) (v24 v25:Bool) (v26:List dM):Option ((ybj).X ⊕ ((yes).X ⊕ (yhV).X)) :=bif(ltb v3 v2)then bif(inb v3 v1.length)then let r6:=ydX ((nth v1 v3 ([],[],false,[])).1,((nth v1 v3 ([],[],false,[])).2).1,(((nth v1 v3 ([],[],false,[])).2).2)) v3 v0;bif r6.2 then some (.inl (((v0,()),((),()),((),()),(v1,()),(v2,()),((i64.wrap (v3+1)),()),()),((v4,v5,v6,(),v7,v8,v9,v10,v11,(),v12,v13,v14,()),(v15,v16,v17,(),v18,v19,v20,v21,v22,(),v23,v24,v25,()),()),(v26,()))) else bif(!(v18==(-1)))then bif(v18==v3)then some (.inl (((v0,()),((),()),((),()),(v1,()),(v2,()),((i64.wrap (v3+1)),()),()),((v4,v5,v6,(),v7,v8,v9,v10,v11,(),v12,v13,v14,()),(v15,v16,v17,(),v3,0,v20,v21,v22,(),v23,v24,v25,()),()),(v26,()))) else some (.inl (((v0,()),((),()),((),()),(v1,()),(v2,()),((i64.wrap (v3+1)),()),()),((v4,v5,v6,(),v7,v8,v9,v10,v11,(),v12,v13,v14,()),(v15,v16,v17,(),v18,v19,v20,v21,v22,(),v23,v24,true,()),()),(v26,()))) else some (.inl (((v0,()),((),()),((),()),(v1,()),(v2,()),((i64.wrap (v3+1)),()),()),((v4,v5,v6,(),v7,v8,v9,v10,v11,(),v12,v13,v14,()),(v15,v16,v17,(),v3,0,v20,v21,v22,(),v23,v24,v25,()),()),(v26,()))) else none else some (.inr (.inl ((((),()),((),()),()),((v4,v5,v6,(),v7,v8,v9,v10,v11,(),v12,v13,v14,()),(v15,v16,v17,(),v18,v19,v20,v21,v22,(),v23,v24,v25,()),()),(v26,()))))
def ybA (x:(ybj).X):=ylE x.1.1.1 x.1.2.2.2.1.1 x.1.2.2.2.2.1.1 x.1.2.2.2.2.2.1.1 x.2.1.1.1 x.2.1.1.2.1 x.2.1.1.2.2.1 x.2.1.1.2.2.2.2.1 x.2.1.1.2.2.2.2.2.1 x.2.1.1.2.2.2.2.2.2.1 x.2.1.1.2.2.2.2.2.2.2.1 x.2.1.1.2.2.2.2.2.2.2.2.1 x.2.1.1.2.2.2.2.2.2.2.2.2.2.1 x.2.1.1.2.2.2.2.2.2.2.2.2.2.2.1 x.2.1.1.2.2.2.2.2.2.2.2.2.2.2.2.1 x.2.1.2.1.1 x.2.1.2.1.2.1 x.2.1.2.1.2.2.1 x.2.1.2.1.2.2.2.2.1 x.2.1.2.1.2.2.2.2.2.1 x.2.1.2.1.2.2.2.2.2.2.1 x.2.1.2.1.2.2.2.2.2.2.2.1 x.2.1.2.1.2.2.2.2.2.2.2.2.1 x.2.1.2.1.2.2.2.2.2.2.2.2.2.2.1 x.2.1.2.1.2.2.2.2.2.2.2.2.2.2.2.1 x.2.1.2.1.2.2.2.2.2.2.2.2.2.2.2.2.1 x.2.2.1
def yuY (x:(yez).X):(ybj).X:=(((x.1.1.1,()),((),()),((),()),(x.1.2.2.2.1.1,()),(x.1.2.2.2.2.1.1,()),(0,()),()),((x.2.1.1.1,x.2.1.1.2.1,x.2.1.1.2.2.1,(),x.2.1.1.2.2.2.2.1,x.2.1.1.2.2.2.2.2.1,x.2.1.1.2.2.2.2.2.2.1,x.2.1.1.2.2.2.2.2.2.2.1,x.2.1.1.2.2.2.2.2.2.2.2.1,(),x.2.1.1.2.2.2.2.2.2.2.2.2.2.1,x.2.1.1.2.2.2.2.2.2.2.2.2.2.2.1,x.2.1.1.2.2.2.2.2.2.2.2.2.2.2.2.1,()),(x.2.1.2.1.1,x.2.1.2.1.2.1,x.2.1.2.1.2.2.1,(),x.2.1.2.1.2.2.2.2.1,x.2.1.2.1.2.2.2.2.2.1,x.2.1.2.1.2.2.2.2.2.2.1,x.2.1.2.1.2.2.2.2.2.2.2.1,x.2.1.2.1.2.2.2.2.2.2.2.2.1,(),x.2.1.2.1.2.2.2.2.2.2.2.2.2.2.1,x.2.1.2.1.2.2.2.2.2.2.2.2.2.2.2.1,x.2.1.2.1.2.2.2.2.2.2.2.2.2.2.2.2.1,()),()),(x.2.2.1,()))
def yv4:Code:=(zeJ ydy 64 1012).getD .skip
theorem yJF:zeJ ydy 64 253=some (.block 2 (.loop yv4)):=by kernel_rfl
theorem yKo (x:(ybj).X):zhu ⟨yik,109,ypQ⟩ 2 yv4 1012 ybj yes yhV x=ybA x:=by kernel_rfl
def yu7 (x:(yez).X):Nat:=18446744073709551616
def yml (x:(yez).X):Option ((yes).X ⊕ (yhV).X):=zF ybA (yu7 x) (yuY x)
def yvS:Seg:=⟨yez,yes,yhV,yml⟩
def yM7:Nat→Option Seg:=fun q=>bif Nat.beq q 253 then some yvS else ypQ q
theorem yK1:FrOk prog ⟨yik,109,yM7⟩ ydy:=(yK0).loop (sg:=yvS) ybj yuY (by decide) yJF ybA yu7 (by decide) (fun _=>rfl) (fun x r _ h=>h) yKo
abbrev ymY:List Par:= [.rd tMs,.rd tI]
abbrev yud:List OT:= [⟨false,tA,(.pr .fz (.pr (.pr .fz .fz) (.pr (.ow (.pr (.ow (.ow .fz)) (.pr (.ow (.pr .fz (.ow .fz))) (.pr .fz (.ow .fz))))) (.pr .fz (.pr .fz (.pr .fz (.pr .fz (.pr .fz (.pr (.ow (.pr .fz (.ow .fz))) (.pr .fz (.pr .fz .fz)))))))))))⟩,⟨false,tB,.fz⟩]
def yqz (a0:List dM) (a1:Int):Option (zaY yud×zak ymY) :=zkr (ynN (((a0,()),(a1,()),((),()),((),()),((),()),(a0,()),((a0.length:Int),()),((),()),()),((0,0,0,(),0,0,0,0,0,(),0,false,false,()),(0,0,0,0,0,0,0,0,()),()),())) (fun y2 =>bif(!(!y2.1.2.2.2.2.1.1))then bif((y2.1.1.1.length:Int) !=y2.2.1.2.1.2.2.2.1)then some (((0,(0,0),[],0,0,0,0,0,[],0,false,false),false,()),()) else let r4:=yfM y2.1.1.1;zkr (yml (((y2.1.2.1.1,()),((),()),((),()),(y2.1.1.1,()),((y2.1.1.1.length:Int),()),((),()),()),((y2.2.1.1.1,y2.2.1.1.2.1,y2.2.1.1.2.2.1,(),y2.2.1.1.2.2.2.2.1,y2.2.1.1.2.2.2.2.2.1,y2.2.1.1.2.2.2.2.2.2.1,y2.2.1.1.2.2.2.2.2.2.2.1,y2.2.1.1.2.2.2.2.2.2.2.2.1,(),y2.2.1.1.2.2.2.2.2.2.2.2.2.2.1,y2.2.1.1.2.2.2.2.2.2.2.2.2.2.2.1,y2.2.1.1.2.2.2.2.2.2.2.2.2.2.2.2.1,()),(y2.1.2.1.1,y2.2.1.2.1.2.2.2.1,y2.2.1.2.1.2.2.2.2.1,(),y2.2.1.2.1.2.2.2.2.2.2.1,y2.2.1.2.1.2.2.2.2.2.2.2.1,y2.2.1.2.1.2.2.2.2.2.1,y2.2.1.2.1.2.2.2.2.2.1,y2.2.1.2.1.2.1,(),(-1),false,false,()),()),(r4,()))) (fun y6 =>let r8:=yah (y6.2.1.2.1.1,(y6.2.1.2.1.2.1,y6.2.1.2.1.2.2.1),y6.2.2.1,y6.2.1.2.1.2.2.2.2.1,y6.2.1.2.1.2.2.2.2.2.1,y6.2.1.2.1.2.2.2.2.2.2.1,y6.2.1.2.1.2.2.2.2.2.2.2.1,y6.2.1.2.1.2.2.2.2.2.2.2.2.1,[],y6.2.1.2.1.2.2.2.2.2.2.2.2.2.2.1,y6.2.1.2.1.2.2.2.2.2.2.2.2.2.2.2.1,y6.2.1.2.1.2.2.2.2.2.2.2.2.2.2.2.2.1);bif(!r8)then some (((0,(0,0),[],0,0,0,0,0,[],0,false,false),false,()),()) else some (((y6.2.1.2.1.1,(y6.2.1.2.1.2.1,y6.2.1.2.1.2.2.1),y6.2.2.1,y6.2.1.2.1.2.2.2.2.1,y6.2.1.2.1.2.2.2.2.2.1,y6.2.1.2.1.2.2.2.2.2.2.1,y6.2.1.2.1.2.2.2.2.2.2.2.1,y6.2.1.2.1.2.2.2.2.2.2.2.2.1,[],y6.2.1.2.1.2.2.2.2.2.2.2.2.2.2.1,y6.2.1.2.1.2.2.2.2.2.2.2.2.2.2.2.1,y6.2.1.2.1.2.2.2.2.2.2.2.2.2.2.2.2.1),true,()),())) (fun y6 =>none) else some (((0,(0,0),[],0,0,0,0,0,[],0,false,false),false,()),())) (fun y2 =>none)
theorem yOM:ConOk prog 16 ⟨ymY,yud,fun x=>yqz x.1 x.2.1⟩:=zkG (yK1) func16 ntmps16.symm fun x=>by kernel_rfl
def yjf (a0:List dM) (a1:Int):dA×Bool:=yfY a0 a1
theorem yRM (a0:List dM) (a1:Int) (hk:zjw ymY (a0,a1,())):yqz a0 a1=(fun n=>some ((n.1,n.2,()),())) (yjf a0 a1):=by
 have hb:a0.length*80≤2^47:=hk.1.1
 have h0:ynN (yJ1 a0 a1 a0 a0.length yaJ yeV)=some (.inl (ywv a0 a1 (ydS a0 a1).2 yaJ (ydS a0 a1).1)) :=
  zkB (step:=yb1) a0.length (fun i (s:dS×Bool)=>ymu a0 a1 s.2 a0 a0.length i yaJ s.1) (fun(s:dS×Bool) (i:Nat)=>ylQ s (yh1 (nth a0 i yc) i a1) (yas (nth a0 i yc) a1).1) (fun _ _=>True) (fun(s:dS×Bool)=> .inl (ywv a0 a1 s.2 yaJ s.1)) (fun i s hi _=>⟨by
  simp only[yb1,ymu,ymJ,zkw (show(i:Int)<a0.length by omega),cond_true,wq ((i:Int)+1) (by omega) (by omega),Int.natCast_add,Int.natCast_one,Int.toNat_natCast,zkP hi,zkV,ydX];cases yh1 (nth a0 i yc) i a1
  ·rfl
  simp only[cond_true];unfold ylQ
  cases hf:s.2<;>cases ltb s.1.2.1 (yas (nth a0 i yc) a1).1.2.1<;>simp only[Bool.not_true,Bool.not_false,cond_true,cond_false,Bool.and_true,Bool.true_and,Bool.false_and,Bool.and_false,Bool.or_true,Bool.true_or,Bool.false_or,Bool.or_false,hf],trivial⟩) (fun s _=>by simp only[yb1,ymu,ymJ,zk1 (Int.le_refl _),cond_false]) (yeV,false) trivial _ (by show _<18446744073709551616; omega)
 have h1: ∀(b:dS) (s:Int×Int×Bool),yml (yIX a1 a0 a0.length yaJ (yuE b a0 a1 s))=some (.inl (yvl yaJ (yuE b a0 a1 ((List.range a0.length).foldl (ykr a0 a1) s)))):=fun b s =>
  zkB (step:=ybA) a0.length (fun i s=>ylq a1 a0 a0.length i yaJ (yuE b a0 a1 s)) (ykr a0 a1) (fun _ _=>True) (fun s=> .inl (yvl yaJ (yuE b a0 a1 s))) (fun i s hi _=>⟨by
   simp only[ybA,ylq,ylE,zkw (show(i:Int)<a0.length by omega),cond_true,wq ((i:Int)+1) (by omega) (by omega),Int.natCast_add,Int.natCast_one,Int.toNat_natCast,zkP hi,zkV,ydX,yuE];unfold ykr
   cases yh1 (nth a0 i yc) i a1<;>cases(s.1== -1)<;>cases(s.1==(i:Int))<;>rfl,trivial⟩) (fun s _=>by simp only[ybA,ylq,ylE,zk1 (Int.le_refl _),cond_false]) s trivial _ (by show _<18446744073709551616; omega)
 unfold yqz yjf yfY yHL;refine(congrArg (fun z=>zkr z _ _) h0).trans ?_;simp only[zkL,yfM,bne];cases(ydS a0 a1).2
 ·rfl
 cases((a0.length:Int)==(ydS a0 a1).1.2.2.2.1)
 ·rfl
 have h2:=h1 (ydS a0 a1).1 ((ydS a0 a1).1.2.2.2.2.2.2.1,(ydS a0 a1).1.2.2.2.2.2.2.2,false);simp only[Bool.not_true,Bool.not_false,cond_true,cond_false,Bool.true_and];refine(congrArg (fun z=>zkr z _ _) h2).trans ?_;simp only[zkL,yah];show(bif !(yae (yuE (ydS a0 a1).1 a0 a1 ((List.range a0.length).foldl (ykr a0 a1) ((ydS a0 a1).1.2.2.2.2.2.2.1,(ydS a0 a1).1.2.2.2.2.2.2.2,false))))then _ else _)=_;cases yae (yuE (ydS a0 a1).1 a0 a1 ((List.range a0.length).foldl (ykr a0 a1) ((ydS a0 a1).1.2.2.2.2.2.2.1,(ydS a0 a1).1.2.2.2.2.2.2.2,false)))<;>rfl
def yBH:Con:=⟨ymY,yud,fun x=>(fun n=>some ((n.1,n.2,()),())) (yjf x.1 x.2.1)⟩
theorem ySG:ConOk prog 16 yBH:=(yOM).mono (fun x r hk h=>(yRM x.1 x.2.1 hk).trans h)
def y0p:Code:=(f88.body).getD .skip
def y0V:Env:=zku TT [] []
theorem yQy:FrOk prog ⟨y0V,8,fun _=>none⟩ y0p:=zky yf yg trivial
abbrev yz8:List Par:= [.rd tI]
abbrev yAz:List OT:= [⟨false,tI,.fz⟩]
def yGT (a0:Int):Option (zaY yAz×zak yz8) :=bif(ltb a0 0)then some (((-1),()),()) else some (((i64.wrap (2+(a0.tmod 4))),()),())
theorem yVS:ConOk prog 88 ⟨yz8,yAz,fun x=>yGT x.1⟩:=zkG (yQy) func88 ntmps88.symm fun x=>by kernel_rfl
def yl2 (a0:Int):Int :=bif(ltb a0 0)then (-1) else (i64.wrap (2+(a0.tmod 4)))
def yuM:Con:=⟨yz8,yAz,fun x=>(fun n=>some ((n,()),())) (yl2 x.1)⟩
theorem yYk (a0:Int):yGT a0=(fun n=>some ((n,()),())) (yl2 a0):=zkT (p:=fun(n:Int)=>((n,()),())) (zkE (p:=fun(n:Int)=>((n,()),())) rfl rfl)
theorem yId:ConOk prog 88 yuM:=(yVS).mono (fun x r _ h=>(yYk x.1).trans h)
def y0H:Code:=(f226.body).getD .skip
def y1d:Env:=zku TT [(82,yL)] []
theorem yQV:FrOk prog ⟨y1d,5,fun _=>none⟩ y0H:=zky yf yg ⟨yT,trivial⟩
abbrev yAm:List Par:= [.rd tI]
abbrev yAS:List OT:= [⟨false,tB,.fz⟩]
def yG4 (a0:Int):Option (zaY yAS×zak yAm) :=let r1:=yb a0 0 65535;some ((r1,()),())
theorem yWc:ConOk prog 226 ⟨yAm,yAS,fun x=>yG4 x.1⟩:=zkG (yQV) func226 ntmps226.symm fun x=>by kernel_rfl
def yaO (a0:Int):Bool :=let r1:=yb a0 0 65535;r1
def yGs:Con:=⟨yAm,yAS,fun x=>(fun n=>some ((n,()),())) (yaO x.1)⟩
theorem yYB (a0:Int):yG4 a0=(fun n=>some ((n,()),())) (yaO a0):=zkT (p:=fun(n:Bool)=>((n,()),())) rfl
theorem yZm:ConOk prog 226 yGs:=(yWc).mono (fun x r _ h=>(yYB x.1).trans h)
def yo0:Code:=(f200.body).getD .skip
def ywY:Env:=zku TT [(226,yGs)] []
theorem yOa:FrOk prog ⟨ywY,16,fun _=>none⟩ yo0:=zky yf yg ⟨yZm,trivial⟩
def yDh:Nat→Option Seg:=fun _=>none
def yd1:Shape:=⟨[(0,false,[.br tI]),(3,false,[.int .i64])],[],[]⟩
def yjO:Shape:=⟨[(0,false,[.br tI]),(3,false,[.ci .i64 0])],[],[]⟩
def yjM:Shape:=⟨[],[],[]⟩
def yjX:Shape:=⟨[(2,false,[.bool])],[],[]⟩
def yoM (v0:List Int) (v1:Int):Option ((yd1).X ⊕ ((yjM).X ⊕ (yjX).X)) :=bif(ltb v1 (v0.length:Int))then bif(inb v1 v0.length)then let r2:=yaO (nth v0 v1 0);bif(!r2)then some (.inr (.inr (((false,()),()),(),()))) else some (.inl (((v0,()),((i64.wrap (v1+1)),()),()),(),())) else none else some (.inr (.inl ((),(),())))
def ycG (x:(yd1).X):=yoM x.1.1.1 x.1.2.1.1
def yy6 (x:(yjO).X):(yd1).X:=(((x.1.1.1,()),(0,()),()),(),())
def yBC:Code:=(zeJ yo0 64 52).getD .skip
theorem yNu:zeJ yo0 64 13=some (.block 0 (.loop yBC)):=by kernel_rfl
theorem yPp (x:(yd1).X):zhu ⟨ywY,16,yDh⟩ 0 yBC 52 yd1 yjM yjX x=ycG x:=by kernel_rfl
def yzn (x:(yjO).X):Nat:=18446744073709551616
def yp2 (x:(yjO).X):Option ((yjM).X ⊕ (yjX).X):=zF ycG (yzn x) (yy6 x)
def yzR:Seg:=⟨yjO,yjM,yjX,yp2⟩
def yPY:Nat→Option Seg:=fun q=>bif Nat.beq q 13 then some yzR else yDh q
theorem yOb:FrOk prog ⟨ywY,16,yPY⟩ yo0:=(yOa).loop (sg:=yzR) yd1 yy6 (by decide) yNu ycG yzn (by decide) (fun _=>rfl) (fun x r _ h=>h) yPp
abbrev ypg:List Par:= [.rd tL]
abbrev yxC:List OT:= [⟨false,tB,.fz⟩]
def ysO (a0:List Int):Option (zaY yxC×zak ypg) :=zkr (yp2 (((a0,()),((),()),()),(),())) (fun y2 =>some ((true,()),())) (fun y2 =>some ((y2.1.1.1,()),()))
theorem ySy:ConOk prog 200 ⟨ypg,yxC,fun x=>ysO x.1⟩:=zkG (yOb) func200 ntmps200.symm fun x=>by kernel_rfl
def yau (a0:List Int):Bool:=a0.all yaO
theorem yVD (a0:List Int) (hk:zjw ypg (a0,())):ysO a0=(fun n=>some ((n,()),())) (yau a0):=by
 have hb:a0.length*8≤2^47:=hk.1.1
 have hl:yp2 (((a0,()),((),()),()),(),())=some (bif a0.all yaO then .inl ((),(),())else .inr (((false,()),()),(),())) :=
  zj7 (step:=ycG) a0 0 (fun i=>(((a0,()),((i:Int),()),()),(),())) yaO _ _ (fun i hi=>by
   simp only[ycG,yoM,zkP hi,zkQ,zkw (show(i:Int)<a0.length by omega),cond_true,wq ((i:Int)+1) (by omega) (by omega),Int.natCast_add,Int.natCast_one]
   cases yaO (a0.getD i 0)<;>rfl) (by simp only[ycG,yoM,zk1 (Int.le_refl _),cond_false]) _ (by show _<18446744073709551616; omega)
 unfold ysO yau;rw[hl];cases a0.all yaO<;>rfl
def yhC:Con:=⟨ypg,yxC,fun x=>(fun n=>some ((n,()),())) (yau x.1)⟩
theorem ynG:ConOk prog 200 yhC:=(ySy).mono (fun x r hk h=>(yVD x.1 hk).trans h)
def yo1:Code:=(f152.body).getD .skip
def ywZ:Env:=zku TT [(82,yL),(200,yhC)] []
theorem yOc:FrOk prog ⟨ywZ,57,fun _=>none⟩ yo1:=zky yf yg ⟨yT,ynG,trivial⟩
def yDi:Nat→Option Seg:=fun _=>none
def yck:Shape:=⟨[(1,false,[.ptr 0 0]),(3,false,[.int .i64])],[(0,[.int .i64,.int .i64,.int .i64,.br tM,.int .i64,.int .i64,.int .i64,.int .i64,.int .i64,.br tW,.int .i64,.bool,.bool])],[]⟩
def ygy:Shape:=⟨[(1,false,[.ptr 0 0]),(3,false,[.ci .i64 0])],[(0,[.int .i64,.int .i64,.int .i64,.br tM,.int .i64,.int .i64,.int .i64,.int .i64,.int .i64,.br tW,.int .i64,.bool,.bool])],[]⟩
def ygk:Shape:=⟨[],[],[]⟩
def ygH:Shape:=⟨[(2,false,[.bool])],[],[]⟩
abbrev yom (v0:Int) (v1:dA):(yck).X:=((((),()),(v0,()),()),((v1.1,v1.2.1.1,v1.2.1.2,v1.2.2.1,v1.2.2.2.1,v1.2.2.2.2.1,v1.2.2.2.2.2.1,v1.2.2.2.2.2.2.1,v1.2.2.2.2.2.2.2.1,v1.2.2.2.2.2.2.2.2.1,v1.2.2.2.2.2.2.2.2.2.1,v1.2.2.2.2.2.2.2.2.2.2.1,v1.2.2.2.2.2.2.2.2.2.2.2,()),()),())
abbrev yLX (v0:dA):(ygy).X:=((((),()),((),()),()),((v0.1,v0.2.1.1,v0.2.1.2,v0.2.2.1,v0.2.2.2.1,v0.2.2.2.2.1,v0.2.2.2.2.2.1,v0.2.2.2.2.2.2.1,v0.2.2.2.2.2.2.2.1,v0.2.2.2.2.2.2.2.2.1,v0.2.2.2.2.2.2.2.2.2.1,v0.2.2.2.2.2.2.2.2.2.2.1,v0.2.2.2.2.2.2.2.2.2.2.2,()),()),())
abbrev yLJ  :(ygk).X:=((),(),())
abbrev yL5 (v0:Bool):(ygH).X:=(((v0,()),()),(),())
def yoN (v0 v1 v2 v3:Int) (v4:List dM) (v5 v6 v7 v8 v9:Int) (v10:List dW) (v11:Int) (v12 v13:Bool):Option ((yck).X ⊕ ((ygk).X ⊕ (ygH).X)) :=bif(ltb v0 (v10.length:Int))then bif(inb v0 v10.length)then let r3:=yb ((nth v10 v0 (0,[])).1) 0 (i64.wrap (v3-1));bif(!(!r3))then bif(!((((nth v10 v0 (0,[])).2).length:Int) !=(i64.wrap (v2-1))))then let r4:=yau ((nth v10 v0 (0,[])).2);bif(!(!r4))then bif(ltb 0 v0)then bif(inb (i64.wrap (v0-1)) v10.length)then bif(leb ((nth v10 v0 (0,[])).1) ((nth v10 (i64.wrap (v0-1)) (0,[])).1))then some (.inr (.inr (((false,()),()),(),()))) else some (.inl ((((),()),((i64.wrap (v0+1)),()),()),((v1,v2,v3,v4,v5,v6,v7,v8,v9,v10,v11,v12,v13,()),()),())) else none else some (.inl ((((),()),((i64.wrap (v0+1)),()),()),((v1,v2,v3,v4,v5,v6,v7,v8,v9,v10,v11,v12,v13,()),()),())) else some (.inr (.inr (((false,()),()),(),()))) else some (.inr (.inr (((false,()),()),(),()))) else some (.inr (.inr (((false,()),()),(),()))) else none else some (.inr (.inl ((),(),())))
def ycH (x:(yck).X):=yoN x.1.2.1.1 x.2.1.1.1 x.2.1.1.2.1 x.2.1.1.2.2.1 x.2.1.1.2.2.2.1 x.2.1.1.2.2.2.2.1 x.2.1.1.2.2.2.2.2.1 x.2.1.1.2.2.2.2.2.2.1 x.2.1.1.2.2.2.2.2.2.2.1 x.2.1.1.2.2.2.2.2.2.2.2.1 x.2.1.1.2.2.2.2.2.2.2.2.2.1 x.2.1.1.2.2.2.2.2.2.2.2.2.2.1 x.2.1.1.2.2.2.2.2.2.2.2.2.2.2.1 x.2.1.1.2.2.2.2.2.2.2.2.2.2.2.2.1
def yy7 (x:(ygy).X):(yck).X:=((((),()),(0,()),()),((x.2.1.1.1,x.2.1.1.2.1,x.2.1.1.2.2.1,x.2.1.1.2.2.2.1,x.2.1.1.2.2.2.2.1,x.2.1.1.2.2.2.2.2.1,x.2.1.1.2.2.2.2.2.2.1,x.2.1.1.2.2.2.2.2.2.2.1,x.2.1.1.2.2.2.2.2.2.2.2.1,x.2.1.1.2.2.2.2.2.2.2.2.2.1,x.2.1.1.2.2.2.2.2.2.2.2.2.2.1,x.2.1.1.2.2.2.2.2.2.2.2.2.2.2.1,x.2.1.1.2.2.2.2.2.2.2.2.2.2.2.2.1,()),()),())
def yBD:Code:=(zeJ yo1 64 52).getD .skip
theorem yNv:zeJ yo1 64 13=some (.block 0 (.loop yBD)):=by kernel_rfl
theorem yPq (x:(yck).X):zhu ⟨ywZ,57,yDi⟩ 0 yBD 52 yck ygk ygH x=ycH x:=by kernel_rfl
def yzo (x:(ygy).X):Nat:=18446744073709551616
def yp3 (x:(ygy).X):Option ((ygk).X ⊕ (ygH).X):=zF ycH (yzo x) (yy7 x)
def yzS:Seg:=⟨ygy,ygk,ygH,yp3⟩
def yPZ:Nat→Option Seg:=fun q=>bif Nat.beq q 13 then some yzS else yDi q
theorem yOd:FrOk prog ⟨ywZ,57,yPZ⟩ yo1:=(yOc).loop (sg:=yzS) yck yy7 (by decide) yNv ycH yzo (by decide) (fun _=>rfl) (fun x r _ h=>h) yPq
abbrev yke:List Par:= [.rd tA]
abbrev ypl:List OT:= [⟨false,tB,.fz⟩]
def ysP (a0:dA):Option (zaY ypl×zak yke) :=zkr (yp3 ((((),()),((),()),()),((a0.1,a0.2.1.1,a0.2.1.2,a0.2.2.1,a0.2.2.2.1,a0.2.2.2.2.1,a0.2.2.2.2.2.1,a0.2.2.2.2.2.2.1,a0.2.2.2.2.2.2.2.1,a0.2.2.2.2.2.2.2.2.1,a0.2.2.2.2.2.2.2.2.2.1,a0.2.2.2.2.2.2.2.2.2.2.1,a0.2.2.2.2.2.2.2.2.2.2.2,()),()),())) (fun y4 =>some ((true,()),())) (fun y4 =>some ((y4.1.1.1,()),()))
theorem ySz:ConOk prog 152 ⟨yke,ypl,fun x=>ysP x.1⟩:=zkG (yOd) func152 ntmps152.symm fun x=>by kernel_rfl
def ykH (a0:dA):Bool:=yaY a0.2.1 a0.2.2.2.2.2.2.2.2.1
def yx4 (a0:dA):Bool:=yd a0.2.1
theorem yih (l:List Int):yau l=l.all isW:=by
 unfold yau;rw[show yaO=isW from funext fun x=>by unfold yaO; rw[ybU]; rfl]
theorem yVE (a0:dA) (hk:zjw yke (a0,())) (hq:yx4 a0=true):ysP a0=(fun n=>some ((n,()),())) (ykH a0):=by
 have hb:a0.2.2.2.2.2.2.2.2.1.length*32≤2^47:=hk.1.2.2.2.2.2.2.2.2.1.1;have hg:=yl.1 hq
 have h1:yp3 (yLX a0)=some (bif(List.range a0.2.2.2.2.2.2.2.2.1.length).any (yh9 a0.2.1 a0.2.2.2.2.2.2.2.2.1)then .inr (yL5 false)else .inl yLJ) :=
  zjh (step:=ycH) (fun i=>yom i a0) a0.2.2.2.2.2.2.2.2.1.length (yh9 a0.2.1 a0.2.2.2.2.2.2.2.2.1) _ _ (fun i hi=>by
   simp only[ycH,yom,yoN,zkw (show(i:Int)<a0.2.2.2.2.2.2.2.2.1.length by omega),cond_true,wq ((i:Int)+1) (by omega) (by omega),Int.natCast_add,Int.natCast_one,Int.toNat_natCast,zkP hi,ybU,yih,wq (a0.2.1.2-1) (by omega) (by omega),wq (a0.2.1.1-1) (by omega) (by omega),yh9];rcases Nat.eq_zero_or_pos i with rfl | h0
   ·cases(leb 0 (nth a0.2.2.2.2.2.2.2.2.1 ((0:Nat):Int) (0,[])).1&&leb (nth a0.2.2.2.2.2.2.2.2.1 ((0:Nat):Int) (0,[])).1 (a0.2.1.2-1))<;>cases(((nth a0.2.2.2.2.2.2.2.2.1 ((0:Nat):Int) (0,[])).2.length:Int) !=a0.2.1.1-1)<;>cases((nth a0.2.2.2.2.2.2.2.2.1 ((0:Nat):Int) (0,[])).2.all isW)<;>rfl
   ·rw[show i64.wrap ((i:Int)-1)=((i-1:Nat):Int)by rw[wr (by omega) (by omega)]; omega,zkP (show i-1<a0.2.2.2.2.2.2.2.2.1.length by omega),zkw (show(0:Int)<i by omega),decide_eq_true h0]
    cases(leb 0 (nth a0.2.2.2.2.2.2.2.2.1 (i:Int) (0,[])).1&&leb (nth a0.2.2.2.2.2.2.2.2.1 (i:Int) (0,[])).1 (a0.2.1.2-1))<;>cases(((nth a0.2.2.2.2.2.2.2.2.1 (i:Int) (0,[])).2.length:Int) !=a0.2.1.1-1)<;>cases((nth a0.2.2.2.2.2.2.2.2.1 (i:Int) (0,[])).2.all isW)<;>cases leb (nth a0.2.2.2.2.2.2.2.2.1 (i:Int) (0,[])).1 (nth a0.2.2.2.2.2.2.2.2.1 ((i-1:Nat):Int) (0,[])).1<;>rfl) (by simp only[ycH,yom,yoN,zk1 (Int.le_refl _),cond_false]) _ (by show _<18446744073709551616; omega)
 unfold ysP ykH yaY;rw[h1];cases(List.range a0.2.2.2.2.2.2.2.2.1.length).any (yh9 a0.2.1 a0.2.2.2.2.2.2.2.2.1)<;>rfl
def ypG (a0:dA):Option (zaY ypl×zak yke):=bif yx4 a0 then(fun n=>some ((n,()),())) (ykH a0)else none
theorem yWO (a0:dA) (h:yx4 a0=true):ypG a0=(fun n=>some ((n,()),())) (ykH a0):=by unfold ypG; rw[h]; rfl
def yEu:Con:=⟨yke,ypl,fun x=>ypG x.1⟩
theorem yWH:ConOk prog 152 yEu:=(ySz).mono (fun x r hk h=>zkW h (fun hq=>yVE x.1 hk hq))
def y11:Code:=(f159.body).getD .skip
def y2g:Env:=zku TT [(81,yM),(187,yln)] []
theorem yUw:FrOk prog ⟨y2g,22,fun _=>none⟩ y11:=zky yf yg ⟨yS,yvw,trivial⟩
abbrev yDv:List Par:= [.rd tN]
abbrev yDG:List OT:= [⟨false,tB,.fz⟩]
def yIp (a0:dN):Option (zaY yDG×zak yDv) :=let r1:=yj a0.1 0 60000;bif r1 then let r2:=yj a0.2.1 0 7;bif r2 then let r3:=yj (a0.2.2.length:Int) 2 4;bif r3 then let r4:=yaD a0.2.2;some ((r4,()),()) else some ((false,()),()) else some ((false,()),()) else some ((false,()),())
theorem yYP:ConOk prog 159 ⟨yDv,yDG,fun x=>yIp x.1⟩:=zkG (yUw) func159 ntmps159.symm fun x=>by kernel_rfl
def ykB (a0:dN):Bool :=let r1:=yj a0.1 0 60000;bif r1 then let r2:=yj a0.2.1 0 7;bif r2 then let r3:=yj (a0.2.2.length:Int) 2 4;bif r3 then let r4:=yaD a0.2.2;r4 else false else false else false
def yxH:Con:=⟨yDv,yDG,fun x=>(fun n=>some ((n,()),())) (ykB x.1)⟩
theorem y1o (a0:dN):yIp a0=(fun n=>some ((n,()),())) (ykB a0):=zkT (p:=fun(n:Bool)=>((n,()),())) (zkE (p:=fun(n:Bool)=>((n,()),())) (zkE (p:=fun(n:Bool)=>((n,()),())) (zkE (p:=fun(n:Bool)=>((n,()),())) rfl rfl) rfl) rfl)
theorem yJr:ConOk prog 159 yxH:=(yYP).mono (fun x r _ h=>(y1o x.1).trans h)
def y19:Code:=(f162.body).getD .skip
def y2k:Env:=zku TT [(82,yL),(200,yhC)] []
theorem yUI:FrOk prog ⟨y2k,22,fun _=>none⟩ y19:=zky yf yg ⟨yT,ynG,trivial⟩
abbrev yDy:List Par:= [.rd tN]
abbrev yDN:List OT:= [⟨false,tB,.fz⟩]
def yIs (a0:dN):Option (zaY yDN×zak yDy) :=let r1:=yb a0.1 0 60000;bif r1 then let r2:=yb a0.2.1 0 7;bif r2 then let r3:=yb (a0.2.2.length:Int) 2 4;bif r3 then let r4:=yau a0.2.2;some ((r4,()),()) else some ((false,()),()) else some ((false,()),()) else some ((false,()),())
theorem yYW:ConOk prog 162 ⟨yDy,yDN,fun x=>yIs x.1⟩:=zkG (yUI) func162 ntmps162.symm fun x=>by kernel_rfl
def yX (a0:dN):Bool :=let r1:=yb a0.1 0 60000;bif r1 then let r2:=yb a0.2.1 0 7;bif r2 then let r3:=yb (a0.2.2.length:Int) 2 4;bif r3 then let r4:=yau a0.2.2;r4 else false else false else false
def yHR:Con:=⟨yDy,yDN,fun x=>(fun n=>some ((n,()),())) (yX x.1)⟩
theorem y1v (a0:dN):yIs a0=(fun n=>some ((n,()),())) (yX a0):=zkT (p:=fun(n:Bool)=>((n,()),())) (zkE (p:=fun(n:Bool)=>((n,()),())) (zkE (p:=fun(n:Bool)=>((n,()),())) (zkE (p:=fun(n:Bool)=>((n,()),())) rfl rfl) rfl) rfl)
theorem y1K:ConOk prog 162 yHR:=(yYW).mono (fun x r _ h=>(y1v x.1).trans h)
abbrev yMV:dN:=(0,0,[])
def yac (r:dN):List Int:=bif yX r then 21322::r.1::r.2.1::(r.2.2.length:Int)::r.2.2 else[]
def yJa (l:List Int):dN:=(nth l 1 0,nth l 2 0,l.drop 4)
def yaE (l:List Int):dN×Bool:=bif leb 4 (l.length:Int)&&(nth l 0 0==21322&&(nth l 3 0==(l.length:Int)-4&&yX (yJa l)))then(yJa l,true)else(yMV,false)
theorem yti {r:dN}:yX r=true↔(0≤r.1∧r.1≤60000)∧(0≤r.2.1∧r.2.1≤7)∧(2≤(r.2.2.length:Int)∧(r.2.2.length:Int)≤4)∧r.2.2.all isW=true:=by
 unfold yX;simp only[yih,← yve];cases yb r.1 0 60000<;>cases yb r.2.1 0 7<;>cases yb (r.2.2.length:Int) 2 4<;>simp
theorem yPA (r:dN):ykB r=yX r:=by
 unfold ykB yX;simp only[yal,yvd,yih]
def y0m:Code:=(f89.body).getD .skip
def y0S:Env:=zku TT [(158,yaM),(159,yxH)] []
theorem yQt:FrOk prog ⟨y0S,39,fun _=>none⟩ y0m:=zky yf yg ⟨ybQ,yJr,trivial⟩
abbrev yru:List Par:= [.rd tL]
abbrev yAv:List OT:= [⟨false,tN,(.pr .fz (.pr .fz (.ow .fz)))⟩,⟨false,tB,.fz⟩]
def yvA (a0:List Int):Option (zaY yAv×zak yru) :=bif(!(ltb (a0.length:Int) 4))then bif(inb 0 a0.length)then bif(!((nth a0 0 0) !=21322))then bif(inb 3 a0.length)then bif((nth a0 3 0) !=(i64.wrap ((a0.length:Int)-4)))then some (((0,0,[]),false,()),()) else bif(inb 1 a0.length)then bif(inb 2 a0.length)then bif(zjY 4 (a0.length:Int) a0.length)then let r1:=yx ((a0.drop (4:Int).toNat).take ((a0.length:Int)-4).toNat);let r2:=ykB ((nth a0 1 0),(nth a0 2 0),r1);bif(!r2)then some (((0,0,[]),false,()),()) else some ((((nth a0 1 0),(nth a0 2 0),r1),true,()),()) else none else none else none else none else some (((0,0,[]),false,()),()) else none else some (((0,0,[]),false,()),())
theorem yVO:ConOk prog 89 ⟨yru,yAv,fun x=>yvA x.1⟩:=zkG (yQt) func89 ntmps89.symm fun x=>by kernel_rfl
def yl0 (a0:List Int):dN×Bool:=yaE a0
theorem yYg (a0:List Int) (hk:zjw yru (a0,())):yvA a0=(fun n=>some ((n.1,n.2,()),())) (yl0 a0):=by
 have hb:a0.length*8≤2^47:=hk.1.1;unfold yvA yl0 yaE yx;by_cases h:(a0.length:Int)<4
 ·rw[zkw h,zkZ h]; rfl
 ·have ht:(a0.drop (4:Int).toNat).take ((a0.length:Int)-4).toNat=a0.drop 4:=List.take_of_length_le (by rw[List.length_drop]; show a0.length-4≤_; omega)
  rw[zk1 (Int.not_lt.1 h),zk0 (Int.not_lt.1 h)];simp only[bne,Bool.not_false,cond_true,zj4.2 (show(0:Int)≤0∧(0:Int)<a0.length by omega),zj4.2 (show(0:Int)≤1∧(1:Int)<a0.length by omega),zj4.2 (show(0:Int)≤2∧(2:Int)<a0.length by omega),zj4.2 (show(0:Int)≤3∧(3:Int)<a0.length by omega),zkx.2 (show(0:Int)≤4∧(4:Int)≤a0.length∧(a0.length:Int)≤a0.length by omega),ht,wq ((a0.length:Int)-4) (by omega) (by omega),yPA];rw[show yX (nth a0 1 0,nth a0 2 0,a0.drop 4)=yX (yJa a0)from rfl];cases(nth a0 0 0==21322)<;>cases(nth a0 3 0==(a0.length:Int)-4)<;>cases yX (yJa a0)<;>rfl
def yGf:Con:=⟨yru,yAv,fun x=>(fun n=>some ((n.1,n.2,()),())) (yl0 x.1)⟩
theorem yY9:ConOk prog 89 yGf:=(yVO).mono (fun x r hk h=>(yYg x.1 hk).trans h)
def y0C:Code:=(f91.body).getD .skip
def y08:Env:=zku TT [] []
theorem yQQ:FrOk prog ⟨y08,8,fun _=>none⟩ y0C:=zky yf yg trivial
abbrev yAh:List Par:= [.rd tI]
abbrev yAN:List OT:= [⟨false,tI,.fz⟩]
def yG2 (a0:Int):Option (zaY yAN×zak yAh) :=bif(ltb a0 0)then some (((-1),()),()) else some (((i64.wrap (2+(a0.tmod 4))),()),())
theorem yV7:ConOk prog 91 ⟨yAh,yAN,fun x=>yG2 x.1⟩:=zkG (yQQ) func91 ntmps91.symm fun x=>by kernel_rfl
def yh (a0:Int):Int :=bif(ltb a0 0)then (-1) else (i64.wrap (2+(a0.tmod 4)))
def yGo:Con:=⟨yAh,yAN,fun x=>(fun n=>some ((n,()),())) (yh x.1)⟩
theorem yYz (a0:Int):yG2 a0=(fun n=>some ((n,()),())) (yh a0):=zkT (p:=fun(n:Int)=>((n,()),())) (zkE (p:=fun(n:Int)=>((n,()),())) rfl rfl)
theorem yZi:ConOk prog 91 yGo:=(yV7).mono (fun x r _ h=>(yYz x.1).trans h)
def yIu (a:dA) (q:Int) (i:Nat):List Int×Bool:=yQ (nth a.2.2.1 i yc) (yh q)
def yrT (a:dA) (q:Int) (i:Nat):dN:=(yaE (yIu a q i).1).1
def ykS (a:dA) (q:Int) (i:Nat):Bool:=(yIu a q i).2&&((yaE (yIu a q i).1).2&&((yrT a q i).1==q&&((leb 0 (yrT a q i).2.1&&leb (yrT a q i).2.1 (a.2.1.2-1))&&((yrT a q i).2.2.length:Int)==a.2.1.1-1)))
def yaC (a:dA) (q:Int):dN×Bool:=bif leb 0 (yaj (ykS a q) (List.range a.2.2.1.length))then(yrT a q (yaj (ykS a q) (List.range a.2.2.1.length)).toNat,true)else(yMV,false)
theorem yW4 {n i:Nat} (h:i<n):(List.range n).getD i 0=i:=by rw[zkH (by rw[List.length_range]; exact h)]; simp
theorem y4R {l:List Int} (h:(yaE l).2=true):yX (yaE l).1=true∧l=yac (yaE l).1:=by
 unfold yaE at h ⊢;cases hc:(leb 4 (l.length:Int)&&(nth l 0 0==21322&&(nth l 3 0==(l.length:Int)-4&&yX (yJa l))))
 ·rw[hc]at h; cases h
 ·simp only[Bool.and_eq_true,zj5,beq_iff_eq]at hc
  refine⟨hc.2.2.2,?_⟩;show l=yac (yJa l);unfold yac;rw[hc.2.2.2]
  match l,hc with
  | x0::x1::x2::x3::t,hc =>
   have e0:x0=21322:=hc.2.1;have e3:x3=((x0::x1::x2::x3::t).length:Int)-4:=hc.2.2.1;have e4:x3=(t.length:Int):=by rw[e3]; simp only[List.length_cons]; omega
   subst e0;rw[e4]; rfl
  | [],hc=>exact absurd hc.1 (by simp)
  | [_],hc=>exact absurd hc.1 (by simp)
  | [_,_],hc=>exact absurd hc.1 (by simp)
  | [_,_,_],hc=>exact absurd hc.1 (by simp)
theorem yQm {a:dA} {q:Int} (h:(yaC a q).2=true): ∃i,i<a.2.2.1.length∧ykS a q i=true∧(yaC a q).1=yrT a q i:=by
 unfold yaC at h ⊢;cases hk:leb 0 (yaj (ykS a q) (List.range a.2.2.1.length))
 ·rw[hk]at h; cases h
 ·obtain⟨h1,h2⟩:=yn8 (d:=0) hk
  have h3:=zj4.1 h1;rw[List.length_range]at h3;refine⟨(yaj (ykS a q) (List.range a.2.2.1.length)).toNat,by omega,?_,rfl⟩;unfold nth at h2;rwa[yW4 (by omega)]at h2
theorem y59 {a:dA} {q:Int} (hg:yd a.2.1=true) (h:(yaC a q).2=true):yN a.2.1 (yaC a q).1.2.1=true∧((yaC a q).1.2.2.length:Int)=a.2.1.1-1:=by
 obtain⟨i,_,h1,h2⟩:=yQm h;rw[h2];simp only[ykS,Bool.and_eq_true,zj5,beq_iff_eq]at h1;exact⟨yW.2 ⟨hg,h1.2.2.2.1.1,h1.2.2.2.1.2⟩,h1.2.2.2.2⟩
theorem yLy (q:Int):yl2 q=yh q:=rfl
def yoU:Code:=(f23.body).getD .skip
def ywS:Env:=zku TT [(87,yll),(88,yuM),(89,yGf)] []
theorem yNF:FrOk prog ⟨ywS,67,fun _=>none⟩ yoU:=zky yf yg ⟨yvu,yId,yY9,trivial⟩
def yC8:Nat→Option Seg:=fun _=>none
def ycc:Shape:=⟨[(1,false,[.int .i64]),(2,false,[.ptr 0 0]),(4,false,[.ptr 64 0]),(13,false,[.br tM]),(14,false,[.int .i64]),(15,false,[.int .i64])],[(0,[.int .i64,.int .i64,.int .i64,.br tM,.int .i64,.int .i64,.int .i64,.int .i64,.int .i64,.br tW,.int .i64,.bool,.bool]),(64,[.int .i64,.int .i64,.nil])],[]⟩
def ygq:Shape:=⟨[(1,false,[.int .i64]),(2,false,[.ptr 0 0]),(4,false,[.ptr 64 0]),(13,false,[.br tM]),(14,false,[.int .i64]),(15,false,[.ci .i64 0])],[(0,[.int .i64,.int .i64,.int .i64,.br tM,.int .i64,.int .i64,.int .i64,.int .i64,.int .i64,.br tW,.int .i64,.bool,.bool]),(64,[.int .i64,.int .i64,.nil])],[]⟩
def ygc:Shape:=⟨[(4,false,[.ptr 64 0])],[(64,[.int .i64,.int .i64,.nil])],[]⟩
def ygE:Shape:=⟨[(4,false,[.ptr 64 0]),(5,false,[.bool])],[(64,[.int .i64,.int .i64,.at 800000000])],[(800000000,tI,.fz)]⟩
abbrev yoe (v0:Int) (v1:List dM) (v2 v3:Int) (v4:dA) (v5:dN):(ycc).X:=(((v0,()),((),()),((),()),(v1,()),(v2,()),(v3,()),()),((v4.1,v4.2.1.1,v4.2.1.2,v4.2.2.1,v4.2.2.2.1,v4.2.2.2.2.1,v4.2.2.2.2.2.1,v4.2.2.2.2.2.2.1,v4.2.2.2.2.2.2.2.1,v4.2.2.2.2.2.2.2.2.1,v4.2.2.2.2.2.2.2.2.2.1,v4.2.2.2.2.2.2.2.2.2.2.1,v4.2.2.2.2.2.2.2.2.2.2.2,()),(v5.1,v5.2.1,(),()),()),())
abbrev yLP (v0:Int) (v1:List dM) (v2:Int) (v3:dA) (v4:dN):(ygq).X:=(((v0,()),((),()),((),()),(v1,()),(v2,()),((),()),()),((v3.1,v3.2.1.1,v3.2.1.2,v3.2.2.1,v3.2.2.2.1,v3.2.2.2.2.1,v3.2.2.2.2.2.1,v3.2.2.2.2.2.2.1,v3.2.2.2.2.2.2.2.1,v3.2.2.2.2.2.2.2.2.1,v3.2.2.2.2.2.2.2.2.2.1,v3.2.2.2.2.2.2.2.2.2.2.1,v3.2.2.2.2.2.2.2.2.2.2.2,()),(v4.1,v4.2.1,(),()),()),())
abbrev yLF (v0:dN):(ygc).X:=((((),()),()),((v0.1,v0.2.1,(),()),()),())
abbrev yL2 (v0:Bool) (v1:dN):(ygE).X:=((((),()),(v0,()),()),((v1.1,v1.2.1,(),()),()),(v1.2.2,()))
def yoD (v0:Int) (v1:List dM) (v2 v3 v4 v5 v6:Int) (v7:List dM) (v8 v9 v10 v11 v12:Int) (v13:List dW) (v14:Int) (v15 v16:Bool) (v17 v18:Int):Option ((ycc).X ⊕ ((ygc).X ⊕ (ygE).X)) :=bif(ltb v3 v2)then bif(inb v3 v1.length)then let r4:=yl2 v0;let r5:=ybW ((nth v1 v3 ([],[],false,[])).1,((nth v1 v3 ([],[],false,[])).2).1,(((nth v1 v3 ([],[],false,[])).2).2)) r4;let r6:=yl0 r5.1;bif r5.2 then bif r6.2 then bif(r6.1.1==v0)then bif(leb 0 r6.1.2.1)then bif(ltb r6.1.2.1 v6)then bif((i64.wrap ((r6.1.2.2.length:Int)+1))==v5)then some (.inr (.inr ((((),()),(true,()),()),((r6.1.1,r6.1.2.1,(),()),()),(r6.1.2.2,())))) else some (.inl (((v0,()),((),()),((),()),(v1,()),(v2,()),((i64.wrap (v3+1)),()),()),((v4,v5,v6,v7,v8,v9,v10,v11,v12,v13,v14,v15,v16,()),(v17,v18,(),()),()),())) else some (.inl (((v0,()),((),()),((),()),(v1,()),(v2,()),((i64.wrap (v3+1)),()),()),((v4,v5,v6,v7,v8,v9,v10,v11,v12,v13,v14,v15,v16,()),(v17,v18,(),()),()),())) else some (.inl (((v0,()),((),()),((),()),(v1,()),(v2,()),((i64.wrap (v3+1)),()),()),((v4,v5,v6,v7,v8,v9,v10,v11,v12,v13,v14,v15,v16,()),(v17,v18,(),()),()),())) else some (.inl (((v0,()),((),()),((),()),(v1,()),(v2,()),((i64.wrap (v3+1)),()),()),((v4,v5,v6,v7,v8,v9,v10,v11,v12,v13,v14,v15,v16,()),(v17,v18,(),()),()),())) else some (.inl (((v0,()),((),()),((),()),(v1,()),(v2,()),((i64.wrap (v3+1)),()),()),((v4,v5,v6,v7,v8,v9,v10,v11,v12,v13,v14,v15,v16,()),(v17,v18,(),()),()),())) else some (.inl (((v0,()),((),()),((),()),(v1,()),(v2,()),((i64.wrap (v3+1)),()),()),((v4,v5,v6,v7,v8,v9,v10,v11,v12,v13,v14,v15,v16,()),(v17,v18,(),()),()),())) else none else some (.inr (.inl ((((),()),()),((v17,v18,(),()),()),())))
def ycx (x:(ycc).X):=yoD x.1.1.1 x.1.2.2.2.1.1 x.1.2.2.2.2.1.1 x.1.2.2.2.2.2.1.1 x.2.1.1.1 x.2.1.1.2.1 x.2.1.1.2.2.1 x.2.1.1.2.2.2.1 x.2.1.1.2.2.2.2.1 x.2.1.1.2.2.2.2.2.1 x.2.1.1.2.2.2.2.2.2.1 x.2.1.1.2.2.2.2.2.2.2.1 x.2.1.1.2.2.2.2.2.2.2.2.1 x.2.1.1.2.2.2.2.2.2.2.2.2.1 x.2.1.1.2.2.2.2.2.2.2.2.2.2.1 x.2.1.1.2.2.2.2.2.2.2.2.2.2.2.1 x.2.1.1.2.2.2.2.2.2.2.2.2.2.2.2.1 x.2.1.2.1.1 x.2.1.2.1.2.1
def yyX (x:(ygq).X):(ycc).X:=(((x.1.1.1,()),((),()),((),()),(x.1.2.2.2.1.1,()),(x.1.2.2.2.2.1.1,()),(0,()),()),((x.2.1.1.1,x.2.1.1.2.1,x.2.1.1.2.2.1,x.2.1.1.2.2.2.1,x.2.1.1.2.2.2.2.1,x.2.1.1.2.2.2.2.2.1,x.2.1.1.2.2.2.2.2.2.1,x.2.1.1.2.2.2.2.2.2.2.1,x.2.1.1.2.2.2.2.2.2.2.2.1,x.2.1.1.2.2.2.2.2.2.2.2.2.1,x.2.1.1.2.2.2.2.2.2.2.2.2.2.1,x.2.1.1.2.2.2.2.2.2.2.2.2.2.2.1,x.2.1.1.2.2.2.2.2.2.2.2.2.2.2.2.1,()),(x.2.1.2.1.1,x.2.1.2.1.2.1,(),()),()),())
def yBt:Code:=(zeJ yoU 64 52).getD .skip
theorem yNl:zeJ yoU 64 13=some (.block 0 (.loop yBt)):=by kernel_rfl
theorem yPg (x:(ycc).X):zhu ⟨ywS,67,yC8⟩ 0 yBt 52 ycc ygc ygE x=ycx x:=by kernel_rfl
def yze (x:(ygq).X):Nat:=18446744073709551616
def ypU (x:(ygq).X):Option ((ygc).X ⊕ (ygE).X):=zF ycx (yze x) (yyX x)
def yzI:Seg:=⟨ygq,ygc,ygE,ypU⟩
def yPQ:Nat→Option Seg:=fun q=>bif Nat.beq q 13 then some yzI else yC8 q
theorem yNG:FrOk prog ⟨ywS,67,yPQ⟩ yoU:=(yNF).loop (sg:=yzI) ycc yyX (by decide) yNl ycx yze (by decide) (fun _=>rfl) (fun x r _ h=>h) yPg
abbrev yka:List Par:= [.rd tA,.rd tI]
abbrev yph:List OT:= [⟨false,tN,(.pr .fz (.pr .fz (.ow .fz)))⟩,⟨false,tB,.fz⟩]
def ysB (a0:dA) (a1:Int):Option (zaY yph×zak yka) :=zkr (ypU (((a1,()),((),()),((),()),(a0.2.2.1,()),((a0.2.2.1.length:Int),()),((),()),()),((a0.1,a0.2.1.1,a0.2.1.2,a0.2.2.1,a0.2.2.2.1,a0.2.2.2.2.1,a0.2.2.2.2.2.1,a0.2.2.2.2.2.2.1,a0.2.2.2.2.2.2.2.1,a0.2.2.2.2.2.2.2.2.1,a0.2.2.2.2.2.2.2.2.2.1,a0.2.2.2.2.2.2.2.2.2.2.1,a0.2.2.2.2.2.2.2.2.2.2.2,()),(0,0,(),()),()),())) (fun y6 =>some (((0,0,[]),false,()),())) (fun y6 =>some (((y6.2.1.1.1,y6.2.1.1.2.1,y6.2.2.1),y6.1.2.1.1,()),()))
theorem ySd:ConOk prog 23 ⟨yka,yph,fun x=>ysB x.1 x.2.1⟩:=zkG (yNG) func23 ntmps23.symm fun x=>by kernel_rfl
def ykA (a0:dA) (a1:Int):dN×Bool:=yaC a0 a1
def ypK (a0:dA) (a1:Int):Bool:=yd a0.2.1||y4Q a0.2.1
theorem yVk (a0:dA) (a1:Int) (hk:zjw yka (a0,a1,())) (hq:ypK a0 a1=true):ysB a0 a1=(fun n=>some ((n.1,n.2,()),())) (ykA a0 a1):=by
 have hb:a0.2.2.1.length*80≤2^47:=hk.1.2.2.1.1;have hg:=y4S hq
 have h1:=yLA (step:=ycx) (List.range a0.2.2.1.length) 0 (fun i=>yoe a1 a0.2.2.1 a0.2.2.1.length i a0 yMV) (ykS a0 a1) (fun k=> .inr (yL2 true (yrT a0 a1 k.toNat))) (.inl (yLF yMV)) (fun i hi=>by
  rw[List.length_range]at hi;rw[yW4 hi];simp only[ycx,yoe,yoD,zkw (show(i:Int)<a0.2.2.1.length by omega),cond_true,wq ((i:Int)+1) (by omega) (by omega),Int.natCast_add,Int.natCast_one,Int.toNat_natCast,zkP hi,zkV,ybW,yl0,yLy,ykS,yrT,yIu,yc];have e1:ltb (yaE (yQ (nth a0.2.2.1 i ([],[],false,[])) (yh a1)).1).1.2.1 a0.2.1.2=leb (yaE (yQ (nth a0.2.2.1 i ([],[],false,[])) (yh a1)).1).1.2.1 (a0.2.1.2-1):=by rw[Bool.eq_iff_iff,zj8,zj5]; omega
  cases hr:(yQ (nth a0.2.2.1 i ([],[],false,[])) (yh a1)).2
  ·rfl
  cases hg2:(yaE (yQ (nth a0.2.2.1 i ([],[],false,[])) (yh a1)).1).2
  ·rfl
  have hl:=(yti.1 (y4R hg2).1).2.2.1;have e2:(i64.wrap (((yaE (yQ (nth a0.2.2.1 i ([],[],false,[])) (yh a1)).1).1.2.2.length:Int)+1)==a0.2.1.1)=(((yaE (yQ (nth a0.2.2.1 i ([],[],false,[])) (yh a1)).1).1.2.2.length:Int)==a0.2.1.1-1):=by rw[wr (by omega) (by omega),Bool.eq_iff_iff,beq_iff_eq,beq_iff_eq]; omega
  rw[e1,e2]
  cases((yaE (yQ (nth a0.2.2.1 i ([],[],false,[])) (yh a1)).1).1.1==a1)<;>cases leb 0 (yaE (yQ (nth a0.2.2.1 i ([],[],false,[])) (yh a1)).1).1.2.1<;>cases leb (yaE (yQ (nth a0.2.2.1 i ([],[],false,[])) (yh a1)).1).1.2.1 (a0.2.1.2-1)<;>cases(((yaE (yQ (nth a0.2.2.1 i ([],[],false,[])) (yh a1)).1).1.2.2.length:Int)==a0.2.1.1-1)<;>rfl) (by
   rw[List.length_range]; simp only[ycx,yoe,yoD,zk1 (Int.le_refl _),cond_false]) 18446744073709551616 (by rw[List.length_range]; omega)
 unfold ysB ykA yaC;rw[show ypU (yLP a1 a0.2.2.1 a0.2.2.1.length a0 yMV)=_ from h1];cases leb 0 (yaj (ykS a0 a1) (List.range a0.2.2.1.length))<;>rfl
def ypE (a0:dA) (a1:Int):Option (zaY yph×zak yka):=bif ypK a0 a1 then(fun n=>some ((n.1,n.2,()),())) (ykA a0 a1)else none
theorem yWK (a0:dA) (a1:Int) (h:ypK a0 a1=true):ypE a0 a1=(fun n=>some ((n.1,n.2,()),())) (ykA a0 a1):=by unfold ypE; rw[h]; rfl
def yEf:Con:=⟨yka,yph,fun x=>ypE x.1 x.2.1⟩
theorem yWs:ConOk prog 23 yEf:=(ySd).mono (fun x r hk h=>zkW h (fun hq=>yVk x.1 x.2.1 hk hq))
def yoW:Code:=(f95.body).getD .skip
def ywU:Env:=zku TT [(74,yqe),(158,yaM)] []
theorem yNM:FrOk prog ⟨ywU,31,fun _=>none⟩ yoW:=zky yf yg ⟨yFa,ybQ,trivial⟩
def yDa:Nat→Option Seg:=fun _=>none
def yce:Shape:=⟨[(1,false,[.ptr 0 0]),(2,false,[.ptr 64 0]),(3,false,[.at 800000000]),(8,false,[.br tW]),(9,false,[.int .i64]),(10,false,[.int .i64])],[(0,[.int .i64,.int .i64,.int .i64,.br tM,.int .i64,.int .i64,.int .i64,.int .i64,.int .i64,.br tW,.int .i64,.bool,.bool]),(64,[.int .i64,.int .i64,.int .i64,.nil,.int .i64,.int .i64,.int .i64,.int .i64,.int .i64,.nil,.int .i64,.bool,.bool])],[(800000000,tW,(.pr .fz (.ow .fz)))]⟩
def ygs:Shape:=⟨[(1,false,[.ptr 0 0]),(2,false,[.ptr 64 0]),(3,false,[.at 800000000]),(8,false,[.br tW]),(9,false,[.int .i64]),(10,false,[.ci .i64 0])],[(0,[.int .i64,.int .i64,.int .i64,.br tM,.int .i64,.int .i64,.int .i64,.int .i64,.int .i64,.br tW,.int .i64,.bool,.bool]),(64,[.int .i64,.int .i64,.int .i64,.nil,.int .i64,.int .i64,.int .i64,.int .i64,.int .i64,.nil,.int .i64,.bool,.bool])],[(800000000,tW,(.pr .fz (.ow .fz)))]⟩
def yge:Shape:=⟨[(1,false,[.ptr 0 0]),(2,false,[.ptr 64 0]),(3,false,[.at 800000000])],[(0,[.int .i64,.int .i64,.int .i64,.br tM,.int .i64,.int .i64,.int .i64,.int .i64,.int .i64,.br tW,.int .i64,.bool,.bool]),(64,[.int .i64,.int .i64,.int .i64,.nil,.int .i64,.int .i64,.int .i64,.int .i64,.int .i64,.nil,.int .i64,.bool,.bool])],[(800000000,tW,(.pr .fz (.ow .fz)))]⟩
def yjS:Shape:=⟨[],[],[]⟩
abbrev yog (v0:List dW) (v1 v2:Int) (v3 v4:dA) (v5:List dW):(yce).X:=((((),()),((),()),((),()),(v0,()),(v1,()),(v2,()),()),((v3.1,v3.2.1.1,v3.2.1.2,v3.2.2.1,v3.2.2.2.1,v3.2.2.2.2.1,v3.2.2.2.2.2.1,v3.2.2.2.2.2.2.1,v3.2.2.2.2.2.2.2.1,v3.2.2.2.2.2.2.2.2.1,v3.2.2.2.2.2.2.2.2.2.1,v3.2.2.2.2.2.2.2.2.2.2.1,v3.2.2.2.2.2.2.2.2.2.2.2,()),(v4.1,v4.2.1.1,v4.2.1.2,(),v4.2.2.2.1,v4.2.2.2.2.1,v4.2.2.2.2.2.1,v4.2.2.2.2.2.2.1,v4.2.2.2.2.2.2.2.1,(),v4.2.2.2.2.2.2.2.2.2.1,v4.2.2.2.2.2.2.2.2.2.2.1,v4.2.2.2.2.2.2.2.2.2.2.2,()),()),(v5,()))
abbrev yLR (v0:List dW) (v1:Int) (v2 v3:dA) (v4:List dW):(ygs).X:=((((),()),((),()),((),()),(v0,()),(v1,()),((),()),()),((v2.1,v2.2.1.1,v2.2.1.2,v2.2.2.1,v2.2.2.2.1,v2.2.2.2.2.1,v2.2.2.2.2.2.1,v2.2.2.2.2.2.2.1,v2.2.2.2.2.2.2.2.1,v2.2.2.2.2.2.2.2.2.1,v2.2.2.2.2.2.2.2.2.2.1,v2.2.2.2.2.2.2.2.2.2.2.1,v2.2.2.2.2.2.2.2.2.2.2.2,()),(v3.1,v3.2.1.1,v3.2.1.2,(),v3.2.2.2.1,v3.2.2.2.2.1,v3.2.2.2.2.2.1,v3.2.2.2.2.2.2.1,v3.2.2.2.2.2.2.2.1,(),v3.2.2.2.2.2.2.2.2.2.1,v3.2.2.2.2.2.2.2.2.2.2.1,v3.2.2.2.2.2.2.2.2.2.2.2,()),()),(v4,()))
abbrev yLG (v0 v1:dA) (v2:List dW):(yge).X:=((((),()),((),()),((),()),()),((v0.1,v0.2.1.1,v0.2.1.2,v0.2.2.1,v0.2.2.2.1,v0.2.2.2.2.1,v0.2.2.2.2.2.1,v0.2.2.2.2.2.2.1,v0.2.2.2.2.2.2.2.1,v0.2.2.2.2.2.2.2.2.1,v0.2.2.2.2.2.2.2.2.2.1,v0.2.2.2.2.2.2.2.2.2.2.1,v0.2.2.2.2.2.2.2.2.2.2.2,()),(v1.1,v1.2.1.1,v1.2.1.2,(),v1.2.2.2.1,v1.2.2.2.2.1,v1.2.2.2.2.2.1,v1.2.2.2.2.2.2.1,v1.2.2.2.2.2.2.2.1,(),v1.2.2.2.2.2.2.2.2.2.1,v1.2.2.2.2.2.2.2.2.2.2.1,v1.2.2.2.2.2.2.2.2.2.2.2,()),()),(v2,()))
def yoF (v0:List dW) (v1 v2 v3 v4 v5:Int) (v6:List dM) (v7 v8 v9 v10 v11:Int) (v12:List dW) (v13:Int) (v14 v15:Bool) (v16 v17 v18 v19 v20 v21 v22 v23 v24:Int) (v25 v26:Bool) (v27:List dW):Option ((yce).X ⊕ ((yge).X ⊕ (yjS).X)) :=bif(ltb v2 v1)then bif(inb v2 v0.length)then let r2:=yx ((nth v0 v2 (0,[])).2);bif(zkj v27.length ([((nth v0 v2 (0,[])).1,r2)]:List dW).length 32)then some (.inl ((((),()),((),()),((),()),(v0,()),(v1,()),((i64.wrap (v2+1)),()),()),((v3,v4,v5,v6,v7,v8,v9,v10,v11,v12,v13,v14,v15,()),(v16,v17,v18,(),v19,v20,v21,v22,v23,(),v24,v25,v26,()),()),((v27++([((nth v0 v2 (0,[])).1,r2)]:List dW)),()))) else none else none else some (.inr (.inl ((((),()),((),()),((),()),()),((v3,v4,v5,v6,v7,v8,v9,v10,v11,v12,v13,v14,v15,()),(v16,v17,v18,(),v19,v20,v21,v22,v23,(),v24,v25,v26,()),()),(v27,()))))
def ycz (x:(yce).X):=yoF x.1.2.2.2.1.1 x.1.2.2.2.2.1.1 x.1.2.2.2.2.2.1.1 x.2.1.1.1 x.2.1.1.2.1 x.2.1.1.2.2.1 x.2.1.1.2.2.2.1 x.2.1.1.2.2.2.2.1 x.2.1.1.2.2.2.2.2.1 x.2.1.1.2.2.2.2.2.2.1 x.2.1.1.2.2.2.2.2.2.2.1 x.2.1.1.2.2.2.2.2.2.2.2.1 x.2.1.1.2.2.2.2.2.2.2.2.2.1 x.2.1.1.2.2.2.2.2.2.2.2.2.2.1 x.2.1.1.2.2.2.2.2.2.2.2.2.2.2.1 x.2.1.1.2.2.2.2.2.2.2.2.2.2.2.2.1 x.2.1.2.1.1 x.2.1.2.1.2.1 x.2.1.2.1.2.2.1 x.2.1.2.1.2.2.2.2.1 x.2.1.2.1.2.2.2.2.2.1 x.2.1.2.1.2.2.2.2.2.2.1 x.2.1.2.1.2.2.2.2.2.2.2.1 x.2.1.2.1.2.2.2.2.2.2.2.2.1 x.2.1.2.1.2.2.2.2.2.2.2.2.2.2.1 x.2.1.2.1.2.2.2.2.2.2.2.2.2.2.2.1 x.2.1.2.1.2.2.2.2.2.2.2.2.2.2.2.2.1 x.2.2.1
def yyZ (x:(ygs).X):(yce).X:=((((),()),((),()),((),()),(x.1.2.2.2.1.1,()),(x.1.2.2.2.2.1.1,()),(0,()),()),((x.2.1.1.1,x.2.1.1.2.1,x.2.1.1.2.2.1,x.2.1.1.2.2.2.1,x.2.1.1.2.2.2.2.1,x.2.1.1.2.2.2.2.2.1,x.2.1.1.2.2.2.2.2.2.1,x.2.1.1.2.2.2.2.2.2.2.1,x.2.1.1.2.2.2.2.2.2.2.2.1,x.2.1.1.2.2.2.2.2.2.2.2.2.1,x.2.1.1.2.2.2.2.2.2.2.2.2.2.1,x.2.1.1.2.2.2.2.2.2.2.2.2.2.2.1,x.2.1.1.2.2.2.2.2.2.2.2.2.2.2.2.1,()),(x.2.1.2.1.1,x.2.1.2.1.2.1,x.2.1.2.1.2.2.1,(),x.2.1.2.1.2.2.2.2.1,x.2.1.2.1.2.2.2.2.2.1,x.2.1.2.1.2.2.2.2.2.2.1,x.2.1.2.1.2.2.2.2.2.2.2.1,x.2.1.2.1.2.2.2.2.2.2.2.2.1,(),x.2.1.2.1.2.2.2.2.2.2.2.2.2.2.1,x.2.1.2.1.2.2.2.2.2.2.2.2.2.2.2.1,x.2.1.2.1.2.2.2.2.2.2.2.2.2.2.2.2.1,()),()),(x.2.2.1,()))
def yBv:Code:=(zeJ yoW 64 116).getD .skip
theorem yNn:zeJ yoW 64 29=some (.block 0 (.loop yBv)):=by kernel_rfl
theorem yPi (x:(yce).X):zhu ⟨ywU,31,yDa⟩ 0 yBv 116 yce yge yjS x=ycz x:=by kernel_rfl
def yzg (x:(ygs).X):Nat:=18446744073709551616
def ypW (x:(ygs).X):Option ((yge).X ⊕ (yjS).X):=zF ycz (yzg x) (yyZ x)
def yzK:Seg:=⟨ygs,yge,yjS,ypW⟩
def yPS:Nat→Option Seg:=fun q=>bif Nat.beq q 29 then some yzK else yDa q
theorem yNN:FrOk prog ⟨ywU,31,yPS⟩ yoW:=(yNM).loop (sg:=yzK) yce yyZ (by decide) yNn ycz yzg (by decide) (fun _=>rfl) (fun x r _ h=>h) yPi
abbrev ypa:List Par:= [.rd tA]
abbrev yxp:List OT:= [⟨false,tA,(.pr .fz (.pr (.pr .fz .fz) (.pr (.ow (.pr (.ow (.ow .fz)) (.pr (.ow (.pr .fz (.ow .fz))) (.pr .fz (.ow .fz))))) (.pr .fz (.pr .fz (.pr .fz (.pr .fz (.pr .fz (.pr (.ow (.pr .fz (.ow .fz))) (.pr .fz (.pr .fz .fz)))))))))))⟩]
def ysF (a0:dA):Option (zaY yxp×zak ypa) :=zkr (ypW ((((),()),((),()),((),()),(a0.2.2.2.2.2.2.2.2.1,()),((a0.2.2.2.2.2.2.2.2.1.length:Int),()),((),()),()),((a0.1,a0.2.1.1,a0.2.1.2,a0.2.2.1,a0.2.2.2.1,a0.2.2.2.2.1,a0.2.2.2.2.2.1,a0.2.2.2.2.2.2.1,a0.2.2.2.2.2.2.2.1,a0.2.2.2.2.2.2.2.2.1,a0.2.2.2.2.2.2.2.2.2.1,a0.2.2.2.2.2.2.2.2.2.2.1,a0.2.2.2.2.2.2.2.2.2.2.2,()),(0,0,0,(),0,0,0,0,0,(),0,false,false,()),()),(([]:List dW),()))) (fun y2 =>let r4:=yfM y2.2.1.1.2.2.2.1;some (((y2.2.1.1.1,(y2.2.1.1.2.1,y2.2.1.1.2.2.1),r4,y2.2.1.1.2.2.2.2.1,y2.2.1.1.2.2.2.2.2.1,y2.2.1.1.2.2.2.2.2.2.1,y2.2.1.1.2.2.2.2.2.2.2.1,y2.2.1.1.2.2.2.2.2.2.2.2.1,y2.2.2.1,y2.2.1.1.2.2.2.2.2.2.2.2.2.2.1,y2.2.1.1.2.2.2.2.2.2.2.2.2.2.2.1,y2.2.1.1.2.2.2.2.2.2.2.2.2.2.2.2.1),()),())) (fun y2 =>none)
theorem ySi:ConOk prog 95 ⟨ypa,yxp,fun x=>ysF x.1⟩:=zkG (yNN) func95 ntmps95.symm fun x=>by kernel_rfl
def ybX (a0:dA):dA:=a0
theorem yVp (a0:dA) (hk:zjw ypa (a0,())):ysF a0=(fun n=>some ((n,()),())) (ybX a0):=by
 have hb:a0.2.2.2.2.2.2.2.2.1.length*32≤2^47:=hk.1.2.2.2.2.2.2.2.2.1.1
 have h1:=zkv (step:=ycz) a0.2.2.2.2.2.2.2.2.1 (0,[]) (fun i s=>yog a0.2.2.2.2.2.2.2.2.1 a0.2.2.2.2.2.2.2.2.1.length i a0 yaJ s) (fun s x=>s++ [x]) (fun i s=>s.length=i) (fun s=> .inl (yLG a0 yaJ s)) (fun i s hi hs=>⟨by
   simp only[ycz,yog,yoF,zkw (show(i:Int)<a0.2.2.2.2.2.2.2.2.1.length by omega),cond_true,wq ((i:Int)+1) (by omega) (by omega),Int.natCast_add,Int.natCast_one,Int.toNat_natCast,zkP hi,zkQ,yx,zkV]
   rw[zkD.2 (show(s.length+ [a0.2.2.2.2.2.2.2.2.1.getD i (0,[])].length)*32≤140737488355328 by simp only[List.length_cons,List.length_nil]; omega)]; rfl,by simp[hs]⟩) (fun s hs=>by simp only[ycz,yog,yoF,zk1 (Int.le_refl _),cond_false]) [] rfl 18446744073709551616 (by omega)
 rw[yxQ]at h1;unfold ysF ybX;rw[show ypW (yLR a0.2.2.2.2.2.2.2.2.1 a0.2.2.2.2.2.2.2.2.1.length a0 yaJ [])=_ from h1]; rfl
def ylm:Con:=⟨ypa,yxp,fun x=>(fun n=>some ((n,()),())) (ybX x.1)⟩
theorem yvv:ConOk prog 95 ylm:=(ySi).mono (fun x r hk h=>(yVp x.1 hk).trans h)
def yTr:Code:=(f96.body).getD .skip
def yTU:Env:=zku TT [(55,yeP)] []
theorem yLg:FrOk prog ⟨yTU,15,fun _=>none⟩ yTr:=zky yf yg ⟨yif,trivial⟩
abbrev yt2:List Par:= [.rd tA]
abbrev yup:List OT:= [⟨false,tB,.fz⟩]
def yCw (a0:dA):Option (zaY yup×zak yt2) :=let r1:=yah a0;bif r1 then bif(!a0.2.2.2.2.2.2.2.2.2.2.1)then some (((ltb a0.2.2.2.2.2.2.2.1 60000),()),()) else some ((false,()),()) else some ((false,()),())
theorem yOY:ConOk prog 96 ⟨yt2,yup,fun x=>yCw x.1⟩:=zkG (yLg) func96 ntmps96.symm fun x=>by kernel_rfl
def ydW (a0:dA):Bool :=let r1:=yah a0;bif r1 then bif(!a0.2.2.2.2.2.2.2.2.2.2.1)then (ltb a0.2.2.2.2.2.2.2.1 60000) else false else false
def yBP:Con:=⟨yt2,yup,fun x=>(fun n=>some ((n,()),())) (ydW x.1)⟩
theorem yRY (a0:dA):yCw a0=(fun n=>some ((n,()),())) (ydW a0):=zkT (p:=fun(n:Bool)=>((n,()),())) (zkE (p:=fun(n:Bool)=>((n,()),())) (zkE (p:=fun(n:Bool)=>((n,()),())) rfl rfl) rfl)
theorem ySO:ConOk prog 96 yBP:=(yOY).mono (fun x r _ h=>(yRY x.1).trans h)
def yTv:Code:=(f144.body).getD .skip
def yTY:Env:=zku TT [(195,yEr)] []
theorem yLm:FrOk prog ⟨yTY,25,fun _=>none⟩ yTv:=zky yf yg ⟨yWE,trivial⟩
abbrev yt6:List Par:= [.rd tS]
abbrev yuu:List OT:= [⟨false,tL,(.ow .fz)⟩]
def yCx (a0:dS):Option (zaY yuu×zak yt6) :=let r1:=yH a0;bif(!r1)then some ((([]:List Int),()),()) else some ((([21317,a0.1,a0.2.1,a0.2.2.1,a0.2.2.2.1,a0.2.2.2.2.1,a0.2.2.2.2.2.1,(i64.wrap (a0.2.2.2.2.2.2.1+1)),a0.2.2.2.2.2.2.2]:List Int),()),())
theorem yO3:ConOk prog 144 ⟨yt6,yuu,fun x=>yCx x.1⟩:=zkG (yLm) func144 ntmps144.symm fun x=>by kernel_rfl
def ym (a0:dS):(List Int) :=let r1:=yH a0;bif(!r1)then ([]:List Int) else ([21317,a0.1,a0.2.1,a0.2.2.1,a0.2.2.2.1,a0.2.2.2.2.1,a0.2.2.2.2.2.1,(i64.wrap (a0.2.2.2.2.2.2.1+1)),a0.2.2.2.2.2.2.2]:List Int)
def yqh:Con:=⟨yt6,yuu,fun x=>(fun n=>some ((n,()),())) (ym x.1)⟩
theorem yR2 (a0:dS):yCx a0=(fun n=>some ((n,()),())) (ym a0):=zkT (p:=fun(n:(List Int))=>((n,()),())) (zkE (p:=fun(n:(List Int))=>((n,()),())) rfl rfl)
theorem yFe:ConOk prog 144 yqh:=(yO3).mono (fun x r _ h=>(yR2 x.1).trans h)
theorem yJp {s:dS} (h:yH s=true):yeT (ym s)=(s,true):=by
 have hs:=yyz.1 h;have hg:=yl.1 hs.1;simp only at hg
 have hp:ym s= [21317,s.1,s.2.1,s.2.2.1,s.2.2.2.1,s.2.2.2.2.1,s.2.2.2.2.2.1,s.2.2.2.2.2.2.1+1,s.2.2.2.2.2.2.2]:=by
  unfold ym;rw[h,wq (s.2.2.2.2.2.2.1+1) (by omega) (by omega)]; rfl
 have ha:yIw (ym s)=s:=by
  rw[hp];show(s.1,s.2.1,s.2.2.1,s.2.2.2.1,s.2.2.2.2.1,s.2.2.2.2.2.1,i64.wrap (s.2.2.2.2.2.2.1+1-1),s.2.2.2.2.2.2.2)=s;rw[wq (s.2.2.2.2.2.2.1+1-1) (by omega) (by omega),Int.add_sub_cancel]
 unfold yeT;rw[ha,h,hp]; rfl
abbrev ya (a:dA):Bool:=a.2.2.2.2.2.2.2.2.2.2.1
def yh2 (a:dA) (f:Int) (d:Bool):dA:=(a.1,a.2.1,a.2.2.1,a.2.2.2.1,a.2.2.2.2.1,a.2.2.2.2.2.1,a.2.2.2.2.2.2.1,a.2.2.2.2.2.2.2.1,a.2.2.2.2.2.2.2.2.1,f,d,a.2.2.2.2.2.2.2.2.2.2.2)
def opA (a:dA):Bool×dA:=bif ya a then(false,a)else bif a.2.2.2.2.2.2.2.2.2.1==0 then(false,yh2 a (-1) true)else bif ltb 0 a.2.2.2.2.2.2.2.2.2.1 then(true,yh2 a (i64.wrap (a.2.2.2.2.2.2.2.2.2.1-1)) (ya a))else(true,a)
def ybx (a:dA) (m:Int) (x:dM):dA:=(a.1,a.2.1,a.2.2.1.set m.toNat x,a.2.2.2)
def yby (a:dA) (m n:Int) (s:List Int):dA:=bif(nth a.2.2.1 m yc).2.2.1 then a else bif(opA a).1 then ybx (opA a).2 m (yZ (nth a.2.2.1 m yc) n s).1 else(opA a).2
def yab (a:dA) (i:Nat):dA:=bif(nth a.2.2.1 i yc).2.2.1 then a else bif(opA a).1 then ybx (opA a).2 i (yE (nth a.2.2.1 i yc))else(opA a).2
def ye (a:dA):dA:=(List.range a.2.2.1.length).foldl yab a
def yMX (a:dA) (i:Int):dS:=(a.1,a.2.2.2.2.2.2.2.1,i,a.2.1.1,a.2.1.2,a.2.2.2.2.2.2.1,a.2.2.2.1,a.2.2.2.2.1)
def yad (a:dA) (i:Nat):dA:=yby a i (a.2.2.2.2.2.2.2.1.tmod 2) (ym (yMX a i))
def yaw (a:dA):dA:=(a.1,a.2.1,a.2.2.1,a.2.2.2.1,a.2.2.2.2.1,a.2.2.2.2.2.1,a.2.2.2.2.2.2.1,i64.wrap (a.2.2.2.2.2.2.2.1+1),a.2.2.2.2.2.2.2.2)
def yD (a:dA):dA:=ye ((List.range a.2.2.1.length).foldl yad (yaw a))
theorem yaT (a:dA):(opA a).2.2.2.1=a.2.2.1:=by
 unfold opA;cases ya a
 ·cases(a.2.2.2.2.2.2.2.2.2.1==0)
  ·cases ltb 0 a.2.2.2.2.2.2.2.2.2.1<;>rfl
  ·rfl
 ·rfl
theorem yZs {a:dA} (h:ya a=false):ya (opA a).2= !(opA a).1:=by
 unfold opA;rw[h];cases(a.2.2.2.2.2.2.2.2.2.1==0)
 ·cases ltb 0 a.2.2.2.2.2.2.2.2.2.1
  ·exact h
  ·rfl
 ·rfl
theorem y3P {a:dA} (h:ya a=true):opA a=(false,a):=by unfold opA; rw[h]; rfl
theorem ypJ (a:dA) (m n:Int) (s:List Int):(yby a m n s).2.2.1.length=a.2.2.1.length:=by
 unfold yby;cases(nth a.2.2.1 m yc).2.2.1
 ·cases(opA a).1
  ·show(opA a).2.2.2.1.length=_; rw[yaT]
  ·show((opA a).2.2.2.1.set m.toNat _).length=_; rw[List.length_set,yaT]
 ·rfl
theorem ymi (a:dA) (i:Nat):(yab a i).2.2.1.length=a.2.2.1.length:=by
 unfold yab;cases(nth a.2.2.1 i yc).2.2.1
 ·cases(opA a).1
  ·show(opA a).2.2.2.1.length=_; rw[yaT]
  ·show((opA a).2.2.2.1.set _ _).length=_; rw[List.length_set,yaT]
 ·rfl
theorem yjA {one:dA→Nat→dA} (h: ∀a i,(one a i).2.2.1.length=a.2.2.1.length): ∀(l:List Nat) (a:dA),(l.foldl one a).2.2.1.length=a.2.2.1.length
 | [],_=>rfl
 | x::l,a=>by rw[List.foldl_cons,yjA h l,h]
theorem yJe (a:dA):(ye a).2.2.1.length=a.2.2.1.length:=yjA ymi _ _
theorem yos {a:dA} (h:ya a=true) (m n:Int) (s:List Int):yby a m n s=a:=by
 unfold yby;rw[y3P h];cases(nth a.2.2.1 m yc).2.2.1<;>rfl
theorem yFG {a:dA} (i:Nat) (h:ya a=true):yab a i=a:=by
 unfold yab;rw[y3P h];cases(nth a.2.2.1 i yc).2.2.1<;>rfl
theorem ykY {one:dA→Nat→dA} (hs: ∀a i,ya a=true→one a i=a): ∀(l:List Nat) (a:dA),ya a=true→l.foldl one a=a
 | [],_,_=>rfl
 | x::l,a,h=>by rw[List.foldl_cons,hs a x h]; exact ykY hs l a h
theorem ytm {a:dA} (h:ya a=true):ye a=a:=ykY (fun _ i h=>yFG i h) _ a h
theorem y2W {a:dA} (h:ya a=false) (m n:Int) (s:List Int):ya (yby a m n s)=(!(nth a.2.2.1 m yc).2.2.1&& !(opA a).1):=by
 have:=yZs h;unfold yby;cases(nth a.2.2.1 m yc).2.2.1
 ·cases ho:(opA a).1
  ·rw[ho]at this; exact this
  ·rw[ho]at this; exact this
 ·exact h
theorem yMF {a:dA} (h:ya a=false) (i:Nat):ya (yab a i)=(!(nth a.2.2.1 i yc).2.2.1&& !(opA a).1):=by
 have:=yZs h;unfold yab;cases(nth a.2.2.1 i yc).2.2.1
 ·cases ho:(opA a).1
  ·rw[ho]at this; exact this
  ·rw[ho]at this; exact this
 ·exact h
theorem yE1 {one:dA→Nat→dA} (hs: ∀a i,ya a=true→one a i=a): ∀(k i:Nat) (s:dA),goE (fun i s=>bif ya (one s i)then(.inr (one s i):dA ⊕ dA)else .inl (one s i)) id k i s=(List.range' i k).foldl one s
 | 0,_,_=>rfl
 | k+1,i,s=>by
  rw[List.range'_succ,List.foldl_cons,goE];cases hd:ya (one s i)
  ·exact yE1 hs k (i+1) (one s i)
  ·exact(ykY hs _ _ hd).symm
def yax (a:dA) (m:Int):dA:=(a.1,a.2.1,a.2.2.1.set m.toNat (yao (nth a.2.2.1 m yc)),m,0,a.2.2.2.2.2)
def yUn (a:dA) (m:Int):dA:=(a.1,a.2.1,a.2.2.1.set m.toNat (yao (nth a.2.2.1 m yc)),a.2.2.2.1,a.2.2.2.2.1,a.2.2.2.2.2.1,a.2.2.2.2.2.2.1,a.2.2.2.2.2.2.2.1,a.2.2.2.2.2.2.2.2.1,a.2.2.2.2.2.2.2.2.2.1,a.2.2.2.2.2.2.2.2.2.2.1,true)
def yia (a:dA) (m:Int):dA:=bif a.2.2.2.1== -1||a.2.2.2.1==m then(bif !(ya a)&&(!a.2.2.2.2.2.2.2.2.2.2.2&&ltb a.2.2.2.2.2.2.2.1 60000)then yD (yax a m)else yax a m)else yUn a m
theorem y5C (a:dA):(yD a).2.2.1.length=a.2.2.1.length:=(yJe _).trans (yjA (one:=yad) (fun _ _=>ypJ _ _ _ _) _ (yaw a))
theorem yI7 (a:dA):(opA a).2.2.2.2.2.2.2.2.2.1=a.2.2.2.2.2.2.2.2.1:=by
 unfold opA;cases ya a
 ·cases(a.2.2.2.2.2.2.2.2.2.1==0)
  ·cases ltb 0 a.2.2.2.2.2.2.2.2.2.1<;>rfl
  ·rfl
 ·rfl
theorem y45 (a:dA) (m n:Int) (s:List Int):(yby a m n s).2.2.2.2.2.2.2.2.1=a.2.2.2.2.2.2.2.2.1:=by
 unfold yby;cases(nth a.2.2.1 m yc).2.2.1
 ·cases(opA a).1
  ·exact yI7 a
  ·exact yI7 a
 ·rfl
theorem y1U (a:dA) (i:Nat):(yab a i).2.2.2.2.2.2.2.2.1=a.2.2.2.2.2.2.2.2.1:=by
 unfold yab;cases(nth a.2.2.1 i yc).2.2.1
 ·cases(opA a).1
  ·exact yI7 a
  ·exact yI7 a
 ·rfl
theorem yIH {one:dA→Nat→dA} (h: ∀a i,(one a i).2.2.2.2.2.2.2.2.1=a.2.2.2.2.2.2.2.2.1): ∀(l:List Nat) (a:dA),(l.foldl one a).2.2.2.2.2.2.2.2.1=a.2.2.2.2.2.2.2.2.1
 | [],_=>rfl
 | x::l,a=>by rw[List.foldl_cons,yIH h l,h]
theorem yJc (a:dA):(ye a).2.2.2.2.2.2.2.2.1=a.2.2.2.2.2.2.2.2.1:=yIH y1U _ _
theorem y4j (a:dA):(yD a).2.2.2.2.2.2.2.2.1=a.2.2.2.2.2.2.2.2.1:=(yJc _).trans (yIH (one:=yad) (fun _ _=>y45 _ _ _ _) _ (yaw a))
def ya9 (n:Int):dM:=bif leb 1 n&&leb n 20 then(List.replicate n.toNat [],[],false,[])else yc
theorem yLC {n:Int} (h1:1≤n) (h2:n≤20):yv (ya9 n)=true:=by
 unfold ya9;rw[zk0 h1,zk0 h2];refine ysi ?_ rfl rfl ?_ ?_ (Nat.zero_le _)
 ·show(List.replicate n.toNat ([]:List Int)).all yaz=true
  rw[List.all_eq_true];intro x hx;rw[(List.mem_replicate.1 hx).2]; rfl
 ·show 1≤(List.replicate n.toNat ([]:List Int)).length; rw[List.length_replicate]; omega
 ·show(List.replicate n.toNat ([]:List Int)).length≤20; rw[List.length_replicate]; omega
def yaa (a:dA):dA:=(a.1,a.2.1,a.2.2.1.set a.2.2.2.1.toNat (ya9 (6+a.2.1.2)),a.2.2.2.1,0,a.2.2.2.2.2)
def yV (a:dA):dA:=(a.1,a.2.1,a.2.2.1,a.2.2.2.1,a.2.2.2.2.1,a.2.2.2.2.2.1,a.2.2.2.2.2.1,a.2.2.2.2.2.2.2)
def yq (a:dA):dA:=bif ya (ye a)then ye a else yD (yV (ye a))
theorem yZH (a:dA):(yq a).2.2.1.length=a.2.2.1.length:=by
 unfold yq;cases ya (ye a)
 ·exact(y5C (yV (ye a))).trans (yJe a)
 ·exact yJe a
theorem yPt (a:dA):(yq a).2.2.2.2.2.2.2.2.1=a.2.2.2.2.2.2.2.2.1:=by
 unfold yq;cases ya (ye a)
 ·exact(y4j (yV (ye a))).trans (yJc a)
 ·exact yJc a
def y2O (id:Int) (g:dG) (i:Int):dS:=(id,0,i,g.1,g.2,0,-1,0)
def ypC (m:dM) (s:Nat):dM:=(m.1.set (s+6) [0],m.2)
def yjq (id:Int) (g:dG) (i:Int):dM:=((ya9 (6+g.2)).1.set 0 (ym (y2O id g i)),(ya9 (6+g.2)).2)
def yP (id:Int) (g:dG) (i:Int):dM:=(List.range g.2.toNat).foldl ypC (yjq id g i)
def yDV (a:dA) (m:dM):dA:=(a.1,a.2.1,a.2.2.1++ [m],a.2.2.2)
def yDZ (id:Int) (g:dG):dA:=(id,g,[],-1,0,0,0,0,[],-1,false,false)
def yeG (id:Int) (g:dG):dA:=bif yd g&&(leb 1 id&&leb id 60000)then(List.range g.1.toNat).foldl (fun a (i:Nat)=>yDV a (yP id g i)) (yDZ id g)else yaJ
theorem yPD (l:List Nat) (m:dM):(l.foldl ypC m).1.length=m.1.length:=by
 induction l generalizing m with
 | nil=>rfl
 | cons x t ih=>rw[List.foldl_cons,ih]; show(m.1.set _ _).length=_; rw[List.length_set]
def yz (a:dA):Int×(Int×Int)×Int×Int×Int×Int×Int×List dW×Bool:=(a.1,a.2.1,a.2.2.2.1,a.2.2.2.2.1,a.2.2.2.2.2.1,a.2.2.2.2.2.2.1,a.2.2.2.2.2.2.2.1,a.2.2.2.2.2.2.2.2.1,a.2.2.2.2.2.2.2.2.2.2.2)
theorem yIl (a:dA):yz (opA a).2=yz a:=by
 unfold opA;cases ya a
 ·cases(a.2.2.2.2.2.2.2.2.2.1==0)
  ·cases ltb 0 a.2.2.2.2.2.2.2.2.2.1<;>rfl
  ·rfl
 ·rfl
theorem yhN (a:dA) (m n:Int) (s:List Int):yz (yby a m n s)=yz a:=by
 unfold yby;cases(nth a.2.2.1 m yc).2.2.1
 ·cases(opA a).1
  ·exact yIl a
  ·exact yIl a
 ·rfl
theorem yME (a:dA) (i:Nat):yz (yab a i)=yz a:=by
 unfold yab;cases(nth a.2.2.1 i yc).2.2.1
 ·cases(opA a).1
  ·exact yIl a
  ·exact yIl a
 ·rfl
theorem yn7 {one:dA→Nat→dA} (h: ∀a i,yz (one a i)=yz a): ∀(l:List Nat) (a:dA),yz (l.foldl one a)=yz a
 | [],_=>rfl
 | x::l,a=>by rw[List.foldl_cons,yn7 h l,h]
theorem yaL (a:dA):yz (ye a)=yz a:=yn7 yME _ _
theorem yjd (a:dA):yz (yD a)=yz (yaw a):=(yaL _).trans (yn7 (one:=yad) (fun _ _=>yhN _ _ _ _) _ _)
theorem yag {a b:dA} (h:yz a=yz b):a.2.1=b.2.1:=congrArg (fun x=>x.2.1) h
theorem yja {a b:dA} (h:yz a=yz b):a.2.2.2.2.1=b.2.2.2.2.1:=congrArg (fun x=>x.2.2.2.1) h
theorem yUl {a b:dA} (h:yz a=yz b):a.2.2.2.2.2.2.2.2.1=b.2.2.2.2.2.2.2.2.1:=congrArg (fun x=>x.2.2.2.2.2.2.2.1) h
def y46 (b:dA):dA:=(b.1,b.2.1,b.2.2.1,b.2.2.2.1,i64.wrap (b.2.2.2.2.1+1),b.2.2.2.2.2)
def yaK (a:dA):dA:=yby a a.2.2.2.1 (yy a.2.2.2.2.1) [nth (yR a a.2.2.2.2.1).1 a.2.2.2.1 0]
def yfT (a:dA):Int×dA:=bif(yR a a.2.2.2.2.1).2 then(bif ya (yaK a)then(6,yaK a)else(0,y46 (yaK a)))else(5,a)
def yA5 (lost:Int) (br:Bool) (S:Int) (i:Nat) (m:dM):Prop:=yv m=true∧(m.1.length:Int)=6+S∧(m.2.2.1=true→(i:Int)=lost∨br=true)
def yGH (lost:Int) (br:Bool) (S:Int) (l:List dM):Prop:= ∀i,i<l.length→yA5 lost br S i (nth l i yc)
theorem yn9 {lost S:Int} {br:Bool} {l:List dM} {i:Nat} {x:dM} (h:yGH lost br S l) (hx:i<l.length→yA5 lost br S i x):yGH lost br S (l.set i x):=fun j hj=>by
 rw[List.length_set]at hj;by_cases e:j=i
 ·subst e
  rw[zkQ,zkH (by rw[List.length_set]; exact hj),List.getElem_set_self]; exact hx hj
 ·have:=h j hj
  rw[zkQ,zkH hj]at this;rw[zkQ,zkH (by rw[List.length_set]; exact hj),List.getElem_set_ne (fun e'=>e e'.symm)]; exact this
theorem y4m {a:dA}:ylW a=true↔yGH a.2.2.2.1 a.2.2.2.2.2.2.2.2.2.2.2 a.2.1.2 a.2.2.1∧(a.2.2.1.length:Int)=a.2.1.1:=by
 constructor
 ·intro h
  refine⟨fun i hi=>y4Y h hi,?_⟩;simp only[ylW,Bool.and_eq_true,beq_iff_eq]at h; exact h.2
 ·rintro⟨h1,h2⟩
  simp only[ylW,Bool.and_eq_true,beq_iff_eq,Bool.not_eq_true',List.any_eq_false,List.mem_range];refine⟨fun i hi=> ?_,h2⟩;obtain⟨g1,g2,g3⟩:=h1 i hi;unfold yhD;rw[g1,show(((nth a.2.2.1 i yc).1.length:Int) !=6+a.2.1.2)=false from bne_eq_false_iff_eq.2 g2];cases hf:(nth a.2.2.1 i yc).2.2.1
  ·simp
  ·rcases g3 hf with e | e
   ·rw[show((i:Int) !=a.2.2.2.1)=false from bne_eq_false_iff_eq.2 e]; simp
   ·rw[e]; simp
def fuz (a:dA):Int:=a.2.2.2.2.2.2.2.2.2.1
def yI (a:dA):Prop:=(yGH a.2.2.2.1 a.2.2.2.2.2.2.2.2.2.2.2 a.2.1.2 a.2.2.1∧(a.2.2.1.length:Int)=a.2.1.1)∧ -1≤fuz a∧fuz a≤1000
def yU (a:dA):Prop:=yd a.2.1=true∧(1≤a.1∧a.1≤60000)∧yaY a.2.1 a.2.2.2.2.2.2.2.2.1=true∧(-1≤a.2.2.2.1∧a.2.2.2.1≤a.2.1.1-1)∧(0≤a.2.2.2.2.1∧a.2.2.2.2.1≤a.2.1.2)∧(a.2.2.2.1= -1→a.2.2.2.2.1=0) ∧ (0≤a.2.2.2.2.2.2.1∧a.2.2.2.2.2.2.1≤60000)∧(a.2.2.2.2.2.2.1≤a.2.2.2.2.2.1∧a.2.2.2.2.2.1≤60000)∧a.2.2.2.2.2.1≤a.2.2.2.2.2.2.1+4∧0≤a.2.2.2.2.2.2.2.1∧a.2.2.2.2.2.2.2.1≤60000
theorem yC1 {a:dA}:yae a=true↔yU a∧yI a:=by
 unfold yae yU yI fuz;simp only[Bool.and_eq_true,zj5,y4m,Bool.not_eq_true',Bool.and_eq_false_iff,beq_eq_false_iff_ne,bne_eq_false_iff_eq];constructor
 ·rintro⟨h1,h2,h3,h4,h5,h6,h7,h8,h9,h10,h11,h12⟩
  exact⟨⟨h1,h2,h4,h5,h6,fun e=>h7.resolve_left (fun g=>g e),h8,h9,h10,h11.1,h11.2⟩,h3,h12⟩
 ·rintro⟨⟨h1,h2,h4,h5,h6,h7,h8,h9,h10,h11,h11'⟩,h3,h12⟩
  exact⟨h1,h2,h3,h4,h5,h6,(Decidable.em (a.2.2.2.1= -1)).elim (fun e=> .inr (h7 e)) (fun e=> .inl e),h8,h9,h10,⟨h11,h11'⟩,h12⟩
theorem yC2 {a b:dA} (h:yz b=yz a) (ha:yU a):yU b:=by
 unfold yz at h;simp only[Prod.mk.injEq]at h;obtain⟨h1,h2,h3,h4,h5,h6,h7,h8,h9⟩:=h;unfold yU at *;rw[h1,h2,h3,h4,h5,h6,h7,h8]; exact ha
theorem y6c {a b:dA} (h:yz b=yz a) (hl:b.2.2.1.length=a.2.2.1.length) (hm:yGH a.2.2.2.1 a.2.2.2.2.2.2.2.2.2.2.2 a.2.1.2 b.2.2.1) (hn:(a.2.2.1.length:Int)=a.2.1.1) (hf: -1≤fuz b∧fuz b≤1000):yI b:=by
 unfold yz at h;simp only[Prod.mk.injEq]at h;obtain⟨h1,h2,h3,h4,h5,h6,h7,h8,h9⟩:=h;unfold yI;rw[h2,h3,h9,hl]; exact⟨⟨hm,hn⟩,hf⟩
theorem y6z {a:dA} (h: -1≤fuz a∧fuz a≤1000): -1≤fuz (opA a).2∧fuz (opA a).2≤1000:=by
 unfold opA;cases ya a
 ·cases h0:(a.2.2.2.2.2.2.2.2.2.1==0)
  ·cases h1:ltb 0 a.2.2.2.2.2.2.2.2.2.1
   ·exact h
   ·have:=zj8.1 h1
    unfold fuz at h;show -1≤i64.wrap (a.2.2.2.2.2.2.2.2.2.1-1)∧i64.wrap (a.2.2.2.2.2.2.2.2.2.1-1)≤1000;rw[wr (by omega) (by omega)]; omega
  ·show -1≤(-1:Int)∧(-1:Int)≤1000; omega
 ·exact h
theorem yMU {a:dA} (h:yI a):yI (opA a).2:=y6c (yIl a) (by rw[yaT]) (by rw[yaT]; exact h.1.1) h.1.2 (y6z h.2)
theorem yrb {a:dA} {m:Int} {x:dM} (h:yI a) (hm:inb m a.2.2.1.length=true) (hx:yA5 a.2.2.2.1 a.2.2.2.2.2.2.2.2.2.2.2 a.2.1.2 m.toNat (nth a.2.2.1 m yc)→yA5 a.2.2.2.1 a.2.2.2.2.2.2.2.2.2.2.2 a.2.1.2 m.toNat x):yI (ybx a m x):=by
 have hm:=zj4.1 hm;refine⟨⟨yn9 h.1.1 (fun hi=>hx ?_),by show((a.2.2.1.set m.toNat x).length:Int)=_; rw[List.length_set]; exact h.1.2⟩,h.2⟩;have:=h.1.1 m.toNat hi;rwa[Int.toNat_of_nonneg hm.1]at this
theorem y4l {lost S:Int} {br:Bool} {i:Nat} {m:dM} (n:Int) (s:List Int) (h:yA5 lost br S i m):yA5 lost br S i (yZ m n s).1 :=
 ⟨y3a n s h.1,by rw[(yzV m n s).1]; exact h.2.1,by rw[(yzV m n s).2]; exact h.2.2⟩
theorem y4k {lost S:Int} {br:Bool} {i:Nat} {m:dM} (h:yA5 lost br S i m):yA5 lost br S i (yE m) :=
 ⟨y5u h.1,by rw[(ytd m).1]; exact h.2.1,by rw[(ytd m).2]; exact h.2.2⟩
theorem yxS {a:dA} {m n:Int} {s:List Int} (h:yI a) (hm:inb m a.2.2.1.length=true):yI (yby a m n s):=by
 unfold yby;cases(nth a.2.2.1 m yc).2.2.1
 ·cases(opA a).1
  ·exact yMU h
  ·exact yrb (yMU h) (by rw[yaT]; exact hm) (fun g=>by rw[yaT]at g; exact y4l _ _ g)
 ·exact h
theorem y2D {a:dA} {i:Nat} (h:yI a) (hi:i<a.2.2.1.length):yI (yab a i):=by
 unfold yab;cases(nth a.2.2.1 i yc).2.2.1
 ·cases(opA a).1
  ·exact yMU h
  ·exact yrb (yMU h) (by rw[yaT]; exact zkP hi) (fun g=>by rw[yaT]at g; exact y4k g)
 ·exact h
theorem ylo {P:dA→Prop} {one:dA→Nat→dA} (hl: ∀a i,(one a i).2.2.1.length=a.2.2.1.length) (ho: ∀a i,P a→i<a.2.2.1.length→P (one a i)): ∀(n:Nat) (a:dA),n≤a.2.2.1.length→P a→P ((List.range n).foldl one a)
 | 0,_,_,h=>h
 | n+1,a,hn,h=>by
  rw[List.range_succ,List.foldl_append];exact ho _ _ (ylo hl ho n a (by omega) h) (by rw[yjA hl]; exact hn)
theorem yk0 {a:dA} (h:yI a):yI (ye a):=ylo (P:=yI) (one:=yab) ymi (fun _ _=>y2D) _ a (Nat.le_refl _) h
theorem yzr {a:dA} (h:yI a):yI (yD a) :=yk0 (ylo (P:=yI) (one:=yad) (fun _ _=>ypJ _ _ _ _) (fun _ _ h hi=>yxS h (zkP hi)) _ (yaw a) (Nat.le_refl _) h)
theorem yCT {a:dA} (h:yI a):yI (yq a):=by
 unfold yq;cases ya (ye a)
 ·exact yzr (a:=yV (ye a)) (yk0 h)
 ·exact yk0 h
def ycN (a:dA):Prop:=ya a=false∧fuz a= -1
theorem y3O {a:dA} (h:ycN a):opA a=(true,a):=by
 unfold opA;rw[h.1,show a.2.2.2.2.2.2.2.2.2.1= -1 from h.2]; rfl
theorem yIR {a:dA} (h:ycN a) (m n:Int) (s:List Int):ycN (yby a m n s):=by
 unfold yby;rw[y3O h];cases(nth a.2.2.1 m yc).2.2.1<;>exact h
theorem y2z {a:dA} (h:ycN a) (i:Nat):ycN (yab a i):=by
 unfold yab;rw[y3O h];cases(nth a.2.2.1 i yc).2.2.1<;>exact h
theorem yza {a:dA} (h:ycN a):ycN (ye a):=ylo (P:=ycN) (one:=yab) ymi (fun _ i h _=>y2z h i) _ a (Nat.le_refl _) h
theorem yZV {a:dA} (h:ycN a):ycN (yD a) :=yza (ylo (P:=ycN) (one:=yad) (fun _ _=>ypJ _ _ _ _) (fun _ _ h _=>yIR h _ _ _) _ (yaw a) (Nat.le_refl _) h)
theorem yIF {a:dA} (h:ycN a):yq a=yD (yV (ye a)):=by
 unfold yq;rw[(yza h).1]; rfl
theorem y4d {a:dA} (h:ycN a):ycN (yq a):=by
 rw[yIF h]; exact yZV (a:=yV (ye a)) (yza h)
def Wk (k:Int) (a:dA):Prop:=yU a∧yI a∧ycN a∧a.2.2.2.2.2.2.2.2.2.2.2=false∧a.2.2.2.2.2.2.2.1≤k
theorem y6G {k:Int} {a:dA} (h:Wk k a):yae a=true:=yC1.2 ⟨h.1,h.2.1⟩
theorem ydv {k j:Int} {a:dA} (h:Wk k a) (hj:k≤j):Wk j a:=⟨h.1,h.2.1,h.2.2.1,h.2.2.2.1,Int.le_trans h.2.2.2.2 hj⟩
theorem yC4 {k:Int} {a b:dA} (hc:yz b=yz a) (hk:yI b) (hf:ycN b) (h:Wk k a):Wk k b:=by
 refine⟨yC2 hc h.1,hk,hf,?_⟩;unfold yz at hc;simp only[Prod.mk.injEq]at hc;obtain⟨_,_,_,_,_,_,h7,_,h9⟩:=hc;rw[h7,h9]; exact h.2.2.2
theorem y6I {k:Int} {a:dA} {m n:Int} {s:List Int} (h:Wk k a) (hm:inb m a.2.2.1.length=true):Wk k (yby a m n s):=yC4 (yhN _ _ _ _) (yxS h.2.1 hm) (yIR h.2.2.1 _ _ _) h
theorem y6m {k:Int} {a:dA} (h:Wk k a):Wk k (ye a):=yC4 (yaL _) (yk0 h.2.1) (yza h.2.2.1) h
theorem y5R {k:Int} {a:dA} (h:Wk k a) (hk:k+1≤60000):Wk (k+1) (yaw a):=by
 obtain⟨⟨c1,c2,c3,c4,c5,c6,c7,c8,c9,c10,c11⟩,h2,h3,h4,h5⟩:=h;have e:i64.wrap (a.2.2.2.2.2.2.2.1+1)=a.2.2.2.2.2.2.2.1+1:=wr (by omega) (by omega);refine⟨⟨c1,c2,c3,c4,c5,c6,c7,c8,c9,?_,?_⟩,h2,h3,h4,?_⟩
 ·show 0≤i64.wrap (a.2.2.2.2.2.2.2.1+1); omega
 ·show i64.wrap (a.2.2.2.2.2.2.2.1+1)≤_; omega
 ·show i64.wrap (a.2.2.2.2.2.2.2.1+1)≤_; omega
theorem yZD {k:Int} {a:dA} (h:Wk k a) (hk:k+1≤60000):Wk (k+1) (yD a):=yC4 (yjd _) (yzr h.2.1) (yZV h.2.2.1) (y5R h hk)
theorem y5e {k:Int} {a:dA} (h:Wk k a):Wk k (yV a):=by
 obtain⟨⟨c1,c2,c3,c4,c5,c6,c7,c8,c9,c10,c11⟩,h2,h3,h4,h5⟩:=h;refine⟨⟨c1,c2,c3,c4,c5,c6,⟨?_,?_⟩,⟨Int.le_refl _,c8.2⟩,?_,c10,c11⟩,h2,h3,h4,h5⟩
 ·show 0≤a.2.2.2.2.2.1; omega
 ·show a.2.2.2.2.2.1≤60000; omega
 ·show a.2.2.2.2.2.1≤a.2.2.2.2.2.1+4; omega
theorem y26 {k:Int} {a:dA} (h:Wk k a) (hk:k+1≤60000):Wk (k+1) (yq a):=by
 rw[yIF h.2.2.1]; exact yZD (y5e (y6m h)) hk
theorem y5d {k:Int} {a:dA} {m:Int} {x:dM} (h:Wk k a) (hm:inb m a.2.2.1.length=true) (hx:yA5 a.2.2.2.1 a.2.2.2.2.2.2.2.2.2.2.2 a.2.1.2 m.toNat (nth a.2.2.1 m yc)→yA5 a.2.2.2.1 a.2.2.2.2.2.2.2.2.2.2.2 a.2.1.2 m.toNat x):Wk k (ybx a m x) :=yC4 (a:=a) (b:=ybx a m x) rfl (yrb h.2.1 hm hx) h.2.2.1 h
theorem y6k {k m:Int} {a:dA} (h:Wk k a) (hl:a.2.2.2.1= -1) (hm:inb m a.2.2.1.length=true) (hk:k+1≤60000):Wk (k+1) (yia a m):=by
 have hmi:=zj4.1 hm
 have hw:Wk k (yax a m):=by
  obtain⟨⟨c1,c2,c3,c4,c5,c6,c7,c8,c9,c10,c11⟩,⟨⟨g1,g2⟩,g3⟩,f,b,t⟩:=h;refine⟨⟨c1,c2,c3,⟨?_,?_⟩,⟨Int.le_refl _,by show(0:Int)≤a.2.1.2; omega⟩,fun e=>rfl,c7,c8,c9,c10,c11⟩,⟨⟨?_,?_⟩,g3⟩,f,b,t⟩
  ·show -1≤m; omega
  ·show m≤a.2.1.1-1; omega
  ·show yGH m a.2.2.2.2.2.2.2.2.2.2.2 a.2.1.2 (a.2.2.1.set m.toNat (yao (nth a.2.2.1 m yc)))
   refine yn9 (fun i hi=> ?_) (fun hi=> ?_)
   ·obtain⟨e1,e2,e3⟩:=g1 i hi
    refine⟨e1,e2,fun e=> ?_⟩;rcases e3 e with e | e
    ·omega
    ·exact .inr e
   ·have:=g1 m.toNat hi
    rw[Int.toNat_of_nonneg hmi.1]at this;exact⟨yMS this.1,this.2.1,fun _=> .inl (Int.toNat_of_nonneg hmi.1)⟩
  ·show((a.2.2.1.set m.toNat (yao (nth a.2.2.1 m yc))).length:Int)=a.2.1.1
   rw[List.length_set]; exact g2
 unfold yia;rw[show(a.2.2.2.1== -1)=true from beq_iff_eq.2 hl,h.2.2.1.1,h.2.2.2.1];cases ltb a.2.2.2.2.2.2.2.1 60000
 ·exact ydv hw (by omega)
 ·exact yZD hw hk
theorem y5T {k:Int} {a:dA} (h:Wk k a) (hl:inb a.2.2.2.1 a.2.2.1.length=true) (hk:k+1≤60000):Wk (k+1) (yD (yaa a)):=by
 have hmi:=zj4.1 hl;refine yZD ?_ hk;obtain⟨⟨c1,c2,c3,c4,c5,c6,c7,c8,c9,c10,c11⟩,⟨⟨g1,g2⟩,g3⟩,f,b,t⟩:=h;have hg:=yl.1 c1;refine⟨⟨c1,c2,c3,c4,⟨Int.le_refl _,by show(0:Int)≤a.2.1.2; omega⟩,fun e=>rfl,c7,c8,c9,c10,c11⟩,⟨⟨yn9 g1 (fun hi=>⟨yLC (by omega) (by omega),?_,fun e=> ?_⟩),?_⟩,g3⟩,f,b,t⟩
 ·unfold ya9
  rw[zk0 (show 1≤6+a.2.1.2 by omega),zk0 (show 6+a.2.1.2≤20 by omega)];show((List.replicate (6+a.2.1.2).toNat ([]:List Int)).length:Int)=6+a.2.1.2;rw[List.length_replicate]; omega
 ·unfold ya9 at e
  rw[zk0 (show 1≤6+a.2.1.2 by omega),zk0 (show 6+a.2.1.2≤20 by omega)]at e;cases e
 ·show((a.2.2.1.set a.2.2.2.1.toNat (ya9 (6+a.2.1.2))).length:Int)=a.2.1.1
  rw[List.length_set]; exact g2
theorem y6l {k:Int} {a:dA} (h:Wk k a) (hl:inb a.2.2.2.1 a.2.2.1.length=true) (hb:a.2.2.2.2.1<a.2.1.2):Wk k (yfT a).2:=by
 have hp:Wk k (yaK a):=y6I h hl;have e:=yhN a a.2.2.2.1 (yy a.2.2.2.2.1) [nth (yR a a.2.2.2.2.1).1 a.2.2.2.1 0];have e1:(yaK a).2.2.2.2.1=a.2.2.2.2.1:=yja e;have e2:(yaK a).2.1=a.2.1:=yag e;have e3:(yaK a).2.2.2.1=a.2.2.2.1:=congrArg (fun x=>x.2.2.1) e;unfold yfT;cases(yR a a.2.2.2.2.1).2
 ·exact h
 ·generalize yaK a=R at hp e1 e2 e3 ⊢
  rw[hp.2.2.1.1];have hmi:=zj4.1 hl;obtain⟨⟨c1,c2,c3,c4,c5,c6,c7,c8,c9,c10,c11⟩,g2,g3,g4,g5⟩:=hp;have hg:=yl.1 c1;have e4:i64.wrap (R.2.2.2.2.1+1)=R.2.2.2.2.1+1:=wr (by omega) (by omega);refine⟨⟨c1,c2,c3,c4,⟨?_,?_⟩,fun e=> ?_,c7,c8,c9,c10,c11⟩,g2,g3,g4,g5⟩
  ·show 0≤i64.wrap (R.2.2.2.2.1+1); omega
  ·show i64.wrap (R.2.2.2.2.1+1)≤R.2.1.2; rw[e4,e1,e2]; omega
  ·have:R.2.2.2.1= -1:=e
   omega
def ybd (r:dN) (a:dA) (i:Nat):dA:=yby a i (yh r.1) (yac r)
def yp (a:dA) (r:dN):dA:=ye ((List.range a.2.2.1.length).foldl (ybd r) a)
theorem ylB (r:dN) (a:dA) (i:Nat):(ybd r a i).2.2.1.length=a.2.2.1.length:=ypJ _ _ _ _
theorem yPG (r:dN) {a:dA} (i:Nat) (h:ya a=true):ybd r a i=a:=yos h _ _ _
theorem yIv (a:dA) (r:dN):(yp a r).2.2.1.length=a.2.2.1.length:=(yJe _).trans (yjA (ylB r) _ _)
theorem ya6 (a:dA) (r:dN):yz (yp a r)=yz a:=(yaL _).trans (yn7 (one:=ybd r) (fun _ _=>yhN _ _ _ _) _ _)
def yco (p N x:Int) (data:List Int) (i:Int):Int:=bif i==p then x else nth data ((i-p-1+N).tmod N) 0
def ybe (p N s:Int) (data:List Int) (a:dA) (i:Nat):dA:=bif ycQ a i s then yby a i (yy s) [yco p N (yaG data) data i]else a
def yB (a:dA) (s:Int) (data:List Int):dA:=(List.range a.2.2.1.length).foldl (ybe (yk a.2.1 s) a.2.1.1 s data) a
theorem yq6 (p N s:Int) (data:List Int) (a:dA) (i:Nat):(ybe p N s data a i).2.2.1.length=a.2.2.1.length:=by
 unfold ybe; cases ycQ a i s
 ·rfl
 ·exact ypJ _ _ _ _
theorem yEx (p N s:Int) (data:List Int) {a:dA} (i:Nat) (h:ya a=true):ybe p N s data a i=a:=by
 unfold ybe; cases ycQ a i s
 ·rfl
 ·exact yos h _ _ _
theorem yKQ (p N s:Int) (data:List Int) (a:dA) (i:Nat):yz (ybe p N s data a i)=yz a:=by
 unfold ybe; cases ycQ a i s
 ·rfl
 ·exact yhN _ _ _ _
theorem y5q (a:dA) (s:Int) (data:List Int):(yB a s data).2.2.1.length=a.2.2.1.length:=yjA (yq6 _ _ _ _) _ _
theorem yei (a:dA) (s:Int) (data:List Int):yz (yB a s data)=yz a:=yn7 (yKQ _ _ _ _) _ _
theorem y6W {N i p:Int} (h:3≤N∧N≤5) (hi:0≤i∧i<N) (hp:0≤p∧p≤N-1) (hne:i≠p):0≤(i-p-1+N).tmod N∧(i-p-1+N).tmod N<N-1:=by
 rw[Int.tmod_eq_emod_of_nonneg (by omega)];have:N=3∨N=4∨N=5:=by omega
 rcases this with rfl | rfl | rfl<;>omega
theorem y4y {N p x:Int} {data:List Int} (h:3≤N∧N≤5) (hp:0≤p∧p≤N-1) (hd:(data.length:Int)=N-1) :
  (List.range data.length).foldl (fun l (i:Nat)=>l.set ((p+1+i).tmod N).toNat (nth data i 0)) ((List.replicate N.toNat 0).set p.toNat x)=(List.range N.toNat).map (fun(i:Nat)=>yco p N x data i):=by
 have:N=3∨N=4∨N=5:=by omega
 rcases this with rfl | rfl | rfl
 ·match data,hd with
  | [a,b],_ =>
   have:p=0∨p=1∨p=2:=by omega
   rcases this with rfl | rfl | rfl<;>simp[yco,nth,List.range_succ,List.replicate_succ]
  | [],hd=>simp at hd
  | [_],hd=>simp at hd
  | _::_::_::_,hd=>simp only[List.length_cons]at hd; omega
 ·match data,hd with
  | [a,b,c],_ =>
   have:p=0∨p=1∨p=2∨p=3:=by omega
   rcases this with rfl | rfl | rfl | rfl<;>simp[yco,nth,List.range_succ,List.replicate_succ]
  | [],hd=>simp at hd
  | [_],hd=>simp at hd
  | [_,_],hd=>simp at hd
  | _::_::_::_::_,hd=>simp only[List.length_cons]at hd; omega
 ·match data,hd with
  | [a,b,c,d],_ =>
   have:p=0∨p=1∨p=2∨p=3∨p=4:=by omega
   rcases this with rfl | rfl | rfl | rfl | rfl<;>simp[yco,nth,List.range_succ,List.replicate_succ]
  | [],hd=>simp at hd
  | [_],hd=>simp at hd
  | [_,_],hd=>simp at hd
  | [_,_,_],hd=>simp at hd
  | _::_::_::_::_::_,hd=>simp only[List.length_cons]at hd; omega
def yh7 (a:dA):dA:=yp a (yaC a a.2.2.2.2.2.1).1
def ykT (a:dA):dA:=yB (yC (yh7 a)) (yaC a a.2.2.2.2.2.1).1.2.1 (yaC a a.2.2.2.2.2.1).1.2.2
def yqR (_:Nat) (a:dA):dA ⊕ (dA ⊕ dA) :=bif !(yaC a a.2.2.2.2.2.1).2||leb 60000 a.2.2.2.2.2.1 then .inr (.inl a)else bif ya (yh7 a)then .inr (.inr (yh7 a))else bif ya (ykT a)then .inr (.inr (ykT a))else .inl (ykT a)
def yMD (a:dA):dA:=match goE yqR .inl 4 0 a with
 | .inl b=>yq b
 | .inr b=>b
def yme (a:dA):dA:=bif yae a&&(!(ya a)&&(!a.2.2.2.2.2.2.2.2.2.2.2&&ltb a.2.2.2.2.2.2.2.1 60000))then yMD a else a
def ylC (l:List dM) (ks:List Int) (id fuse:Int):dA×Bool :=bif(yfY (yaf l ks) id).2 then(yme (bif leb (-1) fuse&&leb fuse 1000 then yh2 (yfY (yaf l ks) id).1 fuse (ya (yfY (yaf l ks) id).1)else(yfY (yaf l ks) id).1),true)else(yaJ,false)
theorem y2Z (a:dA):(yh7 a).2.1=a.2.1:=yag (ya6 _ _)
theorem y5K (a:dA):(ykT a).2.1=a.2.1:=(yag (yei (yC (yh7 a)) _ _)).trans (y2Z a)
theorem y5L (a:dA):(ykT a).2.2.1.length=a.2.2.1.length:=(y5q (yC (yh7 a)) _ _).trans (yIv a _)
theorem y20: ∀(k i:Nat) (a b:dA),ya a=false→goE yqR .inl k i a= .inl b→ya b=false
 | 0,_,a,b,h,e=>by cases e; exact h
 | k+1,i,a,b,h,e=>by
  unfold goE yqR at e;cases hc:(!(yaC a a.2.2.2.2.2.1).2||leb 60000 a.2.2.2.2.2.1)
  ·rw[hc]at e
   cases hd1:ya (yh7 a)
   ·rw[hd1]at e
    cases hd2:ya (ykT a)
    ·rw[hd2]at e
     exact y20 k (i+1) (ykT a) b hd2 e
    ·rw[hd2]at e; cases e
   ·rw[hd1]at e; cases e
  ·rw[hc]at e; cases e; exact h
theorem yn5 {a b:dA} (h:yz a=yz b):a.2.2.2.1=b.2.2.2.1:=congrArg (fun x=>x.2.2.1) h
def yi (a:dA) (i:Int):dM:=nth a.2.2.1 i yc
theorem yMR {a:dA} {m i:Int} {x:dM} (hm:inb m a.2.2.1.length=true) (hi:0≤i):yi (ybx a m x) i=bif m==i then x else yi a i:=yxV hm hi
def yeo (n:Int) (s:List Int) (m:dM):dM:=bif m.2.2.1 then m else(yZ m n s).1
def Did (g:dM→dM) (i:Int) (a r:dA):Prop:=yz r=yz a∧r.2.2.1.length=a.2.2.1.length ∧ ((ya r=false∧ ∀j,0≤j→yi r j=bif i==j then g (yi a j)else yi a j)∨(ya r=true∧ ∀j,yi r j=yi a j))
theorem yC3 {a:dA} {m:Int} (n:Int) (s:List Int) (h:ya a=false) (hm:inb m a.2.2.1.length=true):Did (yeo n s) m a (yby a m n s):=by
 refine⟨yhN _ _ _ _,ypJ _ _ _ _,?_⟩;have hd:=y2W h m n s;unfold yby at hd ⊢;cases hf:(nth a.2.2.1 m yc).2.2.1
 ·rw[hf]at hd
  cases ho:(opA a).1
  ·rw[ho]at hd
   refine .inr ⟨hd,fun j=> ?_⟩;show nth (opA a).2.2.2.1 j yc=yi a j;rw[yaT]; rfl
  ·rw[ho]at hd
   refine .inl ⟨hd,fun j hj=> ?_⟩;show yi (ybx (opA a).2 m (yZ (nth a.2.2.1 m yc) n s).1) j=_;rw[yMR (by rw[yaT]; exact hm) hj];cases hj2:(m==j)
   ·show nth (opA a).2.2.2.1 j yc=yi a j
    rw[yaT]; rfl
   ·have:=beq_iff_eq.1 hj2
    subst this;show _=yeo n s (yi a m);unfold yeo yi;rw[hf]; rfl
 ·refine .inl ⟨h,fun j hj=> ?_⟩
  cases hj2:(m==j)
  ·rfl
  ·have:=beq_iff_eq.1 hj2
   subst this;show yi a m=yeo n s (yi a m);unfold yeo yi;rw[hf]; rfl
theorem y5M {a:dA} {i:Nat} (h:ya a=false) (hm:i<a.2.2.1.length):Did yE i a (yab a i):=by
 refine⟨yME _ _,ymi _ _,?_⟩;have hd:=yMF h i;unfold yab at hd ⊢;cases hf:(nth a.2.2.1 i yc).2.2.1
 ·rw[hf]at hd
  cases ho:(opA a).1
  ·rw[ho]at hd
   refine .inr ⟨hd,fun j=> ?_⟩;show nth (opA a).2.2.2.1 j yc=yi a j;rw[yaT]; rfl
  ·rw[ho]at hd
   refine .inl ⟨hd,fun j hj=> ?_⟩;show yi (ybx (opA a).2 i (yE (nth a.2.2.1 i yc))) j=_;rw[yMR (by rw[yaT]; exact zkP hm) hj];cases hj2:((i:Int)==j)
   ·show nth (opA a).2.2.2.1 j yc=yi a j
    rw[yaT]; rfl
   ·have:=beq_iff_eq.1 hj2
    subst this; rfl
 ·refine .inl ⟨h,fun j hj=> ?_⟩
  cases hj2:((i:Int)==j)
  ·rfl
  ·have:=beq_iff_eq.1 hj2
   subst this;show yi a i=yE (yi a i);unfold yE yi;rw[hf,Bool.not_true,Bool.and_false]; rfl
def Adv (g:Int→dM→dM) (a r:dA) (n:Nat):Prop:=yz r=yz a∧r.2.2.1.length=a.2.2.1.length ∧ ∃k:Nat,k≤n∧(∀j:Int,0≤j→yi r j=bif ltb j k then g j (yi a j)else yi a j)∧(ya r=false→k=n)
theorem yDX {one:dA→Nat→dA} {g:Int→dM→dM} {a:dA} (hs: ∀b i,ya b=true→one b i=b)
  (ho: ∀(b:dA) (i:Nat),yz b=yz a→b.2.2.1.length=a.2.2.1.length→i<a.2.2.1.length→ya b=false→yi b i=yi a i→Did (g i) i b (one b i)) (hd:ya a=false) :
  ∀n,n≤a.2.2.1.length→Adv g a ((List.range n).foldl one a) n
 | 0,_=>⟨rfl,rfl,0,Nat.le_refl _,fun j hj=>by rw[zk1 (show((0:Nat):Int)≤j by omega)]; rfl,fun _=>rfl⟩
 | n+1,hn=>by
  obtain⟨h1,h2,k,h3,h4,h5⟩:=yDX hs ho hd n (by omega);rw[List.range_succ,List.foldl_append,List.foldl_cons,List.foldl_nil];generalize (List.range n).foldl one a=R at h1 h2 h4 h5 ⊢;cases hR:ya R
  ·have hk:=h5 hR
   subst hk;have e:yi R k=yi a k:=by rw[h4 k (by omega),zk1 (Int.le_refl _)]; rfl
   obtain⟨g1,g2,g3⟩:=ho R k h1 h2 (by omega) hR e;refine⟨g1.trans h1,g2.trans h2,?_⟩;rcases g3 with⟨g3,g4⟩ | ⟨g3,g4⟩
   ·refine⟨k+1,Nat.le_refl _,fun j hj=> ?_,fun _=>rfl⟩
    rw[g4 j hj];by_cases hj2:(k:Int)=j
    ·subst hj2
     rw[show((k:Int)==(k:Int))=true from beq_self_eq_true _,zkw (show(k:Int)<((k+1:Nat):Int)by omega),e]; try rfl
    ·rw[show((k:Int)==j)=false from beq_eq_false_iff_ne.2 hj2,cond_false,h4 j hj,show ltb j ((k+1:Nat):Int)=ltb j k by rw[Bool.eq_iff_iff,zj8,zj8]; omega]
   ·refine⟨k,by omega,fun j hj=>by rw[g4 j,h4 j hj],fun h=> ?_⟩
    rw[g3]at h; cases h
  ·rw[hs R n hR]
   exact⟨h1,h2,k,by omega,h4,fun h=>by rw[hR]at h; cases h⟩
theorem yTf {a:dA} (hd:ya a=false):Adv (fun _=>yE) a (ye a) a.2.2.1.length :=
 yDX (one:=yab) (g:=fun _=>yE) (fun _ i h=>yFG i h) (fun b i _ h2 hi hb _=>y5M hb (by omega)) hd _ (Nat.le_refl _)
theorem y2u {a b:dA} (h:yz b=yz a) (i:Int):yMX b i=yMX a i:=by
 unfold yz at h;simp only[Prod.mk.injEq]at h;obtain⟨h1,h2,h3,h4,h5,h6,h7,h8,h9⟩:=h;unfold yMX;rw[h1,h2,h3,h4,h6,h7]
theorem ysh {a b:dA} (h:yz b=yz a):b.2.2.2.2.2.2.2.1=a.2.2.2.2.2.2.2.1:=congrArg (fun x=>x.2.2.2.2.2.2.1) h
theorem ysg {a b:dA} (h:yz b=yz a):b.2.2.2.2.2.2.2.2.2.2.2=a.2.2.2.2.2.2.2.2.2.2.2:=congrArg (fun x=>x.2.2.2.2.2.2.2.2) h
theorem y54 {a b:dA} (h:yz b=yz a):b.1=a.1:=congrArg (fun x=>x.1) h
def y1X (a:dA) (i:Int) (m:dM):dM:=yeo (a.2.2.2.2.2.2.2.1.tmod 2) (ym (yMX a i)) m
theorem y2L {a:dA} (hd:ya a=false):Adv (y1X a) a ((List.range a.2.2.1.length).foldl yad a) a.2.2.1.length :=
 yDX (one:=yad) (g:=y1X a) (fun _ i h=>yos h _ _ _) (fun b i h1 h2 hi hb _=>by
  have:=yC3 (b.2.2.2.2.2.2.2.1.tmod 2) (ym (yMX b i)) hb (show inb (i:Int) b.2.2.1.length=true from zkP (by omega));rw[ysh h1,y2u h1]at this;unfold y1X yad;rw[ysh h1,y2u h1]
  exact this) hd _ (Nat.le_refl _)
theorem y3Q {a:dA} (r:dN) (hd:ya a=false):Adv (fun _=>yeo (yh r.1) (yac r)) a ((List.range a.2.2.1.length).foldl (ybd r) a) a.2.2.1.length :=
 yDX (one:=ybd r) (g:=fun _=>yeo (yh r.1) (yac r)) (fun _ i h=>yPG r i h) (fun b i _ h2 hi hb _=>yC3 _ _ hb (zkP (by omega))) hd _ (Nat.le_refl _)
def yak (L B i s:Int) (m:dM):Bool:= !m.2.2.1&&(i !=L||ltb s B)
theorem y3I {a:dA} {i s:Int} (hi:inb i a.2.2.1.length=true):ycQ a i s=yak a.2.2.2.1 a.2.2.2.2.1 i s (yi a i):=by
 unfold ycQ yak yi;rw[hi]; rfl
def yjc (L B p N s:Int) (d:List Int) (i:Int) (m:dM):dM:=bif yak L B i s m then(yZ m (yy s) [yco p N (yaG d) d i]).1 else m
theorem yQk {a:dA} (s:Int) (d:List Int) (hd:ya a=false):Adv (yjc a.2.2.2.1 a.2.2.2.2.1 (yk a.2.1 s) a.2.1.1 s d) a (yB a s d) a.2.2.1.length :=
 yDX (one:=ybe (yk a.2.1 s) a.2.1.1 s d) (g:=yjc a.2.2.2.1 a.2.2.2.2.1 (yk a.2.1 s) a.2.1.1 s d) (fun _ i h=>yEx _ _ _ _ i h) (fun b i h1 h2 hi hb _=>by
  have hib:inb (i:Int) b.2.2.1.length=true:=zkP (by omega);unfold ybe;rw[y3I hib,yn5 h1,yja h1];cases hl:yak a.2.2.2.1 a.2.2.2.2.1 i s (yi b i)
  ·refine⟨rfl,rfl,.inl ⟨hb,fun j hj=> ?_⟩⟩
   by_cases hj2:(i:Int)=j
   ·subst hj2
    rw[beq_self_eq_true];show yi b i=yjc _ _ _ _ _ _ _ (yi b i);unfold yjc;rw[hl]; rfl
   ·rw[show((i:Int)==j)=false from beq_eq_false_iff_ne.2 hj2]; rfl
  ·obtain⟨g1,g2,g3⟩:=yC3 (yy s) [yco (yk a.2.1 s) a.2.1.1 (yaG d) d i] hb hib
   refine⟨g1,g2,g3.imp (fun⟨g3,g4⟩=>⟨g3,fun j hj=> ?_⟩) id⟩;show yi (yby b i (yy s) _) j=_;rw[g4 j hj];by_cases hj2:(i:Int)=j
   ·subst hj2
    rw[beq_self_eq_true,cond_true,cond_true];unfold yjc yeo;rw[hl,cond_true];simp only[yak,Bool.and_eq_true,Bool.not_eq_true']at hl;rw[hl.1]; rfl
   ·rw[show((i:Int)==j)=false from beq_eq_false_iff_ne.2 hj2]; rfl) hd _ (Nat.le_refl _)
theorem yMr (s:dS):yaz (ym s)=true:=by
 unfold ym;cases h:yH s
 ·rfl
 ·unfold yH at h
  simp only[ybU]at h;cases hg:yd (s.2.2.2.1,s.2.2.2.2.1)
  ·rw[hg]at h; cases h
  have hge:=yl.1 hg;simp only at hge;rw[hg,wq (s.2.2.2.1-1) (by omega) (by omega)]at h;cases h2:(leb 1 s.1&&leb s.1 60000)
  ·rw[h2]at h; cases h
  cases h3:(leb 0 s.2.1&&leb s.2.1 60000)
  ·rw[h2,h3]at h; cases h
  cases h4:(leb 0 s.2.2.1&&leb s.2.2.1 (s.2.2.2.1-1))
  ·rw[h2,h3,h4]at h; cases h
  cases h5:(leb 0 s.2.2.2.2.2.1&&leb s.2.2.2.2.2.1 60000)
  ·rw[h2,h3,h4,h5]at h; cases h
  cases h6:(leb (-1) s.2.2.2.2.2.2.1&&leb s.2.2.2.2.2.2.1 (s.2.2.2.1-1))
  ·rw[h2,h3,h4,h5,h6]at h; cases h
  cases h7:(leb 0 s.2.2.2.2.2.2.2&&leb s.2.2.2.2.2.2.2 s.2.2.2.2.1)
  ·rw[h2,h3,h4,h5,h6,h7]at h; cases h
  simp only[Bool.and_eq_true,zj5]at h2 h3 h4 h5 h6 h7;rw[yzE];refine⟨by show(9:Nat)≤12; omega,?_⟩;have hw:i64.wrap (s.2.2.2.2.2.2.1+1)=s.2.2.2.2.2.2.1+1:=wr (by omega) (by omega);simp only[Bool.not_true,cond_false,hw,List.mem_cons,List.not_mem_nil,or_false]
  rintro x (rfl | rfl | rfl | rfl | rfl | rfl | rfl | rfl | rfl)<;>omega
theorem ypD {g:dG} (id i:Int) (hg:yd g=true):yv (yP id g i)=true∧((yP id g i).1.length:Int)=6+g.2∧(yP id g i).2=([],false,[]):=by
 have hge:=yl.1 hg
 have hm:ya9 (6+g.2)=(List.replicate (6+g.2).toNat [],[],false,[]):=by
  unfold ya9;rw[zk0 (show 1≤6+g.2 by omega),zk0 (show 6+g.2≤20 by omega)]; rfl
 have key: ∀(l:List Nat) (m:dM),m.1.all yaz=true∧m.2=([],false,[])→(l.foldl ypC m).1.all yaz=true∧(l.foldl ypC m).2=([],false,[]):=by
  intro l
  induction l with
  | nil=>intro m h; exact h
  | cons x t ih =>
   intro m h;refine ih _ ⟨?_,h.2⟩;rw[List.all_eq_true];intro y hy;rcases List.mem_or_eq_of_mem_set hy with h1 | rfl
   ·exact List.all_eq_true.1 h.1 y h1
   ·rfl
 have ht:(yjq id g i).1.all yaz=true∧(yjq id g i).2=([],false,[]):=by
  unfold yjq;rw[hm];refine⟨?_,rfl⟩;rw[List.all_eq_true];intro y hy;rcases List.mem_or_eq_of_mem_set hy with h1 | rfl
  ·rw[List.eq_of_mem_replicate h1]; rfl
  ·exact yMr _
 have hl:((yP id g i).1.length:Int)=6+g.2:=by
  unfold yP;rw[yPD];unfold yjq;rw[hm];show(((List.replicate (6+g.2).toNat ([]:List Int)).set 0 _).length:Int)=_;rw[List.length_set,List.length_replicate]; omega
 obtain⟨h1,h2⟩:=key (List.range g.2.toNat) _ ht;refine⟨ysi h1 ?_ ?_ ?_ ?_ ?_,hl,h2⟩
 ·show List.all ((yP id g i).2).1 _=true
  rw[show(yP id g i).2=([],false,[])from h2]; rfl
 ·show ypq _ ((yP id g i).2).2.2=true
  rw[show(yP id g i).2=([],false,[])from h2,ys7];exact⟨fun x hx=>absurd hx List.not_mem_nil,List.Pairwise.nil⟩
 ·show 1≤(yP id g i).1.length; omega
 ·show(yP id g i).1.length≤20; omega
 ·show((yP id g i).2).1.length≤60
  rw[show(yP id g i).2=([],false,[])from h2]; exact Nat.zero_le _
theorem yFX {id:Int} {g:dG} (hg:yd g=true) (h1:1≤id) (h2:id≤60000):yeG id g=(id,g,(List.range g.1.toNat).map (fun(i:Nat)=>yP id g i),-1,0,0,0,0,[],-1,false,false):=by
 unfold yeG;rw[hg,zk0 h1,zk0 h2]
 have: ∀(n:Nat),(List.range n).foldl (fun a (i:Nat)=>yDV a (yP id g i)) (yDZ id g)=(id,g,(List.range n).map (fun(i:Nat)=>yP id g i),-1,0,0,0,0,[],-1,false,false):=by
  intro n
  induction n with
  | zero=>rfl
  | succ n ih=>rw[List.range_succ,List.foldl_append,ih,List.map_append]; rfl
 exact this _
theorem y29 {id:Int} {g:dG} (hg:yd g=true) (h1:1≤id) (h2:id≤60000):Wk 0 (yeG id g):=by
 have hge:=yl.1 hg;rw[yFX hg h1 h2];have hl:((List.range g.1.toNat).map (fun(i:Nat)=>yP id g i)).length=g.1.toNat:=by rw[List.length_map,List.length_range]
 refine⟨⟨hg,⟨h1,h2⟩,?_,⟨Int.le_refl _,?_⟩,⟨Int.le_refl _,?_⟩,fun _=>rfl,?_,?_,?_,?_,?_⟩,⟨⟨fun i hi=> ?_,?_⟩,?_,?_⟩,⟨rfl,rfl⟩,rfl,Int.le_refl _⟩
 ·rfl
 ·show(-1:Int)≤g.1-1; omega
 ·show(0:Int)≤g.2; omega
 ·show(0:Int)≤0∧(0:Int)≤60000; omega
 ·show(0:Int)≤0∧(0:Int)≤60000; omega
 ·show(0:Int)≤0+4; omega
 ·show(0:Int)≤0; omega
 ·show(0:Int)≤60000; omega
 ·have hi':i<((List.range g.1.toNat).map (fun(i:Nat)=>yP id g i)).length:=hi
  show yA5 (-1) false g.2 i (nth ((List.range g.1.toNat).map (fun(i:Nat)=>yP id g i)) i yc);rw[zkQ,zkH hi',List.getElem_map,List.getElem_range];obtain⟨k1,k2,k3⟩:=ypD id i hg;refine⟨k1,k2,fun e=> ?_⟩;rw[show(yP id g i).2=([],false,[])from k3]at e;cases e
 ·show(((List.range g.1.toNat).map (fun(i:Nat)=>yP id g i)).length:Int)=g.1
  rw[hl]; omega
 ·show(-1:Int)≤ -1; omega
 ·show(-1:Int)≤1000; omega
def yw (a:dA):dA:=bif leb 4 (i64.wrap (a.2.2.2.2.2.1-a.2.2.2.2.2.2.1))then yq a else a
def yA (a:dA) (s:Int) (d:List Int):Int×dA :=bif ya (yw a)then(6,yw a)else bif ya (yp (yw a) ((yw a).2.2.2.2.2.1,s,d))then(6,yp (yw a) ((yw a).2.2.2.2.2.1,s,d))else (bif ya (yB (yC (yp (yw a) ((yw a).2.2.2.2.2.1,s,d))) s d)then 6 else 0,yB (yC (yp (yw a) ((yw a).2.2.2.2.2.1,s,d))) s d)
theorem yKO (a:dA):(yq a).2.1=a.2.1:=by
 unfold yq;cases ya (ye a)
 ·exact(yag (yjd (yV (ye a)))).trans (show(ye a).2.1=a.2.1 from yag (yaL a))
 ·exact yag (yaL a)
theorem yXZ (a:dA):(yw a).2.1=a.2.1:=by
 unfold yw;cases leb 4 (i64.wrap (a.2.2.2.2.2.1-a.2.2.2.2.2.2.1))
 ·rfl
 ·exact yKO a
theorem y5U {k m n:Int} {a:dA} (h:Wk k a) (hm:inb m a.2.2.1.length=true):Wk k (ybx a m (spoil (nth a.2.2.1 m yc) n)) :=
 y5d h hm (fun g=>⟨yTe n g.1,by rw[(yoz _ _).1]; exact g.2.1,by rw[(yoz _ _).2]; exact g.2.2⟩)
theorem y4H {α:Type} {c:Bool} {x y:α} (h:c=true):(bif !c then x else y)=y:=by subst h; rfl
theorem yQj {α:Type} {c:Bool} {x y:α} (h:c=false):(bif !c then x else y)=x:=by subst h; rfl
theorem yeS {a:dA} (h:yI a) {i:Int} (h0:0≤i) (h1:i<a.2.1.1):yv (yi a i)=true∧((yi a i).1.length:Int)=6+a.2.1.2∧((yi a i).2.2.1=true→i=a.2.2.2.1∨a.2.2.2.2.2.2.2.2.2.2.2=true):=by
 have:=h.1.1 i.toNat (by have:=h.1.2; omega);unfold yA5 at this;rw[Int.toNat_of_nonneg h0]at this;exact this
theorem yjb {s:Int} (h0:0≤s) (h1:s≤1000):yy s=s+6:=by
 unfold yy;rw[zk0 h0,zk0 (show s≤1099511627776 by omega)]; rfl
def yaF (a:dA) (s i:Int):Bool:=yak a.2.2.2.1 a.2.2.2.2.1 i s (yi a i)&& !(ya3 (yi a i) (s+6))
def yIC (V:Int→Int→Int) (a:dA):Prop:= ∀i s,0≤i→i<a.2.1.1→0≤s→s<a.2.1.2→yaF a s i=true→ycn (yi a i) (s+6)= [V s i]
def ye9 (V:Int→Int→Int) (N:Int) (s:Int):List Int:=(List.range N.toNat).map (fun(i:Nat)=>V s i)
structure EvV (g:dG) (V:Int→Int→Int):Prop where
 ev: ∀s,0≤s→s<g.2→yaG (ye9 V g.1 s)=0
 ew: ∀s i,0≤s→s<g.2→0≤i→i<g.1→isW (V s i)=true
theorem yMJ {V:Int→Int→Int} {a:dA} {i s:Int} (hg:yd a.2.1=true) (hk:yI a) (hv:yIC V a) (i0:0≤i) (i1:i<a.2.1.1) (s0:0≤s) (s1:s<a.2.1.2):yG a i s=yaF a s i∧(yaF a s i=true→yq2 a i s=V s i):=by
 have hge:=yl.1 hg;have hin:inb i a.2.2.1.length=true:=zj4.2 (by have:=hk.1.2; omega);obtain⟨d1,d2,d3⟩:=yeS hk i0 i1
 have key:yak a.2.2.2.1 a.2.2.2.2.1 i s (yi a i)=true→ydw a i s=bif ya3 (yi a i) (s+6)then([],false)else(ycn (yi a i) (s+6),true):=fun hl=>by
  simp only[yak,Bool.and_eq_true,Bool.not_eq_true']at hl;unfold ydw;rw[yjb s0 (by omega)];exact yTd d1 hl.1 (zj4.2 (show 0≤s+6∧s+6<((yi a i).1.length:Int)by omega))
 have hw:yG a i s=yaF a s i:=by
  unfold yG;rw[y3I hin];cases hl:yak a.2.2.2.1 a.2.2.2.2.1 i s (yi a i)
  ·unfold yaF; rw[hl]; rfl
  ·rw[key hl]
   cases hb:ya3 (yi a i) (s+6)
   ·have hh:yaF a s i=true:=by unfold yaF; rw[hl,hb]; rfl
    rw[hh,cond_false,hv i s i0 i1 s0 s1 hh]; rfl
   ·unfold yaF; rw[hl,hb]; rfl
 refine⟨hw,fun hh=> ?_⟩;unfold yq2;rw[hw,hh,cond_true];have hh':=hh;unfold yaF at hh';rw[Bool.and_eq_true,Bool.not_eq_true']at hh';rw[key hh'.1,hh'.2,cond_false,hv i s i0 i1 s0 s1 hh]; rfl
theorem y5Y: ∀(l:List Int) (k:Nat) (x:Int),k<l.length→yfH (l.set k x)=yfH l ^^^ bv (nth l k 0) ^^^ bv x:=by
 intro l k x hk
 have e1:l=l.take k++nth l k 0::l.drop (k+1):=by
  rw[zkQ,zkH hk,← List.drop_eq_getElem_cons hk,List.take_append_drop]
 have e2:l.set k x=l.take k++x::l.drop (k+1):=by
  rw[List.set_eq_take_append_cons_drop,if_pos hk]
 have fo: ∀(l:List Int) (v:BitVec 64),l.foldl (fun v x=>v ^^^ bv x) v=v ^^^ yfH l:=by
  intro l
  induction l with
  | nil=>intro v; show v=v ^^^ 0#64; rw[BitVec.xor_zero]
  | cons y t ih =>
   intro v;unfold yfH;rw[List.foldl_cons,List.foldl_cons,ih,ih (0#64 ^^^ bv y),BitVec.zero_xor,BitVec.xor_assoc]
 have cut: ∀(A:List Int) (y:Int) (B:List Int),yfH (A++y::B)=yfH A ^^^ bv y ^^^ yfH B:=fun A y B=>by
  show(A++y::B).foldl _ _=_;rw[List.foldl_append,List.foldl_cons,fo]; rfl
 rw[e2,cut]
 conv=>rhs; rw[e1]
 rw[cut];have hn:nth (List.take k l++nth l (↑k) 0::List.drop (k+1) l) (k:Int) 0=nth l k 0:=by rw[← e1]
 rw[hn,BitVec.xor_assoc (yfH (l.take k)),BitVec.xor_assoc (yfH (l.take k)),BitVec.xor_comm (bv (nth l k 0)),BitVec.xor_assoc (yfH (l.take k)),y0h,BitVec.xor_comm (bv x),BitVec.xor_assoc]
theorem y4A {l:List Int} (h:yaG l=0):yfH l=0#64:=by
 rw[yoQ]at h;have:=congrArg bv h;rw[yxG]at this;rw[this]; rfl
theorem yZ3 {p:Nat→Bool}: ∀{n:Nat},ye8 p n=false→ ∀j,j<n→p j=true∨(j:Int)=yK p n
 | 0,_,j,hj=>absurd hj (Nat.not_lt_zero _)
 | n+1,h,j,hj=>by
  have h':ye8 p n=false:=by
   unfold ye8 at h ⊢;rw[List.range_succ,List.any_append,Bool.or_eq_false_iff]at h;exact h.1
  have hl:(!p n&&leb 0 (yK p n))=false:=by
   unfold ye8 at h;rw[List.range_succ,List.any_append,Bool.or_eq_false_iff]at h;simpa using h.2
  unfold yK;rcases Nat.lt_succ_iff_lt_or_eq.1 hj with hj | rfl
  ·rcases yZ3 h' j hj with h1 | h1
   ·exact .inl h1
   ·cases hp:p n
    ·rw[hp,← h1]at hl
     rw[zk0 (show(0:Int)≤j by omega)]at hl; cases hl
    ·exact .inr h1
  ·cases hp:p j
   ·exact .inr rfl
   ·exact .inl rfl
theorem yZ2 {p:Nat→Bool}: ∀{n:Nat},leb 0 (yK p n)=false→ ∀j,j<n→p j=true
 | 0,_,j,hj=>absurd hj (Nat.not_lt_zero _)
 | n+1,h,j,hj=>by
  unfold yK at h;cases hp:p n
  ·rw[hp,cond_false,zk0 (show(0:Int)≤n by omega)]at h; cases h
  ·rw[hp,cond_true]at h
   rcases Nat.lt_succ_iff_lt_or_eq.1 hj with hj | rfl
   ·exact yZ2 h j hj
   ·exact hp
theorem yMI (V:Int→Int→Int) (N s:Int):(ye9 V N s).length=N.toNat:=by unfold ye9; rw[List.length_map,List.length_range]
theorem y5c (V:Int→Int→Int) (N s:Int) {j:Nat} (h:j<(ye9 V N s).length):(ye9 V N s)[j]=V s j:=by simp[ye9]
theorem yTi (V:Int→Int→Int) {N s i:Int} (h0:0≤i) (h1:i<N):nth (ye9 V N s) i 0=V s i:=by
 unfold ye9 nth;rw[zkH (by rw[List.length_map,List.length_range]; omega),List.getElem_map,List.getElem_range,Int.toNat_of_nonneg h0]
theorem yXa {V:Int→Int→Int} {a:dA} {s:Int} (hg:yd a.2.1=true) (hk:yI a) (he:EvV a.2.1 V) (hv:yIC V a) (s0:0≤s) (s1:s<a.2.1.2) :
  yR a s=bif ye8 (fun(i:Nat)=>yaF a s i) a.2.1.1.toNat then([],false)else(ye9 V a.2.1.1 s,true):=by
 have hw: ∀i:Nat,i<a.2.1.1.toNat→yG a i s=yaF a s i:=fun i hi=>(yMJ hg hk hv (by omega) (by omega) s0 s1).1
 have hm: ∀n,n≤a.2.1.1.toNat→yK (fun(i:Nat)=>yG a i s) n=yK (fun(i:Nat)=>yaF a s i) n:=by
  intro n
  induction n with
  | zero=>intro _; rfl
  | succ n ih=>intro hn; unfold yK; rw[hw n (by omega),ih (by omega)]
 have h2:ye8 (fun(i:Nat)=>yG a i s) a.2.1.1.toNat=ye8 (fun(i:Nat)=>yaF a s i) a.2.1.1.toNat:=by
  unfold ye8;rw[Bool.eq_iff_iff,List.any_eq_true,List.any_eq_true];constructor
  ·rintro⟨i,hi,h⟩
   have hi':=List.mem_range.1 hi;exact⟨i,hi,by dsimp only at h ⊢; rw[hw i hi',hm i (by omega)]at h; exact h⟩
  ·rintro⟨i,hi,h⟩
   have hi':=List.mem_range.1 hi;exact⟨i,hi,by dsimp only at h ⊢; rw[hw i hi',hm i (by omega)]; exact h⟩
 unfold yR;rw[h2,hm _ (Nat.le_refl _)];cases hc:ye8 (fun(i:Nat)=>yaF a s i) a.2.1.1.toNat
 ·simp only[cond_false]
  cases hn:leb 0 (yK (fun(i:Nat)=>yaF a s i) a.2.1.1.toNat)
  ·simp only[cond_false]
   congr 1;refine List.map_congr_left fun i hi=> ?_
   have hi':=List.mem_range.1 hi;exact(yMJ hg hk hv (by omega) (by omega) s0 s1).2 (yZ2 hn i hi')
  ·simp only[cond_true]
   congr 1;rcases yLD (fun(i:Nat)=>yaF a s i) a.2.1.1.toNat with h3 | ⟨k0,k1,k2⟩
   ·rw[h3]at hn; cases hn
   ·have hu:=yZ3 hc
    generalize yK (fun(i:Nat)=>yaF a s i) a.2.1.1.toNat=k at *;obtain⟨k,rfl⟩: ∃m:Nat,k=m:=⟨k.toNat,by omega⟩;rw[Int.toNat_natCast]at k2 ⊢;have hkl:k<(ye9 V a.2.1.1 s).length:=by rw[yMI]; omega
    have e:yai a s a.2.1.1.toNat=(ye9 V a.2.1.1 s).set k 0:=by
     refine List.ext_getElem (by rw[yfG,List.length_set,yMI]) fun j h3 h4=> ?_
     rw[yfG]at h3;rw[List.getElem_set];have e1:(yai a s a.2.1.1.toNat)[j]'(by rw[yfG]; exact h3)=yq2 a j s:=by unfold yai; simp
     have e2:(ye9 V a.2.1.1 s)[j]'(by rw[yMI]; exact h3)=V s j:=by unfold ye9; simp
     rw[e1];by_cases hj:k=j
     ·subst hj
      rw[if_pos rfl];unfold yq2;rw[hw k (by omega),k2]; rfl
     ·rw[if_neg hj,e2]
      rcases hu j h3 with h5 | h5
      ·exact(yMJ hg hk hv (by omega) (by omega) s0 s1).2 h5
      ·exact absurd h5 (by omega)
    have hx:yaG (yai a s a.2.1.1.toNat)=V s k:=by
     rw[e,yoQ,y5Y _ _ _ hkl,y4A (he.ev s s0 s1),BitVec.zero_xor,show bv 0=0#64 by decide,BitVec.xor_zero,yTi V (by omega) (by omega)];have:=ypu.1 (he.ew s k s0 s1 (by omega) (by omega));exact y5N (by omega) (by omega)
    rw[hx,e,List.set_set];refine List.ext_getElem (by rw[List.length_set]) fun j h3 h4=> ?_
    rw[List.getElem_set];by_cases hj:k=j
    ·subst hj
     rw[if_pos rfl];exact(y5c _ _ _ h4).symm
    ·rw[if_neg hj]
 ·rfl
def y0i:Code:=(f192.body).getD .skip
def y0O:Env:=zku TT [] []
theorem yQn:FrOk prog ⟨y0O,26,fun _=>none⟩ y0i:=zky yf yg trivial
abbrev yz5:List Par:= [.pt tA (.pr .fz (.pr (.pr .fz .fz) (.pr (.ow (.pr (.ow (.ow .fz)) (.pr (.ow (.pr .fz (.ow .fz))) (.pr .fz (.ow .fz))))) (.pr .fz (.pr .fz (.pr .fz (.pr .fz (.pr .fz (.pr (.ow (.pr .fz (.ow .fz))) (.pr .fz (.pr .fz .fz)))))))))))]
abbrev yAq:List OT:= [⟨false,tB,.fz⟩]
def yGQ (a0:dA):Option (zaY yAq×zak yz5) :=bif(a0.2.2.2.2.2.2.2.2.2.1==0)then some ((false,()),((a0.1,a0.2.1,a0.2.2.1,a0.2.2.2.1,a0.2.2.2.2.1,a0.2.2.2.2.2.1,a0.2.2.2.2.2.2.1,a0.2.2.2.2.2.2.2.1,a0.2.2.2.2.2.2.2.2.1,(-1),true,a0.2.2.2.2.2.2.2.2.2.2.2),())) else bif(ltb 0 a0.2.2.2.2.2.2.2.2.2.1)then some ((true,()),((a0.1,a0.2.1,a0.2.2.1,a0.2.2.2.1,a0.2.2.2.2.1,a0.2.2.2.2.2.1,a0.2.2.2.2.2.2.1,a0.2.2.2.2.2.2.2.1,a0.2.2.2.2.2.2.2.2.1,(i64.wrap (a0.2.2.2.2.2.2.2.2.2.1-1)),a0.2.2.2.2.2.2.2.2.2.2),())) else some ((true,()),(a0,()))
theorem yVJ:ConOk prog 192 ⟨yz5,yAq,fun x=>yGQ x.1⟩:=zkG (yQn) func192 ntmps192.symm fun x=>by kernel_rfl
def yib (a0:dA):Bool×dA :=bif(a0.2.2.2.2.2.2.2.2.2.1==0)then (false,(a0.1,a0.2.1,a0.2.2.1,a0.2.2.2.1,a0.2.2.2.2.1,a0.2.2.2.2.2.1,a0.2.2.2.2.2.2.1,a0.2.2.2.2.2.2.2.1,a0.2.2.2.2.2.2.2.2.1,(-1),true,a0.2.2.2.2.2.2.2.2.2.2.2)) else bif(ltb 0 a0.2.2.2.2.2.2.2.2.2.1)then (true,(a0.1,a0.2.1,a0.2.2.1,a0.2.2.2.1,a0.2.2.2.2.1,a0.2.2.2.2.2.1,a0.2.2.2.2.2.2.1,a0.2.2.2.2.2.2.2.1,a0.2.2.2.2.2.2.2.2.1,(i64.wrap (a0.2.2.2.2.2.2.2.2.2.1-1)),a0.2.2.2.2.2.2.2.2.2.2)) else (true,a0)
def yuH:Con:=⟨yz5,yAq,fun x=>(fun n=>some ((n.1,()),(n.2,()))) (yib x.1)⟩
theorem yYb (a0:dA):yGQ a0=(fun n=>some ((n.1,()),(n.2,()))) (yib a0):=zkT (p:=fun(n:Bool×dA)=>((n.1,()),(n.2,()))) (zkE (p:=fun(n:Bool×dA)=>((n.1,()),(n.2,()))) rfl (zkE (p:=fun(n:Bool×dA)=>((n.1,()),(n.2,()))) rfl rfl))
theorem yH9:ConOk prog 192 yuH:=(yVJ).mono (fun x r _ h=>(yYb x.1).trans h)
theorem yU0 {a:dA} (h:ya a=false):yib a=opA a:=by
 unfold yib opA;rw[h];cases(a.2.2.2.2.2.2.2.2.2.1==0)
 ·cases ltb 0 a.2.2.2.2.2.2.2.2.2.1
  ·rfl
  ·show(true,_)=(true,yh2 a _ false)
   unfold yh2;rw[show a.2.2.2.2.2.2.2.2.2.2=(ya a,a.2.2.2.2.2.2.2.2.2.2.2)from rfl,h]
 ·rfl
def yM3:Code:=(f223.body).getD .skip
def yNg:Env:=zku TT [] []
theorem yIM:FrOk prog ⟨yNg,7,fun _=>none⟩ yM3:=zky yf yg trivial
abbrev yp7:List Par:= [.rd tI,.rp tI]
abbrev yqa:List OT:= [⟨false,tB,.fz⟩]
def ywA (a0 a1:Int):Option (zaY yqa×zak yp7) :=some (((a0==a1),()),())
theorem yKg:ConOk prog 223 ⟨yp7,yqa,fun x=>ywA x.1 x.2.1⟩:=zkG (yIM) func223 ntmps223.symm fun x=>by kernel_rfl
def yd3 (a0 a1:Int):Bool :=(a0==a1)
def yms:Con:=⟨yp7,yqa,fun x=>(fun n=>some ((n,()),())) (yd3 x.1 x.2.1)⟩
theorem yMa (a0 a1:Int):ywA a0 a1=(fun n=>some ((n,()),())) (yd3 a0 a1):=zkT (p:=fun(n:Bool)=>((n,()),())) rfl
theorem yzB:ConOk prog 223 yms:=(yKg).mono (fun x r _ h=>(yMa x.1 x.2.1).trans h)
def ye4:Code:=(f244.body).getD .skip
def yjx:Env:=zku TT [(223,yms)] []
theorem yCP:FrOk prog ⟨yjx,19,fun _=>none⟩ ye4:=zky yf yg ⟨yzB,trivial⟩
def ynI:Nat→Option Seg:=fun _=>none
def yaq:Shape:=⟨[(0,false,[.br tI]),(1,false,[.fx 223 tI]),(7,false,[.int .i64]),(8,false,[.int .i64])],[],[]⟩
def ybu:Shape:=⟨[(0,false,[.br tI]),(1,false,[.fx 223 tI]),(7,false,[.int .i64]),(8,false,[.ci .i64 0])],[],[]⟩
def ybs:Shape:=⟨[],[],[]⟩
def ybv:Shape:=⟨[(4,false,[.int .i64])],[],[]⟩
abbrev yf1 (v0:List Int) (v1 v2 v3:Int):(yaq).X:=(((v0,()),(v1,()),(v2,()),(v3,()),()),(),())
abbrev yA8 (v0:List Int) (v1 v2:Int):(ybu).X:=(((v0,()),(v1,()),(v2,()),((),()),()),(),())
abbrev yA6  :(ybs).X:=((),(),())
abbrev ylY (v0:Int):(ybv).X:=(((v0,()),()),(),())
def yf6 (v0:List Int) (v1 v2 v3:Int):Option ((yaq).X ⊕ ((ybs).X ⊕ (ybv).X)) :=bif(ltb v3 v2)then bif(inb v3 v0.length)then let r2:=yd3 (nth v0 v3 0) v1;bif r2 then some (.inr (.inr (((v3,()),()),(),()))) else some (.inl (((v0,()),(v1,()),(v2,()),((i64.wrap (v3+1)),()),()),(),())) else none else some (.inr (.inl ((),(),())))
def yaB (x:(yaq).X):=yf6 x.1.1.1 x.1.2.1.1 x.1.2.2.1.1 x.1.2.2.2.1.1
def ylT (x:(ybu).X):(yaq).X:=(((x.1.1.1,()),(x.1.2.1.1,()),(x.1.2.2.1.1,()),(0,()),()),(),())
def ynt:Code:=(zeJ ye4 64 52).getD .skip
theorem yCM:zeJ ye4 64 13=some (.block 0 (.loop ynt)):=by kernel_rfl
theorem yCZ (x:(yaq).X):zhu ⟨yjx,19,ynI⟩ 0 ynt 52 yaq ybs ybv x=yaB x:=by kernel_rfl
def ylV (x:(ybu).X):Nat:=18446744073709551616
def ygS (x:(ybu).X):Option ((ybs).X ⊕ (ybv).X):=zF yaB (ylV x) (ylT x)
def ymg:Seg:=⟨ybu,ybs,ybv,ygS⟩
def yDe:Nat→Option Seg:=fun q=>bif Nat.beq q 13 then some ymg else ynI q
theorem yCQ:FrOk prog ⟨yjx,19,yDe⟩ ye4:=(yCP).loop (sg:=ymg) yaq ylT (by decide) yCM yaB ylV (by decide) (fun _=>rfl) (fun x r _ h=>h) yCZ
abbrev ye5:List Par:= [.rd tL,.fn 223 tI]
abbrev yjz:List OT:= [⟨false,tI,.fz⟩]
def yhP (a0:List Int) (a1:Int):Option (zaY yjz×zak ye5) :=zkr (ygS (((a0,()),(a1,()),((a0.length:Int),()),((),()),()),(),())) (fun y2 =>some (((-1),()),())) (fun y2 =>some ((y2.1.1.1,()),()))
theorem yE8:ConOk prog 244 ⟨ye5,yjz,fun x=>yhP x.1 x.2.1⟩:=zkG (yCQ) func244 ntmps244.symm fun x=>by kernel_rfl
def ycS (a0:List Int) (a1:Int):Int:=yaj (fun e:Int=>e==a1) a0
theorem yFJ (a0:List Int) (a1:Int) (hk:zjw ye5 (a0,a1,())):yhP a0 a1=(fun n=>some ((n,()),())) (ycS a0 a1):=by
 have hb:a0.length*8≤2^47:=hk.1.1
 have h1:ygS (yA8 a0 a1 a0.length)=some (bif leb 0 (yaj (fun e:Int=>e==a1) a0)then .inr (ylY (yaj (fun e:Int=>e==a1) a0))else .inl yA6) :=
  yLA (step:=yaB) a0 0 (fun i=>yf1 a0 a1 a0.length i) (fun e:Int=>e==a1) (fun i=> .inr (ylY i)) _ (fun i hi=>by
   simp only[yaB,yf1,yf6,zkw (show(i:Int)<a0.length by omega),cond_true,wq ((i:Int)+1) (by omega) (by omega),Int.natCast_add,Int.natCast_one,Int.toNat_natCast,zkP hi,zkQ,yd3]
   cases(a0.getD i 0==a1)<;>rfl) (by simp only[yaB,yf1,yf6,zk1 (Int.le_refl _),cond_false]) _ (by show _<18446744073709551616; omega)
 unfold yhP ycS;rw[h1];cases h:leb 0 (yaj (fun e:Int=>e==a1) a0)
 ·rw[yX7 h]; rfl
 ·rfl
def yn4:Con:=⟨ye5,yjz,fun x=>(fun n=>some ((n,()),())) (ycS x.1 x.2.1)⟩
theorem yFL:ConOk prog 244 yn4:=(yE8).mono (fun x r hk h=>(yFJ x.1 x.2.1 hk).trans h)
def yep:Code:=(f222.body).getD .skip
def yh3:Env:=zku TT [(223,yms),(244,yn4)] []
theorem yA3:FrOk prog ⟨yh3,42,fun _=>none⟩ yep:=zky yf yg ⟨yzB,yFL,trivial⟩
def ymX:Nat→Option Seg:=fun _=>none
def yam:Shape:=⟨[(0,false,[.at 800000000]),(1,false,[.fx 223 tI]),(5,false,[.int .i64]),(6,false,[.int .i64])],[],[(800000000,tI,.fz)]⟩
def ya8:Shape:=⟨[(0,false,[.at 800000000]),(1,false,[.fx 223 tI]),(5,false,[.int .i64]),(6,false,[.int .i64])],[],[(800000000,tI,.fz)]⟩
def ya7:Shape:=⟨[(0,false,[.at 800000000]),(5,false,[.int .i64])],[],[(800000000,tI,.fz)]⟩
def ycW:Shape:=⟨[],[],[]⟩
abbrev ycp (v0 v1 v2:Int) (v3:List Int):(yam).X:=((((),()),(v0,()),(v1,()),(v2,()),()),(),(v3,()))
abbrev yzz (v0 v1 v2:Int) (v3:List Int):(ya8).X:=((((),()),(v0,()),(v1,()),(v2,()),()),(),(v3,()))
abbrev yzx (v0:Int) (v1:List Int):(ya7).X:=((((),()),(v0,()),()),(),(v1,()))
def yfE (v0 v1 v2:Int) (v3:List Int):Option ((yam).X ⊕ ((ya7).X ⊕ (ycW).X)) :=bif(ltb v2 (v3.length:Int))then bif(inb v2 v3.length)then let r3:=yd3 (nth v3 v2 0) v0;bif(!r3)then bif(inb v1 v3.length)then some (.inl ((((),()),(v0,()),((i64.wrap (v1+1)),()),((i64.wrap (v2+1)),()),()),(),((v3.set (v1).toNat (nth v3 v2 0)),()))) else none else some (.inl ((((),()),(v0,()),(v1,()),((i64.wrap (v2+1)),()),()),(),(v3,()))) else none else some (.inr (.inl ((((),()),(v1,()),()),(),(v3,()))))
def yav (x:(yam).X):=yfE x.1.2.1.1 x.1.2.2.1.1 x.1.2.2.2.1.1 x.2.2.1
def ykX (x:(ya8).X):(yam).X:=((((),()),(x.1.2.1.1,()),(x.1.2.2.1.1,()),(x.1.2.2.2.1.1,()),()),(),(x.2.2.1,()))
def ylR:Code:=(zeJ yep 64 244).getD .skip
theorem yA0:zeJ yep 64 61=some (.block 0 (.loop ylR)):=by kernel_rfl
theorem yBd (x:(yam).X):zhu ⟨yh3,42,ymX⟩ 0 ylR 244 yam ya7 ycW x=yav x:=by kernel_rfl
def ykZ (x:(ya8).X):Nat:=18446744073709551616
def yfW (x:(ya8).X):Option ((ya7).X ⊕ (ycW).X):=zF yav (ykZ x) (ykX x)
def yk1:Seg:=⟨ya8,ya7,ycW,yfW⟩
def yCK:Nat→Option Seg:=fun q=>bif Nat.beq q 61 then some yk1 else ymX q
theorem yA4:FrOk prog ⟨yh3,42,yCK⟩ yep:=(yA3).loop (sg:=yk1) yam ykX (by decide) yA0 yav ykZ (by decide) (fun _=>rfl) (fun x r _ h=>h) yBd
abbrev yeq:List Par:= [.kp tL (.ow .fz),.fn 223 tI]
abbrev yh4:List OT:= [⟨false,tL,(.ow .fz)⟩]
def ygT (a0:List Int) (a1:Int):Option (zaY yh4×zak yeq) :=let r1:=ycS a0 a1;bif(r1==(-1))then some ((a0,()),()) else zkr (yfW ((((),()),(a1,()),(r1,()),((i64.wrap (r1+1)),()),()),(),(a0,()))) (fun y3 =>bif(zjY y3.1.2.1.1 (y3.2.2.1.length:Int) y3.2.2.1.length)then bif(zjY 0 y3.1.2.1.1 (y3.2.2.1.take (y3.1.2.1.1).toNat++(List.replicate ((y3.2.2.1.length:Int)-y3.1.2.1.1).toNat (0:Int))++y3.2.2.1.drop ((y3.1.2.1.1).toNat+(List.replicate ((y3.2.2.1.length:Int)-y3.1.2.1.1).toNat (0:Int)).length)).length)then some (((((y3.2.2.1.take (y3.1.2.1.1).toNat++(List.replicate ((y3.2.2.1.length:Int)-y3.1.2.1.1).toNat (0:Int))++y3.2.2.1.drop ((y3.1.2.1.1).toNat+(List.replicate ((y3.2.2.1.length:Int)-y3.1.2.1.1).toNat (0:Int)).length)).drop (0:Int).toNat).take (y3.1.2.1.1-0).toNat),()),()) else none else none) (fun y3 =>none)
theorem yCX:ConOk prog 222 ⟨yeq,yh4,fun x=>ygT x.1 x.2.1⟩:=zkG (yA4) func222 ntmps222.symm fun x=>by kernel_rfl
def yb7 (a0:List Int) (a1:Int):List Int:=yJb a0 a1
theorem yE7 (a0:List Int) (a1:Int) (hk:zjw yeq (a0,a1,())):ygT a0 a1=(fun n=>some ((n,()),())) (yb7 a0 a1):=by
 have hb:a0.length*8≤2^47:=hk.1.1;have hs:yJb a0 a1=a0.filter (fun x=> !(x==a1)):=rfl;unfold ygT yb7 ycS;simp only[];cases hi:leb 0 (yaj (fun e:Int=>e==a1) a0)
 ·rw[yX7 hi,hs,y5v hi]; rfl
 ·obtain⟨h1,h2⟩:=yn8 (d:=(0:Int)) hi
  have h3:=zj4.1 h1;have h4:=yZX hi;generalize hk0:yaj (fun e:Int=>e==a1) a0=k at *;obtain⟨k,rfl⟩: ∃m:Nat,k=m:=⟨k.toNat,by omega⟩;rw[Int.toNat_natCast]at h4;rw[show((k:Int)== -1)=false from beq_eq_false_iff_ne.2 (by omega),cond_false,wq ((k:Int)+1) (by omega) (by omega)]
  obtain⟨b,e,i,s,rfl,q1,q2,q3⟩:=zji (step:=yav) (fun x=>(a0.length-Int.toNat x.1.2.2.2.1.1))
   (fun x=> ∃(i j:Nat) (s:List Int),x=ycp a1 i j s∧i<j∧j≤a0.length∧s.length=a0.length∧s.take i=(a0.take j).filter (fun x=> !(x==a1))∧s.drop j=a0.drop j)
   (fun b=> ∃(i:Nat) (s:List Int),b= .inl (yzx i s)∧i≤a0.length∧s.length=a0.length∧s.take i=a0.filter (fun x=> !(x==a1)))
   (fun x hx=>by
    obtain⟨i,j,s,rfl,p1,p2,p3,p4,p5⟩:=hx;by_cases hj:j<a0.length
    ·left
     have e1:nth s j 0=a0[j]:=by
      rw[zkQ,zkH (by omega)];have:=List.getElem_drop (xs:=s) (i:=j) (j:=0) (h:=by rw[List.length_drop]; omega);have h6:(s.drop j)[0]'(by rw[List.length_drop]; omega)=(a0.drop j)[0]'(by rw[List.length_drop]; omega):=by simp only[p5]
      simpa using h6
     have e2:a0.take (j+1)=a0.take j++ [a0[j]]:=(List.take_append_getElem hj).symm;simp only[yav,ycp,yfE,p3,zkw (show(j:Int)<a0.length by omega),zkP hj,zkP (show i<a0.length by omega),e1,yd3,wq ((j:Int)+1) (by omega) (by omega),wq ((i:Int)+1) (by omega) (by omega),cond_true,Int.toNat_natCast];cases hx:(a0[j]==a1)
     ·refine⟨_,rfl,⟨i+1,j+1,s.set i a0[j],rfl,by omega,by omega,by rw[List.length_set,p3],?_,?_⟩,by show a0.length-((j:Int)+1).toNat<a0.length-((j:Int)).toNat; omega⟩
      ·rw[List.take_set,← List.take_append_getElem (show i<s.length by omega),List.set_append_right _ _ (by rw[List.length_take]; omega),p4,e2,List.filter_append,List.filter_cons,hx]
       have:i-(List.filter (fun x=> !x==a1) (a0.take j)).length=0:=by rw[← p4,List.length_take]; omega
       rw[this]; rfl
      ·rw[List.drop_set_of_lt (by omega),← List.drop_drop,p5,List.drop_drop]
     ·refine⟨_,rfl,⟨i,j+1,s,rfl,by omega,by omega,p3,?_,?_⟩,by show a0.length-((j:Int)+1).toNat<a0.length-((j:Int)).toNat; omega⟩
      ·rw[p4,e2,List.filter_append,List.filter_cons,hx]; simp
      ·rw[← List.drop_drop,p5,List.drop_drop]
    ·right
     have:j=a0.length:=by omega
     subst this;rw[List.take_length]at p4;refine⟨_,?_,i,s,rfl,by omega,p3,p4⟩
     simp only[yav,ycp,yfE,p3,zk1 (Int.le_refl _),cond_false]) 18446744073709551616 (ycp a1 k (k+1:Nat) a0) ⟨k,k+1,a0,rfl,by omega,by omega,rfl,h4.symm,rfl⟩ (by show a0.length-((k+1:Nat):Int).toNat<18446744073709551616; omega)
  rw[show((k+1:Nat):Int)=(k:Int)+1 by omega]at e;rw[show yfW (yzz a1 k ((k:Int)+1) a0)=_ from e];rw[hs,← q3]
  have hL:(s.take i++List.replicate ((s.length:Int)-i).toNat (0:Int)++s.drop ((i:Int).toNat+(List.replicate ((s.length:Int)-i).toNat (0:Int)).length)).length=s.length:=by
   simp only[List.length_append,List.length_take,List.length_replicate,List.length_drop]; omega
  show(bif zjY i s.length s.length then bif zjY 0 i (s.take i++List.replicate ((s.length:Int)-i).toNat (0:Int)++s.drop ((i:Int).toNat+(List.replicate ((s.length:Int)-i).toNat (0:Int)).length)).length then some ((((s.take i++List.replicate ((s.length:Int)-i).toNat (0:Int)++s.drop ((i:Int).toNat+(List.replicate ((s.length:Int)-i).toNat (0:Int)).length)).drop 0).take ((i:Int)-0).toNat,()),())else none else none)=some ((s.take i,()),());rw[hL,zkx.2 (show 0≤(i:Int)∧(i:Int)≤s.length∧(s.length:Int)≤s.length by omega),zkx.2 (show(0:Int)≤0∧(0:Int)≤i∧(i:Int)≤s.length by omega),List.drop_zero,show((i:Int)-0).toNat=i by omega,List.append_assoc,List.take_append_of_le_length (by rw[List.length_take]; omega),List.take_take,Nat.min_self]; rfl
def ynw:Con:=⟨yeq,yh4,fun x=>(fun n=>some ((n,()),())) (yb7 x.1 x.2.1)⟩
theorem yFc:ConOk prog 222 ynw:=(yCX).mono (fun x r hk h=>(yE7 x.1 x.2.1 hk).trans h)
def yTo:Code:=(f193.body).getD .skip
def yTR:Env:=zku TT [(127,yeQ),(133,yeR),(156,ynv),(158,yaM),(186,yxI),(222,ynw)] []
theorem yK9:FrOk prog ⟨yTR,51,fun _=>none⟩ yTo:=zky yf yg ⟨yig,yjt,yxX,ybQ,yJs,yFc,trivial⟩
abbrev ym4:List Par:= [.rd tM,.rd tI,.rd tL]
abbrev yuk:List OT:= [⟨false,tM,(.pr (.ow (.ow .fz)) (.pr (.ow (.pr .fz (.ow .fz))) (.pr .fz (.ow .fz))))⟩,⟨false,tB,.fz⟩]
def yqF (a0:dM) (a1:Int) (a2:List Int):Option (zaY yuk×zak ym4) :=let r1:=yat a0;let r2:=yay a0;bif(!(!r2))then bif(!a0.2.2.1)then let r3:=ybS a0 a1;bif(!(!r3))then let r4:=yhG a2;bif(!(!r4))then bif((a0.2.1.length:Int)==60)then some ((r1,false,()),()) else let r5:=yx a2;bif(zkj r1.2.1.length ([(a1,r5)]:List dW).length 32)then let r6:=yb7 r1.2.2.2 a1;some (((r1.1,(r1.2.1++([(a1,r5)]:List dW)),r1.2.2.1,r6),true,()),()) else none else some ((r1,false,()),()) else some ((r1,false,()),()) else some ((r1,false,()),()) else some ((r1,false,()),())
theorem yOT:ConOk prog 193 ⟨ym4,yuk,fun x=>yqF x.1 x.2.1 x.2.2.1⟩:=zkG (yK9) func193 ntmps193.symm fun x=>by kernel_rfl
def yjk (a0:dM) (a1:Int) (a2:List Int):dM×Bool:=yZ a0 a1 a2
theorem yRT (a0:dM) (a1:Int) (a2:List Int) (hk:zjw ym4 (a0,a1,a2,())):yqF a0 a1 a2=(fun n=>some ((n.1,n.2,()),())) (yjk a0 a1 a2):=by
 have hb1:a0.1.length*24≤2^47:=hk.1.1.1;unfold yqF yjk yZ ybp;simp only[yat,yay,ybS,yal,ykt (show a0.1.length≤1152921504606846976 by omega),yHm,yx,yb7];cases hm:yv a0
 ·rfl
 have hc:=(ycR hm).2.2.2.2.2;cases a0.2.2.1
 ·cases inb a1 a0.1.length
  ·rfl
  cases yaz a2
  ·rfl
  by_cases h:(a0.2.1.length:Int)<60
  ·rw[zkw h,show((a0.2.1.length:Int)==60)=false from beq_eq_false_iff_ne.2 (by omega),zkD.2 (show(a0.2.1.length+ [(a1,a2)].length)*32≤140737488355328 by simp only[List.length_cons,List.length_nil]; omega)]; rfl
  ·rw[zk1 (by omega),show((a0.2.1.length:Int)==60)=true from beq_iff_eq.2 (by omega)]; rfl
 ·rfl
def yBN:Con:=⟨ym4,yuk,fun x=>(fun n=>some ((n.1,n.2,()),())) (yjk x.1 x.2.1 x.2.2.1)⟩
theorem ySM:ConOk prog 193 yBN:=(yOT).mono (fun x r hk h=>(yRT x.1 x.2.1 x.2.2.1 hk).trans h)
def yPL:Code:=(f139.body).getD .skip
def yP3:Env:=zku TT [(192,yuH),(193,yBN)] []
theorem yJQ:FrOk prog ⟨yP3,39,fun _=>none⟩ yPL:=zky yf yg ⟨yH9,ySM,trivial⟩
abbrev yhb:List Par:= [.pt tA (.pr .fz (.pr (.pr .fz .fz) (.pr (.ow (.pr (.ow (.ow .fz)) (.pr (.ow (.pr .fz (.ow .fz))) (.pr .fz (.ow .fz))))) (.pr .fz (.pr .fz (.pr .fz (.pr .fz (.pr .fz (.pr (.ow (.pr .fz (.ow .fz))) (.pr .fz (.pr .fz .fz))))))))))),.rd tI,.rd tI,.rd tL]
abbrev yld:List OT:= [⟨false,tB,.fz⟩]
def yow (a0:dA) (a1 a2:Int) (a3:List Int):Option (zaY yld×zak yhb) :=bif(inb a1 a0.2.2.1.length)then bif(((nth a0.2.2.1 a1 ([],[],false,[])).2).2).1 then some ((true,()),(a0,())) else let r1:=yib a0;bif(!r1.1)then some ((false,()),(r1.2,())) else bif(inb a1 r1.2.2.2.1.length)then let r2:=yjk ((nth r1.2.2.2.1 a1 ([],[],false,[])).1,((nth r1.2.2.2.1 a1 ([],[],false,[])).2).1,(((nth r1.2.2.2.1 a1 ([],[],false,[])).2).2)) a2 a3;bif(inb a1 r1.2.2.2.1.length)then some ((true,()),((r1.2.1,r1.2.2.1,(r1.2.2.2.1.set (a1).toNat r2.1),r1.2.2.2.2),())) else none else none else none
theorem yMf:ConOk prog 139 ⟨yhb,yld,fun x=>yow x.1 x.2.1 x.2.2.1 x.2.2.2.1⟩:=zkG (yJQ) func139 ntmps139.symm fun x=>by kernel_rfl
def ydb (a0:dA) (a1 a2:Int) (a3:List Int):Bool×dA:=(!(ya (yby a0 a1 a2 a3)),yby a0 a1 a2 a3)
def ydc (a0:dA) (a1 a2:Int) (a3:List Int):Bool:=inb a1 a0.2.2.1.length&& !(ya a0)
theorem yOG (a0:dA) (a1 a2:Int) (a3:List Int) (hk:zjw yhb (a0,a1,a2,a3,())) (hq:ydc a0 a1 a2 a3=true):yow a0 a1 a2 a3=(fun n=>some ((n.1,()),(n.2,()))) (ydb a0 a1 a2 a3):=by
 simp only[ydc,Bool.and_eq_true,Bool.not_eq_true']at hq;unfold yow ydb;simp only[y2W hq.2];unfold yby ybx;simp only[yU0 hq.2,yaT,hq.1,zkV,yjk];cases(nth a0.2.2.1 a1 yc).2.2.1<;>cases(opA a0).1<;>rfl
def yeW (a0:dA) (a1 a2:Int) (a3:List Int):Option (zaY yld×zak yhb):=bif ydc a0 a1 a2 a3 then(fun n=>some ((n.1,()),(n.2,()))) (ydb a0 a1 a2 a3)else none
theorem yqw (a0:dA) (a1 a2:Int) (a3:List Int) (h:ydc a0 a1 a2 a3=true):yeW a0 a1 a2 a3=(fun n=>some ((n.1,()),(n.2,()))) (ydb a0 a1 a2 a3):=by unfold yeW; rw[h]; rfl
def yi8:Con:=⟨yhb,yld,fun x=>yeW x.1 x.2.1 x.2.2.1 x.2.2.2.1⟩
theorem yqv:ConOk prog 139 yi8:=(yMf).mono (fun x r hk h=>zkW h (fun hq=>yOG x.1 x.2.1 x.2.2.1 x.2.2.2.1 hk hq))
def y0o:Code:=(f164.body).getD .skip
def y0U:Env:=zku TT [(159,yxH)] []
theorem yQv:FrOk prog ⟨y0U,17,fun _=>none⟩ y0o:=zky yf yg ⟨yJr,trivial⟩
abbrev yrw:List Par:= [.rd tN]
abbrev yAx:List OT:= [⟨false,tL,(.ow .fz)⟩]
def yvC (a0:dN):Option (zaY yAx×zak yrw) :=let r1:=ykB a0;bif(!r1)then some (([],()),()) else bif(zkj ([21322,a0.1,a0.2.1,(a0.2.2.length:Int)]:List Int).length a0.2.2.length 8)then some (((([21322,a0.1,a0.2.1,(a0.2.2.length:Int)]:List Int)++a0.2.2),()),()) else none
theorem yVQ:ConOk prog 164 ⟨yrw,yAx,fun x=>yvC x.1⟩:=zkG (yQv) func164 ntmps164.symm fun x=>by kernel_rfl
def yl1 (a0:dN):List Int:=yac a0
theorem yYi (a0:dN) (hk:zjw yrw (a0,())):yvC a0=(fun n=>some ((n,()),())) (yl1 a0):=by
 unfold yvC yl1 yac;simp only[yPA];cases hr:yX a0
 ·rfl
 ·have:=(yti.1 hr).2.2.1
  rw[zkD.2 (show(([21322,a0.1,a0.2.1,(a0.2.2.length:Int)]:List Int).length+a0.2.2.length)*8≤140737488355328 by simp only[List.length_cons,List.length_nil]; omega)]; rfl
def yGg:Con:=⟨yrw,yAx,fun x=>(fun n=>some ((n,()),())) (yl1 x.1)⟩
theorem yZa:ConOk prog 164 yGg:=(yVQ).mono (fun x r hk h=>(yYi x.1 hk).trans h)
def ymR:Code:=(f205.body).getD .skip
def ytC:Env:=zku TT [(127,yeQ),(133,yeR),(158,yaM)] []
theorem yK2:FrOk prog ⟨ytC,34,fun _=>none⟩ ymR:=zky yf yg ⟨yig,yjt,ybQ,trivial⟩
def yBk:Nat→Option Seg:=fun _=>none
def ybK:Shape:=⟨[(2,false,[.ptr 64 0]),(3,false,[.ptr 4224 0]),(17,false,[.br tW]),(18,false,[.int .i64]),(19,false,[.int .i64])],[(64,[.nil,.nil,.bool,.nil]),(4224,[.at 800000000,.at 800000001,.bool,.at 800000002])],[(800000000,tL,(.ow .fz)),(800000001,tW,(.pr .fz (.ow .fz))),(800000002,tI,.fz)]⟩
def yfo:Shape:=⟨[(2,false,[.ptr 64 0]),(3,false,[.ptr 4224 0]),(17,false,[.br tW]),(18,false,[.int .i64]),(19,false,[.ci .i64 0])],[(64,[.nil,.nil,.bool,.nil]),(4224,[.at 800000000,.at 800000001,.bool,.at 800000002])],[(800000000,tL,(.ow .fz)),(800000001,tW,(.pr .fz (.ow .fz))),(800000002,tI,.fz)]⟩
def yff:Shape:=⟨[(2,false,[.ptr 64 0]),(3,false,[.ptr 4224 0])],[(64,[.nil,.nil,.bool,.nil]),(4224,[.at 800000000,.at 800000001,.bool,.at 800000002])],[(800000000,tL,(.ow .fz)),(800000001,tW,(.pr .fz (.ow .fz))),(800000002,tI,.fz)]⟩
def yiX:Shape:=⟨[],[],[]⟩
abbrev ymw (v0:List dW) (v1 v2:Int) (v3 v4:dM):(ybK).X:=((((),()),((),()),(v0,()),(v1,()),(v2,()),()),(((),(),v3.2.2.1,(),()),((),(),v4.2.2.1,(),()),()),(v4.1,v4.2.1,v4.2.2.2,()))
abbrev yJ3 (v0:List dW) (v1:Int) (v2 v3:dM):(yfo).X:=((((),()),((),()),(v0,()),(v1,()),((),()),()),(((),(),v2.2.2.1,(),()),((),(),v3.2.2.1,(),()),()),(v3.1,v3.2.1,v3.2.2.2,()))
abbrev ywx (v0 v1:dM):(yff).X:=((((),()),((),()),()),(((),(),v0.2.2.1,(),()),((),(),v1.2.2.1,(),()),()),(v1.1,v1.2.1,v1.2.2.2,()))
def ymL (v0:List dW) (v1 v2:Int) (v3 v4:Bool) (v5:List (List Int)) (v6:List dW) (v7:List Int):Option ((ybK).X ⊕ ((yff).X ⊕ (yiX).X)) :=bif(ltb v2 v1)then bif(inb v2 v0.length)then let r4:=yx ((nth v0 v2 (0,[])).2);bif(inb ((nth v0 v2 (0,[])).1) v5.length)then some (.inl ((((),()),((),()),(v0,()),(v1,()),((i64.wrap (v2+1)),()),()),(((),(),v3,(),()),((),(),v4,(),()),()),((v5.set ((nth v0 v2 (0,[])).1).toNat r4),v6,v7,()))) else none else none else some (.inr (.inl ((((),()),((),()),()),(((),(),v3,(),()),((),(),v4,(),()),()),(v5,v6,v7,()))))
def yb3 (x:(ybK).X):=ymL x.1.2.2.1.1 x.1.2.2.2.1.1 x.1.2.2.2.2.1.1 x.2.1.1.2.2.1 x.2.1.2.1.2.2.1 x.2.2.1 x.2.2.2.1 x.2.2.2.2.1
def ywh (x:(yfo).X):(ybK).X:=((((),()),((),()),(x.1.2.2.1.1,()),(x.1.2.2.2.1.1,()),(0,()),()),(((),(),x.2.1.1.2.2.1,(),()),((),(),x.2.1.2.1.2.2.1,(),()),()),(x.2.2.1,x.2.2.2.1,x.2.2.2.2.1,()))
def yyJ:Code:=(zeJ ymR 64 244).getD .skip
theorem yKH:zeJ ymR 64 61=some (.block 0 (.loop yyJ)):=by kernel_rfl
theorem yMw (x:(ybK).X):zhu ⟨ytC,34,yBk⟩ 0 yyJ 244 ybK yff yiX x=yb3 x:=by kernel_rfl
def ywq (x:(yfo).X):Nat:=18446744073709551616
def ynO (x:(yfo).X):Option ((yff).X ⊕ (yiX).X):=zF yb3 (ywq x) (ywh x)
def ywG:Seg:=⟨yfo,yff,yiX,ynO⟩
def yM8:Nat→Option Seg:=fun q=>bif Nat.beq q 61 then some ywG else yBk q
theorem yK3:FrOk prog ⟨ytC,34,yM8⟩ ymR:=(yK2).loop (sg:=ywG) ybK ywh (by decide) yKH yb3 ywq (by decide) (fun _=>rfl) (fun x r _ h=>h) yMw
abbrev ymZ:List Par:= [.rd tM]
abbrev yue:List OT:= [⟨false,tM,(.pr (.ow (.ow .fz)) (.pr (.ow (.pr .fz (.ow .fz))) (.pr .fz (.ow .fz))))⟩]
def yqA (a0:dM):Option (zaY yue×zak ymZ) :=let r1:=yat a0;let r2:=yay a0;bif(!(!r2))then bif a0.2.2.1 then some ((r1,()),()) else zkr (ynO ((((),()),((),()),(a0.2.1,()),((a0.2.1.length:Int),()),((),()),()),(((),(),false,(),()),((),(),r1.2.2.1,(),()),()),(r1.1,r1.2.1,r1.2.2.2,()))) (fun y4 =>some (((y4.2.2.1,[],y4.2.1.2.1.2.2.1,y4.2.2.2.2.1),()),())) (fun y4 =>none) else some ((r1,()),())
theorem yON:ConOk prog 205 ⟨ymZ,yue,fun x=>yqA x.1⟩:=zkG (yK3) func205 ntmps205.symm fun x=>by kernel_rfl
def yjg (a0:dM):dM:=yE a0
theorem yRN (a0:dM) (hk:zjw ymZ (a0,())):yqA a0=(fun n=>some ((n,()),())) (yjg a0):=by
 have hb2:a0.2.1.length*32≤2^47:=hk.1.2.1.1;unfold yqA yjg yE;simp only[yat,yay];cases hm:yv a0
 ·rfl
 have h1:ynO (yJ3 a0.2.1 a0.2.1.length yc a0)=some (.inl (ywx yc (ygY (fun _=>true) a0.2.1 a0.1,a0.2))) :=
  zkB (step:=yb3) a0.2.1.length (fun i s=>ymw a0.2.1 a0.2.1.length i yc (s,a0.2)) (yfw (fun _=>true) a0.2.1) (fun i s=>s.length=a0.1.length) (fun s=> .inl (ywx yc (s,a0.2))) (fun i s hi hs=>by
   have hw:=(yRh hm hi).1;refine⟨?_,yvg.trans hs⟩
   simp only[yb3,ymw,ymL,zkw (show(i:Int)<a0.2.1.length by omega),cond_true,wq ((i:Int)+1) (by omega) (by omega),Int.natCast_add,Int.natCast_one,Int.toNat_natCast,zkP hi,hs,hw,yfw,yx]) (fun s hs=>by simp only[yb3,ymw,ymL,zk1 (Int.le_refl _),cond_false]) a0.1 rfl _ (by show _<18446744073709551616; omega)
 rw[h1];cases hf:a0.2.2.1
 ·exact congrArg (fun z=>some (((ygY (fun _=>true) a0.2.1 a0.1,([]:List dW),z,a0.2.2.2),()),())) hf
 ·rfl
def yBI:Con:=⟨ymZ,yue,fun x=>(fun n=>some ((n,()),())) (yjg x.1)⟩
theorem ySH:ConOk prog 205 yBI:=(yON).mono (fun x r hk h=>(yRN x.1 hk).trans h)
def ymQ:Code:=(f165.body).getD .skip
def ytB:Env:=zku TT [(192,yuH),(205,yBI)] []
theorem yKX:FrOk prog ⟨ytB,38,fun _=>none⟩ ymQ:=zky yf yg ⟨yH9,ySH,trivial⟩
def yBi:Nat→Option Seg:=fun _=>none
def ybH:Shape:=⟨[(0,false,[.ptr 1000000000 0]),(8,false,[.int .i64]),(9,false,[.int .i64])],[(1000000000,[.int .i64,.int .i64,.int .i64,.at 800000000,.int .i64,.int .i64,.int .i64,.int .i64,.int .i64,.at 800000001,.int .i64,.bool,.bool])],[(800000000,tM,(.pr (.ow (.ow .fz)) (.pr (.ow (.pr .fz (.ow .fz))) (.pr .fz (.ow .fz))))),(800000001,tW,(.pr .fz (.ow .fz)))]⟩
def yfl:Shape:=⟨[(0,false,[.ptr 1000000000 0]),(8,false,[.int .i64]),(9,false,[.ci .i64 0])],[(1000000000,[.int .i64,.int .i64,.int .i64,.at 800000000,.int .i64,.int .i64,.int .i64,.int .i64,.int .i64,.at 800000001,.int .i64,.bool,.bool])],[(800000000,tM,(.pr (.ow (.ow .fz)) (.pr (.ow (.pr .fz (.ow .fz))) (.pr .fz (.ow .fz))))),(800000001,tW,(.pr .fz (.ow .fz)))]⟩
def yfc:Shape:=⟨[],[(1000000000,[.int .i64,.int .i64,.int .i64,.at 800000000,.int .i64,.int .i64,.int .i64,.int .i64,.int .i64,.at 800000001,.int .i64,.bool,.bool])],[(800000000,tM,(.pr (.ow (.ow .fz)) (.pr (.ow (.pr .fz (.ow .fz))) (.pr .fz (.ow .fz))))),(800000001,tW,(.pr .fz (.ow .fz)))]⟩
def yfu:Shape:=⟨[(2,false,[.bool])],[(1000000000,[.int .i64,.int .i64,.int .i64,.at 800000000,.int .i64,.int .i64,.int .i64,.int .i64,.int .i64,.at 800000001,.int .i64,.bool,.bool])],[(800000000,tM,(.pr (.ow (.ow .fz)) (.pr (.ow (.pr .fz (.ow .fz))) (.pr .fz (.ow .fz))))),(800000001,tW,(.pr .fz (.ow .fz)))]⟩
abbrev yh0 (v0 v1:Int) (v2:dA):(ybH).X:=((((),()),(v0,()),(v1,()),()),((v2.1,v2.2.1.1,v2.2.1.2,(),v2.2.2.2.1,v2.2.2.2.2.1,v2.2.2.2.2.2.1,v2.2.2.2.2.2.2.1,v2.2.2.2.2.2.2.2.1,(),v2.2.2.2.2.2.2.2.2.2.1,v2.2.2.2.2.2.2.2.2.2.2.1,v2.2.2.2.2.2.2.2.2.2.2.2,()),()),(v2.2.2.1,v2.2.2.2.2.2.2.2.2.1,()))
abbrev yJ0 (v0:Int) (v1:dA):(yfl).X:=((((),()),(v0,()),((),()),()),((v1.1,v1.2.1.1,v1.2.1.2,(),v1.2.2.2.1,v1.2.2.2.2.1,v1.2.2.2.2.2.1,v1.2.2.2.2.2.2.1,v1.2.2.2.2.2.2.2.1,(),v1.2.2.2.2.2.2.2.2.2.1,v1.2.2.2.2.2.2.2.2.2.2.1,v1.2.2.2.2.2.2.2.2.2.2.2,()),()),(v1.2.2.1,v1.2.2.2.2.2.2.2.2.1,()))
abbrev ymB (v0:dA):(yfc).X:=((),((v0.1,v0.2.1.1,v0.2.1.2,(),v0.2.2.2.1,v0.2.2.2.2.1,v0.2.2.2.2.2.1,v0.2.2.2.2.2.2.1,v0.2.2.2.2.2.2.2.1,(),v0.2.2.2.2.2.2.2.2.2.1,v0.2.2.2.2.2.2.2.2.2.2.1,v0.2.2.2.2.2.2.2.2.2.2.2,()),()),(v0.2.2.1,v0.2.2.2.2.2.2.2.2.1,()))
abbrev ymD (v0:Bool) (v1:dA):(yfu).X:=(((v0,()),()),((v1.1,v1.2.1.1,v1.2.1.2,(),v1.2.2.2.1,v1.2.2.2.2.1,v1.2.2.2.2.2.1,v1.2.2.2.2.2.2.1,v1.2.2.2.2.2.2.2.1,(),v1.2.2.2.2.2.2.2.2.2.1,v1.2.2.2.2.2.2.2.2.2.2.1,v1.2.2.2.2.2.2.2.2.2.2.2,()),()),(v1.2.2.1,v1.2.2.2.2.2.2.2.2.1,()))
def ymI (v0 v1 v2 v3 v4 v5 v6 v7 v8 v9 v10:Int) (v11 v12:Bool) (v13:List dM) (v14:List dW):Option ((ybH).X ⊕ ((yfc).X ⊕ (yfu).X)) :=bif(ltb v1 v0)then bif(inb v1 v13.length)then bif(((nth v13 v1 ([],[],false,[])).2).2).1 then some (.inl ((((),()),(v0,()),((i64.wrap (v1+1)),()),()),((v2,v3,v4,(),v5,v6,v7,v8,v9,(),v10,v11,v12,()),()),(v13,v14,()))) else let r3:=yib (v2,(v3,v4),v13,v5,v6,v7,v8,v9,v14,v10,v11,v12);bif(!r3.1)then some (.inr (.inr (((false,()),()),((r3.2.1,r3.2.2.1.1,r3.2.2.1.2,(),r3.2.2.2.2.1,r3.2.2.2.2.2.1,r3.2.2.2.2.2.2.1,r3.2.2.2.2.2.2.2.1,r3.2.2.2.2.2.2.2.2.1,(),r3.2.2.2.2.2.2.2.2.2.2.1,r3.2.2.2.2.2.2.2.2.2.2.2.1,r3.2.2.2.2.2.2.2.2.2.2.2.2,()),()),(r3.2.2.2.1,r3.2.2.2.2.2.2.2.2.2.1,())))) else bif(inb v1 r3.2.2.2.1.length)then let r4:=yjg ((nth r3.2.2.2.1 v1 ([],[],false,[])).1,((nth r3.2.2.2.1 v1 ([],[],false,[])).2).1,(((nth r3.2.2.2.1 v1 ([],[],false,[])).2).2));bif(inb v1 r3.2.2.2.1.length)then some (.inl ((((),()),(v0,()),((i64.wrap (v1+1)),()),()),((r3.2.1,r3.2.2.1.1,r3.2.2.1.2,(),r3.2.2.2.2.1,r3.2.2.2.2.2.1,r3.2.2.2.2.2.2.1,r3.2.2.2.2.2.2.2.1,r3.2.2.2.2.2.2.2.2.1,(),r3.2.2.2.2.2.2.2.2.2.2.1,r3.2.2.2.2.2.2.2.2.2.2.2.1,r3.2.2.2.2.2.2.2.2.2.2.2.2,()),()),((r3.2.2.2.1.set (v1).toNat r4),r3.2.2.2.2.2.2.2.2.2.1,()))) else none else none else none else some (.inr (.inl ((),((v2,v3,v4,(),v5,v6,v7,v8,v9,(),v10,v11,v12,()),()),(v13,v14,()))))
def yb0 (x:(ybH).X):=ymI x.1.2.1.1 x.1.2.2.1.1 x.2.1.1.1 x.2.1.1.2.1 x.2.1.1.2.2.1 x.2.1.1.2.2.2.2.1 x.2.1.1.2.2.2.2.2.1 x.2.1.1.2.2.2.2.2.2.1 x.2.1.1.2.2.2.2.2.2.2.1 x.2.1.1.2.2.2.2.2.2.2.2.1 x.2.1.1.2.2.2.2.2.2.2.2.2.2.1 x.2.1.1.2.2.2.2.2.2.2.2.2.2.2.1 x.2.1.1.2.2.2.2.2.2.2.2.2.2.2.2.1 x.2.2.1 x.2.2.2.1
def ywe (x:(yfl).X):(ybH).X:=((((),()),(x.1.2.1.1,()),(0,()),()),((x.2.1.1.1,x.2.1.1.2.1,x.2.1.1.2.2.1,(),x.2.1.1.2.2.2.2.1,x.2.1.1.2.2.2.2.2.1,x.2.1.1.2.2.2.2.2.2.1,x.2.1.1.2.2.2.2.2.2.2.1,x.2.1.1.2.2.2.2.2.2.2.2.1,(),x.2.1.1.2.2.2.2.2.2.2.2.2.2.1,x.2.1.1.2.2.2.2.2.2.2.2.2.2.2.1,x.2.1.1.2.2.2.2.2.2.2.2.2.2.2.2.1,()),()),(x.2.2.1,x.2.2.2.1,()))
def yyG:Code:=(zeJ ymQ 64 52).getD .skip
theorem yKE:zeJ ymQ 64 13=some (.block 0 (.loop yyG)):=by kernel_rfl
theorem yMt (x:(ybH).X):zhu ⟨ytB,38,yBi⟩ 0 yyG 52 ybH yfc yfu x=yb0 x:=by kernel_rfl
def ywn (x:(yfl).X):Nat:=18446744073709551616
def ynM (x:(yfl).X):Option ((yfc).X ⊕ (yfu).X):=zF yb0 (ywn x) (ywe x)
def ywD:Seg:=⟨yfl,yfc,yfu,ynM⟩
def yM6:Nat→Option Seg:=fun q=>bif Nat.beq q 13 then some ywD else yBi q
theorem yKY:FrOk prog ⟨ytB,38,yM6⟩ ymQ:=(yKX).loop (sg:=ywD) ybH ywe (by decide) yKE yb0 ywn (by decide) (fun _=>rfl) (fun x r _ h=>h) yMt
abbrev yin:List Par:= [.pt tA (.pr .fz (.pr (.pr .fz .fz) (.pr (.ow (.pr (.ow (.ow .fz)) (.pr (.ow (.pr .fz (.ow .fz))) (.pr .fz (.ow .fz))))) (.pr .fz (.pr .fz (.pr .fz (.pr .fz (.pr .fz (.pr (.ow (.pr .fz (.ow .fz))) (.pr .fz (.pr .fz .fz)))))))))))]
abbrev ynh:List OT:= [⟨false,tB,.fz⟩]
def yqy (a0:dA):Option (zaY ynh×zak yin) :=zkr (ynM ((((),()),((a0.2.2.1.length:Int),()),((),()),()),((a0.1,a0.2.1.1,a0.2.1.2,(),a0.2.2.2.1,a0.2.2.2.2.1,a0.2.2.2.2.2.1,a0.2.2.2.2.2.2.1,a0.2.2.2.2.2.2.2.1,(),a0.2.2.2.2.2.2.2.2.2.1,a0.2.2.2.2.2.2.2.2.2.2.1,a0.2.2.2.2.2.2.2.2.2.2.2,()),()),(a0.2.2.1,a0.2.2.2.2.2.2.2.2.1,()))) (fun y4 =>some ((true,()),((y4.2.1.1.1,(y4.2.1.1.2.1,y4.2.1.1.2.2.1),y4.2.2.1,y4.2.1.1.2.2.2.2.1,y4.2.1.1.2.2.2.2.2.1,y4.2.1.1.2.2.2.2.2.2.1,y4.2.1.1.2.2.2.2.2.2.2.1,y4.2.1.1.2.2.2.2.2.2.2.2.1,y4.2.2.2.1,y4.2.1.1.2.2.2.2.2.2.2.2.2.2.1,y4.2.1.1.2.2.2.2.2.2.2.2.2.2.2.1,y4.2.1.1.2.2.2.2.2.2.2.2.2.2.2.2.1),()))) (fun y4 =>some ((y4.1.1.1,()),((y4.2.1.1.1,(y4.2.1.1.2.1,y4.2.1.1.2.2.1),y4.2.2.1,y4.2.1.1.2.2.2.2.1,y4.2.1.1.2.2.2.2.2.1,y4.2.1.1.2.2.2.2.2.2.1,y4.2.1.1.2.2.2.2.2.2.2.1,y4.2.1.1.2.2.2.2.2.2.2.2.1,y4.2.2.2.1,y4.2.1.1.2.2.2.2.2.2.2.2.2.2.1,y4.2.1.1.2.2.2.2.2.2.2.2.2.2.2.1,y4.2.1.1.2.2.2.2.2.2.2.2.2.2.2.2.1),())))
theorem yOL:ConOk prog 165 ⟨yin,ynh,fun x=>yqy x.1⟩:=zkG (yKY) func165 ntmps165.symm fun x=>by kernel_rfl
def yje (a0:dA):Bool×dA:=(!(ya (ye a0)),ye a0)
def yfQ (a0:dA):Bool:= !(ya a0)
theorem yRL (a0:dA) (hk:zjw yin (a0,())) (hq:yfQ a0=true):yqy a0=(fun n=>some ((n.1,()),(n.2,()))) (yje a0):=by
 have hb:a0.2.2.1.length*80≤2^47:=hk.1.2.2.1.1
 have h1:ynM (yJ0 a0.2.2.1.length a0)=some (bif ya (ye a0)then .inr (ymD false (ye a0))else .inl (ymB (ye a0))):=by
  have:=zkA (step:=yb0) a0.2.2.1.length (fun i s=>yh0 a0.2.2.1.length i s) (fun i s=>bif ya (yab s i)then(.inr (yab s i):dA ⊕ dA)else .inl (yab s i)) (fun _ s=>s.2.2.1.length=a0.2.2.1.length∧ya s=false) id
   (fun b=>bif ya b then .inr (ymD false b)else .inl (ymB b)) (fun i s hi hs=>by
    constructor
    ·rw[yMF hs.2]
     simp only[yb0,yh0,ymI,hs.1,zkw (show(i:Int)<a0.2.2.1.length by omega),cond_true,wq ((i:Int)+1) (by omega) (by omega),Int.natCast_add,Int.natCast_one,Int.toNat_natCast,zkP hi,zkV,yU0 hs.2,yaT,yjg];cases hf:(nth s.2.2.1 i yc).2.2.1
     ·cases ho:(opA s).1
      ·have e:yab s i=(opA s).2:=by unfold yab; rw[hf,ho]; rfl
       have d:ya (opA s).2=true:=by rw[yZs hs.2,ho]; rfl
       rw[e];simp only[Bool.not_false,Bool.and_self,cond_true,cond_false,d,yaT,ymD]
      ·have e:yab s i=ybx (opA s).2 i (yE (nth s.2.2.1 i yc)):=by unfold yab; rw[hf,ho]; rfl
       rw[e];simp only[Bool.not_true,Bool.not_false,Bool.and_false,cond_true,cond_false,yh0,ybx,yaT,Int.toNat_natCast]
     ·have e:yab s i=s:=by unfold yab; rw[hf]; rfl
      rw[e]; rfl
    ·intro s' h
     cases hd:ya (yab s i)
     ·rw[hd]at h
      cases h;exact⟨(ymi s i).trans hs.1,hd⟩
     ·rw[hd]at h; cases h) (fun s hs=>by simp only[yb0,yh0,ymI,hs.2,zk1 (Int.le_refl _),cond_false,id,ymB]) a0 ⟨rfl,by simpa [yfQ]using hq⟩ 18446744073709551616 (by omega)
  rw[yE1 (fun a i h=>yFG i h),← List.range_eq_range']at this;exact this
 unfold yqy yje;rw[h1];cases hd:ya (ye a0)<;>rfl
def yfP (a0:dA):Option (zaY ynh×zak yin):=bif yfQ a0 then(fun n=>some ((n.1,()),(n.2,()))) (yje a0)else none
theorem ysx (a0:dA) (h:yfQ a0=true):yfP a0=(fun n=>some ((n.1,()),(n.2,()))) (yje a0):=by unfold yfP; rw[h]; rfl
def yjZ:Con:=⟨yin,ynh,fun x=>yfP x.1⟩
theorem ysw:ConOk prog 165 yjZ:=(yOL).mono (fun x r hk h=>zkW h (fun hq=>yRL x.1 hk hq))
def yjH:Code:=(f97.body).getD .skip
def ypR:Env:=zku TT [(88,yuM),(139,yi8),(164,yGg),(165,yjZ)] []
theorem yII:FrOk prog ⟨ypR,26,fun _=>none⟩ yjH:=zky yf yg ⟨yId,yqv,yZa,ysw,trivial⟩
def yv1:Nat→Option Seg:=fun _=>none
def ya1:Shape:=⟨[(0,false,[.ptr 1000000000 0]),(3,false,[.ptr 0 0]),(10,false,[.int .i64]),(11,false,[.int .i64])],[(0,[.int .i64,.int .i64,.br tI]),(1000000000,[.int .i64,.int .i64,.int .i64,.at 800000000,.int .i64,.int .i64,.int .i64,.int .i64,.int .i64,.at 800000001,.int .i64,.bool,.bool])],[(800000000,tM,(.pr (.ow (.ow .fz)) (.pr (.ow (.pr .fz (.ow .fz))) (.pr .fz (.ow .fz))))),(800000001,tW,(.pr .fz (.ow .fz)))]⟩
def ydO:Shape:=⟨[(0,false,[.ptr 1000000000 0]),(3,false,[.ptr 0 0]),(10,false,[.int .i64]),(11,false,[.ci .i64 0])],[(0,[.int .i64,.int .i64,.br tI]),(1000000000,[.int .i64,.int .i64,.int .i64,.at 800000000,.int .i64,.int .i64,.int .i64,.int .i64,.int .i64,.at 800000001,.int .i64,.bool,.bool])],[(800000000,tM,(.pr (.ow (.ow .fz)) (.pr (.ow (.pr .fz (.ow .fz))) (.pr .fz (.ow .fz))))),(800000001,tW,(.pr .fz (.ow .fz)))]⟩
def ydM:Shape:=⟨[(0,false,[.ptr 1000000000 0])],[(1000000000,[.int .i64,.int .i64,.int .i64,.at 800000000,.int .i64,.int .i64,.int .i64,.int .i64,.int .i64,.at 800000001,.int .i64,.bool,.bool])],[(800000000,tM,(.pr (.ow (.ow .fz)) (.pr (.ow (.pr .fz (.ow .fz))) (.pr .fz (.ow .fz))))),(800000001,tW,(.pr .fz (.ow .fz)))]⟩
def ydQ:Shape:=⟨[(4,false,[.bool])],[(1000000000,[.int .i64,.int .i64,.int .i64,.at 800000000,.int .i64,.int .i64,.int .i64,.int .i64,.int .i64,.at 800000001,.int .i64,.bool,.bool])],[(800000000,tM,(.pr (.ow (.ow .fz)) (.pr (.ow (.pr .fz (.ow .fz))) (.pr .fz (.ow .fz))))),(800000001,tW,(.pr .fz (.ow .fz)))]⟩
abbrev yku (v0 v1:Int) (v2:dN) (v3:dA):(ya1).X:=((((),()),((),()),(v0,()),(v1,()),()),((v2.1,v2.2.1,v2.2.2,()),(v3.1,v3.2.1.1,v3.2.1.2,(),v3.2.2.2.1,v3.2.2.2.2.1,v3.2.2.2.2.2.1,v3.2.2.2.2.2.2.1,v3.2.2.2.2.2.2.2.1,(),v3.2.2.2.2.2.2.2.2.2.1,v3.2.2.2.2.2.2.2.2.2.2.1,v3.2.2.2.2.2.2.2.2.2.2.2,()),()),(v3.2.2.1,v3.2.2.2.2.2.2.2.2.1,()))
abbrev yH7 (v0:Int) (v1:dN) (v2:dA):(ydO).X:=((((),()),((),()),(v0,()),((),()),()),((v1.1,v1.2.1,v1.2.2,()),(v2.1,v2.2.1.1,v2.2.1.2,(),v2.2.2.2.1,v2.2.2.2.2.1,v2.2.2.2.2.2.1,v2.2.2.2.2.2.2.1,v2.2.2.2.2.2.2.2.1,(),v2.2.2.2.2.2.2.2.2.2.1,v2.2.2.2.2.2.2.2.2.2.2.1,v2.2.2.2.2.2.2.2.2.2.2.2,()),()),(v2.2.2.1,v2.2.2.2.2.2.2.2.2.1,()))
abbrev ykw (v0:dA):(ydM).X:=((((),()),()),((v0.1,v0.2.1.1,v0.2.1.2,(),v0.2.2.2.1,v0.2.2.2.2.1,v0.2.2.2.2.2.1,v0.2.2.2.2.2.2.1,v0.2.2.2.2.2.2.2.1,(),v0.2.2.2.2.2.2.2.2.2.1,v0.2.2.2.2.2.2.2.2.2.2.1,v0.2.2.2.2.2.2.2.2.2.2.2,()),()),(v0.2.2.1,v0.2.2.2.2.2.2.2.2.1,()))
abbrev yky (v0:Bool) (v1:dA):(ydQ).X:=(((v0,()),()),((v1.1,v1.2.1.1,v1.2.1.2,(),v1.2.2.2.1,v1.2.2.2.2.1,v1.2.2.2.2.2.1,v1.2.2.2.2.2.2.1,v1.2.2.2.2.2.2.2.1,(),v1.2.2.2.2.2.2.2.2.2.1,v1.2.2.2.2.2.2.2.2.2.2.1,v1.2.2.2.2.2.2.2.2.2.2.2,()),()),(v1.2.2.1,v1.2.2.2.2.2.2.2.2.1,()))
def ykV (v0 v1 v2 v3:Int) (v4:List Int) (v5 v6 v7 v8 v9 v10 v11 v12 v13:Int) (v14 v15:Bool) (v16:List dM) (v17:List dW):Option ((ya1).X ⊕ ((ydM).X ⊕ (ydQ).X)) :=bif(ltb v1 v0)then let r4:=yl2 v2;let r5:=yl1 (v2,v3,v4);bnd (yeW (v5,(v6,v7),v16,v8,v9,v10,v11,v12,v17,v13,v14,v15) v1 r4 r5) fun r6 =>bif(!r6.1.1)then some (.inr (.inr (((false,()),()),((r6.2.1.1,r6.2.1.2.1.1,r6.2.1.2.1.2,(),r6.2.1.2.2.2.1,r6.2.1.2.2.2.2.1,r6.2.1.2.2.2.2.2.1,r6.2.1.2.2.2.2.2.2.1,r6.2.1.2.2.2.2.2.2.2.1,(),r6.2.1.2.2.2.2.2.2.2.2.2.1,r6.2.1.2.2.2.2.2.2.2.2.2.2.1,r6.2.1.2.2.2.2.2.2.2.2.2.2.2,()),()),(r6.2.1.2.2.1,r6.2.1.2.2.2.2.2.2.2.2.1,())))) else some (.inl ((((),()),((),()),(v0,()),((i64.wrap (v1+1)),()),()),((v2,v3,v4,()),(r6.2.1.1,r6.2.1.2.1.1,r6.2.1.2.1.2,(),r6.2.1.2.2.2.1,r6.2.1.2.2.2.2.1,r6.2.1.2.2.2.2.2.1,r6.2.1.2.2.2.2.2.2.1,r6.2.1.2.2.2.2.2.2.2.1,(),r6.2.1.2.2.2.2.2.2.2.2.2.1,r6.2.1.2.2.2.2.2.2.2.2.2.2.1,r6.2.1.2.2.2.2.2.2.2.2.2.2.2,()),()),(r6.2.1.2.2.1,r6.2.1.2.2.2.2.2.2.2.2.1,()))) else some (.inr (.inl ((((),()),()),((v5,v6,v7,(),v8,v9,v10,v11,v12,(),v13,v14,v15,()),()),(v16,v17,()))))
def ybf (x:(ya1).X):=ykV x.1.2.2.1.1 x.1.2.2.2.1.1 x.2.1.1.1 x.2.1.1.2.1 x.2.1.1.2.2.1 x.2.1.2.1.1 x.2.1.2.1.2.1 x.2.1.2.1.2.2.1 x.2.1.2.1.2.2.2.2.1 x.2.1.2.1.2.2.2.2.2.1 x.2.1.2.1.2.2.2.2.2.2.1 x.2.1.2.1.2.2.2.2.2.2.2.1 x.2.1.2.1.2.2.2.2.2.2.2.2.1 x.2.1.2.1.2.2.2.2.2.2.2.2.2.2.1 x.2.1.2.1.2.2.2.2.2.2.2.2.2.2.2.1 x.2.1.2.1.2.2.2.2.2.2.2.2.2.2.2.2.1 x.2.2.1 x.2.2.2.1
def ytb (x:(ydO).X):(ya1).X:=((((),()),((),()),(x.1.2.2.1.1,()),(0,()),()),((x.2.1.1.1,x.2.1.1.2.1,x.2.1.1.2.2.1,()),(x.2.1.2.1.1,x.2.1.2.1.2.1,x.2.1.2.1.2.2.1,(),x.2.1.2.1.2.2.2.2.1,x.2.1.2.1.2.2.2.2.2.1,x.2.1.2.1.2.2.2.2.2.2.1,x.2.1.2.1.2.2.2.2.2.2.2.1,x.2.1.2.1.2.2.2.2.2.2.2.2.1,(),x.2.1.2.1.2.2.2.2.2.2.2.2.2.2.1,x.2.1.2.1.2.2.2.2.2.2.2.2.2.2.2.1,x.2.1.2.1.2.2.2.2.2.2.2.2.2.2.2.2.1,()),()),(x.2.2.1,x.2.2.2.1,()))
def yuF:Code:=(zeJ yjH 64 52).getD .skip
theorem yID:zeJ yjH 64 13=some (.block 0 (.loop yuF)):=by kernel_rfl
theorem yI8 (x:(ya1).X):zhu ⟨ypR,26,yv1⟩ 0 yuF 52 ya1 ydM ydQ x=ybf x:=by kernel_rfl
def yte (x:(ydO).X):Nat:=18446744073709551616
def yk5 (x:(ydO).X):Option ((ydM).X ⊕ (ydQ).X):=zF ybf (yte x) (ytb x)
def ytk:Seg:=⟨ydO,ydM,ydQ,yk5⟩
def yJC:Nat→Option Seg:=fun q=>bif Nat.beq q 13 then some ytk else yv1 q
theorem yIJ:FrOk prog ⟨ypR,26,yJC⟩ yjH:=(yII).loop (sg:=ytk) ya1 ytb (by decide) yID ybf yte (by decide) (fun _=>rfl) (fun x r _ h=>h) yI8
abbrev yf8:List Par:= [.pt tA (.pr .fz (.pr (.pr .fz .fz) (.pr (.ow (.pr (.ow (.ow .fz)) (.pr (.ow (.pr .fz (.ow .fz))) (.pr .fz (.ow .fz))))) (.pr .fz (.pr .fz (.pr .fz (.pr .fz (.pr .fz (.pr (.ow (.pr .fz (.ow .fz))) (.pr .fz (.pr .fz .fz))))))))))),.rd tN]
abbrev yjP:List OT:= [⟨false,tB,.fz⟩]
def ymE (a0:dA) (a1:dN):Option (zaY yjP×zak yf8) :=zkr (yk5 ((((),()),((),()),((a0.2.2.1.length:Int),()),((),()),()),((a1.1,a1.2.1,a1.2.2,()),(a0.1,a0.2.1.1,a0.2.1.2,(),a0.2.2.2.1,a0.2.2.2.2.1,a0.2.2.2.2.2.1,a0.2.2.2.2.2.2.1,a0.2.2.2.2.2.2.2.1,(),a0.2.2.2.2.2.2.2.2.2.1,a0.2.2.2.2.2.2.2.2.2.2.1,a0.2.2.2.2.2.2.2.2.2.2.2,()),()),(a0.2.2.1,a0.2.2.2.2.2.2.2.2.1,()))) (fun y6 =>bnd (yfP (y6.2.1.1.1,(y6.2.1.1.2.1,y6.2.1.1.2.2.1),y6.2.2.1,y6.2.1.1.2.2.2.2.1,y6.2.1.1.2.2.2.2.2.1,y6.2.1.1.2.2.2.2.2.2.1,y6.2.1.1.2.2.2.2.2.2.2.1,y6.2.1.1.2.2.2.2.2.2.2.2.1,y6.2.2.2.1,y6.2.1.1.2.2.2.2.2.2.2.2.2.2.1,y6.2.1.1.2.2.2.2.2.2.2.2.2.2.2.1,y6.2.1.1.2.2.2.2.2.2.2.2.2.2.2.2.1)) fun r8 =>some ((r8.1.1,()),(r8.2.1,()))) (fun y6 =>some ((y6.1.1.1,()),((y6.2.1.1.1,(y6.2.1.1.2.1,y6.2.1.1.2.2.1),y6.2.2.1,y6.2.1.1.2.2.2.2.1,y6.2.1.1.2.2.2.2.2.1,y6.2.1.1.2.2.2.2.2.2.1,y6.2.1.1.2.2.2.2.2.2.2.1,y6.2.1.1.2.2.2.2.2.2.2.2.1,y6.2.2.2.1,y6.2.1.1.2.2.2.2.2.2.2.2.2.2.1,y6.2.1.1.2.2.2.2.2.2.2.2.2.2.2.1,y6.2.1.1.2.2.2.2.2.2.2.2.2.2.2.2.1),())))
theorem yKd:ConOk prog 97 ⟨yf8,yjP,fun x=>ymE x.1 x.2.1⟩:=zkG (yIJ) func97 ntmps97.symm fun x=>by kernel_rfl
def ygK (a0:dA) (a1:dN):Bool×dA:=(!(ya (yp a0 a1)),yp a0 a1)
def yd4 (a0:dA) (a1:dN):Bool:= !(ya a0)
theorem yL7 (a0:dA) (a1:dN) (hk:zjw yf8 (a0,a1,())) (hq:yd4 a0 a1=true):ymE a0 a1=(fun n=>some ((n.1,()),(n.2,()))) (ygK a0 a1):=by
 have hb:a0.2.2.1.length*80≤2^47:=hk.1.2.2.1.1;have hd0:ya a0=false:=by simpa [yd4]using hq
 have h1:yk5 (yH7 a0.2.2.1.length a1 a0)=some (bif ya ((List.range a0.2.2.1.length).foldl (ybd a1) a0)then .inr (yky false ((List.range a0.2.2.1.length).foldl (ybd a1) a0))else .inl (ykw ((List.range a0.2.2.1.length).foldl (ybd a1) a0))):=by
  have:=zkA (step:=ybf) a0.2.2.1.length (fun i s=>yku a0.2.2.1.length i a1 s) (fun i s=>bif ya (ybd a1 s i)then(.inr (ybd a1 s i):dA ⊕ dA)else .inl (ybd a1 s i)) (fun _ s=>s.2.2.1.length=a0.2.2.1.length∧ya s=false) id
   (fun b=>bif ya b then .inr (yky false b)else .inl (ykw b)) (fun i s hi hs=>by
    constructor
    ·simp only[ybf,yku,ykV,zkw (show(i:Int)<a0.2.2.1.length by omega),cond_true,wq ((i:Int)+1) (by omega) (by omega),Int.natCast_add,Int.natCast_one,Int.toNat_natCast,zkV,yLy,yl1]
     rw[yqw s i (yh a1.1) (yac a1) (by unfold ydc; rw[zkP (by rw[hs.1]; exact hi),hs.2]; rfl)];simp only[zkF,ydb];rw[show yby s i (yh a1.1) (yac a1)=ybd a1 s i from rfl];cases hd:ya (ybd a1 s i)
     ·rfl
     ·simp only[hd,Bool.not_true,Bool.not_false,cond_true,yky]
    ·intro s' h
     cases hd:ya (ybd a1 s i)
     ·rw[hd]at h
      cases h;exact⟨(ylB a1 s i).trans hs.1,hd⟩
     ·rw[hd]at h; cases h) (fun s hs=>by simp only[ybf,yku,ykV,hs.2,zk1 (Int.le_refl _),cond_false,id,ykw]) a0 ⟨rfl,hd0⟩ 18446744073709551616 (by omega)
  rw[yE1 (fun a i h=>yPG a1 i h),← List.range_eq_range']at this;exact this
 unfold ymE ygK yp;refine(congrArg (fun z=>zkr z _ _) h1).trans ?_;cases hd:ya ((List.range a0.2.2.1.length).foldl (ybd a1) a0)
 ·simp only[cond_false,zkL,zkV]
  rw[ysx _ (by unfold yfQ; rw[hd]; rfl)]; rfl
 ·rw[ytm hd]
  simp only[cond_true,zkM,zkV];rw[hd]; rfl
def ybh (a0:dA) (a1:dN):Option (zaY yjP×zak yf8):=bif yd4 a0 a1 then(fun n=>some ((n.1,()),(n.2,()))) (ygK a0 a1)else none
theorem yzC (a0:dA) (a1:dN) (h:yd4 a0 a1=true):ybh a0 a1=(fun n=>some ((n.1,()),(n.2,()))) (ygK a0 a1):=by unfold ybh; rw[h]; rfl
def ymr:Con:=⟨yf8,yjP,fun x=>ybh x.1 x.2.1⟩
theorem yzA:ConOk prog 97 ymr:=(yKd).mono (fun x r hk h=>zkW h (fun hq=>yL7 x.1 x.2.1 hk hq))
def y0k:Code:=(f111.body).getD .skip
def y0Q:Env:=zku TT [(81,yM)] []
theorem yQp:FrOk prog ⟨y0Q,9,fun _=>none⟩ y0k:=zky yf yg ⟨yS,trivial⟩
abbrev yz7:List Par:= [.rd tI]
abbrev yAs:List OT:= [⟨false,tI,.fz⟩]
def yGS (a0:Int):Option (zaY yAs×zak yz7) :=let r1:=yj a0 0 1099511627776;bif(!r1)then some (((-1),()),()) else some (((i64.wrap ((i64.wrap (a0+2))+4)),()),())
theorem yVL:ConOk prog 111 ⟨yz7,yAs,fun x=>yGS x.1⟩:=zkG (yQp) func111 ntmps111.symm fun x=>by kernel_rfl
def yic (a0:Int):Int :=let r1:=yj a0 0 1099511627776;bif(!r1)then (-1) else (i64.wrap ((i64.wrap (a0+2))+4))
def ynu:Con:=⟨yz7,yAs,fun x=>(fun n=>some ((n,()),())) (yic x.1)⟩
theorem yYd (a0:Int):yGS a0=(fun n=>some ((n,()),())) (yic a0):=zkT (p:=fun(n:Int)=>((n,()),())) (zkE (p:=fun(n:Int)=>((n,()),())) rfl rfl)
theorem yxW:ConOk prog 111 ynu:=(yVL).mono (fun x r _ h=>(yYd x.1).trans h)
def y0y:Code:=(f113.body).getD .skip
def y04:Env:=zku TT [(82,yL)] []
theorem yQK:FrOk prog ⟨y04,9,fun _=>none⟩ y0y:=zky yf yg ⟨yT,trivial⟩
abbrev yAg:List Par:= [.rd tI]
abbrev yAI:List OT:= [⟨false,tI,.fz⟩]
def yG1 (a0:Int):Option (zaY yAI×zak yAg) :=let r1:=yb a0 0 1099511627776;bif(!r1)then some (((-1),()),()) else some (((i64.wrap ((i64.wrap (a0+2))+4)),()),())
theorem yV2:ConOk prog 113 ⟨yAg,yAI,fun x=>yG1 x.1⟩:=zkG (yQK) func113 ntmps113.symm fun x=>by kernel_rfl
def yba (a0:Int):Int :=let r1:=yb a0 0 1099511627776;bif(!r1)then (-1) else (i64.wrap ((i64.wrap (a0+2))+4))
def ydT:Con:=⟨yAg,yAI,fun x=>(fun n=>some ((n,()),())) (yba x.1)⟩
theorem yYu (a0:Int):yG1 a0=(fun n=>some ((n,()),())) (yba a0):=zkT (p:=fun(n:Int)=>((n,()),())) (zkE (p:=fun(n:Int)=>((n,()),())) rfl rfl)
theorem yg5:ConOk prog 113 ydT:=(yV2).mono (fun x r _ h=>(yYu x.1).trans h)
theorem yeZ (s:Int):yba s=yy s:=by
 unfold yba yy;rw[ybU];by_cases h:0≤s∧s≤1099511627776
 ·rw[zk0 h.1,zk0 h.2,wq (s+2) (by omega) (by omega),wr (by omega) (by omega)]
  show s+2+4=s+6;omega
 ·cases h1:(leb 0 s&&leb s 1099511627776)
  ·rfl
  ·rw[Bool.and_eq_true,zj5,zj5]at h1; exact absurd h1 h
theorem yxR (s:Int):yic s=yy s:=yeZ s
def yTk:Code:=(f167.body).getD .skip
def yTN:Env:=zku TT [(109,ydi)] []
theorem yK5:FrOk prog ⟨yTN,17,fun _=>none⟩ yTk:=zky yf yg ⟨ygM,trivial⟩
abbrev ym1:List Par:= [.rd tG,.rd tI]
abbrev yug:List OT:= [⟨false,tI,.fz⟩]
def yqC (a0:dG) (a1:Int):Option (zaY yug×zak ym1) :=let r1:=yaI a0 a1;bif(!r1)then some (((-1),()),()) else bif(a0.1 !=0)then some (((i64.wrap ((i64.wrap (a0.1-1))-(a1.tmod a0.1))),()),()) else none
theorem yOP:ConOk prog 167 ⟨ym1,yug,fun x=>yqC x.1 x.2.1⟩:=zkG (yK5) func167 ntmps167.symm fun x=>by kernel_rfl
def ydV (a0:dG) (a1:Int):Int:=yk a0 a1
theorem yRP (a0:dG) (a1:Int) (hk:zjw ym1 (a0,a1,())):yqC a0 a1=(fun n=>some ((n,()),())) (ydV a0 a1):=by
 unfold yqC ydV;rw[yyy];cases hs:yN a0 a1
 ·unfold yk; rw[hs]; rfl
 ·have h1:=yW.1 hs
  have h2:=yl.1 h1.1;have h3:=yju hs;have h4:yk a0 a1=a0.1-1-a1.tmod a0.1:=by unfold yk; rw[hs]; rfl
  rw[show(a0.1 !=0)=true from bne_iff_ne.2 (by omega),wq (a0.1-1) (by omega) (by omega),wq (a0.1-1-a1.tmod a0.1) (by omega) (by omega),h4]; rfl
def yqd:Con:=⟨ym1,yug,fun x=>(fun n=>some ((n,()),())) (ydV x.1 x.2.1)⟩
theorem yE9:ConOk prog 167 yqd:=(yOP).mono (fun x r hk h=>(yRP x.1 x.2.1 hk).trans h)
def y0l:Code:=(f142.body).getD .skip
def y0R:Env:=zku TT [(81,yM),(109,ydi),(167,yqd)] []
theorem yQs:FrOk prog ⟨y0R,28,fun _=>none⟩ y0l:=zky yf yg ⟨yS,ygM,yE9,trivial⟩
abbrev yrt:List Par:= [.rd tG,.rd tI,.rd tI]
abbrev yAu:List OT:= [⟨false,tI,.fz⟩]
def yvz (a0:dG) (a1 a2:Int):Option (zaY yAu×zak yrt) :=let r1:=yaI a0 a1;bif(!(!r1))then let r2:=yj a2 0 (i64.wrap (a0.1-2));bif(!r2)then some (((-1),()),()) else let r3:=ydV a0 a1;bif(a0.1 !=0)then some ((((i64.wrap ((i64.wrap (r3+1))+a2)).tmod a0.1),()),()) else none else some (((-1),()),())
theorem yVN:ConOk prog 142 ⟨yrt,yAu,fun x=>yvz x.1 x.2.1 x.2.2.1⟩:=zkG (yQs) func142 ntmps142.symm fun x=>by kernel_rfl
def yf2 (a0:dG) (a1 a2:Int):Int:=yaV a0 a1 a2
theorem yYf (a0:dG) (a1 a2:Int) (hk:zjw yrt (a0,a1,a2,())):yvz a0 a1 a2=(fun n=>some ((n,()),())) (yf2 a0 a1 a2):=by
 unfold yvz yf2 yaV ydV;rw[yyy];cases hs:yN a0 a1
 ·rfl
 ·have h1:=yW.1 hs
  have h2:=yl.1 h1.1;have h3:=yju hs;rw[yal,ybU,wq (a0.1-2) (by omega) (by omega)];cases hi:(leb 0 a2&&leb a2 (a0.1-2))
  ·rfl
  ·rw[Bool.and_eq_true,zj5,zj5]at hi
   rw[show(a0.1 !=0)=true from bne_iff_ne.2 (by omega)];show some (((i64.wrap (i64.wrap (yk a0 a1+1)+a2)).tmod a0.1,()),())=some (((yk a0 a1+1+a2).tmod a0.1,()),());rw[wq (yk a0 a1+1) (by omega) (by omega),wq (yk a0 a1+1+a2) (by omega) (by omega)]
def yuJ:Con:=⟨yrt,yAu,fun x=>(fun n=>some ((n,()),())) (yf2 x.1 x.2.1 x.2.2.1)⟩
theorem yIb:ConOk prog 142 yuJ:=(yVN).mono (fun x r hk h=>(yYf x.1 x.2.1 x.2.2.1 hk).trans h)
end
end Go.Tf
