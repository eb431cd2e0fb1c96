/- Functions of the program, and what they come to. -/
import Derived.Test.YtolmneojjjpnjaaGreatBuiltTornF0
namespace Go.Tf
noncomputable section
open Go.Proofs Go.Proofs.Tryz IntKind
set_option synthInstance.maxHeartbeats 400000
set_option synthInstance.maxSize 10000
set_option linter.unusedVariables false
set_option linter.unusedSimpArgs false
set_option maxRecDepth 100000
def ydy:Code:=(f16.body).getD .skip
def yid:Env:=zkw TT [(55,ybW),(73,yBU),(74,yp8)] []
theorem yLn:FrOk prog ⟨yid,109,fun _=>none⟩ ydy:=zkA mixed yf ⟨yes,ySP,yFd,trivial⟩
def yBp:Nat→Option Seg:=fun _=>none
def ybG:Shape:=⟨[(0,false,[.br tM]),(1,false,[ii]),(4,false,[.ptr 0 0]),(6,false,[.ptr 4160 0]),(7,false,[.bool]),(18,false,[.br tM]),(19,false,[ii]),(20,false,[ii])],[(0,oK),(4160,oQ)],[]⟩
def yfm:Shape:=⟨[(0,false,[.br tM]),(1,false,[ii]),(4,false,[.ptr 0 0]),(6,false,[.ptr 4160 0]),(7,false,[.cb false]),(18,false,[.br tM]),(19,false,[ii]),(20,false,[.ci .i64 0])],[(0,oK),(4160,oQ)],[]⟩
def yfc:Shape:=⟨[(0,false,[.br tM]),(1,false,[ii]),(4,false,[.ptr 0 0]),(6,false,[.ptr 4160 0]),(7,false,[.bool])],[(0,oK),(4160,oQ)],[]⟩
def yiT:Shape:=⟨[],[],[]⟩
abbrev ymt (v0:List dM) (v1:Int) (v2:Bool) (v3:List dM) (v4 v5:Int) (v6:dA) (v7:dS):(ybG).X:=(((v0,()),(v1,()),((),()),((),()),(v2,()),(v3,()),(v4,()),(v5,()),()),((v6.1,v6.2.1.1,v6.2.1.2,(),v6.2.2.2.1,v6.2.2.2.2.1,v6.2.2.2.2.2.1,v6.2.2.2.2.2.2.1,v6.2.2.2.2.2.2.2.1,(),v6.2.2.2.2.2.2.2.2.2.1,v6.2.2.2.2.2.2.2.2.2.2.1,v6.2.2.2.2.2.2.2.2.2.2.2,()),(v7.1,v7.2.1,v7.2.2.1,v7.2.2.2.1,v7.2.2.2.2.1,v7.2.2.2.2.2.1,v7.2.2.2.2.2.2.1,v7.2.2.2.2.2.2.2,()),()),())
abbrev yKu (v0:List dM) (v1:Int) (v2:List dM) (v3:Int) (v4:dA) (v5:dS):(yfm).X:=(((v0,()),(v1,()),((),()),((),()),((),()),(v2,()),(v3,()),((),()),()),((v4.1,v4.2.1.1,v4.2.1.2,(),v4.2.2.2.1,v4.2.2.2.2.1,v4.2.2.2.2.2.1,v4.2.2.2.2.2.2.1,v4.2.2.2.2.2.2.2.1,(),v4.2.2.2.2.2.2.2.2.2.1,v4.2.2.2.2.2.2.2.2.2.2.1,v4.2.2.2.2.2.2.2.2.2.2.2,()),(v5.1,v5.2.1,v5.2.2.1,v5.2.2.2.1,v5.2.2.2.2.1,v5.2.2.2.2.2.1,v5.2.2.2.2.2.2.1,v5.2.2.2.2.2.2.2,()),()),())
abbrev ywB (v0:List dM) (v1:Int) (v2:Bool) (v3:dA) (v4:dS):(yfc).X:=(((v0,()),(v1,()),((),()),((),()),(v2,()),()),((v3.1,v3.2.1.1,v3.2.1.2,(),v3.2.2.2.1,v3.2.2.2.2.1,v3.2.2.2.2.2.1,v3.2.2.2.2.2.2.1,v3.2.2.2.2.2.2.2.1,(),v3.2.2.2.2.2.2.2.2.2.1,v3.2.2.2.2.2.2.2.2.2.2.1,v3.2.2.2.2.2.2.2.2.2.2.2,()),(v4.1,v4.2.1,v4.2.2.1,v4.2.2.2.1,v4.2.2.2.2.1,v4.2.2.2.2.2.1,v4.2.2.2.2.2.2.1,v4.2.2.2.2.2.2.2,()),()),())
def ymF (v0:List dM) (v1:Int) (v2:Bool) (v3:List dM) (v4 v5 v6 v7 v8 v9 v10 v11 v12 v13 v14:Int) (v15 v16:Bool) (v17 v18 v19 v20 v21 v22 v23 v24:Int):Option ((ybG).X ⊕ ((yfc).X ⊕ (yiT).X)) :=bif(ltb v5 v4)then bif(inb v5 v3.length)then let r2:=ydZ ((nth v3 v5 ([],[],false,[])).1,((nth v3 v5 ([],[],false,[])).2).1,(((nth v3 v5 ([],[],false,[])).2).2)) v5 v1;bif r2.2 then bif(!(!v2))then bif(ltb v18 r2.1.2.1)then some (.inl (((v0,()),(v1,()),((),()),((),()),(true,()),(v3,()),(v4,()),((i64.wrap (v5+1)),()),()),((v6,v7,v8,(),v9,v10,v11,v12,v13,(),v14,v15,v16,()),(r2.1.1,r2.1.2.1,r2.1.2.2.1,r2.1.2.2.2.1,r2.1.2.2.2.2.1,r2.1.2.2.2.2.2.1,r2.1.2.2.2.2.2.2.1,r2.1.2.2.2.2.2.2.2,()),()),())) else some (.inl (((v0,()),(v1,()),((),()),((),()),(v2,()),(v3,()),(v4,()),((i64.wrap (v5+1)),()),()),((v6,v7,v8,(),v9,v10,v11,v12,v13,(),v14,v15,v16,()),(v17,v18,v19,v20,v21,v22,v23,v24,()),()),())) else some (.inl (((v0,()),(v1,()),((),()),((),()),(true,()),(v3,()),(v4,()),((i64.wrap (v5+1)),()),()),((v6,v7,v8,(),v9,v10,v11,v12,v13,(),v14,v15,v16,()),(r2.1.1,r2.1.2.1,r2.1.2.2.1,r2.1.2.2.2.1,r2.1.2.2.2.2.1,r2.1.2.2.2.2.2.1,r2.1.2.2.2.2.2.2.1,r2.1.2.2.2.2.2.2.2,()),()),())) else some (.inl (((v0,()),(v1,()),((),()),((),()),(v2,()),(v3,()),(v4,()),((i64.wrap (v5+1)),()),()),((v6,v7,v8,(),v9,v10,v11,v12,v13,(),v14,v15,v16,()),(v17,v18,v19,v20,v21,v22,v23,v24,()),()),())) else none else some (.inr (.inl (((v0,()),(v1,()),((),()),((),()),(v2,()),()),((v6,v7,v8,(),v9,v10,v11,v12,v13,(),v14,v15,v16,()),(v17,v18,v19,v20,v21,v22,v23,v24,()),()),())))
def yb1 (x:(ybG).X):=ymF x.1.1.1 x.1.2.1.1 x.1.2.2.2.2.1.1 x.1.2.2.2.2.2.1.1 x.1.2.2.2.2.2.2.1.1 x.1.2.2.2.2.2.2.2.1.1 x.2.1.1.1 x.2.1.1.2.1 x.2.1.1.2.2.1 x.2.1.1.2.2.2.2.1 x.2.1.1.2.2.2.2.2.1 x.2.1.1.2.2.2.2.2.2.1 x.2.1.1.2.2.2.2.2.2.2.1 x.2.1.1.2.2.2.2.2.2.2.2.1 x.2.1.1.2.2.2.2.2.2.2.2.2.2.1 x.2.1.1.2.2.2.2.2.2.2.2.2.2.2.1 x.2.1.1.2.2.2.2.2.2.2.2.2.2.2.2.1 x.2.1.2.1.1 x.2.1.2.1.2.1 x.2.1.2.1.2.2.1 x.2.1.2.1.2.2.2.1 x.2.1.2.1.2.2.2.2.1 x.2.1.2.1.2.2.2.2.2.1 x.2.1.2.1.2.2.2.2.2.2.1 x.2.1.2.1.2.2.2.2.2.2.2.1
def ywh (x:(yfm).X):(ybG).X:=(((x.1.1.1,()),(x.1.2.1.1,()),((),()),((),()),(false,()),(x.1.2.2.2.2.2.1.1,()),(x.1.2.2.2.2.2.2.1.1,()),(0,()),()),((x.2.1.1.1,x.2.1.1.2.1,x.2.1.1.2.2.1,(),x.2.1.1.2.2.2.2.1,x.2.1.1.2.2.2.2.2.1,x.2.1.1.2.2.2.2.2.2.1,x.2.1.1.2.2.2.2.2.2.2.1,x.2.1.1.2.2.2.2.2.2.2.2.1,(),x.2.1.1.2.2.2.2.2.2.2.2.2.2.1,x.2.1.1.2.2.2.2.2.2.2.2.2.2.2.1,x.2.1.1.2.2.2.2.2.2.2.2.2.2.2.2.1,()),(x.2.1.2.1.1,x.2.1.2.1.2.1,x.2.1.2.1.2.2.1,x.2.1.2.1.2.2.2.1,x.2.1.2.1.2.2.2.2.1,x.2.1.2.1.2.2.2.2.2.1,x.2.1.2.1.2.2.2.2.2.2.1,x.2.1.2.1.2.2.2.2.2.2.2.1,()),()),())
def yyS:Code:=(zd7 ydy 64 116).getD .skip
theorem yK1:zd7 ydy 64 29=some (.block 0 (.loop yyS)):=by kernel_rfl
theorem yMM (x:(ybG).X):zhu ⟨yid,109,yBp⟩ 0 yyS 116 ybG yfc yiT x=yb1 x:=by kernel_rfl
def yws (x:(yfm).X):Nat:=18446744073709551616
def ynK (x:(yfm).X):Option ((yfc).X ⊕ (yiT).X):=zF yb1 (yws x) (ywh x)
def ywM:Seg:=⟨yfm,yfc,yiT,ynK⟩
def ypL:Nat→Option Seg:=fun q=>bif Nat.beq q 29 then some ywM else yBp q
theorem yLo:FrOk prog ⟨yid,109,ypL⟩ ydy:=(yLn).loop (sg:=ywM) ybG ywh (by decide) yK1 yb1 yws (by decide) (fun _=>rfl) (fun x r _ h=>h) yMM
def ybk:Shape:=⟨[(1,false,[ii]),(4,false,[.ptr 0 0]),(12,false,[.ptr 46272 0]),(75,false,[.br tM]),(76,false,[ii]),(77,false,[ii])],[(0,oK),(46272,oP)],[(800000000,tM,oA)]⟩
def yeE:Shape:=⟨[(1,false,[ii]),(4,false,[.ptr 0 0]),(12,false,[.ptr 46272 0]),(75,false,[.br tM]),(76,false,[ii]),(77,false,[.ci .i64 0])],[(0,oK),(46272,oP)],[(800000000,tM,oA)]⟩
def yey:Shape:=⟨[(4,false,[.ptr 0 0]),(12,false,[.ptr 46272 0])],[(0,oK),(46272,oP)],[(800000000,tM,oA)]⟩
def yhM:Shape:=⟨[],[],[]⟩
abbrev ylw (v0:Int) (v1:List dM) (v2 v3:Int) (v4 v5:dA):(ybk).X:=(((v0,()),((),()),((),()),(v1,()),(v2,()),(v3,()),()),((v4.1,v4.2.1.1,v4.2.1.2,(),v4.2.2.2.1,v4.2.2.2.2.1,v4.2.2.2.2.2.1,v4.2.2.2.2.2.2.1,v4.2.2.2.2.2.2.2.1,(),v4.2.2.2.2.2.2.2.2.2.1,v4.2.2.2.2.2.2.2.2.2.2.1,v4.2.2.2.2.2.2.2.2.2.2.2,()),(v5.1,v5.2.1.1,v5.2.1.2,(),v5.2.2.2.1,v5.2.2.2.2.1,v5.2.2.2.2.2.1,v5.2.2.2.2.2.2.1,v5.2.2.2.2.2.2.2.1,(),v5.2.2.2.2.2.2.2.2.2.1,v5.2.2.2.2.2.2.2.2.2.2.1,v5.2.2.2.2.2.2.2.2.2.2.2,()),()),(v5.2.2.1,()))
abbrev yJk (v0:Int) (v1:List dM) (v2:Int) (v3 v4:dA):(yeE).X:=(((v0,()),((),()),((),()),(v1,()),(v2,()),((),()),()),((v3.1,v3.2.1.1,v3.2.1.2,(),v3.2.2.2.1,v3.2.2.2.2.1,v3.2.2.2.2.2.1,v3.2.2.2.2.2.2.1,v3.2.2.2.2.2.2.2.1,(),v3.2.2.2.2.2.2.2.2.2.1,v3.2.2.2.2.2.2.2.2.2.2.1,v3.2.2.2.2.2.2.2.2.2.2.2,()),(v4.1,v4.2.1.1,v4.2.1.2,(),v4.2.2.2.1,v4.2.2.2.2.1,v4.2.2.2.2.2.1,v4.2.2.2.2.2.2.1,v4.2.2.2.2.2.2.2.1,(),v4.2.2.2.2.2.2.2.2.2.1,v4.2.2.2.2.2.2.2.2.2.2.1,v4.2.2.2.2.2.2.2.2.2.2.2,()),()),(v4.2.2.1,()))
abbrev yvt (v0 v1:dA):(yey).X:=((((),()),((),()),()),((v0.1,v0.2.1.1,v0.2.1.2,(),v0.2.2.2.1,v0.2.2.2.2.1,v0.2.2.2.2.2.1,v0.2.2.2.2.2.2.1,v0.2.2.2.2.2.2.2.1,(),v0.2.2.2.2.2.2.2.2.2.1,v0.2.2.2.2.2.2.2.2.2.2.1,v0.2.2.2.2.2.2.2.2.2.2.2,()),(v1.1,v1.2.1.1,v1.2.1.2,(),v1.2.2.2.1,v1.2.2.2.2.1,v1.2.2.2.2.2.1,v1.2.2.2.2.2.2.1,v1.2.2.2.2.2.2.2.1,(),v1.2.2.2.2.2.2.2.2.2.1,v1.2.2.2.2.2.2.2.2.2.2.1,v1.2.2.2.2.2.2.2.2.2.2.2,()),()),(v1.2.2.1,()))
def ylK (v0:Int) (v1:List dM) (v2 v3 v4 v5 v6 v7 v8 v9 v10 v11 v12:Int) (v13 v14:Bool) (v15 v16 v17 v18 v19 v20 v21 v22 v23:Int) (v24 v25:Bool) (v26:List dM):Option ((ybk).X ⊕ ((yey).X ⊕ (yhM).X)) :=bif(ltb v3 v2)then bif(inb v3 v1.length)then let r6:=ydZ ((nth v1 v3 ([],[],false,[])).1,((nth v1 v3 ([],[],false,[])).2).1,(((nth v1 v3 ([],[],false,[])).2).2)) v3 v0;bif r6.2 then some (.inl (((v0,()),((),()),((),()),(v1,()),(v2,()),((i64.wrap (v3+1)),()),()),((v4,v5,v6,(),v7,v8,v9,v10,v11,(),v12,v13,v14,()),(v15,v16,v17,(),v18,v19,v20,v21,v22,(),v23,v24,v25,()),()),(v26,()))) else bif(!(v18==(-1)))then bif(v18==v3)then some (.inl (((v0,()),((),()),((),()),(v1,()),(v2,()),((i64.wrap (v3+1)),()),()),((v4,v5,v6,(),v7,v8,v9,v10,v11,(),v12,v13,v14,()),(v15,v16,v17,(),v3,0,v20,v21,v22,(),v23,v24,v25,()),()),(v26,()))) else some (.inl (((v0,()),((),()),((),()),(v1,()),(v2,()),((i64.wrap (v3+1)),()),()),((v4,v5,v6,(),v7,v8,v9,v10,v11,(),v12,v13,v14,()),(v15,v16,v17,(),v18,v19,v20,v21,v22,(),v23,v24,true,()),()),(v26,()))) else some (.inl (((v0,()),((),()),((),()),(v1,()),(v2,()),((i64.wrap (v3+1)),()),()),((v4,v5,v6,(),v7,v8,v9,v10,v11,(),v12,v13,v14,()),(v15,v16,v17,(),v3,0,v20,v21,v22,(),v23,v24,v25,()),()),(v26,()))) else none else some (.inr (.inl ((((),()),((),()),()),((v4,v5,v6,(),v7,v8,v9,v10,v11,(),v12,v13,v14,()),(v15,v16,v17,(),v18,v19,v20,v21,v22,(),v23,v24,v25,()),()),(v26,()))))
def ybz (x:(ybk).X):=ylK x.1.1.1 x.1.2.2.2.1.1 x.1.2.2.2.2.1.1 x.1.2.2.2.2.2.1.1 x.2.1.1.1 x.2.1.1.2.1 x.2.1.1.2.2.1 x.2.1.1.2.2.2.2.1 x.2.1.1.2.2.2.2.2.1 x.2.1.1.2.2.2.2.2.2.1 x.2.1.1.2.2.2.2.2.2.2.1 x.2.1.1.2.2.2.2.2.2.2.2.1 x.2.1.1.2.2.2.2.2.2.2.2.2.2.1 x.2.1.1.2.2.2.2.2.2.2.2.2.2.2.1 x.2.1.1.2.2.2.2.2.2.2.2.2.2.2.2.1 x.2.1.2.1.1 x.2.1.2.1.2.1 x.2.1.2.1.2.2.1 x.2.1.2.1.2.2.2.2.1 x.2.1.2.1.2.2.2.2.2.1 x.2.1.2.1.2.2.2.2.2.2.1 x.2.1.2.1.2.2.2.2.2.2.2.1 x.2.1.2.1.2.2.2.2.2.2.2.2.1 x.2.1.2.1.2.2.2.2.2.2.2.2.2.2.1 x.2.1.2.1.2.2.2.2.2.2.2.2.2.2.2.1 x.2.1.2.1.2.2.2.2.2.2.2.2.2.2.2.2.1 x.2.2.1
def yu4 (x:(yeE).X):(ybk).X:=(((x.1.1.1,()),((),()),((),()),(x.1.2.2.2.1.1,()),(x.1.2.2.2.2.1.1,()),(0,()),()),((x.2.1.1.1,x.2.1.1.2.1,x.2.1.1.2.2.1,(),x.2.1.1.2.2.2.2.1,x.2.1.1.2.2.2.2.2.1,x.2.1.1.2.2.2.2.2.2.1,x.2.1.1.2.2.2.2.2.2.2.1,x.2.1.1.2.2.2.2.2.2.2.2.1,(),x.2.1.1.2.2.2.2.2.2.2.2.2.2.1,x.2.1.1.2.2.2.2.2.2.2.2.2.2.2.1,x.2.1.1.2.2.2.2.2.2.2.2.2.2.2.2.1,()),(x.2.1.2.1.1,x.2.1.2.1.2.1,x.2.1.2.1.2.2.1,(),x.2.1.2.1.2.2.2.2.1,x.2.1.2.1.2.2.2.2.2.1,x.2.1.2.1.2.2.2.2.2.2.1,x.2.1.2.1.2.2.2.2.2.2.2.1,x.2.1.2.1.2.2.2.2.2.2.2.2.1,(),x.2.1.2.1.2.2.2.2.2.2.2.2.2.2.1,x.2.1.2.1.2.2.2.2.2.2.2.2.2.2.2.1,x.2.1.2.1.2.2.2.2.2.2.2.2.2.2.2.2.1,()),()),(x.2.2.1,()))
def yv7:Code:=(zd7 ydy 64 1012).getD .skip
theorem yJ9:zd7 ydy 64 253=some (.block 2 (.loop yv7)):=by kernel_rfl
theorem yKO (x:(ybk).X):zhu ⟨yid,109,ypL⟩ 2 yv7 1012 ybk yey yhM x=ybz x:=by kernel_rfl
def yvd (x:(yeE).X):Nat:=18446744073709551616
def ymm (x:(yeE).X):Option ((yey).X ⊕ (yhM).X):=zF ybz (yvd x) (yu4 x)
def yvV:Seg:=⟨yeE,yey,yhM,ymm⟩
def yNo:Nat→Option Seg:=fun q=>bif Nat.beq q 253 then some yvV else ypL q
theorem yLp:FrOk prog ⟨yid,109,yNo⟩ ydy:=(yLo).loop (sg:=yvV) ybk yu4 (by decide) yJ9 ybz yvd (by decide) (fun _=>rfl) (fun x r _ h=>h) yKO
abbrev ymW:List Par:= [.rd tMs,.rd tI]
abbrev yui:List OT:= [⟨false,tA,oD⟩,⟨false,tB,.fz⟩]
def yqp (a0:List dM) (a1:Int):Option (zaY yui×zak ymW) :=zkt (ynK (((a0,()),(a1,()),((),()),((),()),((),()),(a0,()),((a0.length:Int),()),((),()),()),((0,0,0,(),0,0,0,0,0,(),0,false,false,()),(0,0,0,0,0,0,0,0,()),()),())) (fun y2 =>bif(!(!y2.1.2.2.2.2.1.1))then bif((y2.1.1.1.length:Int) !=y2.2.1.2.1.2.2.2.1)then some (((0,(0,0),[],0,0,0,0,0,[],0,false,false),false,()),()) else let r4:=yfO y2.1.1.1;zkt (ymm (((y2.1.2.1.1,()),((),()),((),()),(y2.1.1.1,()),((y2.1.1.1.length:Int),()),((),()),()),((y2.2.1.1.1,y2.2.1.1.2.1,y2.2.1.1.2.2.1,(),y2.2.1.1.2.2.2.2.1,y2.2.1.1.2.2.2.2.2.1,y2.2.1.1.2.2.2.2.2.2.1,y2.2.1.1.2.2.2.2.2.2.2.1,y2.2.1.1.2.2.2.2.2.2.2.2.1,(),y2.2.1.1.2.2.2.2.2.2.2.2.2.2.1,y2.2.1.1.2.2.2.2.2.2.2.2.2.2.2.1,y2.2.1.1.2.2.2.2.2.2.2.2.2.2.2.2.1,()),(y2.1.2.1.1,y2.2.1.2.1.2.2.2.1,y2.2.1.2.1.2.2.2.2.1,(),y2.2.1.2.1.2.2.2.2.2.2.1,y2.2.1.2.1.2.2.2.2.2.2.2.1,y2.2.1.2.1.2.2.2.2.2.1,y2.2.1.2.1.2.2.2.2.2.1,y2.2.1.2.1.2.1,(),(-1),false,false,()),()),(r4,()))) (fun y6 =>let r8:=yU (y6.2.1.2.1.1,(y6.2.1.2.1.2.1,y6.2.1.2.1.2.2.1),y6.2.2.1,y6.2.1.2.1.2.2.2.2.1,y6.2.1.2.1.2.2.2.2.2.1,y6.2.1.2.1.2.2.2.2.2.2.1,y6.2.1.2.1.2.2.2.2.2.2.2.1,y6.2.1.2.1.2.2.2.2.2.2.2.2.1,[],y6.2.1.2.1.2.2.2.2.2.2.2.2.2.2.1,y6.2.1.2.1.2.2.2.2.2.2.2.2.2.2.2.1,y6.2.1.2.1.2.2.2.2.2.2.2.2.2.2.2.2.1);bif(!r8)then some (((0,(0,0),[],0,0,0,0,0,[],0,false,false),false,()),()) else some (((y6.2.1.2.1.1,(y6.2.1.2.1.2.1,y6.2.1.2.1.2.2.1),y6.2.2.1,y6.2.1.2.1.2.2.2.2.1,y6.2.1.2.1.2.2.2.2.2.1,y6.2.1.2.1.2.2.2.2.2.2.1,y6.2.1.2.1.2.2.2.2.2.2.2.1,y6.2.1.2.1.2.2.2.2.2.2.2.2.1,[],y6.2.1.2.1.2.2.2.2.2.2.2.2.2.2.1,y6.2.1.2.1.2.2.2.2.2.2.2.2.2.2.2.1,y6.2.1.2.1.2.2.2.2.2.2.2.2.2.2.2.2.1),true,()),())) (fun y6 =>none) else some (((0,(0,0),[],0,0,0,0,0,[],0,false,false),false,()),())) (fun y2 =>none)
theorem yOU:ConOk prog 16 ⟨ymW,yui,fun x=>yqp x.1 x.2.1⟩:=zkI (yLp) func16 ntmps16.symm fun x=>by kernel_rfl
def yjf (a0:List dM) (a1:Int):dA×Bool:=yfX a0 a1
theorem yRV (a0:List dM) (a1:Int) (hk:zjx ymW (a0,a1,())):yqp a0 a1=(fun n=>some ((n.1,n.2,()),())) (yjf a0 a1):=by
 have hb:a0.length*80≤2^47:=hk.1.1
 have h0:ynK (yKu a0 a1 a0 a0.length yai yeX)=some (.inl (ywB a0 a1 (ydT a0 a1).2 yai (ydT a0 a1).1)) :=
  zkD (step:=yb1) a0.length (fun i (s:dS×Bool)=>ymt a0 a1 s.2 a0 a0.length i yai s.1) (fun(s:dS×Bool) (i:Nat)=>ylW s (yhU (nth a0 i yc) i a1) (yav (nth a0 i yc) a1).1) (fun _ _=>True) (fun(s:dS×Bool)=> .inl (ywB a0 a1 s.2 yai s.1)) (fun i s hi _=>⟨by
  simp only[yb1,ymt,ymF,zky (show(i:Int)<a0.length by omega),cond_true,wq ((i:Int)+1) (by omega) (by omega),Int.natCast_add,Int.natCast_one,Int.toNat_natCast,zkR hi,zkX,ydZ];cases yhU (nth a0 i yc) i a1
  ·rfl
  simp only[cond_true];unfold ylW
  cases hf:s.2<;>cases ltb s.1.2.1 (yav (nth a0 i yc) a1).1.2.1<;>simp only[Bool.not_true,Bool.not_false,cond_true,cond_false,Bool.and_true,Bool.true_and,Bool.false_and,Bool.and_false,Bool.or_true,Bool.true_or,Bool.false_or,Bool.or_false,hf],trivial⟩) (fun s _=>by simp only[yb1,ymt,ymF,zk3 (Int.le_refl _),cond_false]) (yeX,false) trivial _ (by show _<18446744073709551616; omega)
 have h1: ∀(b:dS) (s:Int×Int×Bool),ymm (yJk a1 a0 a0.length yai (yuJ b a0 a1 s))=some (.inl (yvt yai (yuJ b a0 a1 ((List.range a0.length).foldl (ykt a0 a1) s)))):=fun b s =>
  zkD (step:=ybz) a0.length (fun i s=>ylw a1 a0 a0.length i yai (yuJ b a0 a1 s)) (ykt a0 a1) (fun _ _=>True) (fun s=> .inl (yvt yai (yuJ b a0 a1 s))) (fun i s hi _=>⟨by
   simp only[ybz,ylw,ylK,zky (show(i:Int)<a0.length by omega),cond_true,wq ((i:Int)+1) (by omega) (by omega),Int.natCast_add,Int.natCast_one,Int.toNat_natCast,zkR hi,zkX,ydZ,yuJ];unfold ykt
   cases yhU (nth a0 i yc) i a1<;>cases(s.1== -1)<;>cases(s.1==(i:Int))<;>rfl,trivial⟩) (fun s _=>by simp only[ybz,ylw,ylK,zk3 (Int.le_refl _),cond_false]) s trivial _ (by show _<18446744073709551616; omega)
 unfold yqp yjf yfX yH7;refine(congrArg (fun z=>zkt z _ _) h0).trans ?_;simp only[zkN,yfO,bne];cases(ydT a0 a1).2
 ·rfl
 cases((a0.length:Int)==(ydT a0 a1).1.2.2.2.1)
 ·rfl
 have h2:=h1 (ydT a0 a1).1 ((ydT a0 a1).1.2.2.2.2.2.2.1,(ydT a0 a1).1.2.2.2.2.2.2.2,false);simp only[Bool.not_true,Bool.not_false,cond_true,cond_false,Bool.true_and];refine(congrArg (fun z=>zkt z _ _) h2).trans ?_;simp only[zkN,yU];show(bif !(yM (yuJ (ydT a0 a1).1 a0 a1 ((List.range a0.length).foldl (ykt a0 a1) ((ydT a0 a1).1.2.2.2.2.2.2.1,(ydT a0 a1).1.2.2.2.2.2.2.2,false))))then _ else _)=_;cases yM (yuJ (ydT a0 a1).1 a0 a1 ((List.range a0.length).foldl (ykt a0 a1) ((ydT a0 a1).1.2.2.2.2.2.2.1,(ydT a0 a1).1.2.2.2.2.2.2.2,false)))<;>rfl
def yBM:Con:=⟨ymW,yui,fun x=>(fun n=>some ((n.1,n.2,()),())) (yjf x.1 x.2.1)⟩
theorem ySH:ConOk prog 16 yBM:=(yOU).mono (fun x r hk h=>(yRV x.1 x.2.1 hk).trans h)
def y0m:Code:=(f88.body).getD .skip
def y0U:Env:=zkw TT [] []
theorem yQC:FrOk prog ⟨y0U,8,fun _=>none⟩ y0m:=zkA mixed yf trivial
abbrev yAb:List Par:= [.rd tI]
abbrev yAC:List OT:= [⟨false,tI,.fz⟩]
def yG3 (a0:Int):Option (zaY yAC×zak yAb) :=bif(ltb a0 0)then some (((-1),()),()) else some (((i64.wrap (2+(a0.tmod 4))),()),())
theorem yVS:ConOk prog 88 ⟨yAb,yAC,fun x=>yG3 x.1⟩:=zkI (yQC) func88 ntmps88.symm fun x=>by kernel_rfl
def yl6 (a0:Int):Int :=bif(ltb a0 0)then (-1) else (i64.wrap (2+(a0.tmod 4)))
def yuR:Con:=⟨yAb,yAC,fun x=>(fun n=>some ((n,()),())) (yl6 x.1)⟩
theorem yYg (a0:Int):yG3 a0=(fun n=>some ((n,()),())) (yl6 a0):=zkV (p:=fun(n:Int)=>((n,()),())) (zkG (p:=fun(n:Int)=>((n,()),())) rfl rfl)
theorem yIA:ConOk prog 88 yuR:=(yVS).mono (fun x r _ h=>(yYg x.1).trans h)
def y0E:Code:=(f226.body).getD .skip
def y1c:Env:=zkw TT [(82,yP)] []
theorem yQZ:FrOk prog ⟨y1c,5,fun _=>none⟩ y0E:=zkA mixed yf ⟨yaa,trivial⟩
abbrev yAp:List Par:= [.rd tI]
abbrev yAV:List OT:= [⟨false,tB,.fz⟩]
def yHe (a0:Int):Option (zaY yAV×zak yAp) :=let r1:=yb a0 0 65535;some ((r1,()),())
theorem yWc:ConOk prog 226 ⟨yAp,yAV,fun x=>yHe x.1⟩:=zkI (yQZ) func226 ntmps226.symm fun x=>by kernel_rfl
def yaR (a0:Int):Bool :=let r1:=yb a0 0 65535;r1
def yGu:Con:=⟨yAp,yAV,fun x=>(fun n=>some ((n,()),())) (yaR x.1)⟩
theorem yYx (a0:Int):yHe a0=(fun n=>some ((n,()),())) (yaR a0):=zkV (p:=fun(n:Bool)=>((n,()),())) rfl
theorem yZj:ConOk prog 226 yGu:=(yWc).mono (fun x r _ h=>(yYx x.1).trans h)
def yo3:Code:=(f200.body).getD .skip
def yw7:Env:=zkw TT [(226,yGu)] []
theorem yOh:FrOk prog ⟨yw7,16,fun _=>none⟩ yo3:=zkA mixed yf ⟨yZj,trivial⟩
def yDe:Nat→Option Seg:=fun _=>none
def yd5:Shape:=⟨[(0,false,[.br tI]),(3,false,[ii])],[],[]⟩
def yjJ:Shape:=⟨[(0,false,[.br tI]),(3,false,[.ci .i64 0])],[],[]⟩
def yjH:Shape:=⟨[],[],[]⟩
def yjS:Shape:=⟨[(2,false,[.bool])],[],[]⟩
def yoQ (v0:List Int) (v1:Int):Option ((yd5).X ⊕ ((yjH).X ⊕ (yjS).X)) :=bif(ltb v1 (v0.length:Int))then bif(inb v1 v0.length)then let r2:=yaR (nth v0 v1 0);bif(!r2)then some (.inr (.inr (((false,()),()),(),()))) else some (.inl (((v0,()),((i64.wrap (v1+1)),()),()),(),())) else none else some (.inr (.inl ((),(),())))
def ycE (x:(yd5).X):=yoQ x.1.1.1 x.1.2.1.1
def yzg (x:(yjJ).X):(yd5).X:=(((x.1.1.1,()),(0,()),()),(),())
def yBI:Code:=(zd7 yo3 64 52).getD .skip
theorem yNK:zd7 yo3 64 13=some (.block 0 (.loop yBI)):=by kernel_rfl
theorem yPx (x:(yd5).X):zhu ⟨yw7,16,yDe⟩ 0 yBI 52 yd5 yjH yjS x=ycE x:=by kernel_rfl
def yzv (x:(yjJ).X):Nat:=18446744073709551616
def ypX (x:(yjJ).X):Option ((yjH).X ⊕ (yjS).X):=zF ycE (yzv x) (yzg x)
def yzV:Seg:=⟨yjJ,yjH,yjS,ypX⟩
def yP3:Nat→Option Seg:=fun q=>bif Nat.beq q 13 then some yzV else yDe q
theorem yOi:FrOk prog ⟨yw7,16,yP3⟩ yo3:=(yOh).loop (sg:=yzV) yd5 yzg (by decide) yNK ycE yzv (by decide) (fun _=>rfl) (fun x r _ h=>h) yPx
abbrev ypg:List Par:= [.rd tL]
abbrev yxE:List OT:= [⟨false,tB,.fz⟩]
def ysG (a0:List Int):Option (zaY yxE×zak ypg) :=zkt (ypX (((a0,()),((),()),()),(),())) (fun y2 =>some ((true,()),())) (fun y2 =>some ((y2.1.1.1,()),()))
theorem ySA:ConOk prog 200 ⟨ypg,yxE,fun x=>ysG x.1⟩:=zkI (yOi) func200 ntmps200.symm fun x=>by kernel_rfl
def yay (a0:List Int):Bool:=a0.all yaR
theorem yVC (a0:List Int) (hk:zjx ypg (a0,())):ysG a0=(fun n=>some ((n,()),())) (yay a0):=by
 have hb:a0.length*8≤2^47:=hk.1.1
 have hl:ypX (((a0,()),((),()),()),(),())=some (bif a0.all yaR then .inl ((),(),())else .inr (((false,()),()),(),())) :=
  zj9 (step:=ycE) a0 0 (fun i=>(((a0,()),((i:Int),()),()),(),())) yaR _ _ (fun i hi=>by
   simp only[ycE,yoQ,zkR hi,zkS,zky (show(i:Int)<a0.length by omega),cond_true,wq ((i:Int)+1) (by omega) (by omega),Int.natCast_add,Int.natCast_one]
   cases yaR (a0.getD i 0)<;>rfl) (by simp only[ycE,yoQ,zk3 (Int.le_refl _),cond_false]) _ (by show _<18446744073709551616; omega)
 unfold ysG yay;rw[hl];cases a0.all yaR<;>rfl
def yht:Con:=⟨ypg,yxE,fun x=>(fun n=>some ((n,()),())) (yay x.1)⟩
theorem ynC:ConOk prog 200 yht:=(ySA).mono (fun x r hk h=>(yVC x.1 hk).trans h)
def yo4:Code:=(f152.body).getD .skip
def yw8:Env:=zkw TT [(82,yP),(200,yht)] []
theorem yOj:FrOk prog ⟨yw8,57,fun _=>none⟩ yo4:=zkA mixed yf ⟨yaa,ynC,trivial⟩
def yDf:Nat→Option Seg:=fun _=>none
def ycj:Shape:=⟨[(1,false,[.ptr 0 0]),(3,false,[ii])],[(0,oJ)],[]⟩
def ygs:Shape:=⟨[(1,false,[.ptr 0 0]),(3,false,[.ci .i64 0])],[(0,oJ)],[]⟩
def ygg:Shape:=⟨[],[],[]⟩
def ygy:Shape:=⟨[(2,false,[.bool])],[],[]⟩
abbrev yon (v0:Int) (v1:dA):(ycj).X:=((((),()),(v0,()),()),((v1.1,v1.2.1.1,v1.2.1.2,v1.2.2.1,v1.2.2.2.1,v1.2.2.2.2.1,v1.2.2.2.2.2.1,v1.2.2.2.2.2.2.1,v1.2.2.2.2.2.2.2.1,v1.2.2.2.2.2.2.2.2.1,v1.2.2.2.2.2.2.2.2.2.1,v1.2.2.2.2.2.2.2.2.2.2.1,v1.2.2.2.2.2.2.2.2.2.2.2,()),()),())
abbrev yMj (v0:dA):(ygs).X:=((((),()),((),()),()),((v0.1,v0.2.1.1,v0.2.1.2,v0.2.2.1,v0.2.2.2.1,v0.2.2.2.2.1,v0.2.2.2.2.2.1,v0.2.2.2.2.2.2.1,v0.2.2.2.2.2.2.2.1,v0.2.2.2.2.2.2.2.2.1,v0.2.2.2.2.2.2.2.2.2.1,v0.2.2.2.2.2.2.2.2.2.2.1,v0.2.2.2.2.2.2.2.2.2.2.2,()),()),())
abbrev yL7  :(ygg).X:=((),(),())
abbrev yMp (v0:Bool):(ygy).X:=(((v0,()),()),(),())
def yoR (v0 v1 v2 v3:Int) (v4:List dM) (v5 v6 v7 v8 v9:Int) (v10:List dW) (v11:Int) (v12 v13:Bool):Option ((ycj).X ⊕ ((ygg).X ⊕ (ygy).X)) :=bif(ltb v0 (v10.length:Int))then bif(inb v0 v10.length)then let r3:=yb ((nth v10 v0 (0,[])).1) 0 (i64.wrap (v3-1));bif(!(!r3))then bif(!((((nth v10 v0 (0,[])).2).length:Int) !=(i64.wrap (v2-1))))then let r4:=yay ((nth v10 v0 (0,[])).2);bif(!(!r4))then bif(ltb 0 v0)then bif(inb (i64.wrap (v0-1)) v10.length)then bif(leb ((nth v10 v0 (0,[])).1) ((nth v10 (i64.wrap (v0-1)) (0,[])).1))then some (.inr (.inr (((false,()),()),(),()))) else some (.inl ((((),()),((i64.wrap (v0+1)),()),()),((v1,v2,v3,v4,v5,v6,v7,v8,v9,v10,v11,v12,v13,()),()),())) else none else some (.inl ((((),()),((i64.wrap (v0+1)),()),()),((v1,v2,v3,v4,v5,v6,v7,v8,v9,v10,v11,v12,v13,()),()),())) else some (.inr (.inr (((false,()),()),(),()))) else some (.inr (.inr (((false,()),()),(),()))) else some (.inr (.inr (((false,()),()),(),()))) else none else some (.inr (.inl ((),(),())))
def ycF (x:(ycj).X):=yoR x.1.2.1.1 x.2.1.1.1 x.2.1.1.2.1 x.2.1.1.2.2.1 x.2.1.1.2.2.2.1 x.2.1.1.2.2.2.2.1 x.2.1.1.2.2.2.2.2.1 x.2.1.1.2.2.2.2.2.2.1 x.2.1.1.2.2.2.2.2.2.2.1 x.2.1.1.2.2.2.2.2.2.2.2.1 x.2.1.1.2.2.2.2.2.2.2.2.2.1 x.2.1.1.2.2.2.2.2.2.2.2.2.2.1 x.2.1.1.2.2.2.2.2.2.2.2.2.2.2.1 x.2.1.1.2.2.2.2.2.2.2.2.2.2.2.2.1
def yzh (x:(ygs).X):(ycj).X:=((((),()),(0,()),()),((x.2.1.1.1,x.2.1.1.2.1,x.2.1.1.2.2.1,x.2.1.1.2.2.2.1,x.2.1.1.2.2.2.2.1,x.2.1.1.2.2.2.2.2.1,x.2.1.1.2.2.2.2.2.2.1,x.2.1.1.2.2.2.2.2.2.2.1,x.2.1.1.2.2.2.2.2.2.2.2.1,x.2.1.1.2.2.2.2.2.2.2.2.2.1,x.2.1.1.2.2.2.2.2.2.2.2.2.2.1,x.2.1.1.2.2.2.2.2.2.2.2.2.2.2.1,x.2.1.1.2.2.2.2.2.2.2.2.2.2.2.2.1,()),()),())
def yBJ:Code:=(zd7 yo4 64 52).getD .skip
theorem yNL:zd7 yo4 64 13=some (.block 0 (.loop yBJ)):=by kernel_rfl
theorem yPy (x:(ycj).X):zhu ⟨yw8,57,yDf⟩ 0 yBJ 52 ycj ygg ygy x=ycF x:=by kernel_rfl
def yzw (x:(ygs).X):Nat:=18446744073709551616
def ypY (x:(ygs).X):Option ((ygg).X ⊕ (ygy).X):=zF ycF (yzw x) (yzh x)
def yzW:Seg:=⟨ygs,ygg,ygy,ypY⟩
def yP4:Nat→Option Seg:=fun q=>bif Nat.beq q 13 then some yzW else yDf q
theorem yOk:FrOk prog ⟨yw8,57,yP4⟩ yo4:=(yOj).loop (sg:=yzW) ycj yzh (by decide) yNL ycF yzw (by decide) (fun _=>rfl) (fun x r _ h=>h) yPy
abbrev ykb:List Par:= [.rd tA]
abbrev ypl:List OT:= [⟨false,tB,.fz⟩]
def ysH (a0:dA):Option (zaY ypl×zak ykb) :=zkt (ypY ((((),()),((),()),()),((a0.1,a0.2.1.1,a0.2.1.2,a0.2.2.1,a0.2.2.2.1,a0.2.2.2.2.1,a0.2.2.2.2.2.1,a0.2.2.2.2.2.2.1,a0.2.2.2.2.2.2.2.1,a0.2.2.2.2.2.2.2.2.1,a0.2.2.2.2.2.2.2.2.2.1,a0.2.2.2.2.2.2.2.2.2.2.1,a0.2.2.2.2.2.2.2.2.2.2.2,()),()),())) (fun y4 =>some ((true,()),())) (fun y4 =>some ((y4.1.1.1,()),()))
theorem ySB:ConOk prog 152 ⟨ykb,ypl,fun x=>ysH x.1⟩:=zkI (yOk) func152 ntmps152.symm fun x=>by kernel_rfl
def ykL (a0:dA):Bool:=ya2 a0.2.1 a0.2.2.2.2.2.2.2.2.1
def yx8 (a0:dA):Bool:=ye a0.2.1
theorem yrI (l:List Int):yay l=l.all isW:=by
 unfold yay;rw[show yaR=isW from funext fun x=>by unfold yaR; rw[ybX]; rfl]
theorem yVD (a0:dA) (hk:zjx ykb (a0,())) (hq:yx8 a0=true):ysH a0=(fun n=>some ((n,()),())) (ykL a0):=by
 have hb:a0.2.2.2.2.2.2.2.2.1.length*32≤2^47:=hk.1.2.2.2.2.2.2.2.2.1.1;have hg:=yj.1 hq
 have h1:ypY (yMj a0)=some (bif(List.range a0.2.2.2.2.2.2.2.2.1.length).any (yh3 a0.2.1 a0.2.2.2.2.2.2.2.2.1)then .inr (yMp false)else .inl yL7) :=
  zji (step:=ycF) (fun i=>yon i a0) a0.2.2.2.2.2.2.2.2.1.length (yh3 a0.2.1 a0.2.2.2.2.2.2.2.2.1) _ _ (fun i hi=>by
   simp only[ycF,yon,yoR,zky (show(i:Int)<a0.2.2.2.2.2.2.2.2.1.length by omega),cond_true,wq ((i:Int)+1) (by omega) (by omega),Int.natCast_add,Int.natCast_one,Int.toNat_natCast,zkR hi,ybX,yrI,wq (a0.2.1.2-1) (by omega) (by omega),wq (a0.2.1.1-1) (by omega) (by omega),yh3];rcases Nat.eq_zero_or_pos i with rfl | h0
   ·cases(leb 0 (nth a0.2.2.2.2.2.2.2.2.1 ((0:Nat):Int) (0,[])).1&&leb (nth a0.2.2.2.2.2.2.2.2.1 ((0:Nat):Int) (0,[])).1 (a0.2.1.2-1))<;>cases(((nth a0.2.2.2.2.2.2.2.2.1 ((0:Nat):Int) (0,[])).2.length:Int) !=a0.2.1.1-1)<;>cases((nth a0.2.2.2.2.2.2.2.2.1 ((0:Nat):Int) (0,[])).2.all isW)<;>rfl
   ·rw[show i64.wrap ((i:Int)-1)=((i-1:Nat):Int)by rw[wr (by omega) (by omega)]; omega,zkR (show i-1<a0.2.2.2.2.2.2.2.2.1.length by omega),zky (show(0:Int)<i by omega),decide_eq_true h0]
    cases(leb 0 (nth a0.2.2.2.2.2.2.2.2.1 (i:Int) (0,[])).1&&leb (nth a0.2.2.2.2.2.2.2.2.1 (i:Int) (0,[])).1 (a0.2.1.2-1))<;>cases(((nth a0.2.2.2.2.2.2.2.2.1 (i:Int) (0,[])).2.length:Int) !=a0.2.1.1-1)<;>cases((nth a0.2.2.2.2.2.2.2.2.1 (i:Int) (0,[])).2.all isW)<;>cases leb (nth a0.2.2.2.2.2.2.2.2.1 (i:Int) (0,[])).1 (nth a0.2.2.2.2.2.2.2.2.1 ((i-1:Nat):Int) (0,[])).1<;>rfl) (by simp only[ycF,yon,yoR,zk3 (Int.le_refl _),cond_false]) _ (by show _<18446744073709551616; omega)
 unfold ysH ykL ya2;rw[h1];cases(List.range a0.2.2.2.2.2.2.2.2.1.length).any (yh3 a0.2.1 a0.2.2.2.2.2.2.2.2.1)<;>rfl
def ypD (a0:dA):Option (zaY ypl×zak ykb):=bif yx8 a0 then(fun n=>some ((n,()),())) (ykL a0)else none
theorem yWF (a0:dA) (h:yx8 a0=true):ypD a0=(fun n=>some ((n,()),())) (ykL a0):=by unfold ypD; rw[h]; rfl
def yEp:Con:=⟨ykb,ypl,fun x=>ypD x.1⟩
theorem yWz:ConOk prog 152 yEp:=(ySB).mono (fun x r hk h=>zkY h (fun hq=>yVD x.1 hk hq))
def y16:Code:=(f159.body).getD .skip
def y2l:Env:=zkw TT [(81,yR),(187,yls)] []
theorem yUu:FrOk prog ⟨y2l,22,fun _=>none⟩ y16:=zkA mixed yf ⟨yac,yvy,trivial⟩
abbrev yDt:List Par:= [.rd tN]
abbrev yDF:List OT:= [⟨false,tB,.fz⟩]
def yIP (a0:dN):Option (zaY yDF×zak yDt) :=let r1:=yi a0.1 0 60000;bif r1 then let r2:=yi a0.2.1 0 7;bif r2 then let r3:=yi (a0.2.2.length:Int) 2 4;bif r3 then let r4:=yaI a0.2.2;some ((r4,()),()) else some ((false,()),()) else some ((false,()),()) else some ((false,()),())
theorem yYM:ConOk prog 159 ⟨yDt,yDF,fun x=>yIP x.1⟩:=zkI (yUu) func159 ntmps159.symm fun x=>by kernel_rfl
def ykD (a0:dN):Bool :=let r1:=yi a0.1 0 60000;bif r1 then let r2:=yi a0.2.1 0 7;bif r2 then let r3:=yi (a0.2.2.length:Int) 2 4;bif r3 then let r4:=yaI a0.2.2;r4 else false else false else false
def yxL:Con:=⟨yDt,yDF,fun x=>(fun n=>some ((n,()),())) (ykD x.1)⟩
theorem y1p (a0:dN):yIP a0=(fun n=>some ((n,()),())) (ykD a0):=zkV (p:=fun(n:Bool)=>((n,()),())) (zkG (p:=fun(n:Bool)=>((n,()),())) (zkG (p:=fun(n:Bool)=>((n,()),())) (zkG (p:=fun(n:Bool)=>((n,()),())) rfl rfl) rfl) rfl)
theorem yJR:ConOk prog 159 yxL:=(yYM).mono (fun x r _ h=>(y1p x.1).trans h)
def y2d:Code:=(f162.body).getD .skip
def y2q:Env:=zkw TT [(82,yP),(200,yht)] []
theorem yUJ:FrOk prog ⟨y2q,22,fun _=>none⟩ y2d:=zkA mixed yf ⟨yaa,ynC,trivial⟩
abbrev yDw:List Par:= [.rd tN]
abbrev yDO:List OT:= [⟨false,tB,.fz⟩]
def yIS (a0:dN):Option (zaY yDO×zak yDw) :=let r1:=yb a0.1 0 60000;bif r1 then let r2:=yb a0.2.1 0 7;bif r2 then let r3:=yb (a0.2.2.length:Int) 2 4;bif r3 then let r4:=yay a0.2.2;some ((r4,()),()) else some ((false,()),()) else some ((false,()),()) else some ((false,()),())
theorem yYV:ConOk prog 162 ⟨yDw,yDO,fun x=>yIS x.1⟩:=zkI (yUJ) func162 ntmps162.symm fun x=>by kernel_rfl
def y9 (a0:dN):Bool :=let r1:=yb a0.1 0 60000;bif r1 then let r2:=yb a0.2.1 0 7;bif r2 then let r3:=yb (a0.2.2.length:Int) 2 4;bif r3 then let r4:=yay a0.2.2;r4 else false else false else false
def yIg:Con:=⟨yDw,yDO,fun x=>(fun n=>some ((n,()),())) (y9 x.1)⟩
theorem y1y (a0:dN):yIS a0=(fun n=>some ((n,()),())) (y9 a0):=zkV (p:=fun(n:Bool)=>((n,()),())) (zkG (p:=fun(n:Bool)=>((n,()),())) (zkG (p:=fun(n:Bool)=>((n,()),())) (zkG (p:=fun(n:Bool)=>((n,()),())) rfl rfl) rfl) rfl)
theorem y1Q:ConOk prog 162 yIg:=(yYV).mono (fun x r _ h=>(y1y x.1).trans h)
abbrev yNe:dN:=(0,0,[])
def yaf (r:dN):List Int:=bif y9 r then 21322::r.1::r.2.1::(r.2.2.length:Int)::r.2.2 else[]
def yJx (l:List Int):dN:=(nth l 1 0,nth l 2 0,l.drop 4)
def yaL (l:List Int):dN×Bool:=bif leb 4 (l.length:Int)&&(nth l 0 0==21322&&(nth l 3 0==(l.length:Int)-4&&y9 (yJx l)))then(yJx l,true)else(yNe,false)
theorem yte {r:dN}:y9 r=true↔(0≤r.1∧r.1≤60000)∧(0≤r.2.1∧r.2.1≤7)∧(2≤(r.2.2.length:Int)∧(r.2.2.length:Int)≤4)∧r.2.2.all isW=true:=by
 unfold y9;simp only[yrI,← yvj];cases yb r.1 0 60000<;>cases yb r.2.1 0 7<;>cases yb (r.2.2.length:Int) 2 4<;>simp
theorem yPF (r:dN):ykD r=y9 r:=by
 unfold ykD y9;simp only[yar,yGM,yrI]
def y0i:Code:=(f89.body).getD .skip
def y0Q:Env:=zkw TT [(158,ybh),(159,yxL)] []
theorem yQw:FrOk prog ⟨y0Q,39,fun _=>none⟩ y0i:=zkA mixed yf ⟨yda,yJR,trivial⟩
abbrev yri:List Par:= [.rd tL]
abbrev yAx:List OT:= [⟨false,tN,(.pr .fz oE)⟩,⟨false,tB,.fz⟩]
def yvC (a0:List Int):Option (zaY yAx×zak yri) :=bif(!(ltb (a0.length:Int) 4))then bif(inb 0 a0.length)then bif(!((nth a0 0 0) !=21322))then bif(inb 3 a0.length)then bif((nth a0 3 0) !=(i64.wrap ((a0.length:Int)-4)))then some (((0,0,[]),false,()),()) else bif(inb 1 a0.length)then bif(inb 2 a0.length)then bif(zj0 4 (a0.length:Int) a0.length)then let r1:=yE ((a0.drop (4:Int).toNat).take ((a0.length:Int)-4).toNat);let r2:=ykD ((nth a0 1 0),(nth a0 2 0),r1);bif(!r2)then some (((0,0,[]),false,()),()) else some ((((nth a0 1 0),(nth a0 2 0),r1),true,()),()) else none else none else none else none else some (((0,0,[]),false,()),()) else none else some (((0,0,[]),false,()),())
theorem yVN:ConOk prog 89 ⟨yri,yAx,fun x=>yvC x.1⟩:=zkI (yQw) func89 ntmps89.symm fun x=>by kernel_rfl
def yl3 (a0:List Int):dN×Bool:=yaL a0
theorem yYb (a0:List Int) (hk:zjx yri (a0,())):yvC a0=(fun n=>some ((n.1,n.2,()),())) (yl3 a0):=by
 have hb:a0.length*8≤2^47:=hk.1.1;unfold yvC yl3 yaL yE;by_cases h:(a0.length:Int)<4
 ·rw[zky h,zk1 h]; rfl
 ·have ht:(a0.drop (4:Int).toNat).take ((a0.length:Int)-4).toNat=a0.drop 4:=List.take_of_length_le (by rw[List.length_drop]; show a0.length-4≤_; omega)
  rw[zk3 (Int.not_lt.1 h),zk2 (Int.not_lt.1 h)];simp only[bne,Bool.not_false,cond_true,zj6.2 (show(0:Int)≤0∧(0:Int)<a0.length by omega),zj6.2 (show(0:Int)≤1∧(1:Int)<a0.length by omega),zj6.2 (show(0:Int)≤2∧(2:Int)<a0.length by omega),zj6.2 (show(0:Int)≤3∧(3:Int)<a0.length by omega),zkz.2 (show(0:Int)≤4∧(4:Int)≤a0.length∧(a0.length:Int)≤a0.length by omega),ht,wq ((a0.length:Int)-4) (by omega) (by omega),yPF];rw[show y9 (nth a0 1 0,nth a0 2 0,a0.drop 4)=y9 (yJx a0)from rfl];cases(nth a0 0 0==21322)<;>cases(nth a0 3 0==(a0.length:Int)-4)<;>cases y9 (yJx a0)<;>rfl
def yGj:Con:=⟨yri,yAx,fun x=>(fun n=>some ((n.1,n.2,()),())) (yl3 x.1)⟩
theorem yY8:ConOk prog 89 yGj:=(yVN).mono (fun x r hk h=>(yYb x.1 hk).trans h)
def y0z:Code:=(f91.body).getD .skip
def y07:Env:=zkw TT [] []
theorem yQU:FrOk prog ⟨y07,8,fun _=>none⟩ y0z:=zkA mixed yf trivial
abbrev yAk:List Par:= [.rd tI]
abbrev yAQ:List OT:= [⟨false,tI,.fz⟩]
def yHc (a0:Int):Option (zaY yAQ×zak yAk) :=bif(ltb a0 0)then some (((-1),()),()) else some (((i64.wrap (2+(a0.tmod 4))),()),())
theorem yV7:ConOk prog 91 ⟨yAk,yAQ,fun x=>yHc x.1⟩:=zkI (yQU) func91 ntmps91.symm fun x=>by kernel_rfl
def yg (a0:Int):Int :=bif(ltb a0 0)then (-1) else (i64.wrap (2+(a0.tmod 4)))
def yGr:Con:=⟨yAk,yAQ,fun x=>(fun n=>some ((n,()),())) (yg x.1)⟩
theorem yYv (a0:Int):yHc a0=(fun n=>some ((n,()),())) (yg a0):=zkV (p:=fun(n:Int)=>((n,()),())) (zkG (p:=fun(n:Int)=>((n,()),())) rfl rfl)
theorem yZg:ConOk prog 91 yGr:=(yV7).mono (fun x r _ h=>(yYv x.1).trans h)
def yIU (a:dA) (q:Int) (i:Nat):List Int×Bool:=yW (nth a.2.2.1 i yc) (yg q)
def yrH (a:dA) (q:Int) (i:Nat):dN:=(yaL (yIU a q i).1).1
def ykX (a:dA) (q:Int) (i:Nat):Bool:=(yIU a q i).2&&((yaL (yIU a q i).1).2&&((yrH a q i).1==q&&((leb 0 (yrH a q i).2.1&&leb (yrH a q i).2.1 (a.2.1.2-1))&&((yrH a q i).2.2.length:Int)==a.2.1.1-1)))
def yaH (a:dA) (q:Int):dN×Bool:=bif leb 0 (yan (ykX a q) (List.range a.2.2.1.length))then(yrH a q (yan (ykX a q) (List.range a.2.2.1.length)).toNat,true)else(yNe,false)
theorem yWW {n i:Nat} (h:i<n):(List.range n).getD i 0=i:=by rw[zkJ (by rw[List.length_range]; exact h)]; simp
theorem y4V {l:List Int} (h:(yaL l).2=true):y9 (yaL l).1=true∧l=yaf (yaL l).1:=by
 unfold yaL at h ⊢;cases hc:(leb 4 (l.length:Int)&&(nth l 0 0==21322&&(nth l 3 0==(l.length:Int)-4&&y9 (yJx l))))
 ·rw[hc]at h; cases h
 ·simp only[Bool.and_eq_true,zj7,beq_iff_eq]at hc
  refine⟨hc.2.2.2,?_⟩;show l=yaf (yJx l);unfold yaf;rw[hc.2.2.2]
  match l,hc with
  | x0::x1::x2::x3::t,hc =>
   have e0:x0=21322:=hc.2.1;have e3:x3=((x0::x1::x2::x3::t).length:Int)-4:=hc.2.2.1;have e4:x3=(t.length:Int):=by rw[e3]; simp only[List.length_cons]; omega
   subst e0;rw[e4]; rfl
  | [],hc=>exact absurd hc.1 (by simp)
  | [_],hc=>exact absurd hc.1 (by simp)
  | [_,_],hc=>exact absurd hc.1 (by simp)
  | [_,_,_],hc=>exact absurd hc.1 (by simp)
theorem yQq {a:dA} {q:Int} (h:(yaH a q).2=true): ∃i,i<a.2.2.1.length∧ykX a q i=true∧(yaH a q).1=yrH a q i:=by
 unfold yaH at h ⊢;cases hk:leb 0 (yan (ykX a q) (List.range a.2.2.1.length))
 ·rw[hk]at h; cases h
 ·obtain⟨h1,h2⟩:=yn9 (d:=0) hk
  have h3:=zj6.1 h1;rw[List.length_range]at h3;refine⟨(yan (ykX a q) (List.range a.2.2.1.length)).toNat,by omega,?_,rfl⟩;unfold nth at h2;rwa[yWW (by omega)]at h2
theorem y6m {a:dA} {q:Int} (hg:ye a.2.1=true) (h:(yaH a q).2=true):yaj a.2.1 (yaH a q).1.2.1=true∧((yaH a q).1.2.2.length:Int)=a.2.1.1-1:=by
 obtain⟨i,_,h1,h2⟩:=yQq h;rw[h2];simp only[ykX,Bool.and_eq_true,zj7,beq_iff_eq]at h1;exact⟨yad.2 ⟨hg,h1.2.2.2.1.1,h1.2.2.2.1.2⟩,h1.2.2.2.2⟩
theorem yLX (q:Int):yl6 q=yg q:=rfl
def yoX:Code:=(f23.body).getD .skip
def yw1:Env:=zkw TT [(87,ylr),(88,yuR),(89,yGj)] []
theorem yNS:FrOk prog ⟨yw1,67,fun _=>none⟩ yoX:=zkA mixed yf ⟨yvx,yIA,yY8,trivial⟩
def yC6:Nat→Option Seg:=fun _=>none
def ycc:Shape:=⟨[(1,false,[ii]),(2,false,[.ptr 0 0]),(4,false,[.ptr 64 0]),(13,false,[.br tM]),(14,false,[ii]),(15,false,[ii])],[(0,oJ),(64,[ii,ii,.nil])],[]⟩
def ygl:Shape:=⟨[(1,false,[ii]),(2,false,[.ptr 0 0]),(4,false,[.ptr 64 0]),(13,false,[.br tM]),(14,false,[ii]),(15,false,[.ci .i64 0])],[(0,oJ),(64,[ii,ii,.nil])],[]⟩
def yf9:Shape:=⟨[(4,false,[.ptr 64 0])],[(64,[ii,ii,.nil])],[]⟩
def ygw:Shape:=⟨[(4,false,[.ptr 64 0]),(5,false,[.bool])],[(64,[ii,ii,.at 800000000])],[(800000000,tI,.fz)]⟩
abbrev yog (v0:Int) (v1:List dM) (v2 v3:Int) (v4:dA) (v5:dN):(ycc).X:=(((v0,()),((),()),((),()),(v1,()),(v2,()),(v3,()),()),((v4.1,v4.2.1.1,v4.2.1.2,v4.2.2.1,v4.2.2.2.1,v4.2.2.2.2.1,v4.2.2.2.2.2.1,v4.2.2.2.2.2.2.1,v4.2.2.2.2.2.2.2.1,v4.2.2.2.2.2.2.2.2.1,v4.2.2.2.2.2.2.2.2.2.1,v4.2.2.2.2.2.2.2.2.2.2.1,v4.2.2.2.2.2.2.2.2.2.2.2,()),(v5.1,v5.2.1,(),()),()),())
abbrev yMc (v0:Int) (v1:List dM) (v2:Int) (v3:dA) (v4:dN):(ygl).X:=(((v0,()),((),()),((),()),(v1,()),(v2,()),((),()),()),((v3.1,v3.2.1.1,v3.2.1.2,v3.2.2.1,v3.2.2.2.1,v3.2.2.2.2.1,v3.2.2.2.2.2.1,v3.2.2.2.2.2.2.1,v3.2.2.2.2.2.2.2.1,v3.2.2.2.2.2.2.2.2.1,v3.2.2.2.2.2.2.2.2.2.1,v3.2.2.2.2.2.2.2.2.2.2.1,v3.2.2.2.2.2.2.2.2.2.2.2,()),(v4.1,v4.2.1,(),()),()),())
abbrev yL4 (v0:dN):(yf9).X:=((((),()),()),((v0.1,v0.2.1,(),()),()),())
abbrev yMn (v0:Bool) (v1:dN):(ygw).X:=((((),()),(v0,()),()),((v1.1,v1.2.1,(),()),()),(v1.2.2,()))
def yoI (v0:Int) (v1:List dM) (v2 v3 v4 v5 v6:Int) (v7:List dM) (v8 v9 v10 v11 v12:Int) (v13:List dW) (v14:Int) (v15 v16:Bool) (v17 v18:Int):Option ((ycc).X ⊕ ((yf9).X ⊕ (ygw).X)) :=bif(ltb v3 v2)then bif(inb v3 v1.length)then let r4:=yl6 v0;let r5:=ybY ((nth v1 v3 ([],[],false,[])).1,((nth v1 v3 ([],[],false,[])).2).1,(((nth v1 v3 ([],[],false,[])).2).2)) r4;let r6:=yl3 r5.1;bif r5.2 then bif r6.2 then bif(r6.1.1==v0)then bif(leb 0 r6.1.2.1)then bif(ltb r6.1.2.1 v6)then bif((i64.wrap ((r6.1.2.2.length:Int)+1))==v5)then some (.inr (.inr ((((),()),(true,()),()),((r6.1.1,r6.1.2.1,(),()),()),(r6.1.2.2,())))) else some (.inl (((v0,()),((),()),((),()),(v1,()),(v2,()),((i64.wrap (v3+1)),()),()),((v4,v5,v6,v7,v8,v9,v10,v11,v12,v13,v14,v15,v16,()),(v17,v18,(),()),()),())) else some (.inl (((v0,()),((),()),((),()),(v1,()),(v2,()),((i64.wrap (v3+1)),()),()),((v4,v5,v6,v7,v8,v9,v10,v11,v12,v13,v14,v15,v16,()),(v17,v18,(),()),()),())) else some (.inl (((v0,()),((),()),((),()),(v1,()),(v2,()),((i64.wrap (v3+1)),()),()),((v4,v5,v6,v7,v8,v9,v10,v11,v12,v13,v14,v15,v16,()),(v17,v18,(),()),()),())) else some (.inl (((v0,()),((),()),((),()),(v1,()),(v2,()),((i64.wrap (v3+1)),()),()),((v4,v5,v6,v7,v8,v9,v10,v11,v12,v13,v14,v15,v16,()),(v17,v18,(),()),()),())) else some (.inl (((v0,()),((),()),((),()),(v1,()),(v2,()),((i64.wrap (v3+1)),()),()),((v4,v5,v6,v7,v8,v9,v10,v11,v12,v13,v14,v15,v16,()),(v17,v18,(),()),()),())) else some (.inl (((v0,()),((),()),((),()),(v1,()),(v2,()),((i64.wrap (v3+1)),()),()),((v4,v5,v6,v7,v8,v9,v10,v11,v12,v13,v14,v15,v16,()),(v17,v18,(),()),()),())) else none else some (.inr (.inl ((((),()),()),((v17,v18,(),()),()),())))
def ycw (x:(ycc).X):=yoI x.1.1.1 x.1.2.2.2.1.1 x.1.2.2.2.2.1.1 x.1.2.2.2.2.2.1.1 x.2.1.1.1 x.2.1.1.2.1 x.2.1.1.2.2.1 x.2.1.1.2.2.2.1 x.2.1.1.2.2.2.2.1 x.2.1.1.2.2.2.2.2.1 x.2.1.1.2.2.2.2.2.2.1 x.2.1.1.2.2.2.2.2.2.2.1 x.2.1.1.2.2.2.2.2.2.2.2.1 x.2.1.1.2.2.2.2.2.2.2.2.2.1 x.2.1.1.2.2.2.2.2.2.2.2.2.2.1 x.2.1.1.2.2.2.2.2.2.2.2.2.2.2.1 x.2.1.1.2.2.2.2.2.2.2.2.2.2.2.2.1 x.2.1.2.1.1 x.2.1.2.1.2.1
def yy8 (x:(ygl).X):(ycc).X:=(((x.1.1.1,()),((),()),((),()),(x.1.2.2.2.1.1,()),(x.1.2.2.2.2.1.1,()),(0,()),()),((x.2.1.1.1,x.2.1.1.2.1,x.2.1.1.2.2.1,x.2.1.1.2.2.2.1,x.2.1.1.2.2.2.2.1,x.2.1.1.2.2.2.2.2.1,x.2.1.1.2.2.2.2.2.2.1,x.2.1.1.2.2.2.2.2.2.2.1,x.2.1.1.2.2.2.2.2.2.2.2.1,x.2.1.1.2.2.2.2.2.2.2.2.2.1,x.2.1.1.2.2.2.2.2.2.2.2.2.2.1,x.2.1.1.2.2.2.2.2.2.2.2.2.2.2.1,x.2.1.1.2.2.2.2.2.2.2.2.2.2.2.2.1,()),(x.2.1.2.1.1,x.2.1.2.1.2.1,(),()),()),())
def yBA:Code:=(zd7 yoX 64 52).getD .skip
theorem yNC:zd7 yoX 64 13=some (.block 0 (.loop yBA)):=by kernel_rfl
theorem yPp (x:(ycc).X):zhu ⟨yw1,67,yC6⟩ 0 yBA 52 ycc yf9 ygw x=ycw x:=by kernel_rfl
def yzn (x:(ygl).X):Nat:=18446744073709551616
def ypP (x:(ygl).X):Option ((yf9).X ⊕ (ygw).X):=zF ycw (yzn x) (yy8 x)
def yzN:Seg:=⟨ygl,yf9,ygw,ypP⟩
def yPW:Nat→Option Seg:=fun q=>bif Nat.beq q 13 then some yzN else yC6 q
theorem yNT:FrOk prog ⟨yw1,67,yPW⟩ yoX:=(yNS).loop (sg:=yzN) ycc yy8 (by decide) yNC ycw yzn (by decide) (fun _=>rfl) (fun x r _ h=>h) yPp
abbrev yj7:List Par:= [.rd tA,.rd tI]
abbrev yph:List OT:= [⟨false,tN,(.pr .fz oE)⟩,⟨false,tB,.fz⟩]
def ysv (a0:dA) (a1:Int):Option (zaY yph×zak yj7) :=zkt (ypP (((a1,()),((),()),((),()),(a0.2.2.1,()),((a0.2.2.1.length:Int),()),((),()),()),((a0.1,a0.2.1.1,a0.2.1.2,a0.2.2.1,a0.2.2.2.1,a0.2.2.2.2.1,a0.2.2.2.2.2.1,a0.2.2.2.2.2.2.1,a0.2.2.2.2.2.2.2.1,a0.2.2.2.2.2.2.2.2.1,a0.2.2.2.2.2.2.2.2.2.1,a0.2.2.2.2.2.2.2.2.2.2.1,a0.2.2.2.2.2.2.2.2.2.2.2,()),(0,0,(),()),()),())) (fun y6 =>some (((0,0,[]),false,()),())) (fun y6 =>some (((y6.2.1.1.1,y6.2.1.1.2.1,y6.2.2.1),y6.1.2.1.1,()),()))
theorem ySj:ConOk prog 23 ⟨yj7,yph,fun x=>ysv x.1 x.2.1⟩:=zkI (yNT) func23 ntmps23.symm fun x=>by kernel_rfl
def ykC (a0:dA) (a1:Int):dN×Bool:=yaH a0 a1
def ypI (a0:dA) (a1:Int):Bool:=ye a0.2.1||y4U a0.2.1
theorem yVm (a0:dA) (a1:Int) (hk:zjx yj7 (a0,a1,())) (hq:ypI a0 a1=true):ysv a0 a1=(fun n=>some ((n.1,n.2,()),())) (ykC a0 a1):=by
 have hb:a0.2.2.1.length*80≤2^47:=hk.1.2.2.1.1;have hg:=y4Y hq
 have h1:=yL0 (step:=ycw) (List.range a0.2.2.1.length) 0 (fun i=>yog a1 a0.2.2.1 a0.2.2.1.length i a0 yNe) (ykX a0 a1) (fun k=> .inr (yMn true (yrH a0 a1 k.toNat))) (.inl (yL4 yNe)) (fun i hi=>by
  rw[List.length_range]at hi;rw[yWW hi];simp only[ycw,yog,yoI,zky (show(i:Int)<a0.2.2.1.length by omega),cond_true,wq ((i:Int)+1) (by omega) (by omega),Int.natCast_add,Int.natCast_one,Int.toNat_natCast,zkR hi,zkX,ybY,yl3,yLX,ykX,yrH,yIU,yc];have e1:ltb (yaL (yW (nth a0.2.2.1 i ([],[],false,[])) (yg a1)).1).1.2.1 a0.2.1.2=leb (yaL (yW (nth a0.2.2.1 i ([],[],false,[])) (yg a1)).1).1.2.1 (a0.2.1.2-1):=by rw[Bool.eq_iff_iff,zka,zj7]; omega
  cases hr:(yW (nth a0.2.2.1 i ([],[],false,[])) (yg a1)).2
  ·rfl
  cases hg2:(yaL (yW (nth a0.2.2.1 i ([],[],false,[])) (yg a1)).1).2
  ·rfl
  have hl:=(yte.1 (y4V hg2).1).2.2.1;have e2:(i64.wrap (((yaL (yW (nth a0.2.2.1 i ([],[],false,[])) (yg a1)).1).1.2.2.length:Int)+1)==a0.2.1.1)=(((yaL (yW (nth a0.2.2.1 i ([],[],false,[])) (yg a1)).1).1.2.2.length:Int)==a0.2.1.1-1):=by rw[wr (by omega) (by omega),Bool.eq_iff_iff,beq_iff_eq,beq_iff_eq]; omega
  rw[e1,e2]
  cases((yaL (yW (nth a0.2.2.1 i ([],[],false,[])) (yg a1)).1).1.1==a1)<;>cases leb 0 (yaL (yW (nth a0.2.2.1 i ([],[],false,[])) (yg a1)).1).1.2.1<;>cases leb (yaL (yW (nth a0.2.2.1 i ([],[],false,[])) (yg a1)).1).1.2.1 (a0.2.1.2-1)<;>cases(((yaL (yW (nth a0.2.2.1 i ([],[],false,[])) (yg a1)).1).1.2.2.length:Int)==a0.2.1.1-1)<;>rfl) (by
   rw[List.length_range]; simp only[ycw,yog,yoI,zk3 (Int.le_refl _),cond_false]) 18446744073709551616 (by rw[List.length_range]; omega)
 unfold ysv ykC yaH;rw[show ypP (yMc a1 a0.2.2.1 a0.2.2.1.length a0 yNe)=_ from h1];cases leb 0 (yan (ykX a0 a1) (List.range a0.2.2.1.length))<;>rfl
def ypB (a0:dA) (a1:Int):Option (zaY yph×zak yj7):=bif ypI a0 a1 then(fun n=>some ((n.1,n.2,()),())) (ykC a0 a1)else none
theorem yWC (a0:dA) (a1:Int) (h:ypI a0 a1=true):ypB a0 a1=(fun n=>some ((n.1,n.2,()),())) (ykC a0 a1):=by unfold ypB; rw[h]; rfl
def yEg:Con:=⟨yj7,yph,fun x=>ypB x.1 x.2.1⟩
theorem yWq:ConOk prog 23 yEg:=(ySj).mono (fun x r hk h=>zkY h (fun hq=>yVm x.1 x.2.1 hk hq))
def yoZ:Code:=(f95.body).getD .skip
def yw3:Env:=zkw TT [(74,yp8),(158,ybh)] []
theorem yNY:FrOk prog ⟨yw3,31,fun _=>none⟩ yoZ:=zkA mixed yf ⟨yFd,yda,trivial⟩
def yC8:Nat→Option Seg:=fun _=>none
def yce:Shape:=⟨[(1,false,[.ptr 0 0]),(2,false,[.ptr 64 0]),(3,false,[.at 800000000]),(8,false,[.br tW]),(9,false,[ii]),(10,false,[ii])],[(0,oJ),(64,oK)],[(800000000,tW,oE)]⟩
def ygn:Shape:=⟨[(1,false,[.ptr 0 0]),(2,false,[.ptr 64 0]),(3,false,[.at 800000000]),(8,false,[.br tW]),(9,false,[ii]),(10,false,[.ci .i64 0])],[(0,oJ),(64,oK)],[(800000000,tW,oE)]⟩
def ygb:Shape:=⟨[(1,false,[.ptr 0 0]),(2,false,[.ptr 64 0]),(3,false,[.at 800000000])],[(0,oJ),(64,oK)],[(800000000,tW,oE)]⟩
def yjN:Shape:=⟨[],[],[]⟩
abbrev yoi (v0:List dW) (v1 v2:Int) (v3 v4:dA) (v5:List dW):(yce).X:=((((),()),((),()),((),()),(v0,()),(v1,()),(v2,()),()),((v3.1,v3.2.1.1,v3.2.1.2,v3.2.2.1,v3.2.2.2.1,v3.2.2.2.2.1,v3.2.2.2.2.2.1,v3.2.2.2.2.2.2.1,v3.2.2.2.2.2.2.2.1,v3.2.2.2.2.2.2.2.2.1,v3.2.2.2.2.2.2.2.2.2.1,v3.2.2.2.2.2.2.2.2.2.2.1,v3.2.2.2.2.2.2.2.2.2.2.2,()),(v4.1,v4.2.1.1,v4.2.1.2,(),v4.2.2.2.1,v4.2.2.2.2.1,v4.2.2.2.2.2.1,v4.2.2.2.2.2.2.1,v4.2.2.2.2.2.2.2.1,(),v4.2.2.2.2.2.2.2.2.2.1,v4.2.2.2.2.2.2.2.2.2.2.1,v4.2.2.2.2.2.2.2.2.2.2.2,()),()),(v5,()))
abbrev yMe (v0:List dW) (v1:Int) (v2 v3:dA) (v4:List dW):(ygn).X:=((((),()),((),()),((),()),(v0,()),(v1,()),((),()),()),((v2.1,v2.2.1.1,v2.2.1.2,v2.2.2.1,v2.2.2.2.1,v2.2.2.2.2.1,v2.2.2.2.2.2.1,v2.2.2.2.2.2.2.1,v2.2.2.2.2.2.2.2.1,v2.2.2.2.2.2.2.2.2.1,v2.2.2.2.2.2.2.2.2.2.1,v2.2.2.2.2.2.2.2.2.2.2.1,v2.2.2.2.2.2.2.2.2.2.2.2,()),(v3.1,v3.2.1.1,v3.2.1.2,(),v3.2.2.2.1,v3.2.2.2.2.1,v3.2.2.2.2.2.1,v3.2.2.2.2.2.2.1,v3.2.2.2.2.2.2.2.1,(),v3.2.2.2.2.2.2.2.2.2.1,v3.2.2.2.2.2.2.2.2.2.2.1,v3.2.2.2.2.2.2.2.2.2.2.2,()),()),(v4,()))
abbrev yL5 (v0 v1:dA) (v2:List dW):(ygb).X:=((((),()),((),()),((),()),()),((v0.1,v0.2.1.1,v0.2.1.2,v0.2.2.1,v0.2.2.2.1,v0.2.2.2.2.1,v0.2.2.2.2.2.1,v0.2.2.2.2.2.2.1,v0.2.2.2.2.2.2.2.1,v0.2.2.2.2.2.2.2.2.1,v0.2.2.2.2.2.2.2.2.2.1,v0.2.2.2.2.2.2.2.2.2.2.1,v0.2.2.2.2.2.2.2.2.2.2.2,()),(v1.1,v1.2.1.1,v1.2.1.2,(),v1.2.2.2.1,v1.2.2.2.2.1,v1.2.2.2.2.2.1,v1.2.2.2.2.2.2.1,v1.2.2.2.2.2.2.2.1,(),v1.2.2.2.2.2.2.2.2.2.1,v1.2.2.2.2.2.2.2.2.2.2.1,v1.2.2.2.2.2.2.2.2.2.2.2,()),()),(v2,()))
def yoK (v0:List dW) (v1 v2 v3 v4 v5:Int) (v6:List dM) (v7 v8 v9 v10 v11:Int) (v12:List dW) (v13:Int) (v14 v15:Bool) (v16 v17 v18 v19 v20 v21 v22 v23 v24:Int) (v25 v26:Bool) (v27:List dW):Option ((yce).X ⊕ ((ygb).X ⊕ (yjN).X)) :=bif(ltb v2 v1)then bif(inb v2 v0.length)then let r2:=yE ((nth v0 v2 (0,[])).2);bif(zkl v27.length ([((nth v0 v2 (0,[])).1,r2)]:List dW).length 32)then some (.inl ((((),()),((),()),((),()),(v0,()),(v1,()),((i64.wrap (v2+1)),()),()),((v3,v4,v5,v6,v7,v8,v9,v10,v11,v12,v13,v14,v15,()),(v16,v17,v18,(),v19,v20,v21,v22,v23,(),v24,v25,v26,()),()),((v27++([((nth v0 v2 (0,[])).1,r2)]:List dW)),()))) else none else none else some (.inr (.inl ((((),()),((),()),((),()),()),((v3,v4,v5,v6,v7,v8,v9,v10,v11,v12,v13,v14,v15,()),(v16,v17,v18,(),v19,v20,v21,v22,v23,(),v24,v25,v26,()),()),(v27,()))))
def ycy (x:(yce).X):=yoK x.1.2.2.2.1.1 x.1.2.2.2.2.1.1 x.1.2.2.2.2.2.1.1 x.2.1.1.1 x.2.1.1.2.1 x.2.1.1.2.2.1 x.2.1.1.2.2.2.1 x.2.1.1.2.2.2.2.1 x.2.1.1.2.2.2.2.2.1 x.2.1.1.2.2.2.2.2.2.1 x.2.1.1.2.2.2.2.2.2.2.1 x.2.1.1.2.2.2.2.2.2.2.2.1 x.2.1.1.2.2.2.2.2.2.2.2.2.1 x.2.1.1.2.2.2.2.2.2.2.2.2.2.1 x.2.1.1.2.2.2.2.2.2.2.2.2.2.2.1 x.2.1.1.2.2.2.2.2.2.2.2.2.2.2.2.1 x.2.1.2.1.1 x.2.1.2.1.2.1 x.2.1.2.1.2.2.1 x.2.1.2.1.2.2.2.2.1 x.2.1.2.1.2.2.2.2.2.1 x.2.1.2.1.2.2.2.2.2.2.1 x.2.1.2.1.2.2.2.2.2.2.2.1 x.2.1.2.1.2.2.2.2.2.2.2.2.1 x.2.1.2.1.2.2.2.2.2.2.2.2.2.2.1 x.2.1.2.1.2.2.2.2.2.2.2.2.2.2.2.1 x.2.1.2.1.2.2.2.2.2.2.2.2.2.2.2.2.1 x.2.2.1
def yza (x:(ygn).X):(yce).X:=((((),()),((),()),((),()),(x.1.2.2.2.1.1,()),(x.1.2.2.2.2.1.1,()),(0,()),()),((x.2.1.1.1,x.2.1.1.2.1,x.2.1.1.2.2.1,x.2.1.1.2.2.2.1,x.2.1.1.2.2.2.2.1,x.2.1.1.2.2.2.2.2.1,x.2.1.1.2.2.2.2.2.2.1,x.2.1.1.2.2.2.2.2.2.2.1,x.2.1.1.2.2.2.2.2.2.2.2.1,x.2.1.1.2.2.2.2.2.2.2.2.2.1,x.2.1.1.2.2.2.2.2.2.2.2.2.2.1,x.2.1.1.2.2.2.2.2.2.2.2.2.2.2.1,x.2.1.1.2.2.2.2.2.2.2.2.2.2.2.2.1,()),(x.2.1.2.1.1,x.2.1.2.1.2.1,x.2.1.2.1.2.2.1,(),x.2.1.2.1.2.2.2.2.1,x.2.1.2.1.2.2.2.2.2.1,x.2.1.2.1.2.2.2.2.2.2.1,x.2.1.2.1.2.2.2.2.2.2.2.1,x.2.1.2.1.2.2.2.2.2.2.2.2.1,(),x.2.1.2.1.2.2.2.2.2.2.2.2.2.2.1,x.2.1.2.1.2.2.2.2.2.2.2.2.2.2.2.1,x.2.1.2.1.2.2.2.2.2.2.2.2.2.2.2.2.1,()),()),(x.2.2.1,()))
def yBC:Code:=(zd7 yoZ 64 116).getD .skip
theorem yNE:zd7 yoZ 64 29=some (.block 0 (.loop yBC)):=by kernel_rfl
theorem yPr (x:(yce).X):zhu ⟨yw3,31,yC8⟩ 0 yBC 116 yce ygb yjN x=ycy x:=by kernel_rfl
def yzp (x:(ygn).X):Nat:=18446744073709551616
def ypR (x:(ygn).X):Option ((ygb).X ⊕ (yjN).X):=zF ycy (yzp x) (yza x)
def yzP:Seg:=⟨ygn,ygb,yjN,ypR⟩
def yPY:Nat→Option Seg:=fun q=>bif Nat.beq q 29 then some yzP else yC8 q
theorem yNZ:FrOk prog ⟨yw3,31,yPY⟩ yoZ:=(yNY).loop (sg:=yzP) yce yza (by decide) yNE ycy yzp (by decide) (fun _=>rfl) (fun x r _ h=>h) yPr
abbrev ypb:List Par:= [.rd tA]
abbrev yxu:List OT:= [⟨false,tA,oD⟩]
def ysy (a0:dA):Option (zaY yxu×zak ypb) :=zkt (ypR ((((),()),((),()),((),()),(a0.2.2.2.2.2.2.2.2.1,()),((a0.2.2.2.2.2.2.2.2.1.length:Int),()),((),()),()),((a0.1,a0.2.1.1,a0.2.1.2,a0.2.2.1,a0.2.2.2.1,a0.2.2.2.2.1,a0.2.2.2.2.2.1,a0.2.2.2.2.2.2.1,a0.2.2.2.2.2.2.2.1,a0.2.2.2.2.2.2.2.2.1,a0.2.2.2.2.2.2.2.2.2.1,a0.2.2.2.2.2.2.2.2.2.2.1,a0.2.2.2.2.2.2.2.2.2.2.2,()),(0,0,0,(),0,0,0,0,0,(),0,false,false,()),()),(([]:List dW),()))) (fun y2 =>let r4:=yfO y2.2.1.1.2.2.2.1;some (((y2.2.1.1.1,(y2.2.1.1.2.1,y2.2.1.1.2.2.1),r4,y2.2.1.1.2.2.2.2.1,y2.2.1.1.2.2.2.2.2.1,y2.2.1.1.2.2.2.2.2.2.1,y2.2.1.1.2.2.2.2.2.2.2.1,y2.2.1.1.2.2.2.2.2.2.2.2.1,y2.2.2.1,y2.2.1.1.2.2.2.2.2.2.2.2.2.2.1,y2.2.1.1.2.2.2.2.2.2.2.2.2.2.2.1,y2.2.1.1.2.2.2.2.2.2.2.2.2.2.2.2.1),()),())) (fun y2 =>none)
theorem ySn:ConOk prog 95 ⟨ypb,yxu,fun x=>ysy x.1⟩:=zkI (yNZ) func95 ntmps95.symm fun x=>by kernel_rfl
def yax (a0:dA):dA:=a0
theorem yVq (a0:dA) (hk:zjx ypb (a0,())):ysy a0=(fun n=>some ((n,()),())) (yax a0):=by
 have hb:a0.2.2.2.2.2.2.2.2.1.length*32≤2^47:=hk.1.2.2.2.2.2.2.2.2.1.1
 have h1:=zkx (step:=ycy) a0.2.2.2.2.2.2.2.2.1 (0,[]) (fun i s=>yoi a0.2.2.2.2.2.2.2.2.1 a0.2.2.2.2.2.2.2.2.1.length i a0 yai s) (fun s x=>s++ [x]) (fun i s=>s.length=i) (fun s=> .inl (yL5 a0 yai s)) (fun i s hi hs=>⟨by
   simp only[ycy,yoi,yoK,zky (show(i:Int)<a0.2.2.2.2.2.2.2.2.1.length by omega),cond_true,wq ((i:Int)+1) (by omega) (by omega),Int.natCast_add,Int.natCast_one,Int.toNat_natCast,zkR hi,zkS,yE,zkX]
   rw[zkF.2 (show(s.length+ [a0.2.2.2.2.2.2.2.2.1.getD i (0,[])].length)*32≤140737488355328 by simp only[List.length_cons,List.length_nil]; omega)]; rfl,by simp[hs]⟩) (fun s hs=>by simp only[ycy,yoi,yoK,zk3 (Int.le_refl _),cond_false]) [] rfl 18446744073709551616 (by omega)
 rw[yxW]at h1;unfold ysy yax;rw[show ypR (yMe a0.2.2.2.2.2.2.2.2.1 a0.2.2.2.2.2.2.2.2.1.length a0 yai [])=_ from h1]; rfl
def yeT:Con:=⟨ypb,yxu,fun x=>(fun n=>some ((n,()),())) (yax x.1)⟩
theorem yjr:ConOk prog 95 yeT:=(ySn).mono (fun x r hk h=>(yVq x.1 hk).trans h)
def yTp:Code:=(f96.body).getD .skip
def yTQ:Env:=zkw TT [(55,ybW)] []
theorem yLC:FrOk prog ⟨yTQ,15,fun _=>none⟩ yTp:=zkA mixed yf ⟨yes,trivial⟩
abbrev yt6:List Par:= [.rd tA]
abbrev yus:List OT:= [⟨false,tB,.fz⟩]
def yCA (a0:dA):Option (zaY yus×zak yt6) :=let r1:=yU a0;bif r1 then bif(!a0.2.2.2.2.2.2.2.2.2.2.1)then some (((ltb a0.2.2.2.2.2.2.2.1 60000),()),()) else some ((false,()),()) else some ((false,()),())
theorem yO4:ConOk prog 96 ⟨yt6,yus,fun x=>yCA x.1⟩:=zkI (yLC) func96 ntmps96.symm fun x=>by kernel_rfl
def ydY (a0:dA):Bool :=let r1:=yU a0;bif r1 then bif(!a0.2.2.2.2.2.2.2.2.2.2.1)then (ltb a0.2.2.2.2.2.2.2.1 60000) else false else false
def yBT:Con:=⟨yt6,yus,fun x=>(fun n=>some ((n,()),())) (ydY x.1)⟩
theorem yR5 (a0:dA):yCA a0=(fun n=>some ((n,()),())) (ydY a0):=zkV (p:=fun(n:Bool)=>((n,()),())) (zkG (p:=fun(n:Bool)=>((n,()),())) (zkG (p:=fun(n:Bool)=>((n,()),())) rfl rfl) rfl)
theorem ySO:ConOk prog 96 yBT:=(yO4).mono (fun x r _ h=>(yR5 x.1).trans h)
def yTt:Code:=(f144.body).getD .skip
def yTU:Env:=zkw TT [(195,yEn)] []
theorem yLM:FrOk prog ⟨yTU,25,fun _=>none⟩ yTt:=zkA mixed yf ⟨yWx,trivial⟩
abbrev yub:List Par:= [.rd tS]
abbrev yuz:List OT:= [⟨false,tL,oG⟩]
def yCB (a0:dS):Option (zaY yuz×zak yub) :=let r1:=yH a0;bif(!r1)then some ((([]:List Int),()),()) else some ((([21317,a0.1,a0.2.1,a0.2.2.1,a0.2.2.2.1,a0.2.2.2.2.1,a0.2.2.2.2.2.1,(i64.wrap (a0.2.2.2.2.2.2.1+1)),a0.2.2.2.2.2.2.2]:List Int),()),())
theorem yPb:ConOk prog 144 ⟨yub,yuz,fun x=>yCB x.1⟩:=zkI (yLM) func144 ntmps144.symm fun x=>by kernel_rfl
def yo (a0:dS):(List Int) :=let r1:=yH a0;bif(!r1)then ([]:List Int) else ([21317,a0.1,a0.2.1,a0.2.2.1,a0.2.2.2.1,a0.2.2.2.2.1,a0.2.2.2.2.2.1,(i64.wrap (a0.2.2.2.2.2.2.1+1)),a0.2.2.2.2.2.2.2]:List Int)
def yqa:Con:=⟨yub,yuz,fun x=>(fun n=>some ((n,()),())) (yo x.1)⟩
theorem ySa (a0:dS):yCB a0=(fun n=>some ((n,()),())) (yo a0):=zkV (p:=fun(n:(List Int))=>((n,()),())) (zkG (p:=fun(n:(List Int))=>((n,()),())) rfl rfl)
theorem yFg:ConOk prog 144 yqa:=(yPb).mono (fun x r _ h=>(ySa x.1).trans h)
theorem yJN {s:dS} (h:yH s=true):yeV (yo s)=(s,true):=by
 have hs:=yyJ.1 h;have hg:=yj.1 hs.1;simp only at hg
 have hp:yo s= [21317,s.1,s.2.1,s.2.2.1,s.2.2.2.1,s.2.2.2.2.1,s.2.2.2.2.2.1,s.2.2.2.2.2.2.1+1,s.2.2.2.2.2.2.2]:=by
  unfold yo;rw[h,wq (s.2.2.2.2.2.2.1+1) (by omega) (by omega)]; rfl
 have ha:yIV (yo s)=s:=by
  rw[hp];show(s.1,s.2.1,s.2.2.1,s.2.2.2.1,s.2.2.2.2.1,s.2.2.2.2.2.1,i64.wrap (s.2.2.2.2.2.2.1+1-1),s.2.2.2.2.2.2.2)=s;rw[wq (s.2.2.2.2.2.2.1+1-1) (by omega) (by omega),Int.add_sub_cancel]
 unfold yeV;rw[ha,h,hp]; rfl
abbrev ya (a:dA):Bool:=a.2.2.2.2.2.2.2.2.2.2.1
def yhV (a:dA) (f:Int) (d:Bool):dA:=(a.1,a.2.1,a.2.2.1,a.2.2.2.1,a.2.2.2.2.1,a.2.2.2.2.2.1,a.2.2.2.2.2.2.1,a.2.2.2.2.2.2.2.1,a.2.2.2.2.2.2.2.2.1,f,d,a.2.2.2.2.2.2.2.2.2.2.2)
def opA (a:dA):Bool×dA:=bif ya a then(false,a)else bif a.2.2.2.2.2.2.2.2.2.1==0 then(false,yhV a (-1) true)else bif ltb 0 a.2.2.2.2.2.2.2.2.2.1 then(true,yhV a (i64.wrap (a.2.2.2.2.2.2.2.2.2.1-1)) (ya a))else(true,a)
def ybx (a:dA) (m:Int) (x:dM):dA:=(a.1,a.2.1,a.2.2.1.set m.toNat x,a.2.2.2)
def ybr (a:dA) (m n:Int) (s:List Int):dA:=bif(nth a.2.2.1 m yc).2.2.1 then a else bif(opA a).1 then ybx (opA a).2 m (yab (nth a.2.2.1 m yc) n s).1 else(opA a).2
def yae (a:dA) (i:Nat):dA:=bif(nth a.2.2.1 i yc).2.2.1 then a else bif(opA a).1 then ybx (opA a).2 i (yC (nth a.2.2.1 i yc))else(opA a).2
def yd (a:dA):dA:=(List.range a.2.2.1.length).foldl yae a
def yNh (a:dA) (i:Int):dS:=(a.1,a.2.2.2.2.2.2.2.1,i,a.2.1.1,a.2.1.2,a.2.2.2.2.2.2.1,a.2.2.2.1,a.2.2.2.2.1)
def yah (a:dA) (i:Nat):dA:=ybr a i (a.2.2.2.2.2.2.2.1.tmod 2) (yo (yNh a i))
def yS (a:dA):dA:=(a.1,a.2.1,a.2.2.1,a.2.2.2.1,a.2.2.2.2.1,a.2.2.2.2.2.1,a.2.2.2.2.2.2.1,i64.wrap (a.2.2.2.2.2.2.2.1+1),a.2.2.2.2.2.2.2.2)
def yn (a:dA):dA:=yd ((List.range a.2.2.1.length).foldl yah (yS a))
theorem yaY (a:dA):(opA a).2.2.2.1=a.2.2.1:=by
 unfold opA;cases ya a
 ·cases(a.2.2.2.2.2.2.2.2.2.1==0)
  ·cases ltb 0 a.2.2.2.2.2.2.2.2.2.1<;>rfl
  ·rfl
 ·rfl
theorem yZq {a:dA} (h:ya a=false):ya (opA a).2= !(opA a).1:=by
 unfold opA;rw[h];cases(a.2.2.2.2.2.2.2.2.2.1==0)
 ·cases ltb 0 a.2.2.2.2.2.2.2.2.2.1
  ·exact h
  ·rfl
 ·rfl
theorem y3Z {a:dA} (h:ya a=true):opA a=(false,a):=by unfold opA; rw[h]; rfl
theorem ypH (a:dA) (m n:Int) (s:List Int):(ybr a m n s).2.2.1.length=a.2.2.1.length:=by
 unfold ybr;cases(nth a.2.2.1 m yc).2.2.1
 ·cases(opA a).1
  ·show(opA a).2.2.2.1.length=_; rw[yaY]
  ·show((opA a).2.2.2.1.set m.toNat _).length=_; rw[List.length_set,yaY]
 ·rfl
theorem ymk (a:dA) (i:Nat):(yae a i).2.2.1.length=a.2.2.1.length:=by
 unfold yae;cases(nth a.2.2.1 i yc).2.2.1
 ·cases(opA a).1
  ·show(opA a).2.2.2.1.length=_; rw[yaY]
  ·show((opA a).2.2.2.1.set _ _).length=_; rw[List.length_set,yaY]
 ·rfl
theorem yjx {one:dA→Nat→dA} (h: ∀a i,(one a i).2.2.1.length=a.2.2.1.length): ∀(l:List Nat) (a:dA),(l.foldl one a).2.2.1.length=a.2.2.1.length
 | [],_=>rfl
 | x::l,a=>by rw[List.foldl_cons,yjx h l,h]
theorem yFI (a:dA):(yd a).2.2.1.length=a.2.2.1.length:=yjx ymk _ _
theorem yow {a:dA} (h:ya a=true) (m n:Int) (s:List Int):ybr a m n s=a:=by
 unfold ybr;rw[y3Z h];cases(nth a.2.2.1 m yc).2.2.1<;>rfl
theorem yFH {a:dA} (i:Nat) (h:ya a=true):yae a i=a:=by
 unfold yae;rw[y3Z h];cases(nth a.2.2.1 i yc).2.2.1<;>rfl
theorem yk3 {one:dA→Nat→dA} (hs: ∀a i,ya a=true→one a i=a): ∀(l:List Nat) (a:dA),ya a=true→l.foldl one a=a
 | [],_,_=>rfl
 | x::l,a,h=>by rw[List.foldl_cons,hs a x h]; exact yk3 hs l a h
theorem yti {a:dA} (h:ya a=true):yd a=a:=yk3 (fun _ i h=>yFH i h) _ a h
theorem y25 {a:dA} (h:ya a=false) (m n:Int) (s:List Int):ya (ybr a m n s)=(!(nth a.2.2.1 m yc).2.2.1&& !(opA a).1):=by
 have:=yZq h;unfold ybr;cases(nth a.2.2.1 m yc).2.2.1
 ·cases ho:(opA a).1
  ·rw[ho]at this; exact this
  ·rw[ho]at this; exact this
 ·exact h
theorem yMZ {a:dA} (h:ya a=false) (i:Nat):ya (yae a i)=(!(nth a.2.2.1 i yc).2.2.1&& !(opA a).1):=by
 have:=yZq h;unfold yae;cases(nth a.2.2.1 i yc).2.2.1
 ·cases ho:(opA a).1
  ·rw[ho]at this; exact this
  ·rw[ho]at this; exact this
 ·exact h
theorem yE0 {one:dA→Nat→dA} (hs: ∀a i,ya a=true→one a i=a): ∀(k i:Nat) (s:dA),goE (fun i s=>bif ya (one s i)then(.inr (one s i):dA ⊕ dA)else .inl (one s i)) id k i s=(List.range' i k).foldl one s
 | 0,_,_=>rfl
 | k+1,i,s=>by
  rw[List.range'_succ,List.foldl_cons,goE];cases hd:ya (one s i)
  ·exact yE0 hs k (i+1) (one s i)
  ·exact(yk3 hs _ _ hd).symm
def yZ (a:dA) (m:Int):dA:=(a.1,a.2.1,a.2.2.1.set m.toNat (yeU (nth a.2.2.1 m yc)),m,0,a.2.2.2.2.2)
def yUk (a:dA) (m:Int):dA:=(a.1,a.2.1,a.2.2.1.set m.toNat (yeU (nth a.2.2.1 m yc)),a.2.2.2.1,a.2.2.2.2.1,a.2.2.2.2.2.1,a.2.2.2.2.2.2.1,a.2.2.2.2.2.2.2.1,a.2.2.2.2.2.2.2.2.1,a.2.2.2.2.2.2.2.2.2.1,a.2.2.2.2.2.2.2.2.2.2.1,true)
def ycr (a:dA) (m:Int):dA:=bif a.2.2.2.1== -1||a.2.2.2.1==m then(bif !(ya a)&&(!a.2.2.2.2.2.2.2.2.2.2.2&&ltb a.2.2.2.2.2.2.2.1 60000)then yn (yZ a m)else yZ a m)else yUk a m
theorem y5Q (a:dA):(yn a).2.2.1.length=a.2.2.1.length:=(yFI _).trans (yjx (one:=yah) (fun _ _=>ypH _ _ _ _) _ (yS a))
theorem yJu (a:dA):(opA a).2.2.2.2.2.2.2.2.2.1=a.2.2.2.2.2.2.2.2.1:=by
 unfold opA;cases ya a
 ·cases(a.2.2.2.2.2.2.2.2.2.1==0)
  ·cases ltb 0 a.2.2.2.2.2.2.2.2.2.1<;>rfl
  ·rfl
 ·rfl
theorem y5b (a:dA) (m n:Int) (s:List Int):(ybr a m n s).2.2.2.2.2.2.2.2.1=a.2.2.2.2.2.2.2.2.1:=by
 unfold ybr;cases(nth a.2.2.1 m yc).2.2.1
 ·cases(opA a).1
  ·exact yJu a
  ·exact yJu a
 ·rfl
theorem y1V (a:dA) (i:Nat):(yae a i).2.2.2.2.2.2.2.2.1=a.2.2.2.2.2.2.2.2.1:=by
 unfold yae;cases(nth a.2.2.1 i yc).2.2.1
 ·cases(opA a).1
  ·exact yJu a
  ·exact yJu a
 ·rfl
theorem yI7 {one:dA→Nat→dA} (h: ∀a i,(one a i).2.2.2.2.2.2.2.2.1=a.2.2.2.2.2.2.2.2.1): ∀(l:List Nat) (a:dA),(l.foldl one a).2.2.2.2.2.2.2.2.1=a.2.2.2.2.2.2.2.2.1
 | [],_=>rfl
 | x::l,a=>by rw[List.foldl_cons,yI7 h l,h]
theorem yJz (a:dA):(yd a).2.2.2.2.2.2.2.2.1=a.2.2.2.2.2.2.2.2.1:=yI7 y1V _ _
theorem y4q (a:dA):(yn a).2.2.2.2.2.2.2.2.1=a.2.2.2.2.2.2.2.2.1:=(yJz _).trans (yI7 (one:=yah) (fun _ _=>y5b _ _ _ _) _ (yS a))
def yaM (n:Int):dM:=bif leb 1 n&&leb n 20 then(List.replicate n.toNat [],[],false,[])else yc
theorem yL2 {n:Int} (h1:1≤n) (h2:n≤20):yx (yaM n)=true:=by
 unfold yaM;rw[zk2 h1,zk2 h2];refine ysa ?_ rfl rfl ?_ ?_ (Nat.zero_le _)
 ·show(List.replicate n.toNat ([]:List Int)).all yaB=true
  rw[List.all_eq_true];intro x hx;rw[(List.mem_replicate.1 hx).2]; rfl
 ·show 1≤(List.replicate n.toNat ([]:List Int)).length; rw[List.length_replicate]; omega
 ·show(List.replicate n.toNat ([]:List Int)).length≤20; rw[List.length_replicate]; omega
def yp (a:dA):dA:=(a.1,a.2.1,a.2.2.1.set a.2.2.2.1.toNat (yaM (6+a.2.1.2)),a.2.2.2.1,0,a.2.2.2.2.2)
def yaE (a:dA):dA×Int :=bif !(yM a)then(a,1)else bif ya a then(a,6)else bif a.2.2.2.1== -1|| !((nth a.2.2.1 a.2.2.2.1 yc).2.2.1)then(a,2)else bif a.2.2.2.2.2.2.2.2.2.2.2 then(a,5)else bif leb 59990 a.2.2.2.2.2.2.2.1 then(a,7) else(yn (yp a),bif ya (yn (yp a))then 6 else 0)
theorem y2x {a:dA} (h:yM a=true): -1≤a.2.2.2.1∧a.2.2.2.1≤a.2.1.1-1:=by
 simp only[yM,Bool.and_eq_true,zj7]at h;exact h.2.2.2.2.1
theorem yX5 {a:dA} (h:yM a=true) (h2:a.2.2.2.1≠ -1):inb a.2.2.2.1 a.2.2.1.length=true:=by
 have:=y2x h;have:=yF0 h;exact zj6.2 (by omega)
def yT (a:dA):dA:=(a.1,a.2.1,a.2.2.1,a.2.2.2.1,a.2.2.2.2.1,a.2.2.2.2.2.1,a.2.2.2.2.2.1,a.2.2.2.2.2.2.2)
def ym (a:dA):dA:=bif ya (yd a)then yd a else yn (yT (yd a))
theorem y4K (a:dA):(ym a).2.2.1.length=a.2.2.1.length:=by
 unfold ym;cases ya (yd a)
 ·exact(y5Q (yT (yd a))).trans (yFI a)
 ·exact yFI a
theorem yHD (a:dA):(ym a).2.2.2.2.2.2.2.2.1=a.2.2.2.2.2.2.2.2.1:=by
 unfold ym;cases ya (yd a)
 ·exact(y4q (yT (yd a))).trans (yJz a)
 ·exact yJz a
def yG (b:dA):dA:=(b.1,b.2.1,b.2.2.1,-1,0,b.2.2.2.2.2)
def yxH (a:dA):dA×Int:=bif ya (ym a)then(ym a,6)else(yn (yG (ym a)),bif ya (yn (yG (ym a)))then 6 else 0)
def yeJ (a:dA):dA×Int :=bif !(yM a)then(a,1)else bif ya a then(a,6)else bif a.2.2.2.1== -1||((nth a.2.2.1 a.2.2.2.1 yc).2.2.1||ltb a.2.2.2.2.1 a.2.1.2)then(a,2)else bif a.2.2.2.2.2.2.2.2.2.2.2 then(a,5)else bif leb 59990 a.2.2.2.2.2.2.2.1 then(a,7)else yxH a
def y2T (id:Int) (g:dG) (i:Int):dS:=(id,0,i,g.1,g.2,0,-1,0)
def ypA (m:dM) (s:Nat):dM:=(m.1.set (s+6) [0],m.2)
def yjp (id:Int) (g:dG) (i:Int):dM:=((yaM (6+g.2)).1.set 0 (yo (y2T id g i)),(yaM (6+g.2)).2)
def yV (id:Int) (g:dG) (i:Int):dM:=(List.range g.2.toNat).foldl ypA (yjp id g i)
def yDW (a:dA) (m:dM):dA:=(a.1,a.2.1,a.2.2.1++ [m],a.2.2.2)
def yD1 (id:Int) (g:dG):dA:=(id,g,[],-1,0,0,0,0,[],-1,false,false)
def ycK (id:Int) (g:dG):dA:=bif ye g&&(leb 1 id&&leb id 60000)then(List.range g.1.toNat).foldl (fun a (i:Nat)=>yDW a (yV id g i)) (yD1 id g)else yai
theorem yPJ (l:List Nat) (m:dM):(l.foldl ypA m).1.length=m.1.length:=by
 induction l generalizing m with
 | nil=>rfl
 | cons x t ih=>rw[List.foldl_cons,ih]; show(m.1.set _ _).length=_; rw[List.length_set]
def yy (a:dA):Int×(Int×Int)×Int×Int×Int×Int×Int×List dW×Bool:=(a.1,a.2.1,a.2.2.2.1,a.2.2.2.2.1,a.2.2.2.2.2.1,a.2.2.2.2.2.2.1,a.2.2.2.2.2.2.2.1,a.2.2.2.2.2.2.2.2.1,a.2.2.2.2.2.2.2.2.2.2.2)
theorem yIK (a:dA):yy (opA a).2=yy a:=by
 unfold opA;cases ya a
 ·cases(a.2.2.2.2.2.2.2.2.2.1==0)
  ·cases ltb 0 a.2.2.2.2.2.2.2.2.2.1<;>rfl
  ·rfl
 ·rfl
theorem yeY (a:dA) (m n:Int) (s:List Int):yy (ybr a m n s)=yy a:=by
 unfold ybr;cases(nth a.2.2.1 m yc).2.2.1
 ·cases(opA a).1
  ·exact yIK a
  ·exact yIK a
 ·rfl
theorem yMY (a:dA) (i:Nat):yy (yae a i)=yy a:=by
 unfold yae;cases(nth a.2.2.1 i yc).2.2.1
 ·cases(opA a).1
  ·exact yIK a
  ·exact yIK a
 ·rfl
theorem yn7 {one:dA→Nat→dA} (h: ∀a i,yy (one a i)=yy a): ∀(l:List Nat) (a:dA),yy (l.foldl one a)=yy a
 | [],_=>rfl
 | x::l,a=>by rw[List.foldl_cons,yn7 h l,h]
theorem yaO (a:dA):yy (yd a)=yy a:=yn7 yMY _ _
theorem ydh (a:dA):yy (yn a)=yy (yS a):=(yaO _).trans (yn7 (one:=yah) (fun _ _=>yeY _ _ _ _) _ _)
theorem yQ {a b:dA} (h:yy a=yy b):a.2.1=b.2.1:=congrArg (fun x=>x.2.1) h
theorem ycR {a b:dA} (h:yy a=yy b):a.2.2.2.2.1=b.2.2.2.2.1:=congrArg (fun x=>x.2.2.2.1) h
theorem yUj {a b:dA} (h:yy a=yy b):a.2.2.2.2.2.2.2.2.1=b.2.2.2.2.2.2.2.2.1:=congrArg (fun x=>x.2.2.2.2.2.2.2.1) h
def yW0 (b:dA):dA:=(b.1,b.2.1,b.2.2.1,b.2.2.2.1,i64.wrap (b.2.2.2.2.1+1),b.2.2.2.2.2)
def yL (a:dA):dA:=ybr a a.2.2.2.1 (yu a.2.2.2.2.1) [nth (yK a a.2.2.2.2.1).1 a.2.2.2.1 0]
def yY (a:dA):Int×dA:=bif(yK a a.2.2.2.2.1).2 then(bif ya (yL a)then(6,yL a)else(0,yW0 (yL a)))else(5,a)
def ybO (a:dA):dA×Int :=bif !(yM a)then(a,1)else bif ya a then(a,6)else bif a.2.2.2.1== -1||((nth a.2.2.1 a.2.2.2.1 yc).2.2.1||leb a.2.1.2 a.2.2.2.2.1)then(a,2)else bif a.2.2.2.2.2.2.2.2.2.2.2 then(a,5)else((yY a).2,(yY a).1)
def yfL:Nat→dA→dA×Int
 | 0,a=>(a,0)
 | n+1,a=>bif ltb a.2.2.2.2.1 a.2.1.2 then(bif(ybO a).2 !=0 then ybO a else yfL n (ybO a).1)else(a,0)
def yc7 (a:dA):dA×Int:=bif(yaE a).2 !=0 then yaE a else bif(yfL 8 (yaE a).1).2 !=0 then yfL 8 (yaE a).1 else yeJ (yfL 8 (yaE a).1).1
theorem yZG {a:dA} (h:yM a=true):0≤a.2.2.2.2.1∧a.2.2.2.2.1≤a.2.1.2:=by
 simp only[yM,Bool.and_eq_true,zj7]at h;exact h.2.2.2.2.2.1
theorem y5c {a:dA} (h:(ybO a).2=0):yM a=true∧a.2.2.2.2.1<a.2.1.2∧(ybO a).1.2.1=a.2.1∧(ybO a).1.2.2.2.2.1=a.2.2.2.2.1+1:=by
 unfold ybO at h ⊢;cases ha:yM a
 ·rw[ha]at h; exact absurd (show(1:Int)=0 from h) (by decide)
 rw[ha]at h;have hg:=yj.1 (yen ha);have hb:=yZG ha;cases hd:ya a
 ·rw[hd]at h
  cases hc:(a.2.2.2.1== -1||((nth a.2.2.1 a.2.2.2.1 yc).2.2.1||leb a.2.1.2 a.2.2.2.2.1))
  ·rw[hc]at h
   simp only[Bool.or_eq_false_iff]at hc
   have hS:a.2.2.2.2.1<a.2.1.2:=by
    rcases Int.lt_or_le a.2.2.2.2.1 a.2.1.2 with h1 | h1
    ·exact h1
    ·have:=hc.2.2; rw[zk2 h1]at this; cases this
   cases hbr:a.2.2.2.2.2.2.2.2.2.2.2
   ·rw[hbr]at h
    simp only[Bool.not_true,cond_false]at h ⊢;unfold yY at h ⊢;cases hw:(yK a a.2.2.2.2.1).2
    ·rw[hw]at h; exact absurd (show(5:Int)=0 from h) (by decide)
    ·rw[hw]at h
     cases hp:ya (yL a)
     ·have hc2:=yeY a a.2.2.2.1 (yu a.2.2.2.2.1) [nth (yK a a.2.2.2.2.1).1 a.2.2.2.1 0]
      refine⟨trivial,hS,(show(yL a).2.1=a.2.1 from yQ hc2),?_⟩;show i64.wrap ((yL a).2.2.2.2.1+1)=_;rw[show(yL a).2.2.2.2.1=a.2.2.2.2.1 from ycR hc2,wr (by omega) (by omega)]
     ·rw[hp]at h; exact absurd (show(6:Int)=0 from h) (by decide)
   ·rw[hbr]at h; exact absurd (show(5:Int)=0 from h) (by decide)
  ·rw[hc]at h; exact absurd (show(2:Int)=0 from h) (by decide)
 ·rw[hd]at h; exact absurd (show(6:Int)=0 from h) (by decide)
theorem y3G {n:Nat} {a:dA} (h:ltb a.2.2.2.2.1 a.2.1.2=false):yfL n a=(a,0):=by
 cases n
 ·rfl
 ·unfold yfL; rw[h]; rfl
theorem y4A {a:dA} (h:(yaE a).2=0):(yaE a).1.2.1=a.2.1∧(yaE a).1.2.2.2.2.1=0∧ye a.2.1=true:=by
 unfold yaE at h ⊢;cases ha:yM a
 ·rw[ha]at h; exact absurd (show(1:Int)=0 from h) (by decide)
 rw[ha]at h;cases hd:ya a
 ·rw[hd]at h
  cases hc:(a.2.2.2.1== -1|| !((nth a.2.2.1 a.2.2.2.1 yc).2.2.1))
  ·rw[hc]at h
   cases hb:a.2.2.2.2.2.2.2.2.2.2.2
   ·rw[hb]at h
    cases hg:leb 59990 a.2.2.2.2.2.2.2.1
    ·have hm:=ydh (yp a)
     exact⟨(show(yn (yp a)).2.1=(yS (yp a)).2.1 from yQ hm),(show(yn (yp a)).2.2.2.2.1=(yS (yp a)).2.2.2.2.1 from ycR hm),yen ha⟩
    ·rw[hg]at h; exact absurd (show(7:Int)=0 from h) (by decide)
   ·rw[hb]at h; exact absurd (show(5:Int)=0 from h) (by decide)
  ·rw[hc]at h; exact absurd (show(2:Int)=0 from h) (by decide)
 ·rw[hd]at h; exact absurd (show(6:Int)=0 from h) (by decide)
theorem y5M {a:dA} (h:yM a=true) (h2:a.2.2.2.1≠ -1):inb a.2.2.2.1 a.2.1.1.toNat=true:=by
 have:=y2x h;exact zj6.2 (by omega)
def yA8 (lost:Int) (br:Bool) (S:Int) (i:Nat) (m:dM):Prop:=yx m=true∧(m.1.length:Int)=6+S∧(m.2.2.1=true→(i:Int)=lost∨br=true)
def yGP (lost:Int) (br:Bool) (S:Int) (l:List dM):Prop:= ∀i,i<l.length→yA8 lost br S i (nth l i yc)
theorem yoc {lost S:Int} {br:Bool} {l:List dM} {i:Nat} {x:dM} (h:yGP lost br S l) (hx:i<l.length→yA8 lost br S i x):yGP lost br S (l.set i x):=fun j hj=>by
 rw[List.length_set]at hj;by_cases e:j=i
 ·subst e
  rw[zkS,zkJ (by rw[List.length_set]; exact hj),List.getElem_set_self]; exact hx hj
 ·have:=h j hj
  rw[zkS,zkJ hj]at this;rw[zkS,zkJ (by rw[List.length_set]; exact hj),List.getElem_set_ne (fun e'=>e e'.symm)]; exact this
theorem y4t {a:dA}:yl0 a=true↔yGP a.2.2.2.1 a.2.2.2.2.2.2.2.2.2.2.2 a.2.1.2 a.2.2.1∧(a.2.2.1.length:Int)=a.2.1.1:=by
 constructor
 ·intro h
  refine⟨fun i hi=>y44 h hi,?_⟩;simp only[yl0,Bool.and_eq_true,beq_iff_eq]at h; exact h.2
 ·rintro⟨h1,h2⟩
  simp only[yl0,Bool.and_eq_true,beq_iff_eq,Bool.not_eq_true',List.any_eq_false,List.mem_range];refine⟨fun i hi=> ?_,h2⟩;obtain⟨g1,g2,g3⟩:=h1 i hi;unfold yhu;rw[g1,show(((nth a.2.2.1 i yc).1.length:Int) !=6+a.2.1.2)=false from bne_eq_false_iff_eq.2 g2];cases hf:(nth a.2.2.1 i yc).2.2.1
  ·simp
  ·rcases g3 hf with e | e
   ·rw[show((i:Int) !=a.2.2.2.1)=false from bne_eq_false_iff_eq.2 e]; simp
   ·rw[e]; simp
def fuz (a:dA):Int:=a.2.2.2.2.2.2.2.2.2.1
def yF (a:dA):Prop:=(yGP a.2.2.2.1 a.2.2.2.2.2.2.2.2.2.2.2 a.2.1.2 a.2.2.1∧(a.2.2.1.length:Int)=a.2.1.1)∧ -1≤fuz a∧fuz a≤1000
def yX (a:dA):Prop:=ye a.2.1=true∧(1≤a.1∧a.1≤60000)∧ya2 a.2.1 a.2.2.2.2.2.2.2.2.1=true∧(-1≤a.2.2.2.1∧a.2.2.2.1≤a.2.1.1-1)∧(0≤a.2.2.2.2.1∧a.2.2.2.2.1≤a.2.1.2)∧(a.2.2.2.1= -1→a.2.2.2.2.1=0) ∧ (0≤a.2.2.2.2.2.2.1∧a.2.2.2.2.2.2.1≤60000)∧(a.2.2.2.2.2.2.1≤a.2.2.2.2.2.1∧a.2.2.2.2.2.1≤60000)∧a.2.2.2.2.2.1≤a.2.2.2.2.2.2.1+4∧0≤a.2.2.2.2.2.2.2.1∧a.2.2.2.2.2.2.2.1≤60000
theorem yC0 {a:dA}:yM a=true↔yX a∧yF a:=by
 unfold yM yX yF fuz;simp only[Bool.and_eq_true,zj7,y4t,Bool.not_eq_true',Bool.and_eq_false_iff,beq_eq_false_iff_ne,bne_eq_false_iff_eq];constructor
 ·rintro⟨h1,h2,h3,h4,h5,h6,h7,h8,h9,h10,h11,h12⟩
  exact⟨⟨h1,h2,h4,h5,h6,fun e=>h7.resolve_left (fun g=>g e),h8,h9,h10,h11.1,h11.2⟩,h3,h12⟩
 ·rintro⟨⟨h1,h2,h4,h5,h6,h7,h8,h9,h10,h11,h11'⟩,h3,h12⟩
  exact⟨h1,h2,h3,h4,h5,h6,(Decidable.em (a.2.2.2.1= -1)).elim (fun e=> .inr (h7 e)) (fun e=> .inl e),h8,h9,h10,⟨h11,h11'⟩,h12⟩
theorem yC1 {a b:dA} (h:yy b=yy a) (ha:yX a):yX b:=by
 unfold yy at h;simp only[Prod.mk.injEq]at h;obtain⟨h1,h2,h3,h4,h5,h6,h7,h8,h9⟩:=h;unfold yX at *;rw[h1,h2,h3,h4,h5,h6,h7,h8]; exact ha
theorem y6q {a b:dA} (h:yy b=yy a) (hl:b.2.2.1.length=a.2.2.1.length) (hm:yGP a.2.2.2.1 a.2.2.2.2.2.2.2.2.2.2.2 a.2.1.2 b.2.2.1) (hn:(a.2.2.1.length:Int)=a.2.1.1) (hf: -1≤fuz b∧fuz b≤1000):yF b:=by
 unfold yy at h;simp only[Prod.mk.injEq]at h;obtain⟨h1,h2,h3,h4,h5,h6,h7,h8,h9⟩:=h;unfold yF;rw[h2,h3,h9,hl]; exact⟨⟨hm,hn⟩,hf⟩
theorem y6K {a:dA} (h: -1≤fuz a∧fuz a≤1000): -1≤fuz (opA a).2∧fuz (opA a).2≤1000:=by
 unfold opA;cases ya a
 ·cases h0:(a.2.2.2.2.2.2.2.2.2.1==0)
  ·cases h1:ltb 0 a.2.2.2.2.2.2.2.2.2.1
   ·exact h
   ·have:=zka.1 h1
    unfold fuz at h;show -1≤i64.wrap (a.2.2.2.2.2.2.2.2.2.1-1)∧i64.wrap (a.2.2.2.2.2.2.2.2.2.1-1)≤1000;rw[wr (by omega) (by omega)]; omega
  ·show -1≤(-1:Int)∧(-1:Int)≤1000; omega
 ·exact h
theorem yNd {a:dA} (h:yF a):yF (opA a).2:=y6q (yIK a) (by rw[yaY]) (by rw[yaY]; exact h.1.1) h.1.2 (y6K h.2)
theorem yqZ {a:dA} {m:Int} {x:dM} (h:yF a) (hm:inb m a.2.2.1.length=true) (hx:yA8 a.2.2.2.1 a.2.2.2.2.2.2.2.2.2.2.2 a.2.1.2 m.toNat (nth a.2.2.1 m yc)→yA8 a.2.2.2.1 a.2.2.2.2.2.2.2.2.2.2.2 a.2.1.2 m.toNat x):yF (ybx a m x):=by
 have hm:=zj6.1 hm;refine⟨⟨yoc h.1.1 (fun hi=>hx ?_),by show((a.2.2.1.set m.toNat x).length:Int)=_; rw[List.length_set]; exact h.1.2⟩,h.2⟩;have:=h.1.1 m.toNat hi;rwa[Int.toNat_of_nonneg hm.1]at this
theorem y4s {lost S:Int} {br:Bool} {i:Nat} {m:dM} (n:Int) (s:List Int) (h:yA8 lost br S i m):yA8 lost br S i (yab m n s).1 :=
 ⟨y3k n s h.1,by rw[(yzZ m n s).1]; exact h.2.1,by rw[(yzZ m n s).2]; exact h.2.2⟩
theorem y4r {lost S:Int} {br:Bool} {i:Nat} {m:dM} (h:yA8 lost br S i m):yA8 lost br S i (yC m) :=
 ⟨y5E h.1,by rw[(yn6 m).1]; exact h.2.1,by rw[(yn6 m).2]; exact h.2.2⟩
theorem yr9 {a:dA} {m n:Int} {s:List Int} (h:yF a) (hm:inb m a.2.2.1.length=true):yF (ybr a m n s):=by
 unfold ybr;cases(nth a.2.2.1 m yc).2.2.1
 ·cases(opA a).1
  ·exact yNd h
  ·exact yqZ (yNd h) (by rw[yaY]; exact hm) (fun g=>by rw[yaY]at g; exact y4s _ _ g)
 ·exact h
theorem y2L {a:dA} {i:Nat} (h:yF a) (hi:i<a.2.2.1.length):yF (yae a i):=by
 unfold yae;cases(nth a.2.2.1 i yc).2.2.1
 ·cases(opA a).1
  ·exact yNd h
  ·exact yqZ (yNd h) (by rw[yaY]; exact zkR hi) (fun g=>by rw[yaY]at g; exact y4r g)
 ·exact h
theorem ylt {P:dA→Prop} {one:dA→Nat→dA} (hl: ∀a i,(one a i).2.2.1.length=a.2.2.1.length) (ho: ∀a i,P a→i<a.2.2.1.length→P (one a i)): ∀(n:Nat) (a:dA),n≤a.2.2.1.length→P a→P ((List.range n).foldl one a)
 | 0,_,_,h=>h
 | n+1,a,hn,h=>by
  rw[List.range_succ,List.foldl_append];exact ho _ _ (ylt hl ho n a (by omega) h) (by rw[yjx hl]; exact hn)
theorem yjd {a:dA} (h:yF a):yF (yd a):=ylt (P:=yF) (one:=yae) ymk (fun _ _=>y2L) _ a (Nat.le_refl _) h
theorem yob {a:dA} (h:yF a):yF (yn a) :=yjd (ylt (P:=yF) (one:=yah) (fun _ _=>ypH _ _ _ _) (fun _ _ h hi=>yr9 h (zkR hi)) _ (yS a) (Nat.le_refl _) h)
theorem yvl {a:dA} (h:yF a):yF (ym a):=by
 unfold ym;cases ya (yd a)
 ·exact yob (a:=yT (yd a)) (yjd h)
 ·exact yjd h
def yaD (a:dA):Prop:=ya a=false∧fuz a= -1
theorem y3Y {a:dA} (h:yaD a):opA a=(true,a):=by
 unfold opA;rw[h.1,show a.2.2.2.2.2.2.2.2.2.1= -1 from h.2]; rfl
theorem yEK {a:dA} (h:yaD a) (m n:Int) (s:List Int):yaD (ybr a m n s):=by
 unfold ybr;rw[y3Y h];cases(nth a.2.2.1 m yc).2.2.1<;>exact h
theorem y2H {a:dA} (h:yaD a) (i:Nat):yaD (yae a i):=by
 unfold yae;rw[y3Y h];cases(nth a.2.2.1 i yc).2.2.1<;>exact h
theorem yzk {a:dA} (h:yaD a):yaD (yd a):=ylt (P:=yaD) (one:=yae) ymk (fun _ i h _=>y2H h i) _ a (Nat.le_refl _) h
theorem yGG {a:dA} (h:yaD a):yaD (yn a) :=yzk (ylt (P:=yaD) (one:=yah) (fun _ _=>ypH _ _ _ _) (fun _ _ h _=>yEK h _ _ _) _ (yS a) (Nat.le_refl _) h)
theorem yI4 {a:dA} (h:yaD a):ym a=yn (yT (yd a)):=by
 unfold ym;rw[(yzk h).1]; rfl
theorem yJd {a:dA} (h:yaD a):yaD (ym a):=by
 rw[yI4 h]; exact yGG (a:=yT (yd a)) (yzk h)
def Wk (k:Int) (a:dA):Prop:=yX a∧yF a∧yaD a∧a.2.2.2.2.2.2.2.2.2.2.2=false∧a.2.2.2.2.2.2.2.1≤k
theorem y6Q {k:Int} {a:dA} (h:Wk k a):yM a=true:=yC0.2 ⟨h.1,h.2.1⟩
theorem ydv {k j:Int} {a:dA} (h:Wk k a) (hj:k≤j):Wk j a:=⟨h.1,h.2.1,h.2.2.1,h.2.2.2.1,Int.le_trans h.2.2.2.2 hj⟩
theorem yC3 {k:Int} {a b:dA} (hc:yy b=yy a) (hk:yF b) (hf:yaD b) (h:Wk k a):Wk k b:=by
 refine⟨yC1 hc h.1,hk,hf,?_⟩;unfold yy at hc;simp only[Prod.mk.injEq]at hc;obtain⟨_,_,_,_,_,_,h7,_,h9⟩:=hc;rw[h7,h9]; exact h.2.2.2
theorem y6S {k:Int} {a:dA} {m n:Int} {s:List Int} (h:Wk k a) (hm:inb m a.2.2.1.length=true):Wk k (ybr a m n s):=yC3 (yeY _ _ _ _) (yr9 h.2.1 hm) (yEK h.2.2.1 _ _ _) h
theorem y6y {k:Int} {a:dA} (h:Wk k a):Wk k (yd a):=yC3 (yaO _) (yjd h.2.1) (yzk h.2.2.1) h
theorem y57 {k:Int} {a:dA} (h:Wk k a) (hk:k+1≤60000):Wk (k+1) (yS a):=by
 obtain⟨⟨c1,c2,c3,c4,c5,c6,c7,c8,c9,c10,c11⟩,h2,h3,h4,h5⟩:=h;have e:i64.wrap (a.2.2.2.2.2.2.2.1+1)=a.2.2.2.2.2.2.2.1+1:=wr (by omega) (by omega);refine⟨⟨c1,c2,c3,c4,c5,c6,c7,c8,c9,?_,?_⟩,h2,h3,h4,?_⟩
 ·show 0≤i64.wrap (a.2.2.2.2.2.2.2.1+1); omega
 ·show i64.wrap (a.2.2.2.2.2.2.2.1+1)≤_; omega
 ·show i64.wrap (a.2.2.2.2.2.2.2.1+1)≤_; omega
theorem yZF {k:Int} {a:dA} (h:Wk k a) (hk:k+1≤60000):Wk (k+1) (yn a):=yC3 (ydh _) (yob h.2.1) (yGG h.2.2.1) (y57 h hk)
theorem y5p {k:Int} {a:dA} (h:Wk k a):Wk k (yT a):=by
 obtain⟨⟨c1,c2,c3,c4,c5,c6,c7,c8,c9,c10,c11⟩,h2,h3,h4,h5⟩:=h;refine⟨⟨c1,c2,c3,c4,c5,c6,⟨?_,?_⟩,⟨Int.le_refl _,c8.2⟩,?_,c10,c11⟩,h2,h3,h4,h5⟩
 ·show 0≤a.2.2.2.2.2.1; omega
 ·show a.2.2.2.2.2.1≤60000; omega
 ·show a.2.2.2.2.2.1≤a.2.2.2.2.2.1+4; omega
theorem y3g {k:Int} {a:dA} (h:Wk k a) (hk:k+1≤60000):Wk (k+1) (ym a):=by
 rw[yI4 h.2.2.1]; exact yZF (y5p (y6y h)) hk
theorem y5o {k:Int} {a:dA} {m:Int} {x:dM} (h:Wk k a) (hm:inb m a.2.2.1.length=true) (hx:yA8 a.2.2.2.1 a.2.2.2.2.2.2.2.2.2.2.2 a.2.1.2 m.toNat (nth a.2.2.1 m yc)→yA8 a.2.2.2.1 a.2.2.2.2.2.2.2.2.2.2.2 a.2.1.2 m.toNat x):Wk k (ybx a m x) :=yC3 (a:=a) (b:=ybx a m x) rfl (yqZ h.2.1 hm hx) h.2.2.1 h
theorem y36 {k m:Int} {a:dA} (h:Wk k a) (hl:a.2.2.2.1= -1) (hm:inb m a.2.2.1.length=true) (hk:k+1≤60000):Wk (k+1) (ycr a m):=by
 have hmi:=zj6.1 hm
 have hw:Wk k (yZ a m):=by
  obtain⟨⟨c1,c2,c3,c4,c5,c6,c7,c8,c9,c10,c11⟩,⟨⟨g1,g2⟩,g3⟩,f,b,t⟩:=h;refine⟨⟨c1,c2,c3,⟨?_,?_⟩,⟨Int.le_refl _,by show(0:Int)≤a.2.1.2; omega⟩,fun e=>rfl,c7,c8,c9,c10,c11⟩,⟨⟨?_,?_⟩,g3⟩,f,b,t⟩
  ·show -1≤m; omega
  ·show m≤a.2.1.1-1; omega
  ·show yGP m a.2.2.2.2.2.2.2.2.2.2.2 a.2.1.2 (a.2.2.1.set m.toNat (yeU (nth a.2.2.1 m yc)))
   refine yoc (fun i hi=> ?_) (fun hi=> ?_)
   ·obtain⟨e1,e2,e3⟩:=g1 i hi
    refine⟨e1,e2,fun e=> ?_⟩;rcases e3 e with e | e
    ·omega
    ·exact .inr e
   ·have:=g1 m.toNat hi
    rw[Int.toNat_of_nonneg hmi.1]at this;exact⟨yXQ this.1,this.2.1,fun _=> .inl (Int.toNat_of_nonneg hmi.1)⟩
  ·show((a.2.2.1.set m.toNat (yeU (nth a.2.2.1 m yc))).length:Int)=a.2.1.1
   rw[List.length_set]; exact g2
 unfold ycr;rw[show(a.2.2.2.1== -1)=true from beq_iff_eq.2 hl,h.2.2.1.1,h.2.2.2.1];cases ltb a.2.2.2.2.2.2.2.1 60000
 ·exact ydv hw (by omega)
 ·exact yZF hw hk
theorem y59 {k:Int} {a:dA} (h:Wk k a) (hl:inb a.2.2.2.1 a.2.2.1.length=true) (hk:k+1≤60000):Wk (k+1) (yn (yp a)):=by
 have hmi:=zj6.1 hl;refine yZF ?_ hk;obtain⟨⟨c1,c2,c3,c4,c5,c6,c7,c8,c9,c10,c11⟩,⟨⟨g1,g2⟩,g3⟩,f,b,t⟩:=h;have hg:=yj.1 c1;refine⟨⟨c1,c2,c3,c4,⟨Int.le_refl _,by show(0:Int)≤a.2.1.2; omega⟩,fun e=>rfl,c7,c8,c9,c10,c11⟩,⟨⟨yoc g1 (fun hi=>⟨yL2 (by omega) (by omega),?_,fun e=> ?_⟩),?_⟩,g3⟩,f,b,t⟩
 ·unfold yaM
  rw[zk2 (show 1≤6+a.2.1.2 by omega),zk2 (show 6+a.2.1.2≤20 by omega)];show((List.replicate (6+a.2.1.2).toNat ([]:List Int)).length:Int)=6+a.2.1.2;rw[List.length_replicate]; omega
 ·unfold yaM at e
  rw[zk2 (show 1≤6+a.2.1.2 by omega),zk2 (show 6+a.2.1.2≤20 by omega)]at e;cases e
 ·show((a.2.2.1.set a.2.2.2.1.toNat (yaM (6+a.2.1.2))).length:Int)=a.2.1.1
  rw[List.length_set]; exact g2
theorem y6x {k:Int} {a:dA} (h:Wk k a) (hl:inb a.2.2.2.1 a.2.2.1.length=true) (hb:a.2.2.2.2.1<a.2.1.2):Wk k (yY a).2:=by
 have hp:Wk k (yL a):=y6S h hl;have e:=yeY a a.2.2.2.1 (yu a.2.2.2.2.1) [nth (yK a a.2.2.2.2.1).1 a.2.2.2.1 0];have e1:(yL a).2.2.2.2.1=a.2.2.2.2.1:=ycR e;have e2:(yL a).2.1=a.2.1:=yQ e;have e3:(yL a).2.2.2.1=a.2.2.2.1:=congrArg (fun x=>x.2.2.1) e;unfold yY;cases(yK a a.2.2.2.2.1).2
 ·exact h
 ·generalize yL a=R at hp e1 e2 e3 ⊢
  rw[hp.2.2.1.1];have hmi:=zj6.1 hl;obtain⟨⟨c1,c2,c3,c4,c5,c6,c7,c8,c9,c10,c11⟩,g2,g3,g4,g5⟩:=hp;have hg:=yj.1 c1;have e4:i64.wrap (R.2.2.2.2.1+1)=R.2.2.2.2.1+1:=wr (by omega) (by omega);refine⟨⟨c1,c2,c3,c4,⟨?_,?_⟩,fun e=> ?_,c7,c8,c9,c10,c11⟩,g2,g3,g4,g5⟩
  ·show 0≤i64.wrap (R.2.2.2.2.1+1); omega
  ·show i64.wrap (R.2.2.2.2.1+1)≤R.2.1.2; rw[e4,e1,e2]; omega
  ·have:R.2.2.2.1= -1:=e
   omega
def ybd (r:dN) (a:dA) (i:Nat):dA:=ybr a i (yg r.1) (yaf r)
def yr (a:dA) (r:dN):dA:=yd ((List.range a.2.2.1.length).foldl (ybd r) a)
theorem ylI (r:dN) (a:dA) (i:Nat):(ybd r a i).2.2.1.length=a.2.2.1.length:=ypH _ _ _ _
theorem yPM (r:dN) {a:dA} (i:Nat) (h:ya a=true):ybd r a i=a:=yow h _ _ _
theorem yNg (a:dA) (r:dN):(yr a r).2.2.1.length=a.2.2.1.length:=(yFI _).trans (yjx (ylI r) _ _)
theorem ybs (a:dA) (r:dN):yy (yr a r)=yy a:=(yaO _).trans (yn7 (one:=ybd r) (fun _ _=>yeY _ _ _ _) _ _)
def ycS (p N x:Int) (data:List Int) (i:Int):Int:=bif i==p then x else nth data ((i-p-1+N).tmod N) 0
def ybe (p N s:Int) (data:List Int) (a:dA) (i:Nat):dA:=bif ycL a i s then ybr a i (yu s) [ycS p N (yaF data) data i]else a
def yI (a:dA) (s:Int) (data:List Int):dA:=(List.range a.2.2.1.length).foldl (ybe (yk a.2.1 s) a.2.1.1 s data) a
theorem yqU (p N s:Int) (data:List Int) (a:dA) (i:Nat):(ybe p N s data a i).2.2.1.length=a.2.2.1.length:=by
 unfold ybe; cases ycL a i s
 ·rfl
 ·exact ypH _ _ _ _
theorem yEs (p N s:Int) (data:List Int) {a:dA} (i:Nat) (h:ya a=true):ybe p N s data a i=a:=by
 unfold ybe; cases ycL a i s
 ·rfl
 ·exact yow h _ _ _
theorem yLf (p N s:Int) (data:List Int) (a:dA) (i:Nat):yy (ybe p N s data a i)=yy a:=by
 unfold ybe; cases ycL a i s
 ·rfl
 ·exact yeY _ _ _ _
theorem y5B (a:dA) (s:Int) (data:List Int):(yI a s data).2.2.1.length=a.2.2.1.length:=yjx (yqU _ _ _ _) _ _
theorem yeo (a:dA) (s:Int) (data:List Int):yy (yI a s data)=yy a:=yn7 (yLf _ _ _ _) _ _
theorem y65 {N i p:Int} (h:3≤N∧N≤5) (hi:0≤i∧i<N) (hp:0≤p∧p≤N-1) (hne:i≠p):0≤(i-p-1+N).tmod N∧(i-p-1+N).tmod N<N-1:=by
 rw[Int.tmod_eq_emod_of_nonneg (by omega)];have:N=3∨N=4∨N=5:=by omega
 rcases this with rfl | rfl | rfl<;>omega
theorem y4E {N p x:Int} {data:List Int} (h:3≤N∧N≤5) (hp:0≤p∧p≤N-1) (hd:(data.length:Int)=N-1) :
  (List.range data.length).foldl (fun l (i:Nat)=>l.set ((p+1+i).tmod N).toNat (nth data i 0)) ((List.replicate N.toNat 0).set p.toNat x)=(List.range N.toNat).map (fun(i:Nat)=>ycS p N x data i):=by
 have:N=3∨N=4∨N=5:=by omega
 rcases this with rfl | rfl | rfl
 ·match data,hd with
  | [a,b],_ =>
   have:p=0∨p=1∨p=2:=by omega
   rcases this with rfl | rfl | rfl<;>simp[ycS,nth,List.range_succ,List.replicate_succ]
  | [],hd=>simp at hd
  | [_],hd=>simp at hd
  | _::_::_::_,hd=>simp only[List.length_cons]at hd; omega
 ·match data,hd with
  | [a,b,c],_ =>
   have:p=0∨p=1∨p=2∨p=3:=by omega
   rcases this with rfl | rfl | rfl | rfl<;>simp[ycS,nth,List.range_succ,List.replicate_succ]
  | [],hd=>simp at hd
  | [_],hd=>simp at hd
  | [_,_],hd=>simp at hd
  | _::_::_::_::_,hd=>simp only[List.length_cons]at hd; omega
 ·match data,hd with
  | [a,b,c,d],_ =>
   have:p=0∨p=1∨p=2∨p=3∨p=4:=by omega
   rcases this with rfl | rfl | rfl | rfl | rfl<;>simp[ycS,nth,List.range_succ,List.replicate_succ]
  | [],hd=>simp at hd
  | [_],hd=>simp at hd
  | [_,_],hd=>simp at hd
  | [_,_,_],hd=>simp at hd
  | _::_::_::_::_::_,hd=>simp only[List.length_cons]at hd; omega
def yh2 (a:dA):dA:=yr a (yaH a a.2.2.2.2.2.1).1
def ykY (a:dA):dA:=yI (yO (yh2 a)) (yaH a a.2.2.2.2.2.1).1.2.1 (yaH a a.2.2.2.2.2.1).1.2.2
def yqH (_:Nat) (a:dA):dA ⊕ (dA ⊕ dA) :=bif !(yaH a a.2.2.2.2.2.1).2||leb 60000 a.2.2.2.2.2.1 then .inr (.inl a)else bif ya (yh2 a)then .inr (.inr (yh2 a))else bif ya (ykY a)then .inr (.inr (ykY a))else .inl (ykY a)
def yMX (a:dA):dA:=match goE yqH .inl 4 0 a with
 | .inl b=>ym b
 | .inr b=>b
def ymh (a:dA):dA:=bif yM a&&(!(ya a)&&(!a.2.2.2.2.2.2.2.2.2.2.2&&ltb a.2.2.2.2.2.2.2.1 60000))then yMX a else a
def yoD (l:List dM) (ks:List Int) (id fuse:Int):dA×Bool :=bif(yfX (yak l ks) id).2 then(ymh (bif leb (-1) fuse&&leb fuse 1000 then yhV (yfX (yak l ks) id).1 fuse (ya (yfX (yak l ks) id).1)else(yfX (yak l ks) id).1),true)else(yai,false)
theorem y29 (a:dA):(yh2 a).2.1=a.2.1:=yQ (ybs _ _)
theorem y5Y (a:dA):(ykY a).2.1=a.2.1:=(yQ (yeo (yO (yh2 a)) _ _)).trans (y29 a)
theorem y5Z (a:dA):(ykY a).2.2.1.length=a.2.2.1.length:=(y5B (yO (yh2 a)) _ _).trans (yNg a _)
theorem y3a: ∀(k i:Nat) (a b:dA),ya a=false→goE yqH .inl k i a= .inl b→ya b=false
 | 0,_,a,b,h,e=>by cases e; exact h
 | k+1,i,a,b,h,e=>by
  unfold goE yqH at e;cases hc:(!(yaH a a.2.2.2.2.2.1).2||leb 60000 a.2.2.2.2.2.1)
  ·rw[hc]at e
   cases hd1:ya (yh2 a)
   ·rw[hd1]at e
    cases hd2:ya (ykY a)
    ·rw[hd2]at e
     exact y3a k (i+1) (ykY a) b hd2 e
    ·rw[hd2]at e; cases e
   ·rw[hd1]at e; cases e
  ·rw[hc]at e; cases e; exact h
theorem yfy {a b:dA} (h:yy a=yy b):a.2.2.2.1=b.2.2.2.1:=congrArg (fun x=>x.2.2.1) h
def yh (a:dA) (i:Int):dM:=nth a.2.2.1 i yc
theorem yM9 {a:dA} {m i:Int} {x:dM} (hm:inb m a.2.2.1.length=true) (hi:0≤i):yh (ybx a m x) i=bif m==i then x else yh a i:=yFa hm hi
def yet (n:Int) (s:List Int) (m:dM):dM:=bif m.2.2.1 then m else(yab m n s).1
def Did (g:dM→dM) (i:Int) (a r:dA):Prop:=yy r=yy a∧r.2.2.1.length=a.2.2.1.length ∧ ((ya r=false∧ ∀j,0≤j→yh r j=bif i==j then g (yh a j)else yh a j)∨(ya r=true∧ ∀j,yh r j=yh a j))
theorem yx5 {a:dA} {m:Int} (n:Int) (s:List Int) (h:ya a=false) (hm:inb m a.2.2.1.length=true):Did (yet n s) m a (ybr a m n s):=by
 refine⟨yeY _ _ _ _,ypH _ _ _ _,?_⟩;have hd:=y25 h m n s;unfold ybr at hd ⊢;cases hf:(nth a.2.2.1 m yc).2.2.1
 ·rw[hf]at hd
  cases ho:(opA a).1
  ·rw[ho]at hd
   refine .inr ⟨hd,fun j=> ?_⟩;show nth (opA a).2.2.2.1 j yc=yh a j;rw[yaY]; rfl
  ·rw[ho]at hd
   refine .inl ⟨hd,fun j hj=> ?_⟩;show yh (ybx (opA a).2 m (yab (nth a.2.2.1 m yc) n s).1) j=_;rw[yM9 (by rw[yaY]; exact hm) hj];cases hj2:(m==j)
   ·show nth (opA a).2.2.2.1 j yc=yh a j
    rw[yaY]; rfl
   ·have:=beq_iff_eq.1 hj2
    subst this;show _=yet n s (yh a m);unfold yet yh;rw[hf]; rfl
 ·refine .inl ⟨h,fun j hj=> ?_⟩
  cases hj2:(m==j)
  ·rfl
  ·have:=beq_iff_eq.1 hj2
   subst this;show yh a m=yet n s (yh a m);unfold yet yh;rw[hf]; rfl
theorem y52 {a:dA} {i:Nat} (h:ya a=false) (hm:i<a.2.2.1.length):Did yC i a (yae a i):=by
 refine⟨yMY _ _,ymk _ _,?_⟩;have hd:=yMZ h i;unfold yae at hd ⊢;cases hf:(nth a.2.2.1 i yc).2.2.1
 ·rw[hf]at hd
  cases ho:(opA a).1
  ·rw[ho]at hd
   refine .inr ⟨hd,fun j=> ?_⟩;show nth (opA a).2.2.2.1 j yc=yh a j;rw[yaY]; rfl
  ·rw[ho]at hd
   refine .inl ⟨hd,fun j hj=> ?_⟩;show yh (ybx (opA a).2 i (yC (nth a.2.2.1 i yc))) j=_;rw[yM9 (by rw[yaY]; exact zkR hm) hj];cases hj2:((i:Int)==j)
   ·show nth (opA a).2.2.2.1 j yc=yh a j
    rw[yaY]; rfl
   ·have:=beq_iff_eq.1 hj2
    subst this; rfl
 ·refine .inl ⟨h,fun j hj=> ?_⟩
  cases hj2:((i:Int)==j)
  ·rfl
  ·have:=beq_iff_eq.1 hj2
   subst this;show yh a i=yC (yh a i);unfold yC yh;rw[hf,Bool.not_true,Bool.and_false]; rfl
def Adv (g:Int→dM→dM) (a r:dA) (n:Nat):Prop:=yy r=yy a∧r.2.2.1.length=a.2.2.1.length ∧ ∃k:Nat,k≤n∧(∀j:Int,0≤j→yh r j=bif ltb j k then g j (yh a j)else yh a j)∧(ya r=false→k=n)
theorem yDY {one:dA→Nat→dA} {g:Int→dM→dM} {a:dA} (hs: ∀b i,ya b=true→one b i=b)
  (ho: ∀(b:dA) (i:Nat),yy b=yy a→b.2.2.1.length=a.2.2.1.length→i<a.2.2.1.length→ya b=false→yh b i=yh a i→Did (g i) i b (one b i)) (hd:ya a=false) :
  ∀n,n≤a.2.2.1.length→Adv g a ((List.range n).foldl one a) n
 | 0,_=>⟨rfl,rfl,0,Nat.le_refl _,fun j hj=>by rw[zk3 (show((0:Nat):Int)≤j by omega)]; rfl,fun _=>rfl⟩
 | n+1,hn=>by
  obtain⟨h1,h2,k,h3,h4,h5⟩:=yDY hs ho hd n (by omega);rw[List.range_succ,List.foldl_append,List.foldl_cons,List.foldl_nil];generalize (List.range n).foldl one a=R at h1 h2 h4 h5 ⊢;cases hR:ya R
  ·have hk:=h5 hR
   subst hk;have e:yh R k=yh a k:=by rw[h4 k (by omega),zk3 (Int.le_refl _)]; rfl
   obtain⟨g1,g2,g3⟩:=ho R k h1 h2 (by omega) hR e;refine⟨g1.trans h1,g2.trans h2,?_⟩;rcases g3 with⟨g3,g4⟩ | ⟨g3,g4⟩
   ·refine⟨k+1,Nat.le_refl _,fun j hj=> ?_,fun _=>rfl⟩
    rw[g4 j hj];by_cases hj2:(k:Int)=j
    ·subst hj2
     rw[show((k:Int)==(k:Int))=true from beq_self_eq_true _,zky (show(k:Int)<((k+1:Nat):Int)by omega),e]; try rfl
    ·rw[show((k:Int)==j)=false from beq_eq_false_iff_ne.2 hj2,cond_false,h4 j hj,show ltb j ((k+1:Nat):Int)=ltb j k by rw[Bool.eq_iff_iff,zka,zka]; omega]
   ·refine⟨k,by omega,fun j hj=>by rw[g4 j,h4 j hj],fun h=> ?_⟩
    rw[g3]at h; cases h
  ·rw[hs R n hR]
   exact⟨h1,h2,k,by omega,h4,fun h=>by rw[hR]at h; cases h⟩
theorem yTg {a:dA} (hd:ya a=false):Adv (fun _=>yC) a (yd a) a.2.2.1.length :=
 yDY (one:=yae) (g:=fun _=>yC) (fun _ i h=>yFH i h) (fun b i _ h2 hi hb _=>y52 hb (by omega)) hd _ (Nat.le_refl _)
theorem y2C {a b:dA} (h:yy b=yy a) (i:Int):yNh b i=yNh a i:=by
 unfold yy at h;simp only[Prod.mk.injEq]at h;obtain⟨h1,h2,h3,h4,h5,h6,h7,h8,h9⟩:=h;unfold yNh;rw[h1,h2,h3,h4,h6,h7]
theorem yr8 {a b:dA} (h:yy b=yy a):b.2.2.2.2.2.2.2.1=a.2.2.2.2.2.2.2.1:=congrArg (fun x=>x.2.2.2.2.2.2.1) h
theorem yr7 {a b:dA} (h:yy b=yy a):b.2.2.2.2.2.2.2.2.2.2.2=a.2.2.2.2.2.2.2.2.2.2.2:=congrArg (fun x=>x.2.2.2.2.2.2.2.2) h
theorem yM6 {a b:dA} (h:yy b=yy a):b.1=a.1:=congrArg (fun x=>x.1) h
def yU1 (a:dA) (i:Int) (m:dM):dM:=yet (a.2.2.2.2.2.2.2.1.tmod 2) (yo (yNh a i)) m
theorem y2Q {a:dA} (hd:ya a=false):Adv (yU1 a) a ((List.range a.2.2.1.length).foldl yah a) a.2.2.1.length :=
 yDY (one:=yah) (g:=yU1 a) (fun _ i h=>yow h _ _ _) (fun b i h1 h2 hi hb _=>by
  have:=yx5 (b.2.2.2.2.2.2.2.1.tmod 2) (yo (yNh b i)) hb (show inb (i:Int) b.2.2.1.length=true from zkR (by omega));rw[yr8 h1,y2C h1]at this;unfold yU1 yah;rw[yr8 h1,y2C h1]
  exact this) hd _ (Nat.le_refl _)
theorem y30 {a:dA} (r:dN) (hd:ya a=false):Adv (fun _=>yet (yg r.1) (yaf r)) a ((List.range a.2.2.1.length).foldl (ybd r) a) a.2.2.1.length :=
 yDY (one:=ybd r) (g:=fun _=>yet (yg r.1) (yaf r)) (fun _ i h=>yPM r i h) (fun b i _ h2 hi hb _=>yx5 _ _ hb (zkR (by omega))) hd _ (Nat.le_refl _)
def yag (L B i s:Int) (m:dM):Bool:= !m.2.2.1&&(i !=L||ltb s B)
theorem y3R {a:dA} {i s:Int} (hi:inb i a.2.2.1.length=true):ycL a i s=yag a.2.2.2.1 a.2.2.2.2.1 i s (yh a i):=by
 unfold ycL yag yh;rw[hi]; rfl
def yjc (L B p N s:Int) (d:List Int) (i:Int) (m:dM):dM:=bif yag L B i s m then(yab m (yu s) [ycS p N (yaF d) d i]).1 else m
theorem yQn {a:dA} (s:Int) (d:List Int) (hd:ya a=false):Adv (yjc a.2.2.2.1 a.2.2.2.2.1 (yk a.2.1 s) a.2.1.1 s d) a (yI a s d) a.2.2.1.length :=
 yDY (one:=ybe (yk a.2.1 s) a.2.1.1 s d) (g:=yjc a.2.2.2.1 a.2.2.2.2.1 (yk a.2.1 s) a.2.1.1 s d) (fun _ i h=>yEs _ _ _ _ i h) (fun b i h1 h2 hi hb _=>by
  have hib:inb (i:Int) b.2.2.1.length=true:=zkR (by omega);unfold ybe;rw[y3R hib,yfy h1,ycR h1];cases hl:yag a.2.2.2.1 a.2.2.2.2.1 i s (yh b i)
  ·refine⟨rfl,rfl,.inl ⟨hb,fun j hj=> ?_⟩⟩
   by_cases hj2:(i:Int)=j
   ·subst hj2
    rw[beq_self_eq_true];show yh b i=yjc _ _ _ _ _ _ _ (yh b i);unfold yjc;rw[hl]; rfl
   ·rw[show((i:Int)==j)=false from beq_eq_false_iff_ne.2 hj2]; rfl
  ·obtain⟨g1,g2,g3⟩:=yx5 (yu s) [ycS (yk a.2.1 s) a.2.1.1 (yaF d) d i] hb hib
   refine⟨g1,g2,g3.imp (fun⟨g3,g4⟩=>⟨g3,fun j hj=> ?_⟩) id⟩;show yh (ybr b i (yu s) _) j=_;rw[g4 j hj];by_cases hj2:(i:Int)=j
   ·subst hj2
    rw[beq_self_eq_true,cond_true,cond_true];unfold yjc yet;rw[hl,cond_true];simp only[yag,Bool.and_eq_true,Bool.not_eq_true']at hl;rw[hl.1]; rfl
   ·rw[show((i:Int)==j)=false from beq_eq_false_iff_ne.2 hj2]; rfl) hd _ (Nat.le_refl _)
theorem yMJ (s:dS):yaB (yo s)=true:=by
 unfold yo;cases h:yH s
 ·rfl
 ·unfold yH at h
  simp only[ybX]at h;cases hg:ye (s.2.2.2.1,s.2.2.2.2.1)
  ·rw[hg]at h; cases h
  have hge:=yj.1 hg;simp only at hge;rw[hg,wq (s.2.2.2.1-1) (by omega) (by omega)]at h;cases h2:(leb 1 s.1&&leb s.1 60000)
  ·rw[h2]at h; cases h
  cases h3:(leb 0 s.2.1&&leb s.2.1 60000)
  ·rw[h2,h3]at h; cases h
  cases h4:(leb 0 s.2.2.1&&leb s.2.2.1 (s.2.2.2.1-1))
  ·rw[h2,h3,h4]at h; cases h
  cases h5:(leb 0 s.2.2.2.2.2.1&&leb s.2.2.2.2.2.1 60000)
  ·rw[h2,h3,h4,h5]at h; cases h
  cases h6:(leb (-1) s.2.2.2.2.2.2.1&&leb s.2.2.2.2.2.2.1 (s.2.2.2.1-1))
  ·rw[h2,h3,h4,h5,h6]at h; cases h
  cases h7:(leb 0 s.2.2.2.2.2.2.2&&leb s.2.2.2.2.2.2.2 s.2.2.2.2.1)
  ·rw[h2,h3,h4,h5,h6,h7]at h; cases h
  simp only[Bool.and_eq_true,zj7]at h2 h3 h4 h5 h6 h7;rw[yzK];refine⟨by show(9:Nat)≤12; omega,?_⟩;have hw:i64.wrap (s.2.2.2.2.2.2.1+1)=s.2.2.2.2.2.2.1+1:=wr (by omega) (by omega);simp only[Bool.not_true,cond_false,hw,List.mem_cons,List.not_mem_nil,or_false]
  rintro x (rfl | rfl | rfl | rfl | rfl | rfl | rfl | rfl | rfl)<;>omega
theorem ylD {g:dG} (id i:Int) (hg:ye g=true):yx (yV id g i)=true∧((yV id g i).1.length:Int)=6+g.2∧(yV id g i).2=([],false,[]):=by
 have hge:=yj.1 hg
 have hm:yaM (6+g.2)=(List.replicate (6+g.2).toNat [],[],false,[]):=by
  unfold yaM;rw[zk2 (show 1≤6+g.2 by omega),zk2 (show 6+g.2≤20 by omega)]; rfl
 have key: ∀(l:List Nat) (m:dM),m.1.all yaB=true∧m.2=([],false,[])→(l.foldl ypA m).1.all yaB=true∧(l.foldl ypA m).2=([],false,[]):=by
  intro l
  induction l with
  | nil=>intro m h; exact h
  | cons x t ih =>
   intro m h;refine ih _ ⟨?_,h.2⟩;rw[List.all_eq_true];intro y hy;rcases List.mem_or_eq_of_mem_set hy with h1 | rfl
   ·exact List.all_eq_true.1 h.1 y h1
   ·rfl
 have ht:(yjp id g i).1.all yaB=true∧(yjp id g i).2=([],false,[]):=by
  unfold yjp;rw[hm];refine⟨?_,rfl⟩;rw[List.all_eq_true];intro y hy;rcases List.mem_or_eq_of_mem_set hy with h1 | rfl
  ·rw[List.eq_of_mem_replicate h1]; rfl
  ·exact yMJ _
 have hl:((yV id g i).1.length:Int)=6+g.2:=by
  unfold yV;rw[yPJ];unfold yjp;rw[hm];show(((List.replicate (6+g.2).toNat ([]:List Int)).set 0 _).length:Int)=_;rw[List.length_set,List.length_replicate]; omega
 obtain⟨h1,h2⟩:=key (List.range g.2.toNat) _ ht;refine⟨ysa h1 ?_ ?_ ?_ ?_ ?_,hl,h2⟩
 ·show List.all ((yV id g i).2).1 _=true
  rw[show(yV id g i).2=([],false,[])from h2]; rfl
 ·show ypr _ ((yV id g i).2).2.2=true
  rw[show(yV id g i).2=([],false,[])from h2,ys1];exact⟨fun x hx=>absurd hx List.not_mem_nil,List.Pairwise.nil⟩
 ·show 1≤(yV id g i).1.length; omega
 ·show(yV id g i).1.length≤20; omega
 ·show((yV id g i).2).1.length≤60
  rw[show(yV id g i).2=([],false,[])from h2]; exact Nat.zero_le _
theorem yyO {id:Int} {g:dG} (hg:ye g=true) (h1:1≤id) (h2:id≤60000):ycK id g=(id,g,(List.range g.1.toNat).map (fun(i:Nat)=>yV id g i),-1,0,0,0,0,[],-1,false,false):=by
 unfold ycK;rw[hg,zk2 h1,zk2 h2]
 have: ∀(n:Nat),(List.range n).foldl (fun a (i:Nat)=>yDW a (yV id g i)) (yD1 id g)=(id,g,(List.range n).map (fun(i:Nat)=>yV id g i),-1,0,0,0,0,[],-1,false,false):=by
  intro n
  induction n with
  | zero=>rfl
  | succ n ih=>rw[List.range_succ,List.foldl_append,ih,List.map_append]; rfl
 exact this _
theorem y3j {id:Int} {g:dG} (hg:ye g=true) (h1:1≤id) (h2:id≤60000):Wk 0 (ycK id g):=by
 have hge:=yj.1 hg;rw[yyO hg h1 h2];have hl:((List.range g.1.toNat).map (fun(i:Nat)=>yV id g i)).length=g.1.toNat:=by rw[List.length_map,List.length_range]
 refine⟨⟨hg,⟨h1,h2⟩,?_,⟨Int.le_refl _,?_⟩,⟨Int.le_refl _,?_⟩,fun _=>rfl,?_,?_,?_,?_,?_⟩,⟨⟨fun i hi=> ?_,?_⟩,?_,?_⟩,⟨rfl,rfl⟩,rfl,Int.le_refl _⟩
 ·rfl
 ·show(-1:Int)≤g.1-1; omega
 ·show(0:Int)≤g.2; omega
 ·show(0:Int)≤0∧(0:Int)≤60000; omega
 ·show(0:Int)≤0∧(0:Int)≤60000; omega
 ·show(0:Int)≤0+4; omega
 ·show(0:Int)≤0; omega
 ·show(0:Int)≤60000; omega
 ·have hi':i<((List.range g.1.toNat).map (fun(i:Nat)=>yV id g i)).length:=hi
  show yA8 (-1) false g.2 i (nth ((List.range g.1.toNat).map (fun(i:Nat)=>yV id g i)) i yc);rw[zkS,zkJ hi',List.getElem_map,List.getElem_range];obtain⟨k1,k2,k3⟩:=ylD id i hg;refine⟨k1,k2,fun e=> ?_⟩;rw[show(yV id g i).2=([],false,[])from k3]at e;cases e
 ·show(((List.range g.1.toNat).map (fun(i:Nat)=>yV id g i)).length:Int)=g.1
  rw[hl]; omega
 ·show(-1:Int)≤ -1; omega
 ·show(-1:Int)≤1000; omega
def yz (a:dA):dA:=bif leb 4 (i64.wrap (a.2.2.2.2.2.1-a.2.2.2.2.2.2.1))then ym a else a
def yN (a:dA) (s:Int) (d:List Int):Int×dA :=bif ya (yz a)then(6,yz a)else bif ya (yr (yz a) ((yz a).2.2.2.2.2.1,s,d))then(6,yr (yz a) ((yz a).2.2.2.2.2.1,s,d))else (bif ya (yI (yO (yr (yz a) ((yz a).2.2.2.2.2.1,s,d))) s d)then 6 else 0,yI (yO (yr (yz a) ((yz a).2.2.2.2.2.1,s,d))) s d)
theorem yZK (a:dA):(ym a).2.1=a.2.1:=by
 unfold ym;cases ya (yd a)
 ·exact(yQ (ydh (yT (yd a)))).trans (show(yd a).2.1=a.2.1 from yQ (yaO a))
 ·exact yQ (yaO a)
theorem yXN (a:dA):(yz a).2.1=a.2.1:=by
 unfold yz;cases leb 4 (i64.wrap (a.2.2.2.2.2.1-a.2.2.2.2.2.2.1))
 ·rfl
 ·exact yZK a
theorem y6a {k m n:Int} {a:dA} (h:Wk k a) (hm:inb m a.2.2.1.length=true):Wk k (ybx a m (spoil (nth a.2.2.1 m yc) n)) :=
 y5o h hm (fun g=>⟨yTf n g.1,by rw[(yoF _ _).1]; exact g.2.1,by rw[(yoF _ _).2]; exact g.2.2⟩)
theorem y4L {α:Type} {c:Bool} {x y:α} (h:c=true):(bif !c then x else y)=y:=by subst h; rfl
theorem yI6 {α:Type} {c:Bool} {x y:α} (h:c=false):(bif !c then x else y)=x:=by subst h; rfl
theorem yd6 {a:dA} (h:yF a) {i:Int} (h0:0≤i) (h1:i<a.2.1.1):yx (yh a i)=true∧((yh a i).1.length:Int)=6+a.2.1.2∧((yh a i).2.2.1=true→i=a.2.2.2.1∨a.2.2.2.2.2.2.2.2.2.2.2=true):=by
 have:=h.1.1 i.toNat (by have:=h.1.2; omega);unfold yA8 at this;rw[Int.toNat_of_nonneg h0]at this;exact this
theorem yjb {s:Int} (h0:0≤s) (h1:s≤1000):yu s=s+6:=by
 unfold yu;rw[zk2 h0,zk2 (show s≤1099511627776 by omega)]; rfl
def yaw (a:dA) (s i:Int):Bool:=yag a.2.2.2.1 a.2.2.2.2.1 i s (yh a i)&& !(ya0 (yh a i) (s+6))
def yI1 (V:Int→Int→Int) (a:dA):Prop:= ∀i s,0≤i→i<a.2.1.1→0≤s→s<a.2.1.2→yaw a s i=true→ycm (yh a i) (s+6)= [V s i]
def ye9 (V:Int→Int→Int) (N:Int) (s:Int):List Int:=(List.range N.toNat).map (fun(i:Nat)=>V s i)
structure EvV (g:dG) (V:Int→Int→Int):Prop where
 ev: ∀s,0≤s→s<g.2→yaF (ye9 V g.1 s)=0
 ew: ∀s i,0≤s→s<g.2→0≤i→i<g.1→isW (V s i)=true
theorem ytj {V:Int→Int→Int} {a:dA} {i s:Int} (hg:ye a.2.1=true) (hk:yF a) (hv:yI1 V a) (i0:0≤i) (i1:i<a.2.1.1) (s0:0≤s) (s1:s<a.2.1.2):yD a i s=yaw a s i∧(yaw a s i=true→yjE a i s=V s i):=by
 have hge:=yj.1 hg;have hin:inb i a.2.2.1.length=true:=zj6.2 (by have:=hk.1.2; omega);obtain⟨d1,d2,d3⟩:=yd6 hk i0 i1
 have key:yag a.2.2.2.1 a.2.2.2.2.1 i s (yh a i)=true→ydw a i s=bif ya0 (yh a i) (s+6)then([],false)else(ycm (yh a i) (s+6),true):=fun hl=>by
  simp only[yag,Bool.and_eq_true,Bool.not_eq_true']at hl;unfold ydw;rw[yjb s0 (by omega)];exact yTe d1 hl.1 (zj6.2 (show 0≤s+6∧s+6<((yh a i).1.length:Int)by omega))
 have hw:yD a i s=yaw a s i:=by
  unfold yD;rw[y3R hin];cases hl:yag a.2.2.2.1 a.2.2.2.2.1 i s (yh a i)
  ·unfold yaw; rw[hl]; rfl
  ·rw[key hl]
   cases hb:ya0 (yh a i) (s+6)
   ·have hh:yaw a s i=true:=by unfold yaw; rw[hl,hb]; rfl
    rw[hh,cond_false,hv i s i0 i1 s0 s1 hh]; rfl
   ·unfold yaw; rw[hl,hb]; rfl
 refine⟨hw,fun hh=> ?_⟩;unfold yjE;rw[hw,hh,cond_true];have hh':=hh;unfold yaw at hh';rw[Bool.and_eq_true,Bool.not_eq_true']at hh';rw[key hh'.1,hh'.2,cond_false,hv i s i0 i1 s0 s1 hh]; rfl
theorem y6d: ∀(l:List Int) (k:Nat) (x:Int),k<l.length→yfH (l.set k x)=yfH l ^^^ bv (nth l k 0) ^^^ bv x:=by
 intro l k x hk
 have e1:l=l.take k++nth l k 0::l.drop (k+1):=by
  rw[zkS,zkJ hk,← List.drop_eq_getElem_cons hk,List.take_append_drop]
 have e2:l.set k x=l.take k++x::l.drop (k+1):=by
  rw[List.set_eq_take_append_cons_drop,if_pos hk]
 have fo: ∀(l:List Int) (v:BitVec 64),l.foldl (fun v x=>v ^^^ bv x) v=v ^^^ yfH l:=by
  intro l
  induction l with
  | nil=>intro v; show v=v ^^^ 0#64; rw[BitVec.xor_zero]
  | cons y t ih =>
   intro v;unfold yfH;rw[List.foldl_cons,List.foldl_cons,ih,ih (0#64 ^^^ bv y),BitVec.zero_xor,BitVec.xor_assoc]
 have cut: ∀(A:List Int) (y:Int) (B:List Int),yfH (A++y::B)=yfH A ^^^ bv y ^^^ yfH B:=fun A y B=>by
  show(A++y::B).foldl _ _=_;rw[List.foldl_append,List.foldl_cons,fo]; rfl
 rw[e2,cut]
 conv=>rhs; rw[e1]
 rw[cut];have hn:nth (List.take k l++nth l (↑k) 0::List.drop (k+1) l) (k:Int) 0=nth l k 0:=by rw[← e1]
 rw[hn,BitVec.xor_assoc (yfH (l.take k)),BitVec.xor_assoc (yfH (l.take k)),BitVec.xor_comm (bv (nth l k 0)),BitVec.xor_assoc (yfH (l.take k)),y0e,BitVec.xor_comm (bv x),BitVec.xor_assoc]
theorem y4F {l:List Int} (h:yaF l=0):yfH l=0#64:=by
 rw[yoU]at h;have:=congrArg bv h;rw[yxI]at this;rw[this]; rfl
theorem yZ2 {p:Nat→Bool}: ∀{n:Nat},ye8 p n=false→ ∀j,j<n→p j=true∨(j:Int)=yJ p n
 | 0,_,j,hj=>absurd hj (Nat.not_lt_zero _)
 | n+1,h,j,hj=>by
  have h':ye8 p n=false:=by
   unfold ye8 at h ⊢;rw[List.range_succ,List.any_append,Bool.or_eq_false_iff]at h;exact h.1
  have hl:(!p n&&leb 0 (yJ p n))=false:=by
   unfold ye8 at h;rw[List.range_succ,List.any_append,Bool.or_eq_false_iff]at h;simpa using h.2
  unfold yJ;rcases Nat.lt_succ_iff_lt_or_eq.1 hj with hj | rfl
  ·rcases yZ2 h' j hj with h1 | h1
   ·exact .inl h1
   ·cases hp:p n
    ·rw[hp,← h1]at hl
     rw[zk2 (show(0:Int)≤j by omega)]at hl; cases hl
    ·exact .inr h1
  ·cases hp:p j
   ·exact .inr rfl
   ·exact .inl rfl
theorem yZ1 {p:Nat→Bool}: ∀{n:Nat},leb 0 (yJ p n)=false→ ∀j,j<n→p j=true
 | 0,_,j,hj=>absurd hj (Nat.not_lt_zero _)
 | n+1,h,j,hj=>by
  unfold yJ at h;cases hp:p n
  ·rw[hp,cond_false,zk2 (show(0:Int)≤n by omega)]at h; cases h
  ·rw[hp,cond_true]at h
   rcases Nat.lt_succ_iff_lt_or_eq.1 hj with hj | rfl
   ·exact yZ1 h j hj
   ·exact hp
theorem yM2 (V:Int→Int→Int) (N s:Int):(ye9 V N s).length=N.toNat:=by unfold ye9; rw[List.length_map,List.length_range]
theorem y5i (V:Int→Int→Int) (N s:Int) {j:Nat} (h:j<(ye9 V N s).length):(ye9 V N s)[j]=V s j:=by simp[ye9]
theorem y3f (V:Int→Int→Int) {N s i:Int} (h0:0≤i) (h1:i<N):nth (ye9 V N s) i 0=V s i:=by
 unfold ye9 nth;rw[zkJ (by rw[List.length_map,List.length_range]; omega),List.getElem_map,List.getElem_range,Int.toNat_of_nonneg h0]
theorem yW3 {V:Int→Int→Int} {a:dA} {s:Int} (hg:ye a.2.1=true) (hk:yF a) (he:EvV a.2.1 V) (hv:yI1 V a) (s0:0≤s) (s1:s<a.2.1.2) :
  yK a s=bif ye8 (fun(i:Nat)=>yaw a s i) a.2.1.1.toNat then([],false)else(ye9 V a.2.1.1 s,true):=by
 have hw: ∀i:Nat,i<a.2.1.1.toNat→yD a i s=yaw a s i:=fun i hi=>(ytj hg hk hv (by omega) (by omega) s0 s1).1
 have hm: ∀n,n≤a.2.1.1.toNat→yJ (fun(i:Nat)=>yD a i s) n=yJ (fun(i:Nat)=>yaw a s i) n:=by
  intro n
  induction n with
  | zero=>intro _; rfl
  | succ n ih=>intro hn; unfold yJ; rw[hw n (by omega),ih (by omega)]
 have h2:ye8 (fun(i:Nat)=>yD a i s) a.2.1.1.toNat=ye8 (fun(i:Nat)=>yaw a s i) a.2.1.1.toNat:=by
  unfold ye8;rw[Bool.eq_iff_iff,List.any_eq_true,List.any_eq_true];constructor
  ·rintro⟨i,hi,h⟩
   have hi':=List.mem_range.1 hi;exact⟨i,hi,by dsimp only at h ⊢; rw[hw i hi',hm i (by omega)]at h; exact h⟩
  ·rintro⟨i,hi,h⟩
   have hi':=List.mem_range.1 hi;exact⟨i,hi,by dsimp only at h ⊢; rw[hw i hi',hm i (by omega)]; exact h⟩
 unfold yK;rw[h2,hm _ (Nat.le_refl _)];cases hc:ye8 (fun(i:Nat)=>yaw a s i) a.2.1.1.toNat
 ·simp only[cond_false]
  cases hn:leb 0 (yJ (fun(i:Nat)=>yaw a s i) a.2.1.1.toNat)
  ·simp only[cond_false]
   congr 1;refine List.map_congr_left fun i hi=> ?_
   have hi':=List.mem_range.1 hi;exact(ytj hg hk hv (by omega) (by omega) s0 s1).2 (yZ1 hn i hi')
  ·simp only[cond_true]
   congr 1;rcases yL3 (fun(i:Nat)=>yaw a s i) a.2.1.1.toNat with h3 | ⟨k0,k1,k2⟩
   ·rw[h3]at hn; cases hn
   ·have hu:=yZ2 hc
    generalize yJ (fun(i:Nat)=>yaw a s i) a.2.1.1.toNat=k at *;obtain⟨k,rfl⟩: ∃m:Nat,k=m:=⟨k.toNat,by omega⟩;rw[Int.toNat_natCast]at k2 ⊢;have hkl:k<(ye9 V a.2.1.1 s).length:=by rw[yM2]; omega
    have e:yal a s a.2.1.1.toNat=(ye9 V a.2.1.1 s).set k 0:=by
     refine List.ext_getElem (by rw[yfG,List.length_set,yM2]) fun j h3 h4=> ?_
     rw[yfG]at h3;rw[List.getElem_set];have e1:(yal a s a.2.1.1.toNat)[j]'(by rw[yfG]; exact h3)=yjE a j s:=by unfold yal; simp
     have e2:(ye9 V a.2.1.1 s)[j]'(by rw[yM2]; exact h3)=V s j:=by unfold ye9; simp
     rw[e1];by_cases hj:k=j
     ·subst hj
      rw[if_pos rfl];unfold yjE;rw[hw k (by omega),k2]; rfl
     ·rw[if_neg hj,e2]
      rcases hu j h3 with h5 | h5
      ·exact(ytj hg hk hv (by omega) (by omega) s0 s1).2 h5
      ·exact absurd h5 (by omega)
    have hx:yaF (yal a s a.2.1.1.toNat)=V s k:=by
     rw[e,yoU,y6d _ _ _ hkl,y4F (he.ev s s0 s1),BitVec.zero_xor,show bv 0=0#64 by decide,BitVec.xor_zero,y3f V (by omega) (by omega)];have:=ytc.1 (he.ew s k s0 s1 (by omega) (by omega));exact y53 (by omega) (by omega)
    rw[hx,e,List.set_set];refine List.ext_getElem (by rw[List.length_set]) fun j h3 h4=> ?_
    rw[List.getElem_set];by_cases hj:k=j
    ·subst hj
     rw[if_pos rfl];exact(y5i _ _ _ h4).symm
    ·rw[if_neg hj]
 ·rfl
def y0f:Code:=(f192.body).getD .skip
def y0N:Env:=zkw TT [] []
theorem yQr:FrOk prog ⟨y0N,26,fun _=>none⟩ y0f:=zkA mixed yf trivial
abbrev yz9:List Par:= [.pt tA oD]
abbrev yAt:List OT:= [⟨false,tB,.fz⟩]
def yG1 (a0:dA):Option (zaY yAt×zak yz9) :=bif(a0.2.2.2.2.2.2.2.2.2.1==0)then some ((false,()),((a0.1,a0.2.1,a0.2.2.1,a0.2.2.2.1,a0.2.2.2.2.1,a0.2.2.2.2.2.1,a0.2.2.2.2.2.2.1,a0.2.2.2.2.2.2.2.1,a0.2.2.2.2.2.2.2.2.1,(-1),true,a0.2.2.2.2.2.2.2.2.2.2.2),())) else bif(ltb 0 a0.2.2.2.2.2.2.2.2.2.1)then some ((true,()),((a0.1,a0.2.1,a0.2.2.1,a0.2.2.2.1,a0.2.2.2.2.1,a0.2.2.2.2.2.1,a0.2.2.2.2.2.2.1,a0.2.2.2.2.2.2.2.1,a0.2.2.2.2.2.2.2.2.1,(i64.wrap (a0.2.2.2.2.2.2.2.2.2.1-1)),a0.2.2.2.2.2.2.2.2.2.2),())) else some ((true,()),(a0,()))
theorem yVJ:ConOk prog 192 ⟨yz9,yAt,fun x=>yG1 x.1⟩:=zkI (yQr) func192 ntmps192.symm fun x=>by kernel_rfl
def yh4 (a0:dA):Bool×dA :=bif(a0.2.2.2.2.2.2.2.2.2.1==0)then (false,(a0.1,a0.2.1,a0.2.2.1,a0.2.2.2.1,a0.2.2.2.2.1,a0.2.2.2.2.2.1,a0.2.2.2.2.2.2.1,a0.2.2.2.2.2.2.2.1,a0.2.2.2.2.2.2.2.2.1,(-1),true,a0.2.2.2.2.2.2.2.2.2.2.2)) else bif(ltb 0 a0.2.2.2.2.2.2.2.2.2.1)then (true,(a0.1,a0.2.1,a0.2.2.1,a0.2.2.2.1,a0.2.2.2.2.1,a0.2.2.2.2.2.1,a0.2.2.2.2.2.2.1,a0.2.2.2.2.2.2.2.1,a0.2.2.2.2.2.2.2.2.1,(i64.wrap (a0.2.2.2.2.2.2.2.2.2.1-1)),a0.2.2.2.2.2.2.2.2.2.2)) else (true,a0)
def yuN:Con:=⟨yz9,yAt,fun x=>(fun n=>some ((n.1,()),(n.2,()))) (yh4 x.1)⟩
theorem yX7 (a0:dA):yG1 a0=(fun n=>some ((n.1,()),(n.2,()))) (yh4 a0):=zkV (p:=fun(n:Bool×dA)=>((n.1,()),(n.2,()))) (zkG (p:=fun(n:Bool×dA)=>((n.1,()),(n.2,()))) rfl (zkG (p:=fun(n:Bool×dA)=>((n.1,()),(n.2,()))) rfl rfl))
theorem yIx:ConOk prog 192 yuN:=(yVJ).mono (fun x r _ h=>(yX7 x.1).trans h)
theorem yU2 {a:dA} (h:ya a=false):yh4 a=opA a:=by
 unfold yh4 opA;rw[h];cases(a.2.2.2.2.2.2.2.2.2.1==0)
 ·cases ltb 0 a.2.2.2.2.2.2.2.2.2.1
  ·rfl
  ·show(true,_)=(true,yhV a _ false)
   unfold yhV;rw[show a.2.2.2.2.2.2.2.2.2.2=(ya a,a.2.2.2.2.2.2.2.2.2.2.2)from rfl,h]
 ·rfl
def yNk:Code:=(f223.body).getD .skip
def yNy:Env:=zkw TT [] []
theorem yJb:FrOk prog ⟨yNy,7,fun _=>none⟩ yNk:=zkA mixed yf trivial
abbrev yp2:List Par:= [.rd tI,.rp tI]
abbrev yp5:List OT:= [⟨false,tB,.fz⟩]
def ywI (a0 a1:Int):Option (zaY yp5×zak yp2) :=some (((a0==a1),()),())
theorem yKH:ConOk prog 223 ⟨yp2,yp5,fun x=>ywI x.1 x.2.1⟩:=zkI (yJb) func223 ntmps223.symm fun x=>by kernel_rfl
def yd8 (a0 a1:Int):Bool :=(a0==a1)
def ymr:Con:=⟨yp2,yp5,fun x=>(fun n=>some ((n,()),())) (yd8 x.1 x.2.1)⟩
theorem yMt (a0 a1:Int):ywI a0 a1=(fun n=>some ((n,()),())) (yd8 a0 a1):=zkV (p:=fun(n:Bool)=>((n,()),())) rfl
theorem yzI:ConOk prog 223 ymr:=(yKH).mono (fun x r _ h=>(yMt x.1 x.2.1).trans h)
def ye6:Code:=(f244.body).getD .skip
def yjv:Env:=zkw TT [(223,ymr)] []
theorem yCQ:FrOk prog ⟨yjv,19,fun _=>none⟩ ye6:=zkA mixed yf ⟨yzI,trivial⟩
def ynE:Nat→Option Seg:=fun _=>none
def yaq:Shape:=⟨[(0,false,[.br tI]),(1,false,[.fx 223 tI]),(7,false,[ii]),(8,false,[ii])],[],[]⟩
def ybu:Shape:=⟨[(0,false,[.br tI]),(1,false,[.fx 223 tI]),(7,false,[ii]),(8,false,[.ci .i64 0])],[],[]⟩
def ybt:Shape:=⟨[],[],[]⟩
def ybv:Shape:=⟨[(4,false,[ii])],[],[]⟩
abbrev yfZ (v0:List Int) (v1 v2 v3:Int):(yaq).X:=(((v0,()),(v1,()),(v2,()),(v3,()),()),(),())
abbrev yBa (v0:List Int) (v1 v2:Int):(ybu).X:=(((v0,()),(v1,()),(v2,()),((),()),()),(),())
abbrev yA9  :(ybt).X:=((),(),())
abbrev yl1 (v0:Int):(ybv).X:=(((v0,()),()),(),())
def yf5 (v0:List Int) (v1 v2 v3:Int):Option ((yaq).X ⊕ ((ybt).X ⊕ (ybv).X)) :=bif(ltb v3 v2)then bif(inb v3 v0.length)then let r2:=yd8 (nth v0 v3 0) v1;bif r2 then some (.inr (.inr (((v3,()),()),(),()))) else some (.inl (((v0,()),(v1,()),(v2,()),((i64.wrap (v3+1)),()),()),(),())) else none else some (.inr (.inl ((),(),())))
def yaC (x:(yaq).X):=yf5 x.1.1.1 x.1.2.1.1 x.1.2.2.1.1 x.1.2.2.2.1.1
def ylY (x:(ybu).X):(yaq).X:=(((x.1.1.1,()),(x.1.2.1.1,()),(x.1.2.2.1.1,()),(0,()),()),(),())
def ynq:Code:=(zd7 ye6 64 52).getD .skip
theorem yCP:zd7 ye6 64 13=some (.block 0 (.loop ynq)):=by kernel_rfl
theorem yCX (x:(yaq).X):zhu ⟨yjv,19,ynE⟩ 0 ynq 52 yaq ybt ybv x=yaC x:=by kernel_rfl
def ylZ (x:(ybu).X):Nat:=18446744073709551616
def ygH (x:(ybu).X):Option ((ybt).X ⊕ (ybv).X):=zF yaC (ylZ x) (ylY x)
def ymi:Seg:=⟨ybu,ybt,ybv,ygH⟩
def yDc:Nat→Option Seg:=fun q=>bif Nat.beq q 13 then some ymi else ynE q
theorem yCR:FrOk prog ⟨yjv,19,yDc⟩ ye6:=(yCQ).loop (sg:=ymi) yaq ylY (by decide) yCP yaC ylZ (by decide) (fun _=>rfl) (fun x r _ h=>h) yCX
abbrev ye7:List Par:= [.rd tL,.fn 223 tI]
abbrev yjw:List OT:= [⟨false,tI,.fz⟩]
def yhJ (a0:List Int) (a1:Int):Option (zaY yjw×zak ye7) :=zkt (ygH (((a0,()),(a1,()),((a0.length:Int),()),((),()),()),(),())) (fun y2 =>some (((-1),()),())) (fun y2 =>some ((y2.1.1.1,()),()))
theorem yFb:ConOk prog 244 ⟨ye7,yjw,fun x=>yhJ x.1 x.2.1⟩:=zkI (yCR) func244 ntmps244.symm fun x=>by kernel_rfl
def ycO (a0:List Int) (a1:Int):Int:=yan (fun e:Int=>e==a1) a0
theorem yFL (a0:List Int) (a1:Int) (hk:zjx ye7 (a0,a1,())):yhJ a0 a1=(fun n=>some ((n,()),())) (ycO a0 a1):=by
 have hb:a0.length*8≤2^47:=hk.1.1
 have h1:ygH (yBa a0 a1 a0.length)=some (bif leb 0 (yan (fun e:Int=>e==a1) a0)then .inr (yl1 (yan (fun e:Int=>e==a1) a0))else .inl yA9) :=
  yL0 (step:=yaC) a0 0 (fun i=>yfZ a0 a1 a0.length i) (fun e:Int=>e==a1) (fun i=> .inr (yl1 i)) _ (fun i hi=>by
   simp only[yaC,yfZ,yf5,zky (show(i:Int)<a0.length by omega),cond_true,wq ((i:Int)+1) (by omega) (by omega),Int.natCast_add,Int.natCast_one,Int.toNat_natCast,zkR hi,zkS,yd8]
   cases(a0.getD i 0==a1)<;>rfl) (by simp only[yaC,yfZ,yf5,zk3 (Int.le_refl _),cond_false]) _ (by show _<18446744073709551616; omega)
 unfold yhJ ycO;rw[h1];cases h:leb 0 (yan (fun e:Int=>e==a1) a0)
 ·rw[yX2 h]; rfl
 ·rfl
def yn2:Con:=⟨ye7,yjw,fun x=>(fun n=>some ((n,()),())) (ycO x.1 x.2.1)⟩
theorem yFN:ConOk prog 244 yn2:=(yFb).mono (fun x r hk h=>(yFL x.1 x.2.1 hk).trans h)
def yeu:Code:=(f222.body).getD .skip
def yhX:Env:=zkw TT [(223,ymr),(244,yn2)] []
theorem yA6:FrOk prog ⟨yhX,42,fun _=>none⟩ yeu:=zkA mixed yf ⟨yzI,yFN,trivial⟩
def ymV:Nat→Option Seg:=fun _=>none
def yao:Shape:=⟨[(0,false,[.at 800000000]),(1,false,[.fx 223 tI]),(5,false,[ii]),(6,false,[ii])],[],[(800000000,tI,.fz)]⟩
def yba:Shape:=⟨[(0,false,[.at 800000000]),(1,false,[.fx 223 tI]),(5,false,[ii]),(6,false,[ii])],[],[(800000000,tI,.fz)]⟩
def ya9:Shape:=⟨[(0,false,[.at 800000000]),(5,false,[ii])],[],[(800000000,tI,.fz)]⟩
def ycQ:Shape:=⟨[],[],[]⟩
abbrev ycn (v0 v1 v2:Int) (v3:List Int):(yao).X:=((((),()),(v0,()),(v1,()),(v2,()),()),(),(v3,()))
abbrev yzH (v0 v1 v2:Int) (v3:List Int):(yba).X:=((((),()),(v0,()),(v1,()),(v2,()),()),(),(v3,()))
abbrev yzF (v0:Int) (v1:List Int):(ya9).X:=((((),()),(v0,()),()),(),(v1,()))
def yfE (v0 v1 v2:Int) (v3:List Int):Option ((yao).X ⊕ ((ya9).X ⊕ (ycQ).X)) :=bif(ltb v2 (v3.length:Int))then bif(inb v2 v3.length)then let r3:=yd8 (nth v3 v2 0) v0;bif(!r3)then bif(inb v1 v3.length)then some (.inl ((((),()),(v0,()),((i64.wrap (v1+1)),()),((i64.wrap (v2+1)),()),()),(),((v3.set (v1).toNat (nth v3 v2 0)),()))) else none else some (.inl ((((),()),(v0,()),(v1,()),((i64.wrap (v2+1)),()),()),(),(v3,()))) else none else some (.inr (.inl ((((),()),(v1,()),()),(),(v3,()))))
def yaz (x:(yao).X):=yfE x.1.2.1.1 x.1.2.2.1.1 x.1.2.2.2.1.1 x.2.2.1
def yk2 (x:(yba).X):(yao).X:=((((),()),(x.1.2.1.1,()),(x.1.2.2.1.1,()),(x.1.2.2.2.1.1,()),()),(),(x.2.2.1,()))
def ylX:Code:=(zd7 yeu 64 244).getD .skip
theorem yA3:zd7 yeu 64 61=some (.block 0 (.loop ylX)):=by kernel_rfl
theorem yBg (x:(yao).X):zhu ⟨yhX,42,ymV⟩ 0 ylX 244 yao ya9 ycQ x=yaz x:=by kernel_rfl
def yk4 (x:(yba).X):Nat:=18446744073709551616
def yfV (x:(yba).X):Option ((ya9).X ⊕ (ycQ).X):=zF yaz (yk4 x) (yk2 x)
def yk7:Seg:=⟨yba,ya9,ycQ,yfV⟩
def yCO:Nat→Option Seg:=fun q=>bif Nat.beq q 61 then some yk7 else ymV q
theorem yA7:FrOk prog ⟨yhX,42,yCO⟩ yeu:=(yA6).loop (sg:=yk7) yao yk2 (by decide) yA3 yaz yk4 (by decide) (fun _=>rfl) (fun x r _ h=>h) yBg
abbrev yev:List Par:= [.kp tL oG,.fn 223 tI]
abbrev yhZ:List OT:= [⟨false,tL,oG⟩]
def ygI (a0:List Int) (a1:Int):Option (zaY yhZ×zak yev) :=let r1:=ycO a0 a1;bif(r1==(-1))then some ((a0,()),()) else zkt (yfV ((((),()),(a1,()),(r1,()),((i64.wrap (r1+1)),()),()),(),(a0,()))) (fun y3 =>bif(zj0 y3.1.2.1.1 (y3.2.2.1.length:Int) y3.2.2.1.length)then bif(zj0 0 y3.1.2.1.1 (y3.2.2.1.take (y3.1.2.1.1).toNat++(List.replicate ((y3.2.2.1.length:Int)-y3.1.2.1.1).toNat (0:Int))++y3.2.2.1.drop ((y3.1.2.1.1).toNat+(List.replicate ((y3.2.2.1.length:Int)-y3.1.2.1.1).toNat (0:Int)).length)).length)then some (((((y3.2.2.1.take (y3.1.2.1.1).toNat++(List.replicate ((y3.2.2.1.length:Int)-y3.1.2.1.1).toNat (0:Int))++y3.2.2.1.drop ((y3.1.2.1.1).toNat+(List.replicate ((y3.2.2.1.length:Int)-y3.1.2.1.1).toNat (0:Int)).length)).drop (0:Int).toNat).take (y3.1.2.1.1-0).toNat),()),()) else none else none) (fun y3 =>none)
theorem yCW:ConOk prog 222 ⟨yev,yhZ,fun x=>ygI x.1 x.2.1⟩:=zkI (yA7) func222 ntmps222.symm fun x=>by kernel_rfl
def yb9 (a0:List Int) (a1:Int):List Int:=yJy a0 a1
theorem yE9 (a0:List Int) (a1:Int) (hk:zjx yev (a0,a1,())):ygI a0 a1=(fun n=>some ((n,()),())) (yb9 a0 a1):=by
 have hb:a0.length*8≤2^47:=hk.1.1;have hs:yJy a0 a1=a0.filter (fun x=> !(x==a1)):=rfl;unfold ygI yb9 ycO;simp only[];cases hi:leb 0 (yan (fun e:Int=>e==a1) a0)
 ·rw[yX2 hi,hs,y5F hi]; rfl
 ·obtain⟨h1,h2⟩:=yn9 (d:=(0:Int)) hi
  have h3:=zj6.1 h1;have h4:=yZW hi;generalize hk0:yan (fun e:Int=>e==a1) a0=k at *;obtain⟨k,rfl⟩: ∃m:Nat,k=m:=⟨k.toNat,by omega⟩;rw[Int.toNat_natCast]at h4;rw[show((k:Int)== -1)=false from beq_eq_false_iff_ne.2 (by omega),cond_false,wq ((k:Int)+1) (by omega) (by omega)]
  obtain⟨b,e,i,s,rfl,q1,q2,q3⟩:=zjj (step:=yaz) (fun x=>(a0.length-Int.toNat x.1.2.2.2.1.1))
   (fun x=> ∃(i j:Nat) (s:List Int),x=ycn a1 i j s∧i<j∧j≤a0.length∧s.length=a0.length∧s.take i=(a0.take j).filter (fun x=> !(x==a1))∧s.drop j=a0.drop j)
   (fun b=> ∃(i:Nat) (s:List Int),b= .inl (yzF i s)∧i≤a0.length∧s.length=a0.length∧s.take i=a0.filter (fun x=> !(x==a1)))
   (fun x hx=>by
    obtain⟨i,j,s,rfl,p1,p2,p3,p4,p5⟩:=hx;by_cases hj:j<a0.length
    ·left
     have e1:nth s j 0=a0[j]:=by
      rw[zkS,zkJ (by omega)];have:=List.getElem_drop (xs:=s) (i:=j) (j:=0) (h:=by rw[List.length_drop]; omega);have h6:(s.drop j)[0]'(by rw[List.length_drop]; omega)=(a0.drop j)[0]'(by rw[List.length_drop]; omega):=by simp only[p5]
      simpa using h6
     have e2:a0.take (j+1)=a0.take j++ [a0[j]]:=(List.take_append_getElem hj).symm;simp only[yaz,ycn,yfE,p3,zky (show(j:Int)<a0.length by omega),zkR hj,zkR (show i<a0.length by omega),e1,yd8,wq ((j:Int)+1) (by omega) (by omega),wq ((i:Int)+1) (by omega) (by omega),cond_true,Int.toNat_natCast];cases hx:(a0[j]==a1)
     ·refine⟨_,rfl,⟨i+1,j+1,s.set i a0[j],rfl,by omega,by omega,by rw[List.length_set,p3],?_,?_⟩,by show a0.length-((j:Int)+1).toNat<a0.length-((j:Int)).toNat; omega⟩
      ·rw[List.take_set,← List.take_append_getElem (show i<s.length by omega),List.set_append_right _ _ (by rw[List.length_take]; omega),p4,e2,List.filter_append,List.filter_cons,hx]
       have:i-(List.filter (fun x=> !x==a1) (a0.take j)).length=0:=by rw[← p4,List.length_take]; omega
       rw[this]; rfl
      ·rw[List.drop_set_of_lt (by omega),← List.drop_drop,p5,List.drop_drop]
     ·refine⟨_,rfl,⟨i,j+1,s,rfl,by omega,by omega,p3,?_,?_⟩,by show a0.length-((j:Int)+1).toNat<a0.length-((j:Int)).toNat; omega⟩
      ·rw[p4,e2,List.filter_append,List.filter_cons,hx]; simp
      ·rw[← List.drop_drop,p5,List.drop_drop]
    ·right
     have:j=a0.length:=by omega
     subst this;rw[List.take_length]at p4;refine⟨_,?_,i,s,rfl,by omega,p3,p4⟩
     simp only[yaz,ycn,yfE,p3,zk3 (Int.le_refl _),cond_false]) 18446744073709551616 (ycn a1 k (k+1:Nat) a0) ⟨k,k+1,a0,rfl,by omega,by omega,rfl,h4.symm,rfl⟩ (by show a0.length-((k+1:Nat):Int).toNat<18446744073709551616; omega)
  rw[show((k+1:Nat):Int)=(k:Int)+1 by omega]at e;rw[show yfV (yzH a1 k ((k:Int)+1) a0)=_ from e];rw[hs,← q3]
  have hL:(s.take i++List.replicate ((s.length:Int)-i).toNat (0:Int)++s.drop ((i:Int).toNat+(List.replicate ((s.length:Int)-i).toNat (0:Int)).length)).length=s.length:=by
   simp only[List.length_append,List.length_take,List.length_replicate,List.length_drop]; omega
  show(bif zj0 i s.length s.length then bif zj0 0 i (s.take i++List.replicate ((s.length:Int)-i).toNat (0:Int)++s.drop ((i:Int).toNat+(List.replicate ((s.length:Int)-i).toNat (0:Int)).length)).length then some ((((s.take i++List.replicate ((s.length:Int)-i).toNat (0:Int)++s.drop ((i:Int).toNat+(List.replicate ((s.length:Int)-i).toNat (0:Int)).length)).drop 0).take ((i:Int)-0).toNat,()),())else none else none)=some ((s.take i,()),());rw[hL,zkz.2 (show 0≤(i:Int)∧(i:Int)≤s.length∧(s.length:Int)≤s.length by omega),zkz.2 (show(0:Int)≤0∧(0:Int)≤i∧(i:Int)≤s.length by omega),List.drop_zero,show((i:Int)-0).toNat=i by omega,List.append_assoc,List.take_append_of_le_length (by rw[List.length_take]; omega),List.take_take,Nat.min_self]; rfl
def ynt:Con:=⟨yev,yhZ,fun x=>(fun n=>some ((n,()),())) (yb9 x.1 x.2.1)⟩
theorem yFe:ConOk prog 222 ynt:=(yCW).mono (fun x r hk h=>(yE9 x.1 x.2.1 hk).trans h)
def yTn:Code:=(f193.body).getD .skip
def yTO:Env:=zkw TT [(127,yeS),(133,yhs),(156,yns),(158,ybh),(186,yxM),(222,ynt)] []
theorem yLy:FrOk prog ⟨yTO,51,fun _=>none⟩ yTn:=zkA mixed yf ⟨yh9,ynB,yx1,yda,yJS,yFe,trivial⟩
abbrev ym2:List Par:= [.rd tM,.rd tI,.rd tL]
abbrev yup:List OT:= [⟨false,tM,oA⟩,⟨false,tB,.fz⟩]
def yqv (a0:dM) (a1:Int) (a2:List Int):Option (zaY yup×zak ym2) :=let r1:=yaW a0;let r2:=yaA a0;bif(!(!r2))then bif(!a0.2.2.1)then let r3:=ybT a0 a1;bif(!(!r3))then let r4:=yhx a2;bif(!(!r4))then bif((a0.2.1.length:Int)==60)then some ((r1,false,()),()) else let r5:=yE a2;bif(zkl r1.2.1.length ([(a1,r5)]:List dW).length 32)then let r6:=yb9 r1.2.2.2 a1;some (((r1.1,(r1.2.1++([(a1,r5)]:List dW)),r1.2.2.1,r6),true,()),()) else none else some ((r1,false,()),()) else some ((r1,false,()),()) else some ((r1,false,()),()) else some ((r1,false,()),())
theorem yO1:ConOk prog 193 ⟨ym2,yup,fun x=>yqv x.1 x.2.1 x.2.2.1⟩:=zkI (yLy) func193 ntmps193.symm fun x=>by kernel_rfl
def yjk (a0:dM) (a1:Int) (a2:List Int):dM×Bool:=yab a0 a1 a2
theorem yR2 (a0:dM) (a1:Int) (a2:List Int) (hk:zjx ym2 (a0,a1,a2,())):yqv a0 a1 a2=(fun n=>some ((n.1,n.2,()),())) (yjk a0 a1 a2):=by
 have hb1:a0.1.length*24≤2^47:=hk.1.1.1;unfold yqv yjk yab ybp;simp only[yaW,yaA,ybT,yar,yoa (show a0.1.length≤1152921504606846976 by omega),yHF,yE,yb9];cases hm:yx a0
 ·rfl
 have hc:=(ycM hm).2.2.2.2.2;cases a0.2.2.1
 ·cases inb a1 a0.1.length
  ·rfl
  cases yaB a2
  ·rfl
  by_cases h:(a0.2.1.length:Int)<60
  ·rw[zky h,show((a0.2.1.length:Int)==60)=false from beq_eq_false_iff_ne.2 (by omega),zkF.2 (show(a0.2.1.length+ [(a1,a2)].length)*32≤140737488355328 by simp only[List.length_cons,List.length_nil]; omega)]; rfl
  ·rw[zk3 (by omega),show((a0.2.1.length:Int)==60)=true from beq_iff_eq.2 (by omega)]; rfl
 ·rfl
def yBS:Con:=⟨ym2,yup,fun x=>(fun n=>some ((n.1,n.2,()),())) (yjk x.1 x.2.1 x.2.2.1)⟩
theorem ySN:ConOk prog 193 yBS:=(yO1).mono (fun x r hk h=>(yR2 x.1 x.2.1 x.2.2.1 hk).trans h)
def yPR:Code:=(f139.body).getD .skip
def yP8:Env:=zkw TT [(192,yuN),(193,yBS)] []
theorem yKi:FrOk prog ⟨yP8,39,fun _=>none⟩ yPR:=zkA mixed yf ⟨yIx,ySN,trivial⟩
abbrev yg1:List Par:= [.pt tA oD,.rd tI,.rd tI,.rd tL]
abbrev ylj:List OT:= [⟨false,tB,.fz⟩]
def yoz (a0:dA) (a1 a2:Int) (a3:List Int):Option (zaY ylj×zak yg1) :=bif(inb a1 a0.2.2.1.length)then bif(((nth a0.2.2.1 a1 ([],[],false,[])).2).2).1 then some ((true,()),(a0,())) else let r1:=yh4 a0;bif(!r1.1)then some ((false,()),(r1.2,())) else bif(inb a1 r1.2.2.2.1.length)then let r2:=yjk ((nth r1.2.2.2.1 a1 ([],[],false,[])).1,((nth r1.2.2.2.1 a1 ([],[],false,[])).2).1,(((nth r1.2.2.2.1 a1 ([],[],false,[])).2).2)) a2 a3;bif(inb a1 r1.2.2.2.1.length)then some ((true,()),((r1.2.1,r1.2.2.1,(r1.2.2.2.1.set (a1).toNat r2.1),r1.2.2.2.2),())) else none else none else none
theorem yMx:ConOk prog 139 ⟨yg1,ylj,fun x=>yoz x.1 x.2.1 x.2.2.1 x.2.2.2.1⟩:=zkI (yKi) func139 ntmps139.symm fun x=>by kernel_rfl
def ybQ (a0:dA) (a1 a2:Int) (a3:List Int):Bool×dA:=(!(ya (ybr a0 a1 a2 a3)),ybr a0 a1 a2 a3)
def ybR (a0:dA) (a1 a2:Int) (a3:List Int):Bool:=inb a1 a0.2.2.1.length&& !(ya a0)
theorem yON (a0:dA) (a1 a2:Int) (a3:List Int) (hk:zjx yg1 (a0,a1,a2,a3,())) (hq:ybR a0 a1 a2 a3=true):yoz a0 a1 a2 a3=(fun n=>some ((n.1,()),(n.2,()))) (ybQ a0 a1 a2 a3):=by
 simp only[ybR,Bool.and_eq_true,Bool.not_eq_true']at hq;unfold yoz ybQ;simp only[y25 hq.2];unfold ybr ybx;simp only[yU2 hq.2,yaY,hq.1,zkX,yjk];cases(nth a0.2.2.1 a1 yc).2.2.1<;>cases(opA a0).1<;>rfl
def yc9 (a0:dA) (a1 a2:Int) (a3:List Int):Option (zaY ylj×zak yg1):=bif ybR a0 a1 a2 a3 then(fun n=>some ((n.1,()),(n.2,()))) (ybQ a0 a1 a2 a3)else none
theorem yj2 (a0:dA) (a1 a2:Int) (a3:List Int) (h:ybR a0 a1 a2 a3=true):yc9 a0 a1 a2 a3=(fun n=>some ((n.1,()),(n.2,()))) (ybQ a0 a1 a2 a3):=by unfold yc9; rw[h]; rfl
def yfw:Con:=⟨yg1,ylj,fun x=>yc9 x.1 x.2.1 x.2.2.1 x.2.2.2.1⟩
theorem yj0:ConOk prog 139 yfw:=(yMx).mono (fun x r hk h=>zkY h (fun hq=>yON x.1 x.2.1 x.2.2.1 x.2.2.2.1 hk hq))
def y0l:Code:=(f164.body).getD .skip
def y0T:Env:=zkw TT [(159,yxL)] []
theorem yQz:FrOk prog ⟨y0T,17,fun _=>none⟩ y0l:=zkA mixed yf ⟨yJR,trivial⟩
abbrev yrl:List Par:= [.rd tN]
abbrev yAA:List OT:= [⟨false,tL,oG⟩]
def yvF (a0:dN):Option (zaY yAA×zak yrl) :=let r1:=ykD a0;bif(!r1)then some (([],()),()) else bif(zkl ([21322,a0.1,a0.2.1,(a0.2.2.length:Int)]:List Int).length a0.2.2.length 8)then some (((([21322,a0.1,a0.2.1,(a0.2.2.length:Int)]:List Int)++a0.2.2),()),()) else none
theorem yVQ:ConOk prog 164 ⟨yrl,yAA,fun x=>yvF x.1⟩:=zkI (yQz) func164 ntmps164.symm fun x=>by kernel_rfl
def yl5 (a0:dN):List Int:=yaf a0
theorem yYe (a0:dN) (hk:zjx yrl (a0,())):yvF a0=(fun n=>some ((n,()),())) (yl5 a0):=by
 unfold yvF yl5 yaf;simp only[yPF];cases hr:y9 a0
 ·rfl
 ·have:=(yte.1 hr).2.2.1
  rw[zkF.2 (show(([21322,a0.1,a0.2.1,(a0.2.2.length:Int)]:List Int).length+a0.2.2.length)*8≤140737488355328 by simp only[List.length_cons,List.length_nil]; omega)]; rfl
def yGl:Con:=⟨yrl,yAA,fun x=>(fun n=>some ((n,()),())) (yl5 x.1)⟩
theorem yZa:ConOk prog 164 yGl:=(yVQ).mono (fun x r hk h=>(yYe x.1 hk).trans h)
def ymO:Code:=(f205.body).getD .skip
def ytC:Env:=zkw TT [(127,yeS),(133,yhs),(158,ybh)] []
theorem yLs:FrOk prog ⟨ytC,34,fun _=>none⟩ ymO:=zkA mixed yf ⟨yh9,ynB,yda,trivial⟩
def yBr:Nat→Option Seg:=fun _=>none
def ybJ:Shape:=⟨[(2,false,[.ptr 64 0]),(3,false,[.ptr 4224 0]),(17,false,[.br tW]),(18,false,[ii]),(19,false,[ii])],[(64,oO),(4224,oN)],[(800000000,tL,oG),(800000001,tW,oE),(800000002,tI,.fz)]⟩
def yfp:Shape:=⟨[(2,false,[.ptr 64 0]),(3,false,[.ptr 4224 0]),(17,false,[.br tW]),(18,false,[ii]),(19,false,[.ci .i64 0])],[(64,oO),(4224,oN)],[(800000000,tL,oG),(800000001,tW,oE),(800000002,tI,.fz)]⟩
def yff:Shape:=⟨[(2,false,[.ptr 64 0]),(3,false,[.ptr 4224 0])],[(64,oO),(4224,oN)],[(800000000,tL,oG),(800000001,tW,oE),(800000002,tI,.fz)]⟩
def yiW:Shape:=⟨[],[],[]⟩
abbrev ymv (v0:List dW) (v1 v2:Int) (v3 v4:dM):(ybJ).X:=((((),()),((),()),(v0,()),(v1,()),(v2,()),()),(((),(),v3.2.2.1,(),()),((),(),v4.2.2.1,(),()),()),(v4.1,v4.2.1,v4.2.2.2,()))
abbrev yKw (v0:List dW) (v1:Int) (v2 v3:dM):(yfp).X:=((((),()),((),()),(v0,()),(v1,()),((),()),()),(((),(),v2.2.2.1,(),()),((),(),v3.2.2.1,(),()),()),(v3.1,v3.2.1,v3.2.2.2,()))
abbrev ywE (v0 v1:dM):(yff).X:=((((),()),((),()),()),(((),(),v0.2.2.1,(),()),((),(),v1.2.2.1,(),()),()),(v1.1,v1.2.1,v1.2.2.2,()))
def ymH (v0:List dW) (v1 v2:Int) (v3 v4:Bool) (v5:List (List Int)) (v6:List dW) (v7:List Int):Option ((ybJ).X ⊕ ((yff).X ⊕ (yiW).X)) :=bif(ltb v2 v1)then bif(inb v2 v0.length)then let r4:=yE ((nth v0 v2 (0,[])).2);bif(inb ((nth v0 v2 (0,[])).1) v5.length)then some (.inl ((((),()),((),()),(v0,()),(v1,()),((i64.wrap (v2+1)),()),()),(((),(),v3,(),()),((),(),v4,(),()),()),((v5.set ((nth v0 v2 (0,[])).1).toNat r4),v6,v7,()))) else none else none else some (.inr (.inl ((((),()),((),()),()),(((),(),v3,(),()),((),(),v4,(),()),()),(v5,v6,v7,()))))
def yb3 (x:(ybJ).X):=ymH x.1.2.2.1.1 x.1.2.2.2.1.1 x.1.2.2.2.2.1.1 x.2.1.1.2.2.1 x.2.1.2.1.2.2.1 x.2.2.1 x.2.2.2.1 x.2.2.2.2.1
def ywk (x:(yfp).X):(ybJ).X:=((((),()),((),()),(x.1.2.2.1.1,()),(x.1.2.2.2.1.1,()),(0,()),()),(((),(),x.2.1.1.2.2.1,(),()),((),(),x.2.1.2.1.2.2.1,(),()),()),(x.2.2.1,x.2.2.2.1,x.2.2.2.2.1,()))
def yyV:Code:=(zd7 ymO 64 244).getD .skip
theorem yK4:zd7 ymO 64 61=some (.block 0 (.loop yyV)):=by kernel_rfl
theorem yMP (x:(ybJ).X):zhu ⟨ytC,34,yBr⟩ 0 yyV 244 ybJ yff yiW x=yb3 x:=by kernel_rfl
def ywv (x:(yfp).X):Nat:=18446744073709551616
def ynL (x:(yfp).X):Option ((yff).X ⊕ (yiW).X):=zF yb3 (ywv x) (ywk x)
def ywP:Seg:=⟨yfp,yff,yiW,ynL⟩
def yNq:Nat→Option Seg:=fun q=>bif Nat.beq q 61 then some ywP else yBr q
theorem yLt:FrOk prog ⟨ytC,34,yNq⟩ ymO:=(yLs).loop (sg:=ywP) ybJ ywk (by decide) yK4 yb3 ywv (by decide) (fun _=>rfl) (fun x r _ h=>h) yMP
abbrev ymY:List Par:= [.rd tM]
abbrev yuk:List OT:= [⟨false,tM,oA⟩]
def yqr (a0:dM):Option (zaY yuk×zak ymY) :=let r1:=yaW a0;let r2:=yaA a0;bif(!(!r2))then bif a0.2.2.1 then some ((r1,()),()) else zkt (ynL ((((),()),((),()),(a0.2.1,()),((a0.2.1.length:Int),()),((),()),()),(((),(),false,(),()),((),(),r1.2.2.1,(),()),()),(r1.1,r1.2.1,r1.2.2.2,()))) (fun y4 =>some (((y4.2.2.1,[],y4.2.1.2.1.2.2.1,y4.2.2.2.2.1),()),())) (fun y4 =>none) else some ((r1,()),())
theorem yOW:ConOk prog 205 ⟨ymY,yuk,fun x=>yqr x.1⟩:=zkI (yLt) func205 ntmps205.symm fun x=>by kernel_rfl
def yjh (a0:dM):dM:=yC a0
theorem yRX (a0:dM) (hk:zjx ymY (a0,())):yqr a0=(fun n=>some ((n,()),())) (yjh a0):=by
 have hb2:a0.2.1.length*32≤2^47:=hk.1.2.1.1;unfold yqr yjh yC;simp only[yaW,yaA];cases hm:yx a0
 ·rfl
 have h1:ynL (yKw a0.2.1 a0.2.1.length yc a0)=some (.inl (ywE yc (ygO (fun _=>true) a0.2.1 a0.1,a0.2))) :=
  zkD (step:=yb3) a0.2.1.length (fun i s=>ymv a0.2.1 a0.2.1.length i yc (s,a0.2)) (yfz (fun _=>true) a0.2.1) (fun i s=>s.length=a0.1.length) (fun s=> .inl (ywE yc (s,a0.2))) (fun i s hi hs=>by
   have hw:=(yRo hm hi).1;refine⟨?_,yvm.trans hs⟩
   simp only[yb3,ymv,ymH,zky (show(i:Int)<a0.2.1.length by omega),cond_true,wq ((i:Int)+1) (by omega) (by omega),Int.natCast_add,Int.natCast_one,Int.toNat_natCast,zkR hi,hs,hw,yfz,yE]) (fun s hs=>by simp only[yb3,ymv,ymH,zk3 (Int.le_refl _),cond_false]) a0.1 rfl _ (by show _<18446744073709551616; omega)
 rw[h1];cases hf:a0.2.2.1
 ·exact congrArg (fun z=>some (((ygO (fun _=>true) a0.2.1 a0.1,([]:List dW),z,a0.2.2.2),()),())) hf
 ·rfl
def yBO:Con:=⟨ymY,yuk,fun x=>(fun n=>some ((n,()),())) (yjh x.1)⟩
theorem ySJ:ConOk prog 205 yBO:=(yOW).mono (fun x r hk h=>(yRX x.1 hk).trans h)
def ymM:Code:=(f165.body).getD .skip
def ytA:Env:=zkw TT [(192,yuN),(205,yBO)] []
theorem yLl:FrOk prog ⟨ytA,38,fun _=>none⟩ ymM:=zkA mixed yf ⟨yIx,ySJ,trivial⟩
def yBo:Nat→Option Seg:=fun _=>none
def ybF:Shape:=⟨[(0,false,[.ptr 1000000000 0]),(8,false,[ii]),(9,false,[ii])],[(1000000000,oI)],[(800000000,tM,oA),(800000001,tW,oE)]⟩
def yfl:Shape:=⟨[(0,false,[.ptr 1000000000 0]),(8,false,[ii]),(9,false,[.ci .i64 0])],[(1000000000,oI)],[(800000000,tM,oA),(800000001,tW,oE)]⟩
def yfb:Shape:=⟨[],[(1000000000,oI)],[(800000000,tM,oA),(800000001,tW,oE)]⟩
def yfv:Shape:=⟨[(2,false,[.bool])],[(1000000000,oI)],[(800000000,tM,oA),(800000001,tW,oE)]⟩
abbrev yhS (v0 v1:Int) (v2:dA):(ybF).X:=((((),()),(v0,()),(v1,()),()),((v2.1,v2.2.1.1,v2.2.1.2,(),v2.2.2.2.1,v2.2.2.2.2.1,v2.2.2.2.2.2.1,v2.2.2.2.2.2.2.1,v2.2.2.2.2.2.2.2.1,(),v2.2.2.2.2.2.2.2.2.2.1,v2.2.2.2.2.2.2.2.2.2.2.1,v2.2.2.2.2.2.2.2.2.2.2.2,()),()),(v2.2.2.1,v2.2.2.2.2.2.2.2.2.1,()))
abbrev yKt (v0:Int) (v1:dA):(yfl).X:=((((),()),(v0,()),((),()),()),((v1.1,v1.2.1.1,v1.2.1.2,(),v1.2.2.2.1,v1.2.2.2.2.1,v1.2.2.2.2.2.1,v1.2.2.2.2.2.2.1,v1.2.2.2.2.2.2.2.1,(),v1.2.2.2.2.2.2.2.2.2.1,v1.2.2.2.2.2.2.2.2.2.2.1,v1.2.2.2.2.2.2.2.2.2.2.2,()),()),(v1.2.2.1,v1.2.2.2.2.2.2.2.2.1,()))
abbrev ymz (v0:dA):(yfb).X:=((),((v0.1,v0.2.1.1,v0.2.1.2,(),v0.2.2.2.1,v0.2.2.2.2.1,v0.2.2.2.2.2.1,v0.2.2.2.2.2.2.1,v0.2.2.2.2.2.2.2.1,(),v0.2.2.2.2.2.2.2.2.2.1,v0.2.2.2.2.2.2.2.2.2.2.1,v0.2.2.2.2.2.2.2.2.2.2.2,()),()),(v0.2.2.1,v0.2.2.2.2.2.2.2.2.1,()))
abbrev ymB (v0:Bool) (v1:dA):(yfv).X:=(((v0,()),()),((v1.1,v1.2.1.1,v1.2.1.2,(),v1.2.2.2.1,v1.2.2.2.2.1,v1.2.2.2.2.2.1,v1.2.2.2.2.2.2.1,v1.2.2.2.2.2.2.2.1,(),v1.2.2.2.2.2.2.2.2.2.1,v1.2.2.2.2.2.2.2.2.2.2.1,v1.2.2.2.2.2.2.2.2.2.2.2,()),()),(v1.2.2.1,v1.2.2.2.2.2.2.2.2.1,()))
def ymE (v0 v1 v2 v3 v4 v5 v6 v7 v8 v9 v10:Int) (v11 v12:Bool) (v13:List dM) (v14:List dW):Option ((ybF).X ⊕ ((yfb).X ⊕ (yfv).X)) :=bif(ltb v1 v0)then bif(inb v1 v13.length)then bif(((nth v13 v1 ([],[],false,[])).2).2).1 then some (.inl ((((),()),(v0,()),((i64.wrap (v1+1)),()),()),((v2,v3,v4,(),v5,v6,v7,v8,v9,(),v10,v11,v12,()),()),(v13,v14,()))) else let r3:=yh4 (v2,(v3,v4),v13,v5,v6,v7,v8,v9,v14,v10,v11,v12);bif(!r3.1)then some (.inr (.inr (((false,()),()),((r3.2.1,r3.2.2.1.1,r3.2.2.1.2,(),r3.2.2.2.2.1,r3.2.2.2.2.2.1,r3.2.2.2.2.2.2.1,r3.2.2.2.2.2.2.2.1,r3.2.2.2.2.2.2.2.2.1,(),r3.2.2.2.2.2.2.2.2.2.2.1,r3.2.2.2.2.2.2.2.2.2.2.2.1,r3.2.2.2.2.2.2.2.2.2.2.2.2,()),()),(r3.2.2.2.1,r3.2.2.2.2.2.2.2.2.2.1,())))) else bif(inb v1 r3.2.2.2.1.length)then let r4:=yjh ((nth r3.2.2.2.1 v1 ([],[],false,[])).1,((nth r3.2.2.2.1 v1 ([],[],false,[])).2).1,(((nth r3.2.2.2.1 v1 ([],[],false,[])).2).2));bif(inb v1 r3.2.2.2.1.length)then some (.inl ((((),()),(v0,()),((i64.wrap (v1+1)),()),()),((r3.2.1,r3.2.2.1.1,r3.2.2.1.2,(),r3.2.2.2.2.1,r3.2.2.2.2.2.1,r3.2.2.2.2.2.2.1,r3.2.2.2.2.2.2.2.1,r3.2.2.2.2.2.2.2.2.1,(),r3.2.2.2.2.2.2.2.2.2.2.1,r3.2.2.2.2.2.2.2.2.2.2.2.1,r3.2.2.2.2.2.2.2.2.2.2.2.2,()),()),((r3.2.2.2.1.set (v1).toNat r4),r3.2.2.2.2.2.2.2.2.2.1,()))) else none else none else none else some (.inr (.inl ((),((v2,v3,v4,(),v5,v6,v7,v8,v9,(),v10,v11,v12,()),()),(v13,v14,()))))
def yb0 (x:(ybF).X):=ymE x.1.2.1.1 x.1.2.2.1.1 x.2.1.1.1 x.2.1.1.2.1 x.2.1.1.2.2.1 x.2.1.1.2.2.2.2.1 x.2.1.1.2.2.2.2.2.1 x.2.1.1.2.2.2.2.2.2.1 x.2.1.1.2.2.2.2.2.2.2.1 x.2.1.1.2.2.2.2.2.2.2.2.1 x.2.1.1.2.2.2.2.2.2.2.2.2.2.1 x.2.1.1.2.2.2.2.2.2.2.2.2.2.2.1 x.2.1.1.2.2.2.2.2.2.2.2.2.2.2.2.1 x.2.2.1 x.2.2.2.1
def ywg (x:(yfl).X):(ybF).X:=((((),()),(x.1.2.1.1,()),(0,()),()),((x.2.1.1.1,x.2.1.1.2.1,x.2.1.1.2.2.1,(),x.2.1.1.2.2.2.2.1,x.2.1.1.2.2.2.2.2.1,x.2.1.1.2.2.2.2.2.2.1,x.2.1.1.2.2.2.2.2.2.2.1,x.2.1.1.2.2.2.2.2.2.2.2.1,(),x.2.1.1.2.2.2.2.2.2.2.2.2.2.1,x.2.1.1.2.2.2.2.2.2.2.2.2.2.2.1,x.2.1.1.2.2.2.2.2.2.2.2.2.2.2.2.1,()),()),(x.2.2.1,x.2.2.2.1,()))
def yyR:Code:=(zd7 ymM 64 52).getD .skip
theorem yK0:zd7 ymM 64 13=some (.block 0 (.loop yyR)):=by kernel_rfl
theorem yML (x:(ybF).X):zhu ⟨ytA,38,yBo⟩ 0 yyR 52 ybF yfb yfv x=yb0 x:=by kernel_rfl
def ywr (x:(yfl).X):Nat:=18446744073709551616
def ynJ (x:(yfl).X):Option ((yfb).X ⊕ (yfv).X):=zF yb0 (ywr x) (ywg x)
def ywL:Seg:=⟨yfl,yfb,yfv,ynJ⟩
def yNn:Nat→Option Seg:=fun q=>bif Nat.beq q 13 then some ywL else yBo q
theorem yLm:FrOk prog ⟨ytA,38,yNn⟩ ymM:=(yLl).loop (sg:=ywL) ybF ywg (by decide) yK0 yb0 ywr (by decide) (fun _=>rfl) (fun x r _ h=>h) yML
abbrev yih:List Par:= [.pt tA oD]
abbrev ynf:List OT:= [⟨false,tB,.fz⟩]
def yqo (a0:dA):Option (zaY ynf×zak yih) :=zkt (ynJ ((((),()),((a0.2.2.1.length:Int),()),((),()),()),((a0.1,a0.2.1.1,a0.2.1.2,(),a0.2.2.2.1,a0.2.2.2.2.1,a0.2.2.2.2.2.1,a0.2.2.2.2.2.2.1,a0.2.2.2.2.2.2.2.1,(),a0.2.2.2.2.2.2.2.2.2.1,a0.2.2.2.2.2.2.2.2.2.2.1,a0.2.2.2.2.2.2.2.2.2.2.2,()),()),(a0.2.2.1,a0.2.2.2.2.2.2.2.2.1,()))) (fun y4 =>some ((true,()),((y4.2.1.1.1,(y4.2.1.1.2.1,y4.2.1.1.2.2.1),y4.2.2.1,y4.2.1.1.2.2.2.2.1,y4.2.1.1.2.2.2.2.2.1,y4.2.1.1.2.2.2.2.2.2.1,y4.2.1.1.2.2.2.2.2.2.2.1,y4.2.1.1.2.2.2.2.2.2.2.2.1,y4.2.2.2.1,y4.2.1.1.2.2.2.2.2.2.2.2.2.2.1,y4.2.1.1.2.2.2.2.2.2.2.2.2.2.2.1,y4.2.1.1.2.2.2.2.2.2.2.2.2.2.2.2.1),()))) (fun y4 =>some ((y4.1.1.1,()),((y4.2.1.1.1,(y4.2.1.1.2.1,y4.2.1.1.2.2.1),y4.2.2.1,y4.2.1.1.2.2.2.2.1,y4.2.1.1.2.2.2.2.2.1,y4.2.1.1.2.2.2.2.2.2.1,y4.2.1.1.2.2.2.2.2.2.2.1,y4.2.1.1.2.2.2.2.2.2.2.2.1,y4.2.2.2.1,y4.2.1.1.2.2.2.2.2.2.2.2.2.2.1,y4.2.1.1.2.2.2.2.2.2.2.2.2.2.2.1,y4.2.1.1.2.2.2.2.2.2.2.2.2.2.2.2.1),())))
theorem yOT:ConOk prog 165 ⟨yih,ynf,fun x=>yqo x.1⟩:=zkI (yLm) func165 ntmps165.symm fun x=>by kernel_rfl
def yje (a0:dA):Bool×dA:=(!(ya (yd a0)),yd a0)
def yfR (a0:dA):Bool:= !(ya a0)
theorem yRU (a0:dA) (hk:zjx yih (a0,())) (hq:yfR a0=true):yqo a0=(fun n=>some ((n.1,()),(n.2,()))) (yje a0):=by
 have hb:a0.2.2.1.length*80≤2^47:=hk.1.2.2.1.1
 have h1:ynJ (yKt a0.2.2.1.length a0)=some (bif ya (yd a0)then .inr (ymB false (yd a0))else .inl (ymz (yd a0))):=by
  have:=zkC (step:=yb0) a0.2.2.1.length (fun i s=>yhS a0.2.2.1.length i s) (fun i s=>bif ya (yae s i)then(.inr (yae s i):dA ⊕ dA)else .inl (yae s i)) (fun _ s=>s.2.2.1.length=a0.2.2.1.length∧ya s=false) id
   (fun b=>bif ya b then .inr (ymB false b)else .inl (ymz b)) (fun i s hi hs=>by
    constructor
    ·rw[yMZ hs.2]
     simp only[yb0,yhS,ymE,hs.1,zky (show(i:Int)<a0.2.2.1.length by omega),cond_true,wq ((i:Int)+1) (by omega) (by omega),Int.natCast_add,Int.natCast_one,Int.toNat_natCast,zkR hi,zkX,yU2 hs.2,yaY,yjh];cases hf:(nth s.2.2.1 i yc).2.2.1
     ·cases ho:(opA s).1
      ·have e:yae s i=(opA s).2:=by unfold yae; rw[hf,ho]; rfl
       have d:ya (opA s).2=true:=by rw[yZq hs.2,ho]; rfl
       rw[e];simp only[Bool.not_false,Bool.and_self,cond_true,cond_false,d,yaY,ymB]
      ·have e:yae s i=ybx (opA s).2 i (yC (nth s.2.2.1 i yc)):=by unfold yae; rw[hf,ho]; rfl
       rw[e];simp only[Bool.not_true,Bool.not_false,Bool.and_false,cond_true,cond_false,yhS,ybx,yaY,Int.toNat_natCast]
     ·have e:yae s i=s:=by unfold yae; rw[hf]; rfl
      rw[e]; rfl
    ·intro s' h
     cases hd:ya (yae s i)
     ·rw[hd]at h
      cases h;exact⟨(ymk s i).trans hs.1,hd⟩
     ·rw[hd]at h; cases h) (fun s hs=>by simp only[yb0,yhS,ymE,hs.2,zk3 (Int.le_refl _),cond_false,id,ymz]) a0 ⟨rfl,by simpa [yfR]using hq⟩ 18446744073709551616 (by omega)
  rw[yE0 (fun a i h=>yFH i h),← List.range_eq_range']at this;exact this
 unfold yqo yje;rw[h1];cases hd:ya (yd a0)<;>rfl
def yfQ (a0:dA):Option (zaY ynf×zak yih):=bif yfR a0 then(fun n=>some ((n.1,()),(n.2,()))) (yje a0)else none
theorem yss (a0:dA) (h:yfR a0=true):yfQ a0=(fun n=>some ((n.1,()),(n.2,()))) (yje a0):=by unfold yfQ; rw[h]; rfl
def yjV:Con:=⟨yih,ynf,fun x=>yfQ x.1⟩
theorem ysq:ConOk prog 165 yjV:=(yOT).mono (fun x r hk h=>zkY h (fun hq=>yRU x.1 hk hq))
def yjF:Code:=(f97.body).getD .skip
def ypM:Env:=zkw TT [(88,yuR),(139,yfw),(164,yGl),(165,yjV)] []
theorem yI8:FrOk prog ⟨ypM,26,fun _=>none⟩ yjF:=zkA mixed yf ⟨yIA,yj0,yZa,ysq,trivial⟩
def yv5:Nat→Option Seg:=fun _=>none
def ya5:Shape:=⟨[(0,false,[.ptr 1000000000 0]),(3,false,[.ptr 0 0]),(10,false,[ii]),(11,false,[ii])],[(0,[ii,ii,.br tI]),(1000000000,oI)],[(800000000,tM,oA),(800000001,tW,oE)]⟩
def ydP:Shape:=⟨[(0,false,[.ptr 1000000000 0]),(3,false,[.ptr 0 0]),(10,false,[ii]),(11,false,[.ci .i64 0])],[(0,[ii,ii,.br tI]),(1000000000,oI)],[(800000000,tM,oA),(800000001,tW,oE)]⟩
def ydN:Shape:=⟨[(0,false,[.ptr 1000000000 0])],[(1000000000,oI)],[(800000000,tM,oA),(800000001,tW,oE)]⟩
def ydR:Shape:=⟨[(4,false,[.bool])],[(1000000000,oI)],[(800000000,tM,oA),(800000001,tW,oE)]⟩
abbrev ykw (v0 v1:Int) (v2:dN) (v3:dA):(ya5).X:=((((),()),((),()),(v0,()),(v1,()),()),((v2.1,v2.2.1,v2.2.2,()),(v3.1,v3.2.1.1,v3.2.1.2,(),v3.2.2.2.1,v3.2.2.2.2.1,v3.2.2.2.2.2.1,v3.2.2.2.2.2.2.1,v3.2.2.2.2.2.2.2.1,(),v3.2.2.2.2.2.2.2.2.2.1,v3.2.2.2.2.2.2.2.2.2.2.1,v3.2.2.2.2.2.2.2.2.2.2.2,()),()),(v3.2.2.1,v3.2.2.2.2.2.2.2.2.1,()))
abbrev yIu (v0:Int) (v1:dN) (v2:dA):(ydP).X:=((((),()),((),()),(v0,()),((),()),()),((v1.1,v1.2.1,v1.2.2,()),(v2.1,v2.2.1.1,v2.2.1.2,(),v2.2.2.2.1,v2.2.2.2.2.1,v2.2.2.2.2.2.1,v2.2.2.2.2.2.2.1,v2.2.2.2.2.2.2.2.1,(),v2.2.2.2.2.2.2.2.2.2.1,v2.2.2.2.2.2.2.2.2.2.2.1,v2.2.2.2.2.2.2.2.2.2.2.2,()),()),(v2.2.2.1,v2.2.2.2.2.2.2.2.2.1,()))
abbrev yky (v0:dA):(ydN).X:=((((),()),()),((v0.1,v0.2.1.1,v0.2.1.2,(),v0.2.2.2.1,v0.2.2.2.2.1,v0.2.2.2.2.2.1,v0.2.2.2.2.2.2.1,v0.2.2.2.2.2.2.2.1,(),v0.2.2.2.2.2.2.2.2.2.1,v0.2.2.2.2.2.2.2.2.2.2.1,v0.2.2.2.2.2.2.2.2.2.2.2,()),()),(v0.2.2.1,v0.2.2.2.2.2.2.2.2.1,()))
abbrev ykA (v0:Bool) (v1:dA):(ydR).X:=(((v0,()),()),((v1.1,v1.2.1.1,v1.2.1.2,(),v1.2.2.2.1,v1.2.2.2.2.1,v1.2.2.2.2.2.1,v1.2.2.2.2.2.2.1,v1.2.2.2.2.2.2.2.1,(),v1.2.2.2.2.2.2.2.2.2.1,v1.2.2.2.2.2.2.2.2.2.2.1,v1.2.2.2.2.2.2.2.2.2.2.2,()),()),(v1.2.2.1,v1.2.2.2.2.2.2.2.2.1,()))
def yk0 (v0 v1 v2 v3:Int) (v4:List Int) (v5 v6 v7 v8 v9 v10 v11 v12 v13:Int) (v14 v15:Bool) (v16:List dM) (v17:List dW):Option ((ya5).X ⊕ ((ydN).X ⊕ (ydR).X)) :=bif(ltb v1 v0)then let r4:=yl6 v2;let r5:=yl5 (v2,v3,v4);bnd (yc9 (v5,(v6,v7),v16,v8,v9,v10,v11,v12,v17,v13,v14,v15) v1 r4 r5) fun r6 =>bif(!r6.1.1)then some (.inr (.inr (((false,()),()),((r6.2.1.1,r6.2.1.2.1.1,r6.2.1.2.1.2,(),r6.2.1.2.2.2.1,r6.2.1.2.2.2.2.1,r6.2.1.2.2.2.2.2.1,r6.2.1.2.2.2.2.2.2.1,r6.2.1.2.2.2.2.2.2.2.1,(),r6.2.1.2.2.2.2.2.2.2.2.2.1,r6.2.1.2.2.2.2.2.2.2.2.2.2.1,r6.2.1.2.2.2.2.2.2.2.2.2.2.2,()),()),(r6.2.1.2.2.1,r6.2.1.2.2.2.2.2.2.2.2.1,())))) else some (.inl ((((),()),((),()),(v0,()),((i64.wrap (v1+1)),()),()),((v2,v3,v4,()),(r6.2.1.1,r6.2.1.2.1.1,r6.2.1.2.1.2,(),r6.2.1.2.2.2.1,r6.2.1.2.2.2.2.1,r6.2.1.2.2.2.2.2.1,r6.2.1.2.2.2.2.2.2.1,r6.2.1.2.2.2.2.2.2.2.1,(),r6.2.1.2.2.2.2.2.2.2.2.2.1,r6.2.1.2.2.2.2.2.2.2.2.2.2.1,r6.2.1.2.2.2.2.2.2.2.2.2.2.2,()),()),(r6.2.1.2.2.1,r6.2.1.2.2.2.2.2.2.2.2.1,()))) else some (.inr (.inl ((((),()),()),((v5,v6,v7,(),v8,v9,v10,v11,v12,(),v13,v14,v15,()),()),(v16,v17,()))))
def ybf (x:(ya5).X):=yk0 x.1.2.2.1.1 x.1.2.2.2.1.1 x.2.1.1.1 x.2.1.1.2.1 x.2.1.1.2.2.1 x.2.1.2.1.1 x.2.1.2.1.2.1 x.2.1.2.1.2.2.1 x.2.1.2.1.2.2.2.2.1 x.2.1.2.1.2.2.2.2.2.1 x.2.1.2.1.2.2.2.2.2.2.1 x.2.1.2.1.2.2.2.2.2.2.2.1 x.2.1.2.1.2.2.2.2.2.2.2.2.1 x.2.1.2.1.2.2.2.2.2.2.2.2.2.2.1 x.2.1.2.1.2.2.2.2.2.2.2.2.2.2.2.1 x.2.1.2.1.2.2.2.2.2.2.2.2.2.2.2.2.1 x.2.2.1 x.2.2.2.1
def ys8 (x:(ydP).X):(ya5).X:=((((),()),((),()),(x.1.2.2.1.1,()),(0,()),()),((x.2.1.1.1,x.2.1.1.2.1,x.2.1.1.2.2.1,()),(x.2.1.2.1.1,x.2.1.2.1.2.1,x.2.1.2.1.2.2.1,(),x.2.1.2.1.2.2.2.2.1,x.2.1.2.1.2.2.2.2.2.1,x.2.1.2.1.2.2.2.2.2.2.1,x.2.1.2.1.2.2.2.2.2.2.2.1,x.2.1.2.1.2.2.2.2.2.2.2.2.1,(),x.2.1.2.1.2.2.2.2.2.2.2.2.2.2.1,x.2.1.2.1.2.2.2.2.2.2.2.2.2.2.2.1,x.2.1.2.1.2.2.2.2.2.2.2.2.2.2.2.2.1,()),()),(x.2.2.1,x.2.2.2.1,()))
def yuK:Code:=(zd7 yjF 64 52).getD .skip
theorem yI2:zd7 yjF 64 13=some (.block 0 (.loop yuK)):=by kernel_rfl
theorem yJv (x:(ya5).X):zhu ⟨ypM,26,yv5⟩ 0 yuK 52 ya5 ydN ydR x=ybf x:=by kernel_rfl
def yta (x:(ydP).X):Nat:=18446744073709551616
def ylb (x:(ydP).X):Option ((ydN).X ⊕ (ydR).X):=zF ybf (yta x) (ys8 x)
def ytg:Seg:=⟨ydP,ydN,ydR,ylb⟩
def yJ7:Nat→Option Seg:=fun q=>bif Nat.beq q 13 then some ytg else yv5 q
theorem yI9:FrOk prog ⟨ypM,26,yJ7⟩ yjF:=(yI8).loop (sg:=ytg) ya5 ys8 (by decide) yI2 ybf yta (by decide) (fun _=>rfl) (fun x r _ h=>h) yJv
abbrev yf6:List Par:= [.pt tA oD,.rd tN]
abbrev yjK:List OT:= [⟨false,tB,.fz⟩]
def ymC (a0:dA) (a1:dN):Option (zaY yjK×zak yf6) :=zkt (ylb ((((),()),((),()),((a0.2.2.1.length:Int),()),((),()),()),((a1.1,a1.2.1,a1.2.2,()),(a0.1,a0.2.1.1,a0.2.1.2,(),a0.2.2.2.1,a0.2.2.2.2.1,a0.2.2.2.2.2.1,a0.2.2.2.2.2.2.1,a0.2.2.2.2.2.2.2.1,(),a0.2.2.2.2.2.2.2.2.2.1,a0.2.2.2.2.2.2.2.2.2.2.1,a0.2.2.2.2.2.2.2.2.2.2.2,()),()),(a0.2.2.1,a0.2.2.2.2.2.2.2.2.1,()))) (fun y6 =>bnd (yfQ (y6.2.1.1.1,(y6.2.1.1.2.1,y6.2.1.1.2.2.1),y6.2.2.1,y6.2.1.1.2.2.2.2.1,y6.2.1.1.2.2.2.2.2.1,y6.2.1.1.2.2.2.2.2.2.1,y6.2.1.1.2.2.2.2.2.2.2.1,y6.2.1.1.2.2.2.2.2.2.2.2.1,y6.2.2.2.1,y6.2.1.1.2.2.2.2.2.2.2.2.2.2.1,y6.2.1.1.2.2.2.2.2.2.2.2.2.2.2.1,y6.2.1.1.2.2.2.2.2.2.2.2.2.2.2.2.1)) fun r8 =>some ((r8.1.1,()),(r8.2.1,()))) (fun y6 =>some ((y6.1.1.1,()),((y6.2.1.1.1,(y6.2.1.1.2.1,y6.2.1.1.2.2.1),y6.2.2.1,y6.2.1.1.2.2.2.2.1,y6.2.1.1.2.2.2.2.2.1,y6.2.1.1.2.2.2.2.2.2.1,y6.2.1.1.2.2.2.2.2.2.2.1,y6.2.1.1.2.2.2.2.2.2.2.2.1,y6.2.2.2.1,y6.2.1.1.2.2.2.2.2.2.2.2.2.2.1,y6.2.1.1.2.2.2.2.2.2.2.2.2.2.2.1,y6.2.1.1.2.2.2.2.2.2.2.2.2.2.2.2.1),())))
theorem yKF:ConOk prog 97 ⟨yf6,yjK,fun x=>ymC x.1 x.2.1⟩:=zkI (yI9) func97 ntmps97.symm fun x=>by kernel_rfl
def yjX (a0:dA) (a1:dN):Bool×dA:=(!(ya (yr a0 a1)),yr a0 a1)
def ygC (a0:dA) (a1:dN):Bool:= !(ya a0)
theorem yMr (a0:dA) (a1:dN) (hk:zjx yf6 (a0,a1,())) (hq:ygC a0 a1=true):ymC a0 a1=(fun n=>some ((n.1,()),(n.2,()))) (yjX a0 a1):=by
 have hb:a0.2.2.1.length*80≤2^47:=hk.1.2.2.1.1;have hd0:ya a0=false:=by simpa [ygC]using hq
 have h1:ylb (yIu a0.2.2.1.length a1 a0)=some (bif ya ((List.range a0.2.2.1.length).foldl (ybd a1) a0)then .inr (ykA false ((List.range a0.2.2.1.length).foldl (ybd a1) a0))else .inl (yky ((List.range a0.2.2.1.length).foldl (ybd a1) a0))):=by
  have:=zkC (step:=ybf) a0.2.2.1.length (fun i s=>ykw a0.2.2.1.length i a1 s) (fun i s=>bif ya (ybd a1 s i)then(.inr (ybd a1 s i):dA ⊕ dA)else .inl (ybd a1 s i)) (fun _ s=>s.2.2.1.length=a0.2.2.1.length∧ya s=false) id
   (fun b=>bif ya b then .inr (ykA false b)else .inl (yky b)) (fun i s hi hs=>by
    constructor
    ·simp only[ybf,ykw,yk0,zky (show(i:Int)<a0.2.2.1.length by omega),cond_true,wq ((i:Int)+1) (by omega) (by omega),Int.natCast_add,Int.natCast_one,Int.toNat_natCast,zkX,yLX,yl5]
     rw[yj2 s i (yg a1.1) (yaf a1) (by unfold ybR; rw[zkR (by rw[hs.1]; exact hi),hs.2]; rfl)];simp only[zkH,ybQ];rw[show ybr s i (yg a1.1) (yaf a1)=ybd a1 s i from rfl];cases hd:ya (ybd a1 s i)
     ·rfl
     ·simp only[hd,Bool.not_true,Bool.not_false,cond_true,ykA]
    ·intro s' h
     cases hd:ya (ybd a1 s i)
     ·rw[hd]at h
      cases h;exact⟨(ylI a1 s i).trans hs.1,hd⟩
     ·rw[hd]at h; cases h) (fun s hs=>by simp only[ybf,ykw,yk0,hs.2,zk3 (Int.le_refl _),cond_false,id,yky]) a0 ⟨rfl,hd0⟩ 18446744073709551616 (by omega)
  rw[yE0 (fun a i h=>yPM a1 i h),← List.range_eq_range']at this;exact this
 unfold ymC yjX yr;refine(congrArg (fun z=>zkt z _ _) h1).trans ?_;cases hd:ya ((List.range a0.2.2.1.length).foldl (ybd a1) a0)
 ·simp only[cond_false,zkN,zkX]
  rw[yss _ (by unfold yfR; rw[hd]; rfl)]; rfl
 ·rw[yti hd]
  simp only[cond_true,zkO,zkX];rw[hd]; rfl
def ygB (a0:dA) (a1:dN):Option (zaY yjK×zak yf6):=bif ygC a0 a1 then(fun n=>some ((n.1,()),(n.2,()))) (yjX a0 a1)else none
theorem yMH (a0:dA) (a1:dN) (h:ygC a0 a1=true):ygB a0 a1=(fun n=>some ((n.1,()),(n.2,()))) (yjX a0 a1):=by unfold ygB; rw[h]; rfl
def ywc:Con:=⟨yf6,yjK,fun x=>ygB x.1 x.2.1⟩
theorem yMC:ConOk prog 97 ywc:=(yKF).mono (fun x r hk h=>zkY h (fun hq=>yMr x.1 x.2.1 hk hq))
def y0g:Code:=(f111.body).getD .skip
def y0O:Env:=zkw TT [(81,yR)] []
theorem yQs:FrOk prog ⟨y0O,9,fun _=>none⟩ y0g:=zkA mixed yf ⟨yac,trivial⟩
abbrev yAa:List Par:= [.rd tI]
abbrev yAu:List OT:= [⟨false,tI,.fz⟩]
def yG2 (a0:Int):Option (zaY yAu×zak yAa) :=let r1:=yi a0 0 1099511627776;bif(!r1)then some (((-1),()),()) else some (((i64.wrap ((i64.wrap (a0+2))+4)),()),())
theorem yVK:ConOk prog 111 ⟨yAa,yAu,fun x=>yG2 x.1⟩:=zkI (yQs) func111 ntmps111.symm fun x=>by kernel_rfl
def yh5 (a0:Int):Int :=let r1:=yi a0 0 1099511627776;bif(!r1)then (-1) else (i64.wrap ((i64.wrap (a0+2))+4))
def ynr:Con:=⟨yAa,yAu,fun x=>(fun n=>some ((n,()),())) (yh5 x.1)⟩
theorem yX8 (a0:Int):yG2 a0=(fun n=>some ((n,()),())) (yh5 a0):=zkV (p:=fun(n:Int)=>((n,()),())) (zkG (p:=fun(n:Int)=>((n,()),())) rfl rfl)
theorem yx0:ConOk prog 111 ynr:=(yVK).mono (fun x r _ h=>(yX8 x.1).trans h)
def y0v:Code:=(f113.body).getD .skip
def y03:Env:=zkw TT [(82,yP)] []
theorem yQO:FrOk prog ⟨y03,9,fun _=>none⟩ y0v:=zkA mixed yf ⟨yaa,trivial⟩
abbrev yAj:List Par:= [.rd tI]
abbrev yAL:List OT:= [⟨false,tI,.fz⟩]
def yHb (a0:Int):Option (zaY yAL×zak yAj) :=let r1:=yb a0 0 1099511627776;bif(!r1)then some (((-1),()),()) else some (((i64.wrap ((i64.wrap (a0+2))+4)),()),())
theorem yV2:ConOk prog 113 ⟨yAj,yAL,fun x=>yHb x.1⟩:=zkI (yQO) func113 ntmps113.symm fun x=>by kernel_rfl
def ybU (a0:Int):Int :=let r1:=yb a0 0 1099511627776;bif(!r1)then (-1) else (i64.wrap ((i64.wrap (a0+2))+4))
def yfM:Con:=⟨yAj,yAL,fun x=>(fun n=>some ((n,()),())) (ybU x.1)⟩
theorem yYq (a0:Int):yHb a0=(fun n=>some ((n,()),())) (ybU a0):=zkV (p:=fun(n:Int)=>((n,()),())) (zkG (p:=fun(n:Int)=>((n,()),())) rfl rfl)
theorem ykS:ConOk prog 113 yfM:=(yV2).mono (fun x r _ h=>(yYq x.1).trans h)
theorem ygV (s:Int):ybU s=yu s:=by
 unfold ybU yu;rw[ybX];by_cases h:0≤s∧s≤1099511627776
 ·rw[zk2 h.1,zk2 h.2,wq (s+2) (by omega) (by omega),wr (by omega) (by omega)]
  show s+2+4=s+6;omega
 ·cases h1:(leb 0 s&&leb s 1099511627776)
  ·rfl
  ·rw[Bool.and_eq_true,zj7,zj7]at h1; exact absurd h1 h
theorem yxX (s:Int):yh5 s=yu s:=ygV s
def yTk:Code:=(f167.body).getD .skip
def yTL:Env:=zkw TT [(109,yfx)] []
theorem yLv:FrOk prog ⟨yTL,17,fun _=>none⟩ yTk:=zkA mixed yf ⟨yj1,trivial⟩
abbrev ym0:List Par:= [.rd tG,.rd tI]
abbrev yum:List OT:= [⟨false,tI,.fz⟩]
def yqt (a0:dG) (a1:Int):Option (zaY yum×zak ym0) :=let r1:=ya7 a0 a1;bif(!r1)then some (((-1),()),()) else bif(a0.1 !=0)then some (((i64.wrap ((i64.wrap (a0.1-1))-(a1.tmod a0.1))),()),()) else none
theorem yOY:ConOk prog 167 ⟨ym0,yum,fun x=>yqt x.1 x.2.1⟩:=zkI (yLv) func167 ntmps167.symm fun x=>by kernel_rfl
def ydX (a0:dG) (a1:Int):Int:=yk a0 a1
theorem yRZ (a0:dG) (a1:Int) (hk:zjx ym0 (a0,a1,())):yqt a0 a1=(fun n=>some ((n,()),())) (ydX a0 a1):=by
 unfold yqt ydX;rw[yHG];cases hs:yaj a0 a1
 ·unfold yk; rw[hs]; rfl
 ·have h1:=yad.1 hs
  have h2:=yj.1 h1.1;have h3:=yk6 hs;have h4:yk a0 a1=a0.1-1-a1.tmod a0.1:=by unfold yk; rw[hs]; rfl
  rw[show(a0.1 !=0)=true from bne_iff_ne.2 (by omega),wq (a0.1-1) (by omega) (by omega),wq (a0.1-1-a1.tmod a0.1) (by omega) (by omega),h4]; rfl
def yp7:Con:=⟨ym0,yum,fun x=>(fun n=>some ((n,()),())) (ydX x.1 x.2.1)⟩
theorem yFc:ConOk prog 167 yp7:=(yOY).mono (fun x r hk h=>(yRZ x.1 x.2.1 hk).trans h)
def y0h:Code:=(f142.body).getD .skip
def y0P:Env:=zkw TT [(81,yR),(109,yfx),(167,yp7)] []
theorem yQv:FrOk prog ⟨y0P,28,fun _=>none⟩ y0h:=zkA mixed yf ⟨yac,yj1,yFc,trivial⟩
abbrev yrh:List Par:= [.rd tG,.rd tI,.rd tI]
abbrev yAw:List OT:= [⟨false,tI,.fz⟩]
def yvB (a0:dG) (a1 a2:Int):Option (zaY yAw×zak yrh) :=let r1:=ya7 a0 a1;bif(!(!r1))then let r2:=yi a2 0 (i64.wrap (a0.1-2));bif(!r2)then some (((-1),()),()) else let r3:=ydX a0 a1;bif(a0.1 !=0)then some ((((i64.wrap ((i64.wrap (r3+1))+a2)).tmod a0.1),()),()) else none else some (((-1),()),())
theorem yVM:ConOk prog 142 ⟨yrh,yAw,fun x=>yvB x.1 x.2.1 x.2.2.1⟩:=zkI (yQv) func142 ntmps142.symm fun x=>by kernel_rfl
def yf0 (a0:dG) (a1 a2:Int):Int:=ybP a0 a1 a2
theorem yYa (a0:dG) (a1 a2:Int) (hk:zjx yrh (a0,a1,a2,())):yvB a0 a1 a2=(fun n=>some ((n,()),())) (yf0 a0 a1 a2):=by
 unfold yvB yf0 ybP ydX;rw[yHG];cases hs:yaj a0 a1
 ·rfl
 ·have h1:=yad.1 hs
  have h2:=yj.1 h1.1;have h3:=yk6 hs;rw[yar,ybX,wq (a0.1-2) (by omega) (by omega)];cases hi:(leb 0 a2&&leb a2 (a0.1-2))
  ·rfl
  ·rw[Bool.and_eq_true,zj7,zj7]at hi
   rw[show(a0.1 !=0)=true from bne_iff_ne.2 (by omega)];show some (((i64.wrap (i64.wrap (yk a0 a1+1)+a2)).tmod a0.1,()),())=some (((yk a0 a1+1+a2).tmod a0.1,()),());rw[wq (yk a0 a1+1) (by omega) (by omega),wq (yk a0 a1+1+a2) (by omega) (by omega)]
def yuO:Con:=⟨yrh,yAw,fun x=>(fun n=>some ((n,()),())) (yf0 x.1 x.2.1 x.2.2.1)⟩
theorem yIy:ConOk prog 142 yuO:=(yVM).mono (fun x r hk h=>(yYa x.1 x.2.1 x.2.2.1 hk).trans h)
end
end Go.Tf
