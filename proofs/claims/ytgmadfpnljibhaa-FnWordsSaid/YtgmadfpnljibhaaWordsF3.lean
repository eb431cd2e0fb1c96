/- Functions of the program, and what they come to. -/
import Derived.Test.YtgmadfpnljibhaaWordsF2
namespace Go.Tf
noncomputable section
open Go.Proofs
set_option synthInstance.maxHeartbeats 400000
set_option synthInstance.maxSize 10000
set_option linter.unusedVariables false
set_option linter.unusedSimpArgs false
set_option maxRecDepth 100000
section
def yce:Code:=(Try.f77.body).getD .skip
def yeQ:Env:=zki TT [(60,yp),(62,ydd),(91,ydY),(117,yoN),(118,yjs),(119,ylx)] [(53440,(.pr (.ow .fz) (.pr (.ow (.pr .fz .fz)) (.pr .fz (.ow .fz))))),(53504,(.pr (.ow .fz) (.pr (.ow (.pr .fz .fz)) (.pr .fz (.ow .fz)))))]
theorem yCJ:FrOk Try.prog ⟨yeQ,60,fun _=>none⟩ yce:=zkp yc yd ⟨yx,yhx,yiS,yw5,ypM,ytB,trivial⟩
def yug:Nat→Option Seg:=fun _=>none
def yae:Shape:=⟨[(0,false,[.int .i64]),(3,false,[.ptr 0 0]),(4,false,[.ptr 64 0]),(5,false,[.ptr 12480 0]),(6,false,[.int .i64]),(7,false,[.ptr 28864 0]),(8,false,[.int .i64])],[(0,[.int .i64,.int .i64]),(64,[.int .i64,.int .i64,.int .i64,.nil,.int .i64,.int .i64,.int .i64,.int .i64,.int .i64,.nil,.int .i64,.bool,.bool]),(12480,[.int .i64,.int .i64,.int .i64,.at 800000000,.int .i64,.int .i64,.int .i64,.int .i64,.int .i64,.nil,.int .i64,.bool,.bool]),(28864,[.at 800000001,.at 800000002,.bool,.at 800000003])],[(800000000,tM,(.pr (.ow .fz) (.pr (.ow (.pr .fz .fz)) (.pr .fz (.ow .fz))))),(800000001,tL,.fz),(800000002,tW,(.pr .fz .fz)),(800000003,tI,.fz)]⟩
def ycs:Shape:=⟨[(0,false,[.int .i64]),(3,false,[.ptr 0 0]),(4,false,[.ptr 64 0]),(5,false,[.ptr 12480 0]),(6,false,[.int .i64]),(7,false,[.ptr 28864 0]),(8,false,[.ci .i64 0])],[(0,[.int .i64,.int .i64]),(64,[.int .i64,.int .i64,.int .i64,.nil,.int .i64,.int .i64,.int .i64,.int .i64,.int .i64,.nil,.int .i64,.bool,.bool]),(12480,[.int .i64,.int .i64,.int .i64,.at 800000000,.int .i64,.int .i64,.int .i64,.int .i64,.int .i64,.nil,.int .i64,.bool,.bool]),(28864,[.at 800000001,.at 800000002,.bool,.at 800000003])],[(800000000,tM,(.pr (.ow .fz) (.pr (.ow (.pr .fz .fz)) (.pr .fz (.ow .fz))))),(800000001,tL,.fz),(800000002,tW,(.pr .fz .fz)),(800000003,tI,.fz)]⟩
def ycp:Shape:=⟨[(0,false,[.int .i64]),(3,false,[.ptr 0 0]),(4,false,[.ptr 64 0]),(5,false,[.ptr 12480 0]),(6,false,[.int .i64]),(7,false,[.ptr 28864 0])],[(0,[.int .i64,.int .i64]),(64,[.int .i64,.int .i64,.int .i64,.nil,.int .i64,.int .i64,.int .i64,.int .i64,.int .i64,.nil,.int .i64,.bool,.bool]),(12480,[.int .i64,.int .i64,.int .i64,.at 800000000,.int .i64,.int .i64,.int .i64,.int .i64,.int .i64,.nil,.int .i64,.bool,.bool]),(28864,[.at 800000001,.at 800000002,.bool,.at 800000003])],[(800000000,tM,(.pr (.ow .fz) (.pr (.ow (.pr .fz .fz)) (.pr .fz (.ow .fz))))),(800000001,tL,.fz),(800000002,tW,(.pr .fz .fz)),(800000003,tI,.fz)]⟩
def yeM:Shape:=⟨[],[],[]⟩
abbrev yhS (v0:Int) (v1:Int) (v2:Int) (v3:dG) (v4:dA) (v5:dA) (v6:dM):(yae).X:=(((v0,()),((),()),((),()),((),()),(v1,()),((),()),(v2,()),()),((v3.1,v3.2,()),(v4.1,v4.2.1.1,v4.2.1.2,(),v4.2.2.2.1,v4.2.2.2.2.1,v4.2.2.2.2.2.1,v4.2.2.2.2.2.2.1,v4.2.2.2.2.2.2.2.1,(),v4.2.2.2.2.2.2.2.2.2.1,v4.2.2.2.2.2.2.2.2.2.2.1,v4.2.2.2.2.2.2.2.2.2.2.2,()),(v5.1,v5.2.1.1,v5.2.1.2,(),v5.2.2.2.1,v5.2.2.2.2.1,v5.2.2.2.2.2.1,v5.2.2.2.2.2.2.1,v5.2.2.2.2.2.2.2.1,(),v5.2.2.2.2.2.2.2.2.2.1,v5.2.2.2.2.2.2.2.2.2.2.1,v5.2.2.2.2.2.2.2.2.2.2.2,()),((),(),v6.2.2.1,(),()),()),(v5.2.2.1,v6.1,v6.2.1,v6.2.2.2,()))
abbrev yxt (v0:Int) (v1:Int) (v2:dG) (v3:dA) (v4:dA) (v5:dM):(ycs).X:=(((v0,()),((),()),((),()),((),()),(v1,()),((),()),((),()),()),((v2.1,v2.2,()),(v3.1,v3.2.1.1,v3.2.1.2,(),v3.2.2.2.1,v3.2.2.2.2.1,v3.2.2.2.2.2.1,v3.2.2.2.2.2.2.1,v3.2.2.2.2.2.2.2.1,(),v3.2.2.2.2.2.2.2.2.2.1,v3.2.2.2.2.2.2.2.2.2.2.1,v3.2.2.2.2.2.2.2.2.2.2.2,()),(v4.1,v4.2.1.1,v4.2.1.2,(),v4.2.2.2.1,v4.2.2.2.2.1,v4.2.2.2.2.2.1,v4.2.2.2.2.2.2.1,v4.2.2.2.2.2.2.2.1,(),v4.2.2.2.2.2.2.2.2.2.1,v4.2.2.2.2.2.2.2.2.2.2.1,v4.2.2.2.2.2.2.2.2.2.2.2,()),((),(),v5.2.2.1,(),()),()),(v4.2.2.1,v5.1,v5.2.1,v5.2.2.2,()))
abbrev yoY (v0:Int) (v1:Int) (v2:dG) (v3:dA) (v4:dA) (v5:dM):(ycp).X:=(((v0,()),((),()),((),()),((),()),(v1,()),((),()),()),((v2.1,v2.2,()),(v3.1,v3.2.1.1,v3.2.1.2,(),v3.2.2.2.1,v3.2.2.2.2.1,v3.2.2.2.2.2.1,v3.2.2.2.2.2.2.1,v3.2.2.2.2.2.2.2.1,(),v3.2.2.2.2.2.2.2.2.2.1,v3.2.2.2.2.2.2.2.2.2.2.1,v3.2.2.2.2.2.2.2.2.2.2.2,()),(v4.1,v4.2.1.1,v4.2.1.2,(),v4.2.2.2.1,v4.2.2.2.2.1,v4.2.2.2.2.2.1,v4.2.2.2.2.2.2.1,v4.2.2.2.2.2.2.2.1,(),v4.2.2.2.2.2.2.2.2.2.1,v4.2.2.2.2.2.2.2.2.2.2.1,v4.2.2.2.2.2.2.2.2.2.2.2,()),((),(),v5.2.2.1,(),()),()),(v4.2.2.1,v5.1,v5.2.1,v5.2.2.2,()))
def yh8 (v0:Int) (v1:Int) (v2:Int) (v3:Int) (v4:Int) (v5:Int) (v6:Int) (v7:Int) (v8:Int) (v9:Int) (v10:Int) (v11:Int) (v12:Int) (v13:Int) (v14:Bool) (v15:Bool) (v16:Int) (v17:Int) (v18:Int) (v19:Int) (v20:Int) (v21:Int) (v22:Int) (v23:Int) (v24:Int) (v25:Bool) (v26:Bool) (v27:Bool) (v28:List dM) (v29:List (List Int)) (v30:List dW) (v31:List Int):Option ((yae).X ⊕ ((ycp).X ⊕ (yeM).X)) :=
  bif (ltb v2 v4) then
    let r13:=yax v2
    bif (inb r13 v29.length) then
      some (.inl (((v0,()),((),()),((),()),((),()),(v1,()),((),()),((IntKind.i64.wrap (v2+1)),()),()),((v3,v4,()),(v5,v6,v7,(),v8,v9,v10,v11,v12,(),v13,v14,v15,()),(v16,v17,v18,(),v19,v20,v21,v22,v23,(),v24,v25,v26,()),((),(),v27,(),()),()),(v28,(v29.set (r13).toNat ([0]:List Int)),v30,v31,())))
    else none
  else
    some (.inr (.inl (((v0,()),((),()),((),()),((),()),(v1,()),((),()),()),((v3,v4,()),(v5,v6,v7,(),v8,v9,v10,v11,v12,(),v13,v14,v15,()),(v16,v17,v18,(),v19,v20,v21,v22,v23,(),v24,v25,v26,()),((),(),v27,(),()),()),(v28,v29,v30,v31,()))))
def yap (x:(yae).X):=yh8 x.1.1.1 x.1.2.2.2.2.1.1 x.1.2.2.2.2.2.2.1.1 x.2.1.1.1 x.2.1.1.2.1 x.2.1.2.1.1 x.2.1.2.1.2.1 x.2.1.2.1.2.2.1 x.2.1.2.1.2.2.2.2.1 x.2.1.2.1.2.2.2.2.2.1 x.2.1.2.1.2.2.2.2.2.2.1 x.2.1.2.1.2.2.2.2.2.2.2.1 x.2.1.2.1.2.2.2.2.2.2.2.2.1 x.2.1.2.1.2.2.2.2.2.2.2.2.2.2.1 x.2.1.2.1.2.2.2.2.2.2.2.2.2.2.2.1 x.2.1.2.1.2.2.2.2.2.2.2.2.2.2.2.2.1 x.2.1.2.2.1.1 x.2.1.2.2.1.2.1 x.2.1.2.2.1.2.2.1 x.2.1.2.2.1.2.2.2.2.1 x.2.1.2.2.1.2.2.2.2.2.1 x.2.1.2.2.1.2.2.2.2.2.2.1 x.2.1.2.2.1.2.2.2.2.2.2.2.1 x.2.1.2.2.1.2.2.2.2.2.2.2.2.1 x.2.1.2.2.1.2.2.2.2.2.2.2.2.2.2.1 x.2.1.2.2.1.2.2.2.2.2.2.2.2.2.2.2.1 x.2.1.2.2.1.2.2.2.2.2.2.2.2.2.2.2.2.1 x.2.1.2.2.2.1.2.2.1 x.2.2.1 x.2.2.2.1 x.2.2.2.2.1 x.2.2.2.2.2.1
def yoQ (x:(ycs).X):(yae).X:=(((x.1.1.1,()),((),()),((),()),((),()),(x.1.2.2.2.2.1.1,()),((),()),(0,()),()),((x.2.1.1.1,x.2.1.1.2.1,()),(x.2.1.2.1.1,x.2.1.2.1.2.1,x.2.1.2.1.2.2.1,(),x.2.1.2.1.2.2.2.2.1,x.2.1.2.1.2.2.2.2.2.1,x.2.1.2.1.2.2.2.2.2.2.1,x.2.1.2.1.2.2.2.2.2.2.2.1,x.2.1.2.1.2.2.2.2.2.2.2.2.1,(),x.2.1.2.1.2.2.2.2.2.2.2.2.2.2.1,x.2.1.2.1.2.2.2.2.2.2.2.2.2.2.2.1,x.2.1.2.1.2.2.2.2.2.2.2.2.2.2.2.2.1,()),(x.2.1.2.2.1.1,x.2.1.2.2.1.2.1,x.2.1.2.2.1.2.2.1,(),x.2.1.2.2.1.2.2.2.2.1,x.2.1.2.2.1.2.2.2.2.2.1,x.2.1.2.2.1.2.2.2.2.2.2.1,x.2.1.2.2.1.2.2.2.2.2.2.2.1,x.2.1.2.2.1.2.2.2.2.2.2.2.2.1,(),x.2.1.2.2.1.2.2.2.2.2.2.2.2.2.2.1,x.2.1.2.2.1.2.2.2.2.2.2.2.2.2.2.2.1,x.2.1.2.2.1.2.2.2.2.2.2.2.2.2.2.2.2.1,()),((),(),x.2.1.2.2.2.1.2.2.1,(),()),()),(x.2.2.1,x.2.2.2.1,x.2.2.2.2.1,x.2.2.2.2.2.1,()))
def ypm:Code:=(zdI yce 64 125236).getD .skip
theorem yyF:zdI yce 64 31309=some (.block 2 (.loop ypm)):=by kernel_rfl
theorem yyU (x:(yae).X):zg7 ⟨yeQ,60,yug⟩ 2 ypm 125236 yae ycp yeM x=yap x:=by kernel_rfl
def yoT (x:(ycs).X):Nat:=(fun (u0:Int) (u1:Int) (u2:Int) (u3:Int) (u4:Int) (u5:Int) (u6:Int) (u7:Int) (u8:Int) (u9:Int) (u10:Int) (u11:Int) (u12:Int) (u13:Bool) (u14:Bool) (u15:Int) (u16:Int) (u17:Int) (u18:Int) (u19:Int) (u20:Int) (u21:Int) (u22:Int) (u23:Int) (u24:Bool) (u25:Bool) (u26:Bool) (u27:List dM) (u28:List (List Int)) (u29:List dW) (u30:List Int)=>18446744073709551616) x.1.1.1 x.1.2.2.2.2.1.1 x.2.1.1.1 x.2.1.1.2.1 x.2.1.2.1.1 x.2.1.2.1.2.1 x.2.1.2.1.2.2.1 x.2.1.2.1.2.2.2.2.1 x.2.1.2.1.2.2.2.2.2.1 x.2.1.2.1.2.2.2.2.2.2.1 x.2.1.2.1.2.2.2.2.2.2.2.1 x.2.1.2.1.2.2.2.2.2.2.2.2.1 x.2.1.2.1.2.2.2.2.2.2.2.2.2.2.1 x.2.1.2.1.2.2.2.2.2.2.2.2.2.2.2.1 x.2.1.2.1.2.2.2.2.2.2.2.2.2.2.2.2.1 x.2.1.2.2.1.1 x.2.1.2.2.1.2.1 x.2.1.2.2.1.2.2.1 x.2.1.2.2.1.2.2.2.2.1 x.2.1.2.2.1.2.2.2.2.2.1 x.2.1.2.2.1.2.2.2.2.2.2.1 x.2.1.2.2.1.2.2.2.2.2.2.2.1 x.2.1.2.2.1.2.2.2.2.2.2.2.2.1 x.2.1.2.2.1.2.2.2.2.2.2.2.2.2.2.1 x.2.1.2.2.1.2.2.2.2.2.2.2.2.2.2.2.1 x.2.1.2.2.1.2.2.2.2.2.2.2.2.2.2.2.2.1 x.2.1.2.2.2.1.2.2.1 x.2.2.1 x.2.2.2.1 x.2.2.2.2.1 x.2.2.2.2.2.1
def yi0 (x:(ycs).X):Option ((ycp).X ⊕ (yeM).X):=zr yap (yoT x) (yoQ x)
def yph:Seg:=⟨ycs,ycp,yeM,yi0⟩
def ynX:Nat→Option Seg:=fun q=>bif Nat.beq q 31309 then some yph else yug q
theorem yCK:FrOk Try.prog ⟨yeQ,60,ynX⟩ yce:=(yCJ).loop (sg:=yph) yae yoQ (by decide) yyF yap yoT (by decide) (fun _=>rfl) (fun x r _ h=>h) yyU
def ya2:Shape:=⟨[(0,false,[.int .i64]),(3,false,[.ptr 0 0]),(4,false,[.ptr 64 0]),(5,false,[.ptr 12480 0]),(6,false,[.int .i64])],[(0,[.int .i64,.int .i64]),(64,[.int .i64,.int .i64,.int .i64,.nil,.int .i64,.int .i64,.int .i64,.int .i64,.int .i64,.nil,.int .i64,.bool,.bool]),(12480,[.int .i64,.int .i64,.int .i64,.at 800000000,.int .i64,.int .i64,.int .i64,.int .i64,.int .i64,.nil,.int .i64,.bool,.bool])],[(800000000,tM,(.pr (.ow .fz) (.pr (.ow (.pr .fz .fz)) (.pr .fz (.ow .fz)))))]⟩
def yet:Shape:=⟨[(0,false,[.int .i64]),(3,false,[.ptr 0 0]),(4,false,[.ptr 64 0]),(5,false,[.ptr 12480 0]),(6,false,[.ci .i64 0])],[(0,[.int .i64,.int .i64]),(64,[.int .i64,.int .i64,.int .i64,.nil,.int .i64,.int .i64,.int .i64,.int .i64,.int .i64,.nil,.int .i64,.bool,.bool]),(12480,[.int .i64,.int .i64,.int .i64,.at 800000000,.int .i64,.int .i64,.int .i64,.int .i64,.int .i64,.nil,.int .i64,.bool,.bool])],[(800000000,tM,(.pr (.ow .fz) (.pr (.ow (.pr .fz .fz)) (.pr .fz (.ow .fz)))))]⟩
def yei:Shape:=⟨[(4,false,[.ptr 64 0]),(5,false,[.ptr 12480 0])],[(64,[.int .i64,.int .i64,.int .i64,.nil,.int .i64,.int .i64,.int .i64,.int .i64,.int .i64,.nil,.int .i64,.bool,.bool]),(12480,[.int .i64,.int .i64,.int .i64,.at 800000000,.int .i64,.int .i64,.int .i64,.int .i64,.int .i64,.nil,.int .i64,.bool,.bool])],[(800000000,tM,(.pr (.ow .fz) (.pr (.ow (.pr .fz .fz)) (.pr .fz (.ow .fz)))))]⟩
def yhI:Shape:=⟨[],[],[]⟩
abbrev ygo (v0:Int) (v1:Int) (v2:dG) (v3:dA) (v4:dA):(ya2).X:=(((v0,()),((),()),((),()),((),()),(v1,()),()),((v2.1,v2.2,()),(v3.1,v3.2.1.1,v3.2.1.2,(),v3.2.2.2.1,v3.2.2.2.2.1,v3.2.2.2.2.2.1,v3.2.2.2.2.2.2.1,v3.2.2.2.2.2.2.2.1,(),v3.2.2.2.2.2.2.2.2.2.1,v3.2.2.2.2.2.2.2.2.2.2.1,v3.2.2.2.2.2.2.2.2.2.2.2,()),(v4.1,v4.2.1.1,v4.2.1.2,(),v4.2.2.2.1,v4.2.2.2.2.1,v4.2.2.2.2.2.1,v4.2.2.2.2.2.2.1,v4.2.2.2.2.2.2.2.1,(),v4.2.2.2.2.2.2.2.2.2.1,v4.2.2.2.2.2.2.2.2.2.2.1,v4.2.2.2.2.2.2.2.2.2.2.2,()),()),(v4.2.2.1,()))
abbrev yBk (v0:Int) (v1:dG) (v2:dA) (v3:dA):(yet).X:=(((v0,()),((),()),((),()),((),()),((),()),()),((v1.1,v1.2,()),(v2.1,v2.2.1.1,v2.2.1.2,(),v2.2.2.2.1,v2.2.2.2.2.1,v2.2.2.2.2.2.1,v2.2.2.2.2.2.2.1,v2.2.2.2.2.2.2.2.1,(),v2.2.2.2.2.2.2.2.2.2.1,v2.2.2.2.2.2.2.2.2.2.2.1,v2.2.2.2.2.2.2.2.2.2.2.2,()),(v3.1,v3.2.1.1,v3.2.1.2,(),v3.2.2.2.1,v3.2.2.2.2.1,v3.2.2.2.2.2.1,v3.2.2.2.2.2.2.1,v3.2.2.2.2.2.2.2.1,(),v3.2.2.2.2.2.2.2.2.2.1,v3.2.2.2.2.2.2.2.2.2.2.1,v3.2.2.2.2.2.2.2.2.2.2.2,()),()),(v3.2.2.1,()))
abbrev yrN (v0:dA) (v1:dA):(yei).X:=((((),()),((),()),()),((v0.1,v0.2.1.1,v0.2.1.2,(),v0.2.2.2.1,v0.2.2.2.2.1,v0.2.2.2.2.2.1,v0.2.2.2.2.2.2.1,v0.2.2.2.2.2.2.2.1,(),v0.2.2.2.2.2.2.2.2.2.1,v0.2.2.2.2.2.2.2.2.2.2.1,v0.2.2.2.2.2.2.2.2.2.2.2,()),(v1.1,v1.2.1.1,v1.2.1.2,(),v1.2.2.2.1,v1.2.2.2.2.1,v1.2.2.2.2.2.1,v1.2.2.2.2.2.2.1,v1.2.2.2.2.2.2.2.1,(),v1.2.2.2.2.2.2.2.2.2.1,v1.2.2.2.2.2.2.2.2.2.2.1,v1.2.2.2.2.2.2.2.2.2.2.2,()),()),(v1.2.2.1,()))
def ylN (v0:Int) (v1:Int) (v2:Int) (v3:Int) (v4:Int) (v5:Int) (v6:Int) (v7:Int) (v8:Int) (v9:Int) (v10:Int) (v11:Int) (v12:Int) (v13:Bool) (v14:Bool) (v15:Int) (v16:Int) (v17:Int) (v18:Int) (v19:Int) (v20:Int) (v21:Int) (v22:Int) (v23:Int) (v24:Bool) (v25:Bool) (v26:List dM):Option ((ya2).X ⊕ ((yei).X ⊕ (yhI).X)) :=
  bif (ltb v1 v2) then
    let r15:=yaZ (v2,v3)
    let r16:=yci r15
    let r17:=yA (v0,0,v1,v2,v3,0,(-1),0)
    bif (inb 0 r16.1.length) then
      zjw (yi0 (((v0,()),((),()),((),()),((),()),(v1,()),((),()),((),()),()),((v2,v3,()),(v4,v5,v6,(),v7,v8,v9,v10,v11,(),v12,v13,v14,()),(v15,v16,v17,(),v18,v19,v20,v21,v22,(),v23,v24,v25,()),((),(),r16.2.2.1,(),()),()),(v26,(r16.1.set (0:Int).toNat r17),r16.2.1,r16.2.2.2,()))) (fun y17 =>
        bif (zj4 y17.2.2.1.length ([(y17.2.2.2.1,y17.2.2.2.2.1,y17.2.1.2.2.2.1.2.2.1,y17.2.2.2.2.2.1)]:List dM).length 80) then
          some (.inl (((y17.1.1.1,()),((),()),((),()),((),()),((IntKind.i64.wrap (y17.1.2.2.2.2.1.1+1)),()),()),((y17.2.1.1.1,y17.2.1.1.2.1,()),(y17.2.1.2.1.1,y17.2.1.2.1.2.1,y17.2.1.2.1.2.2.1,(),y17.2.1.2.1.2.2.2.2.1,y17.2.1.2.1.2.2.2.2.2.1,y17.2.1.2.1.2.2.2.2.2.2.1,y17.2.1.2.1.2.2.2.2.2.2.2.1,y17.2.1.2.1.2.2.2.2.2.2.2.2.1,(),y17.2.1.2.1.2.2.2.2.2.2.2.2.2.2.1,y17.2.1.2.1.2.2.2.2.2.2.2.2.2.2.2.1,y17.2.1.2.1.2.2.2.2.2.2.2.2.2.2.2.2.1,()),(y17.2.1.2.2.1.1,y17.2.1.2.2.1.2.1,y17.2.1.2.2.1.2.2.1,(),y17.2.1.2.2.1.2.2.2.2.1,y17.2.1.2.2.1.2.2.2.2.2.1,y17.2.1.2.2.1.2.2.2.2.2.2.1,y17.2.1.2.2.1.2.2.2.2.2.2.2.1,y17.2.1.2.2.1.2.2.2.2.2.2.2.2.1,(),y17.2.1.2.2.1.2.2.2.2.2.2.2.2.2.2.1,y17.2.1.2.2.1.2.2.2.2.2.2.2.2.2.2.2.1,y17.2.1.2.2.1.2.2.2.2.2.2.2.2.2.2.2.2.1,()),()),((y17.2.2.1++([(y17.2.2.2.1,y17.2.2.2.2.1,y17.2.1.2.2.2.1.2.2.1,y17.2.2.2.2.2.1)]:List dM)),())))
        else none) (fun y17 =>
        some (.inr (.inr ((),(),()))))
    else none
  else
    some (.inr (.inl ((((),()),((),()),()),((v4,v5,v6,(),v7,v8,v9,v10,v11,(),v12,v13,v14,()),(v15,v16,v17,(),v18,v19,v20,v21,v22,(),v23,v24,v25,()),()),(v26,()))))
def ybs (x:(ya2).X):=ylN x.1.1.1 x.1.2.2.2.2.1.1 x.2.1.1.1 x.2.1.1.2.1 x.2.1.2.1.1 x.2.1.2.1.2.1 x.2.1.2.1.2.2.1 x.2.1.2.1.2.2.2.2.1 x.2.1.2.1.2.2.2.2.2.1 x.2.1.2.1.2.2.2.2.2.2.1 x.2.1.2.1.2.2.2.2.2.2.2.1 x.2.1.2.1.2.2.2.2.2.2.2.2.1 x.2.1.2.1.2.2.2.2.2.2.2.2.2.2.1 x.2.1.2.1.2.2.2.2.2.2.2.2.2.2.2.1 x.2.1.2.1.2.2.2.2.2.2.2.2.2.2.2.2.1 x.2.1.2.2.1.1 x.2.1.2.2.1.2.1 x.2.1.2.2.1.2.2.1 x.2.1.2.2.1.2.2.2.2.1 x.2.1.2.2.1.2.2.2.2.2.1 x.2.1.2.2.1.2.2.2.2.2.2.1 x.2.1.2.2.1.2.2.2.2.2.2.2.1 x.2.1.2.2.1.2.2.2.2.2.2.2.2.1 x.2.1.2.2.1.2.2.2.2.2.2.2.2.2.2.1 x.2.1.2.2.1.2.2.2.2.2.2.2.2.2.2.2.1 x.2.1.2.2.1.2.2.2.2.2.2.2.2.2.2.2.2.1 x.2.2.1
def yrt (x:(yet).X):(ya2).X:=(((x.1.1.1,()),((),()),((),()),((),()),(0,()),()),((x.2.1.1.1,x.2.1.1.2.1,()),(x.2.1.2.1.1,x.2.1.2.1.2.1,x.2.1.2.1.2.2.1,(),x.2.1.2.1.2.2.2.2.1,x.2.1.2.1.2.2.2.2.2.1,x.2.1.2.1.2.2.2.2.2.2.1,x.2.1.2.1.2.2.2.2.2.2.2.1,x.2.1.2.1.2.2.2.2.2.2.2.2.1,(),x.2.1.2.1.2.2.2.2.2.2.2.2.2.2.1,x.2.1.2.1.2.2.2.2.2.2.2.2.2.2.2.1,x.2.1.2.1.2.2.2.2.2.2.2.2.2.2.2.2.1,()),(x.2.1.2.2.1.1,x.2.1.2.2.1.2.1,x.2.1.2.2.1.2.2.1,(),x.2.1.2.2.1.2.2.2.2.1,x.2.1.2.2.1.2.2.2.2.2.1,x.2.1.2.2.1.2.2.2.2.2.2.1,x.2.1.2.2.1.2.2.2.2.2.2.2.1,x.2.1.2.2.1.2.2.2.2.2.2.2.2.1,(),x.2.1.2.2.1.2.2.2.2.2.2.2.2.2.2.1,x.2.1.2.2.1.2.2.2.2.2.2.2.2.2.2.2.1,x.2.1.2.2.1.2.2.2.2.2.2.2.2.2.2.2.2.1,()),()),(x.2.2.1,()))
def ysC:Code:=(zdI yce 64 244).getD .skip
theorem yCj:zdI yce 64 61=some (.block 0 (.loop ysC)):=by kernel_rfl
theorem yEt (x:(ya2).X):zg7 ⟨yeQ,60,ynX⟩ 0 ysC 244 ya2 yei yhI x=ybs x:=by kernel_rfl
def yrE (x:(yet).X):Nat:=(fun (u0:Int) (u1:Int) (u2:Int) (u3:Int) (u4:Int) (u5:Int) (u6:Int) (u7:Int) (u8:Int) (u9:Int) (u10:Int) (u11:Int) (u12:Bool) (u13:Bool) (u14:Int) (u15:Int) (u16:Int) (u17:Int) (u18:Int) (u19:Int) (u20:Int) (u21:Int) (u22:Int) (u23:Bool) (u24:Bool) (u25:List dM)=>18446744073709551616) x.1.1.1 x.2.1.1.1 x.2.1.1.2.1 x.2.1.2.1.1 x.2.1.2.1.2.1 x.2.1.2.1.2.2.1 x.2.1.2.1.2.2.2.2.1 x.2.1.2.1.2.2.2.2.2.1 x.2.1.2.1.2.2.2.2.2.2.1 x.2.1.2.1.2.2.2.2.2.2.2.1 x.2.1.2.1.2.2.2.2.2.2.2.2.1 x.2.1.2.1.2.2.2.2.2.2.2.2.2.2.1 x.2.1.2.1.2.2.2.2.2.2.2.2.2.2.2.1 x.2.1.2.1.2.2.2.2.2.2.2.2.2.2.2.2.1 x.2.1.2.2.1.1 x.2.1.2.2.1.2.1 x.2.1.2.2.1.2.2.1 x.2.1.2.2.1.2.2.2.2.1 x.2.1.2.2.1.2.2.2.2.2.1 x.2.1.2.2.1.2.2.2.2.2.2.1 x.2.1.2.2.1.2.2.2.2.2.2.2.1 x.2.1.2.2.1.2.2.2.2.2.2.2.2.1 x.2.1.2.2.1.2.2.2.2.2.2.2.2.2.2.1 x.2.1.2.2.1.2.2.2.2.2.2.2.2.2.2.2.1 x.2.1.2.2.1.2.2.2.2.2.2.2.2.2.2.2.2.1 x.2.2.1
def ymW (x:(yet).X):Option ((yei).X ⊕ (yhI).X):=zr ybs (yrE x) (yrt x)
def yrU:Seg:=⟨yet,yei,yhI,ymW⟩
def yuh:Nat→Option Seg:=fun q=>bif Nat.beq q 61 then some yrU else ynX q
theorem yCL:FrOk Try.prog ⟨yeQ,60,yuh⟩ yce:=(yCK).loop (sg:=yrU) ya2 yrt (by decide) yCj ybs yrE (by decide) (fun _=>rfl) (fun x r _ h=>h) yEt
abbrev yeW:List Par:= [.rd tI,.rd tG]
abbrev ymr:List OT:= [⟨false,tA,(.pr .fz (.pr (.pr .fz .fz) (.pr (.ow (.pr (.ow .fz) (.pr (.ow (.pr .fz .fz)) (.pr .fz (.ow .fz))))) (.pr .fz (.pr .fz (.pr .fz (.pr .fz (.pr .fz (.pr (.ow (.pr .fz .fz)) (.pr .fz (.pr .fz .fz)))))))))))⟩]
def yjF (a0:Int) (a1:dG):Option (ResD ymr×MutD yeW) :=
  let r1:=yb a1
  bif (!(!r1)) then
    let r2:=ya a0 1 60000
    bif (!r2) then
      some (((0,(0,0),[],0,0,0,0,0,[],0,false,false),()),())
    else
      zjw (ymW (((a0,()),((),()),((),()),((),()),((),()),()),((a1.1,a1.2,()),(0,0,0,(),0,0,0,0,0,(),0,false,false,()),(a0,a1.1,a1.2,(),(-1),0,0,0,0,(),(-1),false,false,()),()),([],()))) (fun y18 =>
        some (((y18.2.1.2.1.1,(y18.2.1.2.1.2.1,y18.2.1.2.1.2.2.1),y18.2.2.1,y18.2.1.2.1.2.2.2.2.1,y18.2.1.2.1.2.2.2.2.2.1,y18.2.1.2.1.2.2.2.2.2.2.1,y18.2.1.2.1.2.2.2.2.2.2.2.1,y18.2.1.2.1.2.2.2.2.2.2.2.2.1,[],y18.2.1.2.1.2.2.2.2.2.2.2.2.2.2.1,y18.2.1.2.1.2.2.2.2.2.2.2.2.2.2.2.1,y18.2.1.2.1.2.2.2.2.2.2.2.2.2.2.2.2.1),()),())) (fun y18 =>
        none)
  else
    some (((0,(0,0),[],0,0,0,0,0,[],0,false,false),()),())
theorem yKC (x:InD yeW):zjH ⟨yeQ,60,yuh⟩ Try.f77.results.toList yce yeW ymr x=yjF x.1 x.2.1:=by kernel_rfl
theorem yGS:ConOk Try.prog 77 ⟨yeW,ymr,fun x=>yjF x.1 x.2.1⟩:=zkh (yCL) Try.func77 (by kernel_rfl) (by kernel_rfl) Try.ntmps77.symm (by decide) (fun x r h=>(yKC x).trans h)
def yiM (a0:Int) (a1:dG):dA:=yiG a0 a1
theorem yIJ (a0:Int) (a1:dG) (hk:zi9 yeW (a0,a1,())):yjF a0 a1=(fun n=>some ((n,()),())) (yiM a0 a1):=by
  unfold yjF yiM yiG
  simp only [ybB]
  cases hg:yb a1
  · rfl
  cases hid:(leb 1 a0&&leb a0 60000)
  · rfl
  have hge:=yk.1 hg
  have inner: ∀ (i:Int) (a:dA),yi0 (yxt a0 i a1 yk2 a (yht a0 a1 i))=some (.inl (yoY a0 i a1 yk2 a (yr a0 a1 i))):=fun i a =>
    zks (step:=yap) a1.2.toNat (fun s m=>yhS a0 i s a1 yk2 a m) ynS (fun _ m=>(m.1.length:Int)=6+a1.2) (fun m=> .inl (yoY a0 i a1 yk2 a m)) (fun s m hs hm=>⟨by
      simp only [yap,yhS,yh8,zjI (show (s:Int) < a1.2 by omega),cond_true,wr (show -9223372036854775808≤(s:Int)+1 by omega) (by omega),Int.natCast_add,Int.natCast_one,Int.toNat_natCast,yd8]
      have hd:dataAt (s:Int)=((s+6:Nat):Int):=by unfold dataAt; rw [zk0 (show (0:Int)≤s by omega),zk0 (show (s:Int)≤1099511627776 by omega)]; rfl
      rw [hd,zkO (show s+6 < m.1.length by omega),Int.toNat_natCast]; rfl,by show ((m.1.set _ _).length:Int)=_; rw [List.length_set]; exact hm⟩) (fun m hm=>by simp only [yap,yhS,yh8,show ((a1.2.toNat:Nat):Int)=a1.2 by omega,zkm (Int.le_refl _),cond_false]) (yht a0 a1 i) (by
      unfold yht yaW
      rw [zk0 (show 1≤6+a1.2 by omega),zk0 (show 6+a1.2≤20 by omega)]
      show (((List.replicate (6+a1.2).toNat ([]:List Int)).set 0 _).length:Int)=_
      rw [List.length_set,List.length_replicate]; omega) 18446744073709551616 (by omega)
  have hmn:yci (yaZ a1)=yaW (6+a1.2):=by
    unfold yci yaZ
    rw [wr (by omega) (by omega)]
  have h0:inb 0 (yaW (6+a1.2)).1.length=true:=by
    unfold yaW
    rw [zk0 (show 1≤6+a1.2 by omega),zk0 (show 6+a1.2≤20 by omega)]
    show inb 0 (List.replicate (6+a1.2).toNat ([]:List Int)).length=true
    rw [List.length_replicate,zjP]; omega
  have outer:ymW (yBk a0 a1 yk2 (ysz a0 a1))=some (.inl (yrN yk2 ((List.range a1.1.toNat).foldl (fun a (i:Nat)=>ysw a (yr a0 a1 i)) (ysz a0 a1)))) :=
    zks (step:=ybs) a1.1.toNat (fun i a=>ygo a0 i a1 yk2 a) (fun a i=>ysw a (yr a0 a1 i)) (fun i a=>a.2.2.1.length=i) (fun a=> .inl (yrN yk2 a)) (fun i a hi ha=>⟨by
      simp only [ybs,ygo,ylN,zjI (show (i:Int) < a1.1 by omega),cond_true,wr (show -9223372036854775808≤(i:Int)+1 by omega) (by omega),Int.natCast_add,Int.natCast_one,zkV,hmn,h0]
      refine (congrArg (fun z=>zjw z _ _) (inner i a)).trans ?_
      simp only [zkJ]
      show (bif zj4 a.2.2.1.length [yr a0 a1 i].length 80 then _ else _)=_
      rw [zkw.2 (show (a.2.2.1.length+ [yr a0 a1 i].length) * 80≤140737488355328 by simp only [List.length_cons,List.length_nil]; omega)]
      simp only [cond_true]
      show some (Sum.inl (ygo a0 (IntKind.i64.wrap ((i:Int)+1)) a1 yk2 (ysw a (yr a0 a1 i))))=_
      rw [wr (show -9223372036854775808≤(i:Int)+1 by omega) (by omega)],by show (a.2.2.1++ [_]).length=_; rw [List.length_append,ha]; rfl⟩) (fun a ha=>by simp only [ybs,ygo,ylN,show ((a1.1.toNat:Nat):Int)=a1.1 by omega,zkm (Int.le_refl _),cond_false]) (ysz a0 a1) rfl 18446744073709551616 (by omega)
  have hdr: ∀ (l:List Nat) (a:dA),a.2.2.2.2.2.2.2.2.1= []→(l.foldl (fun a (i:Nat)=>ysw a (yr a0 a1 i)) a).2.2.2.2.2.2.2.2.1= []:=by
    intro l
    induction l with
    | nil=>intro a h; exact h
    | cons x t ih=>intro a h; exact ih _ h
  have h:=hdr (List.range a1.1.toNat) (ysz a0 a1) rfl
  simp only [Bool.not_true,Bool.not_false,cond_true,cond_false,Bool.and_self]
  refine (congrArg (fun z=>zjw z _ _) outer).trans ?_
  generalize (List.range a1.1.toNat).foldl (fun a (i:Nat)=>ysw a (yr a0 a1 i)) (ysz a0 a1)=R at h
  simp only [zkJ]
  show some ((((R.1,R.2.1,R.2.2.1,R.2.2.2.1,R.2.2.2.2.1,R.2.2.2.2.2.1,R.2.2.2.2.2.2.1,R.2.2.2.2.2.2.2.1,[],R.2.2.2.2.2.2.2.2.2):dA),()),())=some ((R,()),())
  rw [← h]
def yu6:Con:=⟨yeW,ymr,fun x=>(fun n=>some ((n,()),())) (yiM x.1 x.2.1)⟩
theorem yJu:ConOk Try.prog 77 yu6:=(yGS).mono (fun x r hk h=>(yIJ x.1 x.2.1 hk).trans h)
end
section
def yy4:Code:=(Try.f78.body).getD .skip
def yzf:Env:=zki TT [(47,ycF)] []
theorem yF2:FrOk Try.prog ⟨yzf,10,fun _=>none⟩ yy4:=zkp yc yd ⟨yfZ,trivial⟩
def yHZ:Nat→Option Seg:=fun _=>none
abbrev yj7:List Par:= [.pt tU .fz]
abbrev yoE:List OT:= [⟨false,tG,(.pr .fz .fz)⟩]
def yd7 (a0:dU):Option (ResD yoE×MutD yj7) :=
  bnd (ye a0 3) fun r1 =>
  bnd (ye r1.2.1 4) fun r2 =>
  some ((((IntKind.i64.wrap (3+r1.1.1)),(IntKind.i64.wrap (1+r2.1.1))),()),(r2.2.1,()))
theorem yL2 (x:InD yj7):zjH ⟨yzf,10,yHZ⟩ Try.f78.results.toList yy4 yj7 yoE x=yd7 x.1:=by kernel_rfl
theorem yJh:ConOk Try.prog 78 ⟨yj7,yoE,fun x=>yd7 x.1⟩:=zkh (yF2) Try.func78 (by kernel_rfl) (by kernel_rfl) Try.ntmps78.symm (by decide) (fun x r h=>(yL2 x).trans h)
def ywL:Con:=⟨yj7,yoE,fun x=>yd7 x.1⟩
theorem yLt:ConOk Try.prog 78 ywL:=yJh
theorem yN9 (u:dU) (h:ycl u): ∃ (g:dG) (u':dU),yd7 u=some ((g,()),(u',()))∧yb g=true∧ycl u':=by
  unfold yd7
  obtain ⟨r1,u1,e1,q1,d1⟩:=ydl u 3 h
  obtain ⟨r2,u2,e2,q2,d2⟩:=ydl u1 4 d1
  simp only [e1,e2,zky]
  refine ⟨_,_,rfl,?_,d2⟩
  have:=q1.2.1 (by omega); have:=q2.2.1 (by omega); have:=q1.1; have:=q2.1
  rw [wr (by omega) (by omega),wr (by omega) (by omega)]
  exact yk.2 ⟨⟨by show 3≤3+r1; omega,by show 3+r1≤5; omega⟩,by show 1≤1+r2; omega,by show 1+r2≤8; omega⟩
end
section
def ycf:Code:=(Try.f98.body).getD .skip
def yeR:Env:=zki TT [] [(21056,.fz),(21120,.fz),(37952,(.pr .fz .fz)),(38016,(.pr .fz .fz))]
theorem yCZ:FrOk Try.prog ⟨yeR,60,fun _=>none⟩ ycf:=zkp yc yd trivial
def yuk:Nat→Option Seg:=fun _=>none
def ya5:Shape:=⟨[(1,false,[.ptr 0 0]),(2,false,[.ptr 64 0]),(3,false,[.ptr 4544 0]),(4,false,[.int .i64])],[(0,[.br tL,.br tW,.bool,.br tI]),(64,[.nil,.nil,.bool,.nil]),(4544,[.at 800000001,.nil,.bool,.at 800000000])],[(800000001,tL,.fz),(800000000,tI,.fz)]⟩
def yew:Shape:=⟨[(1,false,[.ptr 0 0]),(2,false,[.ptr 64 0]),(3,false,[.ptr 4544 0]),(4,false,[.ci .i64 0])],[(0,[.br tL,.br tW,.bool,.br tI]),(64,[.nil,.nil,.bool,.nil]),(4544,[.at 800000001,.nil,.bool,.at 800000000])],[(800000001,tL,.fz),(800000000,tI,.fz)]⟩
def yel:Shape:=⟨[(1,false,[.ptr 0 0]),(2,false,[.ptr 64 0]),(3,false,[.ptr 4544 0])],[(0,[.br tL,.br tW,.bool,.br tI]),(64,[.nil,.nil,.bool,.nil]),(4544,[.at 800000000,.nil,.bool,.at 800000001])],[(800000000,tL,.fz),(800000001,tI,.fz)]⟩
def yhK:Shape:=⟨[],[],[]⟩
abbrev ylD (v0:Int) (v1:dM) (v2:dM) (v3:dM):(ya5).X:=((((),()),((),()),((),()),(v0,()),()),((v1.1,v1.2.1,v1.2.2.1,v1.2.2.2,()),((),(),v2.2.2.1,(),()),((),(),v3.2.2.1,(),()),()),(v3.1,v3.2.2.2,()))
abbrev yBn (v0:dM) (v1:dM) (v2:dM):(yew).X:=((((),()),((),()),((),()),((),()),()),((v0.1,v0.2.1,v0.2.2.1,v0.2.2.2,()),((),(),v1.2.2.1,(),()),((),(),v2.2.2.1,(),()),()),(v2.1,v2.2.2.2,()))
abbrev yrO (v0:dM) (v1:dM) (v2:dM):(yel).X:=((((),()),((),()),((),()),()),((v0.1,v0.2.1,v0.2.2.1,v0.2.2.2,()),((),(),v1.2.2.1,(),()),((),(),v2.2.2.1,(),()),()),(v2.1,v2.2.2.2,()))
def ylQ (v0:Int) (v1:List (List Int)) (v2:List dW) (v3:Bool) (v4:List Int) (v5:Bool) (v6:Bool) (v7:List (List Int)) (v8:List Int):Option ((ya5).X ⊕ ((yel).X ⊕ (yhK).X)) :=
  bif (ltb v0 (v1.length:Int)) then
    bif (inb v0 v1.length) then
      bif (zj4 ([]:List Int).length (nth v1 v0 []).length 8) then
        bif (zj4 v7.length ([(([]:List Int)++(nth v1 v0 []))]:List (List Int)).length 24) then
          some (.inl ((((),()),((),()),((),()),((IntKind.i64.wrap (v0+1)),()),()),((v1,v2,v3,v4,()),((),(),v5,(),()),((),(),v6,(),()),()),((v7++([(([]:List Int)++(nth v1 v0 []))]:List (List Int))),v8,())))
        else none
      else none
    else none
  else
    some (.inr (.inl ((((),()),((),()),((),()),()),((v1,v2,v3,v4,()),((),(),v5,(),()),((),(),v6,(),()),()),(v7,v8,()))))
def ybv (x:(ya5).X):=ylQ x.1.2.2.2.1.1 x.2.1.1.1 x.2.1.1.2.1 x.2.1.1.2.2.1 x.2.1.1.2.2.2.1 x.2.1.2.1.2.2.1 x.2.1.2.2.1.2.2.1 x.2.2.1 x.2.2.2.1
def yrw (x:(yew).X):(ya5).X:=((((),()),((),()),((),()),(0,()),()),((x.2.1.1.1,x.2.1.1.2.1,x.2.1.1.2.2.1,x.2.1.1.2.2.2.1,()),((),(),x.2.1.2.1.2.2.1,(),()),((),(),x.2.1.2.2.1.2.2.1,(),()),()),(x.2.2.1,x.2.2.2.1,()))
def ysF:Code:=(zdI ycf 64 116).getD .skip
theorem yCm:zdI ycf 64 29=some (.block 0 (.loop ysF)):=by kernel_rfl
theorem yEw (x:(ya5).X):zg7 ⟨yeR,60,yuk⟩ 0 ysF 116 ya5 yel yhK x=ybv x:=by kernel_rfl
def yrH (x:(yew).X):Nat:=(fun (u0:List (List Int)) (u1:List dW) (u2:Bool) (u3:List Int) (u4:Bool) (u5:Bool) (u6:List (List Int)) (u7:List Int)=>18446744073709551616) x.2.1.1.1 x.2.1.1.2.1 x.2.1.1.2.2.1 x.2.1.1.2.2.2.1 x.2.1.2.1.2.2.1 x.2.1.2.2.1.2.2.1 x.2.2.1 x.2.2.2.1
def ymZ (x:(yew).X):Option ((yel).X ⊕ (yhK).X):=zr ybv (yrH x) (yrw x)
def yrX:Seg:=⟨yew,yel,yhK,ymZ⟩
def yn0:Nat→Option Seg:=fun q=>bif Nat.beq q 29 then some yrX else yuk q
theorem yC0:FrOk Try.prog ⟨yeR,60,yn0⟩ ycf:=(yCZ).loop (sg:=yrX) ya5 yrw (by decide) yCm ybv yrH (by decide) (fun _=>rfl) (fun x r _ h=>h) yEw
def ya6:Shape:=⟨[(1,false,[.ptr 0 0]),(2,false,[.ptr 64 0]),(3,false,[.ptr 4544 0]),(5,false,[.int .i64])],[(0,[.br tL,.br tW,.bool,.br tI]),(64,[.nil,.nil,.bool,.nil]),(4544,[.at 800000000,.at 800000002,.bool,.at 800000001])],[(800000000,tL,.fz),(800000002,tW,(.pr .fz .fz)),(800000001,tI,.fz)]⟩
def yex:Shape:=⟨[(1,false,[.ptr 0 0]),(2,false,[.ptr 64 0]),(3,false,[.ptr 4544 0]),(5,false,[.ci .i64 0])],[(0,[.br tL,.br tW,.bool,.br tI]),(64,[.nil,.nil,.bool,.nil]),(4544,[.at 800000000,.at 800000002,.bool,.at 800000001])],[(800000000,tL,.fz),(800000002,tW,(.pr .fz .fz)),(800000001,tI,.fz)]⟩
def yem:Shape:=⟨[(2,false,[.ptr 64 0]),(3,false,[.ptr 4544 0])],[(64,[.nil,.nil,.bool,.nil]),(4544,[.at 800000000,.at 800000001,.bool,.at 800000002])],[(800000000,tL,.fz),(800000001,tW,(.pr .fz .fz)),(800000002,tI,.fz)]⟩
def yhL:Shape:=⟨[],[],[]⟩
abbrev ylE (v0:Int) (v1:dM) (v2:dM) (v3:dM):(ya6).X:=((((),()),((),()),((),()),(v0,()),()),((v1.1,v1.2.1,v1.2.2.1,v1.2.2.2,()),((),(),v2.2.2.1,(),()),((),(),v3.2.2.1,(),()),()),(v3.1,v3.2.1,v3.2.2.2,()))
abbrev yBo (v0:dM) (v1:dM) (v2:dM):(yex).X:=((((),()),((),()),((),()),((),()),()),((v0.1,v0.2.1,v0.2.2.1,v0.2.2.2,()),((),(),v1.2.2.1,(),()),((),(),v2.2.2.1,(),()),()),(v2.1,v2.2.1,v2.2.2.2,()))
abbrev yrP (v0:dM) (v1:dM):(yem).X:=((((),()),((),()),()),(((),(),v0.2.2.1,(),()),((),(),v1.2.2.1,(),()),()),(v1.1,v1.2.1,v1.2.2.2,()))
def ylR (v0:Int) (v1:List (List Int)) (v2:List dW) (v3:Bool) (v4:List Int) (v5:Bool) (v6:Bool) (v7:List (List Int)) (v8:List dW) (v9:List Int):Option ((ya6).X ⊕ ((yem).X ⊕ (yhL).X)) :=
  bif (ltb v0 (v2.length:Int)) then
    bif (inb v0 v2.length) then
      bif (inb v0 v2.length) then
        bif (zj4 ([]:List Int).length ((nth v2 v0 (0,[])).2).length 8) then
          bif (zj4 v8.length ([((nth v2 v0 (0,[])).1,(([]:List Int)++((nth v2 v0 (0,[])).2)))]:List dW).length 32) then
            some (.inl ((((),()),((),()),((),()),((IntKind.i64.wrap (v0+1)),()),()),((v1,v2,v3,v4,()),((),(),v5,(),()),((),(),v6,(),()),()),(v7,(v8++([((nth v2 v0 (0,[])).1,(([]:List Int)++((nth v2 v0 (0,[])).2)))]:List dW)),v9,())))
          else none
        else none
      else none
    else none
  else
    some (.inr (.inl ((((),()),((),()),()),(((),(),v5,(),()),((),(),v6,(),()),()),(v7,v8,v9,()))))
def ybw (x:(ya6).X):=ylR x.1.2.2.2.1.1 x.2.1.1.1 x.2.1.1.2.1 x.2.1.1.2.2.1 x.2.1.1.2.2.2.1 x.2.1.2.1.2.2.1 x.2.1.2.2.1.2.2.1 x.2.2.1 x.2.2.2.1 x.2.2.2.2.1
def yrx (x:(yex).X):(ya6).X:=((((),()),((),()),((),()),(0,()),()),((x.2.1.1.1,x.2.1.1.2.1,x.2.1.1.2.2.1,x.2.1.1.2.2.2.1,()),((),(),x.2.1.2.1.2.2.1,(),()),((),(),x.2.1.2.2.1.2.2.1,(),()),()),(x.2.2.1,x.2.2.2.1,x.2.2.2.2.1,()))
def ysG:Code:=(zdI ycf 64 244).getD .skip
theorem yCn:zdI ycf 64 61=some (.block 2 (.loop ysG)):=by kernel_rfl
theorem yEx (x:(ya6).X):zg7 ⟨yeR,60,yn0⟩ 2 ysG 244 ya6 yem yhL x=ybw x:=by kernel_rfl
def yrI (x:(yex).X):Nat:=(fun (u0:List (List Int)) (u1:List dW) (u2:Bool) (u3:List Int) (u4:Bool) (u5:Bool) (u6:List (List Int)) (u7:List dW) (u8:List Int)=>18446744073709551616) x.2.1.1.1 x.2.1.1.2.1 x.2.1.1.2.2.1 x.2.1.1.2.2.2.1 x.2.1.2.1.2.2.1 x.2.1.2.2.1.2.2.1 x.2.2.1 x.2.2.2.1 x.2.2.2.2.1
def ym0 (x:(yex).X):Option ((yem).X ⊕ (yhL).X):=zr ybw (yrI x) (yrx x)
def yrY:Seg:=⟨yex,yem,yhL,ym0⟩
def yul:Nat→Option Seg:=fun q=>bif Nat.beq q 61 then some yrY else yn0 q
theorem yC1:FrOk Try.prog ⟨yeR,60,yul⟩ ycf:=(yC0).loop (sg:=yrY) ya6 yrx (by decide) yCn ybw yrI (by decide) (fun _=>rfl) (fun x r _ h=>h) yEx
abbrev ye1:List Par:= [.rd tM]
abbrev ymE:List OT:= [⟨false,tM,(.pr (.ow .fz) (.pr (.ow (.pr .fz .fz)) (.pr .fz (.ow .fz))))⟩]
def yjK (a0:dM):Option (ResD ymE×MutD ye1) :=
  bif (zj4 ([]:List Int).length a0.2.2.2.length 8) then
    zjw (ymZ ((((),()),((),()),((),()),((),()),()),((a0.1,a0.2.1,a0.2.2.1,a0.2.2.2,()),((),(),false,(),()),((),(),a0.2.2.1,(),()),()),([],(([]:List Int)++a0.2.2.2),()))) (fun y0 =>
      zjw (ym0 ((((),()),((),()),((),()),((),()),()),((y0.2.1.1.1,y0.2.1.1.2.1,y0.2.1.1.2.2.1,y0.2.1.1.2.2.2.1,()),((),(),y0.2.1.2.1.2.2.1,(),()),((),(),y0.2.1.2.2.1.2.2.1,(),()),()),(y0.2.2.1,[],y0.2.2.2.1,()))) (fun y1 =>
        some (((y1.2.2.1,y1.2.2.2.1,y1.2.1.2.1.2.2.1,y1.2.2.2.2.1),()),())) (fun y1 =>
        none)) (fun y0 =>
      none)
  else none
theorem yKP (x:InD ye1):zjH ⟨yeR,60,yul⟩ Try.f98.results.toList ycf ye1 ymE x=yjK x.1:=by kernel_rfl
theorem yG5:ConOk Try.prog 98 ⟨ye1,ymE,fun x=>yjK x.1⟩:=zkh (yC1) Try.func98 (by kernel_rfl) (by kernel_rfl) Try.ntmps98.symm (by decide) (fun x r h=>(yKP x).trans h)
def yO (a0:dM):dM:=a0
theorem yIT (a0:dM) (hk:zi9 ye1 (a0,())):yjK a0=(fun n=>some ((n,()),())) (yO a0):=by
  have hb1:a0.1.length * 24≤2 ^ 47:=hk.1.1.1
  have hb2:a0.2.1.length * 32≤2 ^ 47:=hk.1.2.1.1
  have hb3:a0.2.2.2.length * 8≤2 ^ 47:=hk.1.2.2.2.1
  have hs: ∀ i,i < a0.1.length→(a0.1.getD i []).length * 8≤2 ^ 47:=fun i hi=>by rw [zcq hi]; exact (hk.1.1.2 _ (List.getElem_mem hi)).1
  have hc: ∀ i,i < a0.2.1.length→(a0.2.1.getD i (0,[])).2.length * 8≤2 ^ 47:=fun i hi=>by rw [zcq hi]; exact (hk.1.2.1.2 _ (List.getElem_mem hi)).2.1
  have h1:ymZ (yBn a0 noMem ([],[],a0.2.2.1,a0.2.2.2))=some (.inl (yrO a0 noMem (a0.1,[],a0.2.2.1,a0.2.2.2))):=by
    have:=zkk (step:=ybv) a0.1 [] (fun i s=>ylD i a0 noMem (s,[],a0.2.2.1,a0.2.2.2)) (fun s x=>s++ [x]) (fun i s=>s.length=i) (fun s=> .inl (yrO a0 noMem (s,[],a0.2.2.1,a0.2.2.2))) (fun i s hi hs2=>⟨by
      have:=hs i hi
      simp only [ybv,ylD,ylQ,zjI (show (i:Int) < a0.1.length by omega),cond_true,wr (show -9223372036854775808≤(i:Int)+1 by omega) (by omega),Int.natCast_add,Int.natCast_one,Int.toNat_natCast,zkO hi,zjW,List.nil_append]
      rw [zkw.2 (show (([]:List Int).length+(a0.1.getD i []).length) * 8≤140737488355328 by rw [List.length_nil]; omega),zkw.2 (show (s.length+ [a0.1.getD i []].length) * 24≤140737488355328 by simp only [List.length_cons,List.length_nil]; omega)]; rfl,by simp [hs2]⟩) (fun s _=>by simp only [ybv,ylD,ylQ,zkm (Int.le_refl _),cond_false]) [] rfl 18446744073709551616 (by omega)
    rw [yL9]at this
    exact this
  have h2:ym0 (yBo a0 noMem (a0.1,[],a0.2.2.1,a0.2.2.2))=some (.inl (yrP noMem a0)):=by
    have:=zkk (step:=ybw) a0.2.1 (0,[]) (fun i s=>ylE i a0 noMem (a0.1,s,a0.2.2.1,a0.2.2.2)) (fun s x=>s++ [x]) (fun i s=>s.length=i) (fun s=> .inl (yrP noMem (a0.1,s,a0.2.2.1,a0.2.2.2))) (fun i s hi hs2=>⟨by
      have:=hc i hi
      simp only [ybw,ylE,ylR,zjI (show (i:Int) < a0.2.1.length by omega),cond_true,wr (show -9223372036854775808≤(i:Int)+1 by omega) (by omega),Int.natCast_add,Int.natCast_one,Int.toNat_natCast,zkO hi,zjW,List.nil_append,zkV]
      rw [zkw.2 (show (([]:List Int).length+(a0.2.1.getD i (0,[])).2.length) * 8≤140737488355328 by rw [List.length_nil]; omega),zkw.2 (show (s.length+ [a0.2.1.getD i (0,[])].length) * 32≤140737488355328 by simp only [List.length_cons,List.length_nil]; omega)]; rfl,by simp [hs2]⟩) (fun s _=>by simp only [ybw,ylE,ylR,zkm (Int.le_refl _),cond_false]) [] rfl 18446744073709551616 (by omega)
    rw [yL9]at this
    exact this
  unfold yjK yO
  rw [zkw.2 (show (([]:List Int).length+a0.2.2.2.length) * 8≤140737488355328 by rw [List.length_nil]; omega)]
  simp only [cond_true,List.nil_append,h1,zkJ,h2]
def yfS:Con:=⟨ye1,ymE,fun x=>(fun n=>some ((n,()),())) (yO x.1)⟩
theorem yk6:ConOk Try.prog 98 yfS:=(yG5).mono (fun x r hk h=>(yIT x.1 hk).trans h)
end
section
def yjW:Code:=(Try.f102.body).getD .skip
def yn6:Env:=zki TT [] []
theorem yF0:FrOk Try.prog ⟨yn6,18,fun _=>none⟩ yjW:=zkp yc yd trivial
def ywh:Nat→Option Seg:=fun _=>none
def ybM:Shape:=⟨[(0,false,[.br tI]),(1,false,[.int .i64]),(5,false,[.int .i64])],[],[]⟩
def yfA:Shape:=⟨[(0,false,[.br tI]),(1,false,[.int .i64]),(5,false,[.ci .i64 0])],[],[]⟩
def yfn:Shape:=⟨[],[],[]⟩
def yfR:Shape:=⟨[(4,false,[.bool])],[],[]⟩
abbrev ynk (v0:List Int) (v1:Int) (v2:Int):(ybM).X:=(((v0,()),(v1,()),(v2,()),()),(),())
abbrev yDA (v0:List Int) (v1:Int):(yfA).X:=(((v0,()),(v1,()),((),()),()),(),())
abbrev yDq  :(yfn).X:=((),(),())
abbrev yDL (v0:Bool):(yfR).X:=(((v0,()),()),(),())
def ynB (v0:List Int) (v1:Int) (v2:Int):Option ((ybM).X ⊕ ((yfn).X ⊕ (yfR).X)) :=
  bif (ltb v2 (v0.length:Int)) then
    bif (inb v2 v0.length) then
      bif ((nth v0 v2 0)==v1) then
        some (.inr (.inr (((true,()),()),(),())))
      else
        some (.inl (((v0,()),(v1,()),((IntKind.i64.wrap (v2+1)),()),()),(),()))
    else none
  else
    some (.inr (.inl ((),(),())))
def yb9 (x:(ybM).X):=ynB x.1.1.1 x.1.2.1.1 x.1.2.2.1.1
def ys7 (x:(yfA).X):(ybM).X:=(((x.1.1.1,()),(x.1.2.1.1,()),(0,()),()),(),())
def yuT:Code:=(zdI yjW 64 52).getD .skip
theorem yFe:zdI yjW 64 13=some (.block 0 (.loop yuT)):=by kernel_rfl
theorem yHH (x:(ybM).X):zg7 ⟨yn6,18,ywh⟩ 0 yuT 52 ybM yfn yfR x=yb9 x:=by kernel_rfl
def ytm (x:(yfA).X):Nat:=(fun (u0:List Int) (u1:Int)=>18446744073709551616) x.1.1.1 x.1.2.1.1
def yoj (x:(yfA).X):Option ((yfn).X ⊕ (yfR).X):=zr yb9 (ytm x) (ys7 x)
def ytT:Seg:=⟨yfA,yfn,yfR,yoj⟩
def ywi:Nat→Option Seg:=fun q=>bif Nat.beq q 13 then some ytT else ywh q
theorem yF1:FrOk Try.prog ⟨yn6,18,ywi⟩ yjW:=(yF0).loop (sg:=ytT) ybM ys7 (by decide) yFe yb9 ytm (by decide) (fun _=>rfl) (fun x r _ h=>h) yHH
abbrev ygX:List Par:= [.rd tL,.rd tI]
abbrev yoD:List OT:= [⟨false,tB,.fz⟩]
def yle (a0:List Int) (a1:Int):Option (ResD yoD×MutD ygX) :=
  zjw (yoj (((a0,()),(a1,()),((),()),()),(),())) (fun y0 =>
    some ((false,()),())) (fun y0 =>
    some ((y0.1.1.1,()),()))
theorem yL1 (x:InD ygX):zjH ⟨yn6,18,ywi⟩ Try.f102.results.toList yjW ygX yoD x=yle x.1 x.2.1:=by kernel_rfl
theorem yJg:ConOk Try.prog 102 ⟨ygX,yoD,fun x=>yle x.1 x.2.1⟩:=zkh (yF1) Try.func102 (by kernel_rfl) (by kernel_rfl) Try.ntmps102.symm (by decide) (fun x r h=>(yL1 x).trans h)
def yeJ (a0:List Int) (a1:Int):Bool:=a0.any (· ==a1)
theorem yLe (a0:List Int) (a1:Int) (hk:zi9 ygX (a0,a1,())):yle a0 a1=(fun n=>some ((n,()),())) (yeJ a0 a1):=by
  have hb:a0.length * 8≤2 ^ 47:=hk.1.1
  have h1:yoj (yDA a0 a1)=some (bif a0.all (· !=a1) then .inl yDq else .inr (yDL true)) :=
    zjS (step:=yb9) a0 0 (fun i=>ynk a0 a1 i) (· !=a1) _ _ (fun i hi=>by
      simp only [yb9,ynk,ynB,zjI (show (i:Int) < a0.length by omega),cond_true,wr (show -9223372036854775808≤(i:Int)+1 by omega) (by omega),Int.natCast_add,Int.natCast_one,Int.toNat_natCast,zkO hi,zjW,bne]
      cases (a0.getD i 0==a1)<;>rfl) (by simp only [yb9,ynk,ynB,zkm (Int.le_refl _),cond_false]) _ (by show _ < 18446744073709551616; omega)
  unfold yle yeJ
  rw [h1,show a0.any (· ==a1)= !(a0.all (· !=a1)) by simp [List.all_eq_not_any_not,bne]]
  cases a0.all (· !=a1)<;>rfl
def ypG:Con:=⟨ygX,yoD,fun x=>(fun n=>some ((n,()),())) (yeJ x.1 x.2.1)⟩
theorem yyA:ConOk Try.prog 102 ypG:=(yJg).mono (fun x r hk h=>(yLe x.1 x.2.1 hk).trans h)
end
section
def yfa:Code:=(Try.f61.body).getD .skip
def yi8:Env:=zki TT [(60,yp),(98,yfS),(101,ydZ),(102,ypG)] []
theorem yzz:FrOk Try.prog ⟨yi8,68,fun _=>none⟩ yfa:=zkp yc yd ⟨yx,yk6,yiT,yyA,trivial⟩
def yq7:Nat→Option Seg:=fun _=>none
def yaf:Shape:=⟨[(1,false,[.int .i64]),(4,false,[.ptr 64 0]),(5,false,[.ptr 4224 0]),(6,false,[.int .i64])],[(64,[.nil,.nil,.bool,.nil]),(4224,[.at 800000000,.at 800000001,.bool,.at 800000002])],[(800000000,tL,.fz),(800000001,tW,(.pr .fz .fz)),(800000002,tI,.fz)]⟩
def yct:Shape:=⟨[(1,false,[.int .i64]),(4,false,[.ptr 64 0]),(5,false,[.ptr 4224 0]),(6,false,[.int .i64])],[(64,[.nil,.nil,.bool,.nil]),(4224,[.at 800000000,.at 800000001,.bool,.at 800000002])],[(800000000,tL,.fz),(800000001,tW,(.pr .fz .fz)),(800000002,tI,.fz)]⟩
def ycq:Shape:=⟨[(1,false,[.int .i64]),(4,false,[.ptr 64 0]),(5,false,[.ptr 4224 0]),(6,false,[.int .i64])],[(64,[.nil,.nil,.bool,.nil]),(4224,[.at 800000000,.at 800000001,.bool,.at 800000002])],[(800000000,tL,.fz),(800000001,tW,(.pr .fz .fz)),(800000002,tI,.fz)]⟩
def yeN:Shape:=⟨[],[],[]⟩
abbrev yhT (v0:Int) (v1:Int) (v2:dM) (v3:dM):(yaf).X:=(((v0,()),((),()),((),()),(v1,()),()),(((),(),v2.2.2.1,(),()),((),(),v3.2.2.1,(),()),()),(v3.1,v3.2.1,v3.2.2.2,()))
abbrev yxu (v0:Int) (v1:Int) (v2:dM) (v3:dM):(yct).X:=(((v0,()),((),()),((),()),(v1,()),()),(((),(),v2.2.2.1,(),()),((),(),v3.2.2.1,(),()),()),(v3.1,v3.2.1,v3.2.2.2,()))
abbrev yxr (v0:Int) (v1:Int) (v2:dM) (v3:dM):(ycq).X:=(((v0,()),((),()),((),()),(v1,()),()),(((),(),v2.2.2.1,(),()),((),(),v3.2.2.1,(),()),()),(v3.1,v3.2.1,v3.2.2.2,()))
def yh9 (v0:Int) (v1:Int) (v2:Bool) (v3:Bool) (v4:List (List Int)) (v5:List dW) (v6:List Int):Option ((yaf).X ⊕ ((ycq).X ⊕ (yeN).X)) :=
  bif (ltb 0 v1) then
    bif (inb (IntKind.i64.wrap (v1 - 1)) v6.length) then
      bif (ltb v0 (nth v6 (IntKind.i64.wrap (v1 - 1)) 0)) then
        bif (inb (IntKind.i64.wrap (v1 - 1)) v6.length) then
          bif (inb v1 v6.length) then
            some (.inl (((v0,()),((),()),((),()),((IntKind.i64.wrap (v1 - 1)),()),()),(((),(),v2,(),()),((),(),v3,(),()),()),(v4,v5,(v6.set (v1).toNat (nth v6 (IntKind.i64.wrap (v1 - 1)) 0)),())))
          else none
        else none
      else
        some (.inr (.inl (((v0,()),((),()),((),()),(v1,()),()),(((),(),v2,(),()),((),(),v3,(),()),()),(v4,v5,v6,()))))
    else none
  else
    some (.inr (.inl (((v0,()),((),()),((),()),(v1,()),()),(((),(),v2,(),()),((),(),v3,(),()),()),(v4,v5,v6,()))))
def yaq (x:(yaf).X):=yh9 x.1.1.1 x.1.2.2.2.1.1 x.2.1.1.2.2.1 x.2.1.2.1.2.2.1 x.2.2.1 x.2.2.2.1 x.2.2.2.2.1
def yoR (x:(yct).X):(yaf).X:=(((x.1.1.1,()),((),()),((),()),(x.1.2.2.2.1.1,()),()),(((),(),x.2.1.1.2.2.1,(),()),((),(),x.2.1.2.1.2.2.1,(),()),()),(x.2.2.1,x.2.2.2.1,x.2.2.2.2.1,()))
def ypn:Code:=(zdI yfa 64 504).getD .skip
theorem yyG:zdI yfa 64 126=some (.block 0 (.loop ypn)):=by kernel_rfl
theorem yyV (x:(yaf).X):zg7 ⟨yi8,68,yq7⟩ 0 ypn 504 yaf ycq yeN x=yaq x:=by kernel_rfl
def yoU (x:(yct).X):Nat:=(fun (u0:Int) (u1:Int) (u2:Bool) (u3:Bool) (u4:List (List Int)) (u5:List dW) (u6:List Int)=>18446744073709551616) x.1.1.1 x.1.2.2.2.1.1 x.2.1.1.2.2.1 x.2.1.2.1.2.2.1 x.2.2.1 x.2.2.2.1 x.2.2.2.2.1
def yi1 (x:(yct).X):Option ((ycq).X ⊕ (yeN).X):=zr yaq (yoU x) (yoR x)
def ypi:Seg:=⟨yct,ycq,yeN,yi1⟩
def yq8:Nat→Option Seg:=fun q=>bif Nat.beq q 126 then some ypi else yq7 q
theorem yzA:FrOk Try.prog ⟨yi8,68,yq8⟩ yfa:=(yzz).loop (sg:=ypi) yaf yoR (by decide) yyG yaq yoU (by decide) (fun _=>rfl) (fun x r _ h=>h) yyV
abbrev yc7:List Par:= [.rd tM,.rd tI]
abbrev yjg:List OT:= [⟨false,tM,(.pr (.ow .fz) (.pr (.ow (.pr .fz .fz)) (.pr .fz (.ow .fz))))⟩]
def ygv (a0:dM) (a1:Int):Option (ResD yjg×MutD yc7) :=
  let r1:=yO a0
  let r2:=yR a0
  bif (!(!r2)) then
    let r3:=ya a1 0 (IntKind.i64.wrap ((a0.1.length:Int) - 1))
    bif (!(!r3)) then
      let r4:=yeJ a0.2.2.2 a1
      bif r4 then
        some ((r1,()),())
      else
        bif (zj4 r1.2.2.2.length ([a1]:List Int).length 8) then
          zjw (yi1 (((a1,()),((),()),((),()),((IntKind.i64.wrap (((r1.2.2.2++([a1]:List Int)).length:Int) - 1)),()),()),(((),(),false,(),()),((),(),r1.2.2.1,(),()),()),(r1.1,r1.2.1,(r1.2.2.2++([a1]:List Int)),()))) (fun y4 =>
            bif (inb y4.1.2.2.2.1.1 y4.2.2.2.2.1.length) then
              some (((y4.2.2.1,y4.2.2.2.1,y4.2.1.2.1.2.2.1,(y4.2.2.2.2.1.set (y4.1.2.2.2.1.1).toNat y4.1.1.1)),()),())
            else none) (fun y4 =>
            none)
        else none
    else
      some ((r1,()),())
  else
    some ((r1,()),())
theorem yFt (x:InD yc7):zjH ⟨yi8,68,yq8⟩ Try.f61.results.toList yfa yc7 yjg x=ygv x.1 x.2.1:=by kernel_rfl
theorem yBC:ConOk Try.prog 61 ⟨yc7,yjg,fun x=>ygv x.1 x.2.1⟩:=zkh (yzA) Try.func61 (by kernel_rfl) (by kernel_rfl) Try.ntmps61.symm (by decide) (fun x r h=>(yFt x).trans h)
def yjw (a0:dM) (a1:Int):dM:=spoil a0 a1
theorem yHO (n:Int) (m:dM) (p:List Int) (hp: ∀ x∈p,x < n): ∀ (j:Nat) (q1 q2:List Int) (x:Int) (fuel:Nat),q1.length=j→j < fuel→(∀ y∈q1,n < y)→p.length+q1.length≤1000 →
    ∃ (x':Int) (q':List Int),q1++q2=q'∧zr yaq fuel (yhT n ((p.length+q1.length:Nat):Int) noMem (m.1,m.2.1,m.2.2.1,(p++q1)++x::q2))=some (.inl (yxr n (p.length:Nat) noMem (m.1,m.2.1,m.2.2.1,p++x'::q')))
  | 0,q1,q2,x,fuel+1,hj,hf,hq,hb=>by
    have:q1= []:=List.length_eq_zero_iff.1 hj
    subst this
    refine ⟨x,q2,rfl,?_⟩
    simp only [zr,yaq,yhT,yh9,List.length_nil,Nat.add_zero,List.append_nil]
    rcases List.eq_nil_or_concat p with rfl | ⟨P,y,rfl⟩
    · rfl
    · have hy:=hp y (by simp)
      simp only [List.concat_eq_append,List.length_append,List.length_cons,List.length_nil,List.append_assoc,List.cons_append,List.nil_append]at hb ⊢
      rw [zjI (show (0:Int) < ((P.length+(0+1):Nat):Int) by omega),wr (show -9223372036854775808≤((P.length+(0+1):Nat):Int) - 1 by omega) (by omega),show ((P.length+(0+1):Nat):Int) - 1=(P.length:Nat) by omega,
        zkO (by simp),zjW,yM6,zkm (show y≤n by omega)]
      rfl
  | j+1,q1,q2,x,fuel+1,hj,hf,hq,hb=>by
    rcases List.eq_nil_or_concat q1 with rfl | ⟨Q,y,rfl⟩
    · cases hj
    · rw [List.concat_eq_append]at hj hq hb ⊢
      have hQ:Q.length=j:=by simpa using hj
      have hy:=hq y (by simp)
      obtain ⟨x',q',e1,e2⟩:=yHO n m p hp j Q (y::q2) y fuel hQ (by omega) (fun z hz=>hq z (by simp [hz])) (by simp at hb; omega)
      refine ⟨x',q',by rw [← e1]; simp,?_⟩
      rw [← e2]
      have ea:((p++(Q++ [y]))++x::q2)=(p++Q)++y::x::q2:=by simp
      have el:p.length+(Q++ [y]).length=(p++Q).length+1:=by simp; omega
      have el2:p.length+Q.length=(p++Q).length:=by simp
      have hb2:(p++Q).length≤1000:=by simp at hb ⊢; omega
      rw [ea,el,el2]
      generalize p++Q=A at hb2
      rw [zr]
      simp only [yaq,yhT,yh9]
      have es:(A++y::x::q2).set (A.length+1) y=A++y::y::q2:=by
        have:=yNb (A++ [y]) x y q2
        simp at this ⊢
      rw [zjI (show (0:Int) < ((A.length+1:Nat):Int) by omega),wr (show -9223372036854775808≤((A.length+1:Nat):Int) - 1 by omega) (by omega),show ((A.length+1:Nat):Int) - 1=(A.length:Nat) by omega,zkO (show A.length < (A++y::x::q2).length by simp),zjW,yM6,zjI hy,
        zkO (show A.length+1 < (A++y::x::q2).length by simp),Int.toNat_natCast,es]
      rfl
theorem yDT (a0:dM) (a1:Int) (hk:zi9 yc7 (a0,a1,())):ygv a0 a1=(fun n=>some ((n,()),())) (yjw a0 a1):=by
  unfold ygv yjw spoil
  simp only [yO,yR,ybB,yeJ]
  cases hm:ym a0
  · rfl
  obtain ⟨h1,h2,h3,h4,h5,h6⟩:=yaw hm
  rw [ykc]at h3
  have hlen:=yAg h3.2 (lo:=0) (n:=a0.1.length) h3.1 (by omega)
  rw [wr (show -9223372036854775808≤(a0.1.length:Int) - 1 by omega) (by omega)]
  have hi:(leb 0 a1&&leb a1 ((a0.1.length:Int) - 1))=inb a1 a0.1.length:=by
    rw [Bool.eq_iff_iff,Bool.and_eq_true,zjQ,zjQ,zjP]; omega
  rw [hi]
  cases hin:inb a1 a0.1.length
  · rfl
  cases hh:a0.2.2.2.any (· ==a1)
  · have hn:a1∉a0.2.2.2:=fun h=>by
      have:=List.any_eq_false.1 hh a1 h
      simp at this
    have hsp:=yMu h3.2 hn
    have hp: ∀ x∈a0.2.2.2.filter (fun x=>ltb x a1),x < a1:=fun x hx=>zjT.1 (List.mem_filter.1 hx).2
    have hq: ∀ x∈a0.2.2.2.filter (fun x=>ltb a1 x),a1 < x:=fun x hx=>zjT.1 (List.mem_filter.1 hx).2
    unfold ywX
    generalize a0.2.2.2.filter (fun x=>ltb x a1)=P at hsp hp
    generalize a0.2.2.2.filter (fun x=>ltb a1 x)=Q at hsp hq
    have hPQ:P.length+Q.length=a0.2.2.2.length:=by rw [hsp,List.length_append]
    obtain ⟨x',q',e1,e2⟩:=yHO a1 a0 P hp Q.length Q [] a1 18446744073709551616 rfl (by omega) hq (by omega)
    rw [List.append_nil]at e1
    subst e1
    simp only [cond_true,cond_false,Bool.not_true,Bool.not_false,Bool.and_self]
    rw [zkw.2 (show (a0.2.2.2.length+ [a1].length) * 8≤140737488355328 by simp only [List.length_cons,List.length_nil]; omega),wr (show -9223372036854775808≤((a0.2.2.2++ [a1]).length:Int) - 1 by omega) (by simp only [List.length_append,List.length_cons,List.length_nil]; omega),
      show ((a0.2.2.2++ [a1]).length:Int) - 1=((P.length+Q.length:Nat):Int) by simp only [List.length_append,List.length_cons,List.length_nil]; omega,hsp,cond_true]
    refine (congrArg (fun z=>zjw z _ _) (show yi1 (yxu a1 ((P.length+Q.length:Nat):Int) noMem (a0.1,a0.2.1,a0.2.2.1,(P++Q)++ [a1]))=_ from e2)).trans ?_
    simp only [zkJ]
    show (bif inb (P.length:Int) (P++x'::Q).length then some (((a0.1,a0.2.1,a0.2.2.1,(P++x'::Q).set (P.length:Int).toNat a1),()),()) else none)=_
    rw [zkO (by simp),Int.toNat_natCast,yNb]; rfl
  · rfl
def yrm:Con:=⟨yc7,yjg,fun x=>(fun n=>some ((n,()),())) (yjw x.1 x.2.1)⟩
theorem yEk:ConOk Try.prog 61 yrm:=(yBC).mono (fun x r hk h=>(yDT x.1 x.2.1 hk).trans h)
end
section
def yxZ:Code:=(Try.f86.body).getD .skip
def yyp:Env:=zki TT [(47,ycF)] []
theorem yCW:FrOk Try.prog ⟨yyp,9,fun _=>none⟩ yxZ:=zkp yc yd ⟨yfZ,trivial⟩
def yEX:Nat→Option Seg:=fun _=>none
abbrev yiw:List Par:= [.pt tU .fz,.rd tI]
abbrev ymB:List OT:= [⟨false,tB,.fz⟩]
def yam (a0:dU) (a1:Int):Option (ResD ymB×MutD yiw) :=
  bnd (ye a0 a1) fun r1 =>
  some (((r1.1.1==0),()),(r1.2.1,()))
theorem yKM (x:InD yiw):zjH ⟨yyp,9,yEX⟩ Try.f86.results.toList yxZ yiw ymB x=yam x.1 x.2.1:=by kernel_rfl
theorem yG2:ConOk Try.prog 86 ⟨yiw,ymB,fun x=>yam x.1 x.2.1⟩:=zkh (yCW) Try.func86 (by kernel_rfl) (by kernel_rfl) Try.ntmps86.symm (by decide) (fun x r h=>(yKM x).trans h)
def yvc:Con:=⟨yiw,ymB,fun x=>yam x.1 x.2.1⟩
theorem yJA:ConOk Try.prog 86 yvc:=yG2
theorem yM2 (u:dU) (n:Int) (h:ycl u): ∃ (r:Bool) (u':dU),yam u n=some ((r,()),(u',()))∧ycl u':=by
  unfold yam
  obtain ⟨r,u1,e1,_,d1⟩:=ydl u n h
  simp only [e1,zky]
  exact ⟨_,_,rfl,d1⟩
end
end
end Go.Tf
