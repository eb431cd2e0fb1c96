/- Functions of the program, and what they come to. -/
import Derived.Test.YtolmneojjjpnjaaGreatBlocksF2
namespace Go.Tf
noncomputable section
open Go.Proofs Go.Proofs.Tryz IntKind
set_option synthInstance.maxHeartbeats 400000
set_option synthInstance.maxSize 10000
set_option linter.unusedVariables false
set_option linter.unusedSimpArgs false
set_option maxRecDepth 100000
def yfl:Code:=(f115.body).getD .skip
def yk4:Env:=zkw TT [(82,yF),(113,yfh),(144,yph),(150,ygj),(177,ytZ),(178,ymU)] [(53440,(.pr (.ow .fz) (.pr (.ow (.pr .fz .fz)) (.pr .fz (.ow .fz))))),(53504,(.pr (.ow .fz) (.pr (.ow (.pr .fz .fz)) (.pr .fz (.ow .fz)))))]
theorem yOq:FrOk prog ⟨yk4,60,fun _=>none⟩ yfl:=zkA mixed yc ⟨yK,yka,yDy,ylt,yGU,ywB,trivial⟩
def yEa:Nat→Option Seg:=fun _=>none
def ya1:Shape:=⟨[(0,false,[.int .i64]),(3,false,[.ptr 0 0]),(4,false,[.ptr 64 0]),(5,false,[.ptr 12480 0]),(6,false,[.int .i64]),(7,false,[.ptr 28864 0]),(8,false,[.int .i64])],[(0,[.int .i64,.int .i64]),(64,[.int .i64,.int .i64,.int .i64,.nil,.int .i64,.int .i64,.int .i64,.int .i64,.int .i64,.nil,.int .i64,.bool,.bool]),(12480,[.int .i64,.int .i64,.int .i64,.at 800000000,.int .i64,.int .i64,.int .i64,.int .i64,.int .i64,.nil,.int .i64,.bool,.bool]),(28864,[.at 800000001,.at 800000002,.bool,.at 800000003])],[(800000000,tM,(.pr (.ow .fz) (.pr (.ow (.pr .fz .fz)) (.pr .fz (.ow .fz))))),(800000001,tL,.fz),(800000002,tW,(.pr .fz .fz)),(800000003,tI,.fz)]⟩
def yek:Shape:=⟨[(0,false,[.int .i64]),(3,false,[.ptr 0 0]),(4,false,[.ptr 64 0]),(5,false,[.ptr 12480 0]),(6,false,[.int .i64]),(7,false,[.ptr 28864 0]),(8,false,[.ci .i64 0])],[(0,[.int .i64,.int .i64]),(64,[.int .i64,.int .i64,.int .i64,.nil,.int .i64,.int .i64,.int .i64,.int .i64,.int .i64,.nil,.int .i64,.bool,.bool]),(12480,[.int .i64,.int .i64,.int .i64,.at 800000000,.int .i64,.int .i64,.int .i64,.int .i64,.int .i64,.nil,.int .i64,.bool,.bool]),(28864,[.at 800000001,.at 800000002,.bool,.at 800000003])],[(800000000,tM,(.pr (.ow .fz) (.pr (.ow (.pr .fz .fz)) (.pr .fz (.ow .fz))))),(800000001,tL,.fz),(800000002,tW,(.pr .fz .fz)),(800000003,tI,.fz)]⟩
def yef:Shape:=⟨[(0,false,[.int .i64]),(3,false,[.ptr 0 0]),(4,false,[.ptr 64 0]),(5,false,[.ptr 12480 0]),(6,false,[.int .i64]),(7,false,[.ptr 28864 0])],[(0,[.int .i64,.int .i64]),(64,[.int .i64,.int .i64,.int .i64,.nil,.int .i64,.int .i64,.int .i64,.int .i64,.int .i64,.nil,.int .i64,.bool,.bool]),(12480,[.int .i64,.int .i64,.int .i64,.at 800000000,.int .i64,.int .i64,.int .i64,.int .i64,.int .i64,.nil,.int .i64,.bool,.bool]),(28864,[.at 800000001,.at 800000002,.bool,.at 800000003])],[(800000000,tM,(.pr (.ow .fz) (.pr (.ow (.pr .fz .fz)) (.pr .fz (.ow .fz))))),(800000001,tL,.fz),(800000002,tW,(.pr .fz .fz)),(800000003,tI,.fz)]⟩
def yhh:Shape:=⟨[],[],[]⟩
abbrev ykO (v0 v1 v2:Int) (v3:dG) (v4 v5:dA) (v6:dM):(ya1).X:=(((v0,()),((),()),((),()),((),()),(v1,()),((),()),(v2,()),()),((v3.1,v3.2,()),(v4.1,v4.2.1.1,v4.2.1.2,(),v4.2.2.2.1,v4.2.2.2.2.1,v4.2.2.2.2.2.1,v4.2.2.2.2.2.2.1,v4.2.2.2.2.2.2.2.1,(),v4.2.2.2.2.2.2.2.2.2.1,v4.2.2.2.2.2.2.2.2.2.2.1,v4.2.2.2.2.2.2.2.2.2.2.2,()),(v5.1,v5.2.1.1,v5.2.1.2,(),v5.2.2.2.1,v5.2.2.2.2.1,v5.2.2.2.2.2.1,v5.2.2.2.2.2.2.1,v5.2.2.2.2.2.2.2.1,(),v5.2.2.2.2.2.2.2.2.2.1,v5.2.2.2.2.2.2.2.2.2.2.1,v5.2.2.2.2.2.2.2.2.2.2.2,()),((),(),v6.2.2.1,(),()),()),(v5.2.2.1,v6.1,v6.2.1,v6.2.2.2,()))
abbrev yHA (v0 v1:Int) (v2:dG) (v3 v4:dA) (v5:dM):(yek).X:=(((v0,()),((),()),((),()),((),()),(v1,()),((),()),((),()),()),((v2.1,v2.2,()),(v3.1,v3.2.1.1,v3.2.1.2,(),v3.2.2.2.1,v3.2.2.2.2.1,v3.2.2.2.2.2.1,v3.2.2.2.2.2.2.1,v3.2.2.2.2.2.2.2.1,(),v3.2.2.2.2.2.2.2.2.2.1,v3.2.2.2.2.2.2.2.2.2.2.1,v3.2.2.2.2.2.2.2.2.2.2.2,()),(v4.1,v4.2.1.1,v4.2.1.2,(),v4.2.2.2.1,v4.2.2.2.2.1,v4.2.2.2.2.2.1,v4.2.2.2.2.2.2.1,v4.2.2.2.2.2.2.2.1,(),v4.2.2.2.2.2.2.2.2.2.1,v4.2.2.2.2.2.2.2.2.2.2.1,v4.2.2.2.2.2.2.2.2.2.2.2,()),((),(),v5.2.2.1,(),()),()),(v4.2.2.1,v5.1,v5.2.1,v5.2.2.2,()))
abbrev yul (v0 v1:Int) (v2:dG) (v3 v4:dA) (v5:dM):(yef).X:=(((v0,()),((),()),((),()),((),()),(v1,()),((),()),()),((v2.1,v2.2,()),(v3.1,v3.2.1.1,v3.2.1.2,(),v3.2.2.2.1,v3.2.2.2.2.1,v3.2.2.2.2.2.1,v3.2.2.2.2.2.2.1,v3.2.2.2.2.2.2.2.1,(),v3.2.2.2.2.2.2.2.2.2.1,v3.2.2.2.2.2.2.2.2.2.2.1,v3.2.2.2.2.2.2.2.2.2.2.2,()),(v4.1,v4.2.1.1,v4.2.1.2,(),v4.2.2.2.1,v4.2.2.2.2.1,v4.2.2.2.2.2.1,v4.2.2.2.2.2.2.1,v4.2.2.2.2.2.2.2.1,(),v4.2.2.2.2.2.2.2.2.2.1,v4.2.2.2.2.2.2.2.2.2.2.1,v4.2.2.2.2.2.2.2.2.2.2.2,()),((),(),v5.2.2.1,(),()),()),(v4.2.2.1,v5.1,v5.2.1,v5.2.2.2,()))
def yk1 (v0 v1 v2 v3 v4 v5 v6 v7 v8 v9 v10 v11 v12 v13:Int) (v14 v15:Bool) (v16 v17 v18 v19 v20 v21 v22 v23 v24:Int) (v25 v26 v27:Bool) (v28:List dM) (v29:List (List Int)) (v30:List dW) (v31:List Int):Option ((ya1).X ⊕ ((yef).X ⊕ (yhh).X)) :=bif(ltb v2 v4)then let r13:=ybD v2;bif(inb r13 v29.length)then some (.inl (((v0,()),((),()),((),()),((),()),(v1,()),((),()),((i64.wrap (v2+1)),()),()),((v3,v4,()),(v5,v6,v7,(),v8,v9,v10,v11,v12,(),v13,v14,v15,()),(v16,v17,v18,(),v19,v20,v21,v22,v23,(),v24,v25,v26,()),((),(),v27,(),()),()),(v28,(v29.set (r13).toNat ([0]:List Int)),v30,v31,()))) else none else some (.inr (.inl (((v0,()),((),()),((),()),((),()),(v1,()),((),()),()),((v3,v4,()),(v5,v6,v7,(),v8,v9,v10,v11,v12,(),v13,v14,v15,()),(v16,v17,v18,(),v19,v20,v21,v22,v23,(),v24,v25,v26,()),((),(),v27,(),()),()),(v28,v29,v30,v31,()))))
def ybj (x:(ya1).X):=yk1 x.1.1.1 x.1.2.2.2.2.1.1 x.1.2.2.2.2.2.2.1.1 x.2.1.1.1 x.2.1.1.2.1 x.2.1.2.1.1 x.2.1.2.1.2.1 x.2.1.2.1.2.2.1 x.2.1.2.1.2.2.2.2.1 x.2.1.2.1.2.2.2.2.2.1 x.2.1.2.1.2.2.2.2.2.2.1 x.2.1.2.1.2.2.2.2.2.2.2.1 x.2.1.2.1.2.2.2.2.2.2.2.2.1 x.2.1.2.1.2.2.2.2.2.2.2.2.2.2.1 x.2.1.2.1.2.2.2.2.2.2.2.2.2.2.2.1 x.2.1.2.1.2.2.2.2.2.2.2.2.2.2.2.2.1 x.2.1.2.2.1.1 x.2.1.2.2.1.2.1 x.2.1.2.2.1.2.2.1 x.2.1.2.2.1.2.2.2.2.1 x.2.1.2.2.1.2.2.2.2.2.1 x.2.1.2.2.1.2.2.2.2.2.2.1 x.2.1.2.2.1.2.2.2.2.2.2.2.1 x.2.1.2.2.1.2.2.2.2.2.2.2.2.1 x.2.1.2.2.1.2.2.2.2.2.2.2.2.2.2.1 x.2.1.2.2.1.2.2.2.2.2.2.2.2.2.2.2.1 x.2.1.2.2.1.2.2.2.2.2.2.2.2.2.2.2.2.1 x.2.1.2.2.2.1.2.2.1 x.2.2.1 x.2.2.2.1 x.2.2.2.2.1 x.2.2.2.2.2.1
def yt3 (x:(yek).X):(ya1).X:=(((x.1.1.1,()),((),()),((),()),((),()),(x.1.2.2.2.2.1.1,()),((),()),(0,()),()),((x.2.1.1.1,x.2.1.1.2.1,()),(x.2.1.2.1.1,x.2.1.2.1.2.1,x.2.1.2.1.2.2.1,(),x.2.1.2.1.2.2.2.2.1,x.2.1.2.1.2.2.2.2.2.1,x.2.1.2.1.2.2.2.2.2.2.1,x.2.1.2.1.2.2.2.2.2.2.2.1,x.2.1.2.1.2.2.2.2.2.2.2.2.1,(),x.2.1.2.1.2.2.2.2.2.2.2.2.2.2.1,x.2.1.2.1.2.2.2.2.2.2.2.2.2.2.2.1,x.2.1.2.1.2.2.2.2.2.2.2.2.2.2.2.2.1,()),(x.2.1.2.2.1.1,x.2.1.2.2.1.2.1,x.2.1.2.2.1.2.2.1,(),x.2.1.2.2.1.2.2.2.2.1,x.2.1.2.2.1.2.2.2.2.2.1,x.2.1.2.2.1.2.2.2.2.2.2.1,x.2.1.2.2.1.2.2.2.2.2.2.2.1,x.2.1.2.2.1.2.2.2.2.2.2.2.2.1,(),x.2.1.2.2.1.2.2.2.2.2.2.2.2.2.2.1,x.2.1.2.2.1.2.2.2.2.2.2.2.2.2.2.2.1,x.2.1.2.2.1.2.2.2.2.2.2.2.2.2.2.2.2.1,()),((),(),x.2.1.2.2.2.1.2.2.1,(),()),()),(x.2.2.1,x.2.2.2.1,x.2.2.2.2.1,x.2.2.2.2.2.1,()))
def yuW:Code:=(zd7 yfl 64 125236).getD .skip
theorem yIb:zd7 yfl 64 31309=some (.block 2 (.loop yuW)):=by kernel_rfl
theorem yIQ (x:(ya1).X):zhu ⟨yk4,60,yEa⟩ 2 yuW 125236 ya1 yef yhh x=ybj x:=by kernel_rfl
def yt8 (x:(yek).X):Nat:=18446744073709551616
def ylG (x:(yek).X):Option ((yef).X ⊕ (yhh).X):=zF ybj (yt8 x) (yt3 x)
def yuN:Seg:=⟨yek,yef,yhh,ylG⟩
def ysw:Nat→Option Seg:=fun q=>bif Nat.beq q 31309 then some yuN else yEa q
theorem yOr:FrOk prog ⟨yk4,60,ysw⟩ yfl:=(yOq).loop (sg:=yuN) ya1 yt3 (by decide) yIb ybj yt8 (by decide) (fun _=>rfl) (fun x r _ h=>h) yIQ
def ycF:Shape:=⟨[(0,false,[.int .i64]),(3,false,[.ptr 0 0]),(4,false,[.ptr 64 0]),(5,false,[.ptr 12480 0]),(6,false,[.int .i64])],[(0,[.int .i64,.int .i64]),(64,[.int .i64,.int .i64,.int .i64,.nil,.int .i64,.int .i64,.int .i64,.int .i64,.int .i64,.nil,.int .i64,.bool,.bool]),(12480,[.int .i64,.int .i64,.int .i64,.at 800000000,.int .i64,.int .i64,.int .i64,.int .i64,.int .i64,.nil,.int .i64,.bool,.bool])],[(800000000,tM,(.pr (.ow .fz) (.pr (.ow (.pr .fz .fz)) (.pr .fz (.ow .fz)))))]⟩
def ygG:Shape:=⟨[(0,false,[.int .i64]),(3,false,[.ptr 0 0]),(4,false,[.ptr 64 0]),(5,false,[.ptr 12480 0]),(6,false,[.ci .i64 0])],[(0,[.int .i64,.int .i64]),(64,[.int .i64,.int .i64,.int .i64,.nil,.int .i64,.int .i64,.int .i64,.int .i64,.int .i64,.nil,.int .i64,.bool,.bool]),(12480,[.int .i64,.int .i64,.int .i64,.at 800000000,.int .i64,.int .i64,.int .i64,.int .i64,.int .i64,.nil,.int .i64,.bool,.bool])],[(800000000,tM,(.pr (.ow .fz) (.pr (.ow (.pr .fz .fz)) (.pr .fz (.ow .fz)))))]⟩
def ygw:Shape:=⟨[(4,false,[.ptr 64 0]),(5,false,[.ptr 12480 0])],[(64,[.int .i64,.int .i64,.int .i64,.nil,.int .i64,.int .i64,.int .i64,.int .i64,.int .i64,.nil,.int .i64,.bool,.bool]),(12480,[.int .i64,.int .i64,.int .i64,.at 800000000,.int .i64,.int .i64,.int .i64,.int .i64,.int .i64,.nil,.int .i64,.bool,.bool])],[(800000000,tM,(.pr (.ow .fz) (.pr (.ow (.pr .fz .fz)) (.pr .fz (.ow .fz)))))]⟩
def ykz:Shape:=⟨[],[],[]⟩
abbrev yjh (v0 v1:Int) (v2:dG) (v3 v4:dA):(ycF).X:=(((v0,()),((),()),((),()),((),()),(v1,()),()),((v2.1,v2.2,()),(v3.1,v3.2.1.1,v3.2.1.2,(),v3.2.2.2.1,v3.2.2.2.2.1,v3.2.2.2.2.2.1,v3.2.2.2.2.2.2.1,v3.2.2.2.2.2.2.2.1,(),v3.2.2.2.2.2.2.2.2.2.1,v3.2.2.2.2.2.2.2.2.2.2.1,v3.2.2.2.2.2.2.2.2.2.2.2,()),(v4.1,v4.2.1.1,v4.2.1.2,(),v4.2.2.2.1,v4.2.2.2.2.1,v4.2.2.2.2.2.1,v4.2.2.2.2.2.2.1,v4.2.2.2.2.2.2.2.1,(),v4.2.2.2.2.2.2.2.2.2.1,v4.2.2.2.2.2.2.2.2.2.2.1,v4.2.2.2.2.2.2.2.2.2.2.2,()),()),(v4.2.2.1,()))
abbrev yMt (v0:Int) (v1:dG) (v2 v3:dA):(ygG).X:=(((v0,()),((),()),((),()),((),()),((),()),()),((v1.1,v1.2,()),(v2.1,v2.2.1.1,v2.2.1.2,(),v2.2.2.2.1,v2.2.2.2.2.1,v2.2.2.2.2.2.1,v2.2.2.2.2.2.2.1,v2.2.2.2.2.2.2.2.1,(),v2.2.2.2.2.2.2.2.2.2.1,v2.2.2.2.2.2.2.2.2.2.2.1,v2.2.2.2.2.2.2.2.2.2.2.2,()),(v3.1,v3.2.1.1,v3.2.1.2,(),v3.2.2.2.1,v3.2.2.2.2.1,v3.2.2.2.2.2.1,v3.2.2.2.2.2.2.1,v3.2.2.2.2.2.2.2.1,(),v3.2.2.2.2.2.2.2.2.2.1,v3.2.2.2.2.2.2.2.2.2.2.1,v3.2.2.2.2.2.2.2.2.2.2.2,()),()),(v3.2.2.1,()))
abbrev yAL (v0 v1:dA):(ygw).X:=((((),()),((),()),()),((v0.1,v0.2.1.1,v0.2.1.2,(),v0.2.2.2.1,v0.2.2.2.2.1,v0.2.2.2.2.2.1,v0.2.2.2.2.2.2.1,v0.2.2.2.2.2.2.2.1,(),v0.2.2.2.2.2.2.2.2.2.1,v0.2.2.2.2.2.2.2.2.2.2.1,v0.2.2.2.2.2.2.2.2.2.2.2,()),(v1.1,v1.2.1.1,v1.2.1.2,(),v1.2.2.2.1,v1.2.2.2.2.1,v1.2.2.2.2.2.1,v1.2.2.2.2.2.2.1,v1.2.2.2.2.2.2.2.1,(),v1.2.2.2.2.2.2.2.2.2.1,v1.2.2.2.2.2.2.2.2.2.2.1,v1.2.2.2.2.2.2.2.2.2.2.2,()),()),(v1.2.2.1,()))
def ypR (v0 v1 v2 v3 v4 v5 v6 v7 v8 v9 v10 v11 v12:Int) (v13 v14:Bool) (v15 v16 v17 v18 v19 v20 v21 v22 v23:Int) (v24 v25:Bool) (v26:List dM):Option ((ycF).X ⊕ ((ygw).X ⊕ (ykz).X)) :=bif(ltb v1 v2)then let r15:=ycB (v2,v3);let r16:=yd8 r15;let r17:=yD (v0,0,v1,v2,v3,0,(-1),0);bif(inb 0 r16.1.length)then zkt (ylG (((v0,()),((),()),((),()),((),()),(v1,()),((),()),((),()),()),((v2,v3,()),(v4,v5,v6,(),v7,v8,v9,v10,v11,(),v12,v13,v14,()),(v15,v16,v17,(),v18,v19,v20,v21,v22,(),v23,v24,v25,()),((),(),r16.2.2.1,(),()),()),(v26,(r16.1.set (0:Int).toNat r17),r16.2.1,r16.2.2.2,()))) (fun y17 =>bif(zkl y17.2.2.1.length ([(y17.2.2.2.1,y17.2.2.2.2.1,y17.2.1.2.2.2.1.2.2.1,y17.2.2.2.2.2.1)]:List dM).length 80)then some (.inl (((y17.1.1.1,()),((),()),((),()),((),()),((i64.wrap (y17.1.2.2.2.2.1.1+1)),()),()),((y17.2.1.1.1,y17.2.1.1.2.1,()),(y17.2.1.2.1.1,y17.2.1.2.1.2.1,y17.2.1.2.1.2.2.1,(),y17.2.1.2.1.2.2.2.2.1,y17.2.1.2.1.2.2.2.2.2.1,y17.2.1.2.1.2.2.2.2.2.2.1,y17.2.1.2.1.2.2.2.2.2.2.2.1,y17.2.1.2.1.2.2.2.2.2.2.2.2.1,(),y17.2.1.2.1.2.2.2.2.2.2.2.2.2.2.1,y17.2.1.2.1.2.2.2.2.2.2.2.2.2.2.2.1,y17.2.1.2.1.2.2.2.2.2.2.2.2.2.2.2.2.1,()),(y17.2.1.2.2.1.1,y17.2.1.2.2.1.2.1,y17.2.1.2.2.1.2.2.1,(),y17.2.1.2.2.1.2.2.2.2.1,y17.2.1.2.2.1.2.2.2.2.2.1,y17.2.1.2.2.1.2.2.2.2.2.2.1,y17.2.1.2.2.1.2.2.2.2.2.2.2.1,y17.2.1.2.2.1.2.2.2.2.2.2.2.2.1,(),y17.2.1.2.2.1.2.2.2.2.2.2.2.2.2.2.1,y17.2.1.2.2.1.2.2.2.2.2.2.2.2.2.2.2.1,y17.2.1.2.2.1.2.2.2.2.2.2.2.2.2.2.2.2.1,()),()),((y17.2.2.1++([(y17.2.2.2.1,y17.2.2.2.2.1,y17.2.1.2.2.2.1.2.2.1,y17.2.2.2.2.2.1)]:List dM)),()))) else none) (fun y17 =>some (.inr (.inr ((),(),())))) else none else some (.inr (.inl ((((),()),((),()),()),((v4,v5,v6,(),v7,v8,v9,v10,v11,(),v12,v13,v14,()),(v15,v16,v17,(),v18,v19,v20,v21,v22,(),v23,v24,v25,()),()),(v26,()))))
def yc7 (x:(ycF).X):=ypR x.1.1.1 x.1.2.2.2.2.1.1 x.2.1.1.1 x.2.1.1.2.1 x.2.1.2.1.1 x.2.1.2.1.2.1 x.2.1.2.1.2.2.1 x.2.1.2.1.2.2.2.2.1 x.2.1.2.1.2.2.2.2.2.1 x.2.1.2.1.2.2.2.2.2.2.1 x.2.1.2.1.2.2.2.2.2.2.2.1 x.2.1.2.1.2.2.2.2.2.2.2.2.1 x.2.1.2.1.2.2.2.2.2.2.2.2.2.2.1 x.2.1.2.1.2.2.2.2.2.2.2.2.2.2.2.1 x.2.1.2.1.2.2.2.2.2.2.2.2.2.2.2.2.1 x.2.1.2.2.1.1 x.2.1.2.2.1.2.1 x.2.1.2.2.1.2.2.1 x.2.1.2.2.1.2.2.2.2.1 x.2.1.2.2.1.2.2.2.2.2.1 x.2.1.2.2.1.2.2.2.2.2.2.1 x.2.1.2.2.1.2.2.2.2.2.2.2.1 x.2.1.2.2.1.2.2.2.2.2.2.2.2.1 x.2.1.2.2.1.2.2.2.2.2.2.2.2.2.2.1 x.2.1.2.2.1.2.2.2.2.2.2.2.2.2.2.2.1 x.2.1.2.2.1.2.2.2.2.2.2.2.2.2.2.2.2.1 x.2.2.1
def yAs (x:(ygG).X):(ycF).X:=(((x.1.1.1,()),((),()),((),()),((),()),(0,()),()),((x.2.1.1.1,x.2.1.1.2.1,()),(x.2.1.2.1.1,x.2.1.2.1.2.1,x.2.1.2.1.2.2.1,(),x.2.1.2.1.2.2.2.2.1,x.2.1.2.1.2.2.2.2.2.1,x.2.1.2.1.2.2.2.2.2.2.1,x.2.1.2.1.2.2.2.2.2.2.2.1,x.2.1.2.1.2.2.2.2.2.2.2.2.1,(),x.2.1.2.1.2.2.2.2.2.2.2.2.2.2.1,x.2.1.2.1.2.2.2.2.2.2.2.2.2.2.2.1,x.2.1.2.1.2.2.2.2.2.2.2.2.2.2.2.2.1,()),(x.2.1.2.2.1.1,x.2.1.2.2.1.2.1,x.2.1.2.2.1.2.2.1,(),x.2.1.2.2.1.2.2.2.2.1,x.2.1.2.2.1.2.2.2.2.2.1,x.2.1.2.2.1.2.2.2.2.2.2.1,x.2.1.2.2.1.2.2.2.2.2.2.2.1,x.2.1.2.2.1.2.2.2.2.2.2.2.2.1,(),x.2.1.2.2.1.2.2.2.2.2.2.2.2.2.2.1,x.2.1.2.2.1.2.2.2.2.2.2.2.2.2.2.2.1,x.2.1.2.2.1.2.2.2.2.2.2.2.2.2.2.2.2.1,()),()),(x.2.2.1,()))
def yCi:Code:=(zd7 yfl 64 244).getD .skip
theorem yNZ:zd7 yfl 64 61=some (.block 0 (.loop yCi)):=by kernel_rfl
theorem yQI (x:(ycF).X):zhu ⟨yk4,60,ysw⟩ 0 yCi 244 ycF ygw ykz x=yc7 x:=by kernel_rfl
def yAC (x:(ygG).X):Nat:=18446744073709551616
def yqN (x:(ygG).X):Option ((ygw).X ⊕ (ykz).X):=zF yc7 (yAC x) (yAs x)
def yAW:Seg:=⟨ygG,ygw,ykz,yqN⟩
def yQ9:Nat→Option Seg:=fun q=>bif Nat.beq q 61 then some yAW else ysw q
theorem yOs:FrOk prog ⟨yk4,60,yQ9⟩ yfl:=(yOr).loop (sg:=yAW) ycF yAs (by decide) yNZ yc7 yAC (by decide) (fun _=>rfl) (fun x r _ h=>h) yQI
abbrev yqm:List Par:= [.rd tI,.rd tG]
abbrev yzc:List OT:= [⟨false,tA,(.pr .fz (.pr (.pr .fz .fz) (.pr (.ow (.pr (.ow .fz) (.pr (.ow (.pr .fz .fz)) (.pr .fz (.ow .fz))))) (.pr .fz (.pr .fz (.pr .fz (.pr .fz (.pr .fz (.pr (.ow (.pr .fz .fz)) (.pr .fz (.pr .fz .fz)))))))))))⟩]
def yuz (a0:Int) (a1:dG):Option (zaY yzc×zak yqm) :=let r1:=ye a1;bif(!(!r1))then let r2:=yb a0 1 60000;bif(!r2)then some (((0,(0,0),[],0,0,0,0,0,[],0,false,false),()),()) else zkt (yqN (((a0,()),((),()),((),()),((),()),((),()),()),((a1.1,a1.2,()),(0,0,0,(),0,0,0,0,0,(),0,false,false,()),(a0,a1.1,a1.2,(),(-1),0,0,0,0,(),(-1),false,false,()),()),([],()))) (fun y18 =>some (((y18.2.1.2.1.1,(y18.2.1.2.1.2.1,y18.2.1.2.1.2.2.1),y18.2.2.1,y18.2.1.2.1.2.2.2.2.1,y18.2.1.2.1.2.2.2.2.2.1,y18.2.1.2.1.2.2.2.2.2.2.1,y18.2.1.2.1.2.2.2.2.2.2.2.1,y18.2.1.2.1.2.2.2.2.2.2.2.2.1,[],y18.2.1.2.1.2.2.2.2.2.2.2.2.2.2.1,y18.2.1.2.1.2.2.2.2.2.2.2.2.2.2.2.1,y18.2.1.2.1.2.2.2.2.2.2.2.2.2.2.2.2.1),()),())) (fun y18 =>none) else some (((0,(0,0),[],0,0,0,0,0,[],0,false,false),()),())
theorem yTs:ConOk prog 115 ⟨yqm,yzc,fun x=>yuz x.1 x.2.1⟩:=zkI (yOs) func115 ntmps115.symm fun x=>by kernel_rfl
def yll (a0:Int) (a1:dG):dA:=yla a0 a1
theorem yVM (a0:Int) (a1:dG) (hk:zjx yqm (a0,a1,())):yuz a0 a1=(fun n=>some ((n,()),())) (yll a0 a1):=by
 unfold yuz yll yla;simp only[yb6];cases hg:ye a1
 ·rfl
 cases hid:(leb 1 a0&&leb a0 60000)
 ·rfl
 have hge:=yj.1 hg
 have inner: ∀(i:Int) (a:dA),ylG (yHA a0 i a1 ycC a (yj6 a0 a1 i))=some (.inl (yul a0 i a1 ycC a (yI a0 a1 i))):=fun i a =>
  zkD (step:=ybj) a1.2.toNat (fun s m=>ykO a0 i s a1 ycC a m) ysd (fun _ m=>(m.1.length:Int)=6+a1.2) (fun m=> .inl (yul a0 i a1 ycC a m)) (fun s m hs hm=>⟨by
   simp only[ybj,ykO,yk1,zky (show(s:Int)<a1.2 by omega),cond_true,wq ((s:Int)+1) (by omega) (by omega),Int.natCast_add,Int.natCast_one,Int.toNat_natCast,ygo];have hd:yX (s:Int)=((s+6:Nat):Int):=by unfold yX; rw[zk2 (show(0:Int)≤s by omega),zk2 (show(s:Int)≤1099511627776 by omega)]; rfl
   rw[hd,zkR (show s+6<m.1.length by omega),Int.toNat_natCast]; rfl,by show((m.1.set _ _).length:Int)=_; rw[List.length_set]; exact hm⟩) (fun m hm=>by simp only[ybj,ykO,yk1,show((a1.2.toNat:Nat):Int)=a1.2 by omega,zk3 (Int.le_refl _),cond_false]) (yj6 a0 a1 i) (by
   unfold yj6 ycu;rw[zk2 (show 1≤6+a1.2 by omega),zk2 (show 6+a1.2≤20 by omega)];show(((List.replicate (6+a1.2).toNat ([]:List Int)).set 0 _).length:Int)=_
   rw[List.length_set,List.length_replicate]; omega) 18446744073709551616 (by omega)
 have hmn:yd8 (ycB a1)=ycu (6+a1.2):=by
  unfold yd8 ycB;rw[wr (by omega) (by omega)]
 have h0:inb 0 (ycu (6+a1.2)).1.length=true:=by
  unfold ycu;rw[zk2 (show 1≤6+a1.2 by omega),zk2 (show 6+a1.2≤20 by omega)];show inb 0 (List.replicate (6+a1.2).toNat ([]:List Int)).length=true;rw[List.length_replicate,zj6]; omega
 have outer:yqN (yMt a0 a1 ycC (yCg a0 a1))=some (.inl (yAL ycC ((List.range a1.1.toNat).foldl (fun a (i:Nat)=>yCc a (yI a0 a1 i)) (yCg a0 a1)))) :=
  zkD (step:=yc7) a1.1.toNat (fun i a=>yjh a0 i a1 ycC a) (fun a i=>yCc a (yI a0 a1 i)) (fun i a=>a.2.2.1.length=i) (fun a=> .inl (yAL ycC a)) (fun i a hi ha=>⟨by
   simp only[yc7,yjh,ypR,zky (show(i:Int)<a1.1 by omega),cond_true,wq ((i:Int)+1) (by omega) (by omega),Int.natCast_add,Int.natCast_one,zkX,hmn,h0];refine(congrArg (fun z=>zkt z _ _) (inner i a)).trans ?_;simp only[zkN];show(bif zkl a.2.2.1.length [yI a0 a1 i].length 80 then _ else _)=_;rw[zkF.2 (show(a.2.2.1.length+ [yI a0 a1 i].length)*80≤140737488355328 by simp only[List.length_cons,List.length_nil]; omega)];simp only[cond_true];show some (Sum.inl (yjh a0 (i64.wrap ((i:Int)+1)) a1 ycC (yCc a (yI a0 a1 i))))=_
   rw[wq ((i:Int)+1) (by omega) (by omega)],by show(a.2.2.1++ [_]).length=_; rw[List.length_append,ha]; rfl⟩) (fun a ha=>by simp only[yc7,yjh,ypR,show((a1.1.toNat:Nat):Int)=a1.1 by omega,zk3 (Int.le_refl _),cond_false]) (yCg a0 a1) rfl 18446744073709551616 (by omega)
 have hdr: ∀(l:List Nat) (a:dA),a.2.2.2.2.2.2.2.2.1= []→(l.foldl (fun a (i:Nat)=>yCc a (yI a0 a1 i)) a).2.2.2.2.2.2.2.2.1= []:=by
  intro l
  induction l with
  | nil=>intro a h; exact h
  | cons x t ih=>intro a h; exact ih _ h
 have h:=hdr (List.range a1.1.toNat) (yCg a0 a1) rfl;simp only[Bool.not_true,Bool.not_false,cond_true,cond_false,Bool.and_self];refine(congrArg (fun z=>zkt z _ _) outer).trans ?_;generalize (List.range a1.1.toNat).foldl (fun a (i:Nat)=>yCc a (yI a0 a1 i)) (yCg a0 a1)=R at h;simp only[zkN];show some ((((R.1,R.2.1,R.2.2.1,R.2.2.2.1,R.2.2.2.2.1,R.2.2.2.2.2.1,R.2.2.2.2.2.2.1,R.2.2.2.2.2.2.2.1,[],R.2.2.2.2.2.2.2.2.2):dA),()),())=some ((R,()),());rw[← h]
def yED:Con:=⟨yqm,yzc,fun x=>(fun n=>some ((n,()),())) (yll x.1 x.2.1)⟩
theorem yWy:ConOk prog 115 yED:=(yTs).mono (fun x r hk h=>(yVM x.1 x.2.1 hk).trans h)
def yZp:Code:=(f116.body).getD .skip
def yZC:Env:=zkw TT [(72,yeu)] []
theorem ySr:FrOk prog ⟨yZC,10,fun _=>none⟩ yZp:=zkA mixed yc ⟨yiF,trivial⟩
abbrev yBQ:List Par:= [.pt tU .fz]
abbrev yCa:List OT:= [⟨false,tG,(.pr .fz .fz)⟩]
def ykf (a0:dU):Option (zaY yCa×zak yBQ) :=bnd (yk a0 3) fun r1 =>bnd (yk r1.2.1 4) fun r2 =>some ((((i64.wrap (3+r1.1.1)),(i64.wrap (1+r2.1.1))),()),(r2.2.1,()))
theorem yWp:ConOk prog 116 ⟨yBQ,yCa,fun x=>ykf x.1⟩:=zkI (ySr) func116 ntmps116.symm fun x=>by kernel_rfl
def yGq:Con:=⟨yBQ,yCa,fun x=>ykf x.1⟩
theorem yY3:ConOk prog 116 yGq:=yWp
theorem y2t (u:dU) (h:yeH u): ∃(g:dG) (u':dU),ykf u=some ((g,()),(u',()))∧ye g=true∧yeH u':=by
 unfold ykf;obtain⟨r1,u1,e1,q1,d1⟩:=yfo u 3 h;obtain⟨r2,u2,e2,q2,d2⟩:=yfo u1 4 d1;simp only[e1,e2,zkH];refine⟨_,_,rfl,?_,d2⟩;have:=q1.2.1 (by omega); have:=q2.2.1 (by omega); have:=q1.1; have:=q2.1;rw[wr (by omega) (by omega),wr (by omega) (by omega)];exact yj.2 ⟨⟨by show 3≤3+r1; omega,by show 3+r1≤5; omega⟩,by show 1≤1+r2; omega,by show 1+r2≤8; omega⟩
def yZm:Code:=(f162.body).getD .skip
def yZz:Env:=zkw TT [(82,yF),(200,ygT)] []
theorem ySi:FrOk prog ⟨yZz,22,fun _=>none⟩ yZm:=zkA mixed yc ⟨yK,ym3,trivial⟩
abbrev yBN:List Par:= [.rd tN]
abbrev yB4:List OT:= [⟨false,tB,.fz⟩]
def yG5 (a0:dN):Option (zaY yB4×zak yBN) :=let r1:=yb a0.1 0 60000;bif r1 then let r2:=yb a0.2.1 0 7;bif r2 then let r3:=yb (a0.2.2.length:Int) 2 4;bif r3 then let r4:=yag a0.2.2;some ((r4,()),()) else some ((false,()),()) else some ((false,()),()) else some ((false,()),())
theorem yWj:ConOk prog 162 ⟨yBN,yB4,fun x=>yG5 x.1⟩:=zkI (ySi) func162 ntmps162.symm fun x=>by kernel_rfl
def yby (a0:dN):Bool :=let r1:=yb a0.1 0 60000;bif r1 then let r2:=yb a0.2.1 0 7;bif r2 then let r3:=yb (a0.2.2.length:Int) 2 4;bif r3 then let r4:=yag a0.2.2;r4 else false else false else false
def yGm:Con:=⟨yBN,yB4,fun x=>(fun n=>some ((n,()),())) (yby x.1)⟩
theorem yYG (a0:dN):yG5 a0=(fun n=>some ((n,()),())) (yby a0):=zkV (p:=fun(n:Bool)=>((n,()),())) (zkG (p:=fun(n:Bool)=>((n,()),())) (zkG (p:=fun(n:Bool)=>((n,()),())) (zkG (p:=fun(n:Bool)=>((n,()),())) rfl rfl) rfl) rfl)
theorem yYZ:ConOk prog 162 yGm:=(yWj).mono (fun x r _ h=>(yYG x.1).trans h)
abbrev y3Y:dN:=(0,0,[])
def ylw (r:dN):List Int:=bif yby r then 21322::r.1::r.2.1::(r.2.2.length:Int)::r.2.2 else[]
def y23 (l:List Int):dN:=(nth l 1 0,nth l 2 0,l.drop 4)
def y3F (l:List Int):dN×Bool:=bif leb 4 (l.length:Int)&&(nth l 0 0==21322&&(nth l 3 0==(l.length:Int)-4&&yby (y23 l)))then(y23 l,true)else(y3Y,false)
theorem yXk {r:dN}:yby r=true↔(0≤r.1∧r.1≤60000)∧(0≤r.2.1∧r.2.1≤7)∧(2≤(r.2.2.length:Int)∧(r.2.2.length:Int)≤4)∧r.2.2.all isW=true:=by
 unfold yby;simp only[yfv,← yud];cases yb r.1 0 60000<;>cases yb r.2.1 0 7<;>cases yb (r.2.2.length:Int) 2 4<;>simp
def ybz (r:dN) (a:dA) (i:Nat):dA:=ycR a i (yT r.1) (ylw r)
def yQ (a:dA) (r:dN):dA:=yx ((List.range a.2.2.1.length).foldl (ybz r) a)
theorem yoO (r:dN) (a:dA) (i:Nat):(ybz r a i).2.2.1.length=a.2.2.1.length:=yse _ _ _ _
theorem yNB (r:dN) {a:dA} (i:Nat) (h:ya a=true):ybz r a i=a:=ywE h _ _ _
theorem y0Z (a:dA) (r:dN):(yQ a r).2.2.1.length=a.2.2.1.length:=(yD2 _).trans (yq7 (yoO r) _ _)
theorem ybA (a:dA) (r:dN):yv (yQ a r)=yv a:=(ydf _).trans (yxK (one:=ybz r) (fun _ _=>yrr _ _ _ _) _ _)
def yb5 (p N x:Int) (data:List Int) (i:Int):Int:=bif i==p then x else nth data ((i-p-1+N).tmod N) 0
def ybf (p N s:Int) (data:List Int) (a:dA) (i:Nat):dA:=bif yct a i s then ycR a i (yX s) [yb5 p N (yao data) data i]else a
def yH (a:dA) (s:Int) (data:List Int):dA:=(List.range a.2.2.1.length).foldl (ybf (yg a.2.1 s) a.2.1.1 s data) a
theorem yw4 (p N s:Int) (data:List Int) (a:dA) (i:Nat):(ybf p N s data a i).2.2.1.length=a.2.2.1.length:=by
 unfold ybf; cases yct a i s
 ·rfl
 ·exact yse _ _ _ _
theorem yJh (p N s:Int) (data:List Int) {a:dA} (i:Nat) (h:ya a=true):ybf p N s data a i=a:=by
 unfold ybf; cases yct a i s
 ·rfl
 ·exact ywE h _ _ _
theorem yJg (p N s:Int) (data:List Int) (a:dA) (i:Nat):yv (ybf p N s data a i)=yv a:=by
 unfold ybf; cases yct a i s
 ·rfl
 ·exact yrr _ _ _ _
theorem yxt (a:dA) (s:Int) (data:List Int):yv (yH a s data)=yv a:=yxK (yJg _ _ _ _) _ _
theorem y4b {N i p:Int} (h:3≤N∧N≤5) (hi:0≤i∧i<N) (hp:0≤p∧p≤N-1) (hne:i≠p):0≤(i-p-1+N).tmod N∧(i-p-1+N).tmod N<N-1:=by
 rw[Int.tmod_eq_emod_of_nonneg (by omega)];have:N=3∨N=4∨N=5:=by omega
 rcases this with rfl | rfl | rfl<;>omega
theorem y1w {N p x:Int} {data:List Int} (h:3≤N∧N≤5) (hp:0≤p∧p≤N-1) (hd:(data.length:Int)=N-1) :
  (List.range data.length).foldl (fun l (i:Nat)=>l.set ((p+1+i).tmod N).toNat (nth data i 0)) ((List.replicate N.toNat 0).set p.toNat x)=(List.range N.toNat).map (fun(i:Nat)=>yb5 p N x data i):=by
 have:N=3∨N=4∨N=5:=by omega
 rcases this with rfl | rfl | rfl
 ·match data,hd with
  | [a,b],_ =>
   have:p=0∨p=1∨p=2:=by omega
   rcases this with rfl | rfl | rfl<;>simp[yb5,nth,List.range_succ,List.replicate_succ]
  | [],hd=>simp at hd
  | [_],hd=>simp at hd
  | _::_::_::_,hd=>simp only[List.length_cons]at hd; omega
 ·match data,hd with
  | [a,b,c],_ =>
   have:p=0∨p=1∨p=2∨p=3:=by omega
   rcases this with rfl | rfl | rfl | rfl<;>simp[yb5,nth,List.range_succ,List.replicate_succ]
  | [],hd=>simp at hd
  | [_],hd=>simp at hd
  | [_,_],hd=>simp at hd
  | _::_::_::_::_,hd=>simp only[List.length_cons]at hd; omega
 ·match data,hd with
  | [a,b,c,d],_ =>
   have:p=0∨p=1∨p=2∨p=3∨p=4:=by omega
   rcases this with rfl | rfl | rfl | rfl | rfl<;>simp[yb5,nth,List.range_succ,List.replicate_succ]
  | [],hd=>simp at hd
  | [_],hd=>simp at hd
  | [_,_],hd=>simp at hd
  | [_,_,_],hd=>simp at hd
  | _::_::_::_::_::_,hd=>simp only[List.length_cons]at hd; omega
def yl (a:dA) (i:Int):dM:=nth a.2.2.1 i yh
theorem yVo {a:dA} {m i:Int} {x:dM} (hm:inb m a.2.2.1.length=true) (hi:0≤i):yl (yeo a m x) i=bif m==i then x else yl a i:=yrm hm hi
def yhp (n:Int) (s:List Int) (m:dM):dM:=bif m.2.2.1 then m else(yae m n s).1
def Did (g:dM→dM) (i:Int) (a r:dA):Prop:=yv r=yv a∧r.2.2.1.length=a.2.2.1.length ∧ ((ya r=false∧ ∀j,0≤j→yl r j=bif i==j then g (yl a j)else yl a j)∨(ya r=true∧ ∀j,yl r j=yl a j))
theorem yK6 {a:dA} {m:Int} (n:Int) (s:List Int) (h:ya a=false) (hm:inb m a.2.2.1.length=true):Did (yhp n s) m a (ycR a m n s):=by
 refine⟨yrr _ _ _ _,yse _ _ _ _,?_⟩;have hd:=y0c h m n s;unfold ycR at hd ⊢;cases hf:(nth a.2.2.1 m yh).2.2.1
 ·rw[hf]at hd
  cases ho:(opA a).1
  ·rw[ho]at hd
   refine .inr ⟨hd,fun j=> ?_⟩;show nth (opA a).2.2.2.1 j yh=yl a j;rw[yaE]; rfl
  ·rw[ho]at hd
   refine .inl ⟨hd,fun j hj=> ?_⟩;show yl (yeo (opA a).2 m (yae (nth a.2.2.1 m yh) n s).1) j=_;rw[yVo (by rw[yaE]; exact hm) hj];cases hj2:(m==j)
   ·show nth (opA a).2.2.2.1 j yh=yl a j
    rw[yaE]; rfl
   ·have:=beq_iff_eq.1 hj2
    subst this;show _=yhp n s (yl a m);unfold yhp yl;rw[hf]; rfl
 ·refine .inl ⟨h,fun j hj=> ?_⟩
  cases hj2:(m==j)
  ·rfl
  ·have:=beq_iff_eq.1 hj2
   subst this;show yl a m=yhp n s (yl a m);unfold yhp yl;rw[hf]; rfl
theorem y2S {a:dA} {i:Nat} (h:ya a=false) (hm:i<a.2.2.1.length):Did yy i a (yN a i):=by
 refine⟨yKO _ _,ylD _ _,?_⟩;have hd:=yKP h i;unfold yN at hd ⊢;cases hf:(nth a.2.2.1 i yh).2.2.1
 ·rw[hf]at hd
  cases ho:(opA a).1
  ·rw[ho]at hd
   refine .inr ⟨hd,fun j=> ?_⟩;show nth (opA a).2.2.2.1 j yh=yl a j;rw[yaE]; rfl
  ·rw[ho]at hd
   refine .inl ⟨hd,fun j hj=> ?_⟩;show yl (yeo (opA a).2 i (yy (nth a.2.2.1 i yh))) j=_;rw[yVo (by rw[yaE]; exact zkR hm) hj];cases hj2:((i:Int)==j)
   ·show nth (opA a).2.2.2.1 j yh=yl a j
    rw[yaE]; rfl
   ·have:=beq_iff_eq.1 hj2
    subst this; rfl
 ·refine .inl ⟨h,fun j hj=> ?_⟩
  cases hj2:((i:Int)==j)
  ·rfl
  ·have:=beq_iff_eq.1 hj2
   subst this;show yl a i=yy (yl a i);unfold yy yl;rw[hf,Bool.not_true,Bool.and_false]; rfl
def Adv (g:Int→dM→dM) (a r:dA) (n:Nat):Prop:=yv r=yv a∧r.2.2.1.length=a.2.2.1.length ∧ ∃k:Nat,k≤n∧(∀j:Int,0≤j→yl r j=bif ltb j k then g j (yl a j)else yl a j)∧(ya r=false→k=n)
theorem yCe {one:dA→Nat→dA} {g:Int→dM→dM} {a:dA} (hs: ∀b i,ya b=true→one b i=b)
  (ho: ∀(b:dA) (i:Nat),yv b=yv a→b.2.2.1.length=a.2.2.1.length→i<a.2.2.1.length→ya b=false→yl b i=yl a i→Did (g i) i b (one b i)) (hd:ya a=false) :
  ∀n,n≤a.2.2.1.length→Adv g a ((List.range n).foldl one a) n
 | 0,_=>⟨rfl,rfl,0,Nat.le_refl _,fun j hj=>by rw[zk3 (show((0:Nat):Int)≤j by omega)]; rfl,fun _=>rfl⟩
 | n+1,hn=>by
  obtain⟨h1,h2,k,h3,h4,h5⟩:=yCe hs ho hd n (by omega);rw[List.range_succ,List.foldl_append,List.foldl_cons,List.foldl_nil];generalize (List.range n).foldl one a=R at h1 h2 h4 h5 ⊢;cases hR:ya R
  ·have hk:=h5 hR
   subst hk;have e:yl R k=yl a k:=by rw[h4 k (by omega),zk3 (Int.le_refl _)]; rfl
   obtain⟨g1,g2,g3⟩:=ho R k h1 h2 (by omega) hR e;refine⟨g1.trans h1,g2.trans h2,?_⟩;rcases g3 with⟨g3,g4⟩ | ⟨g3,g4⟩
   ·refine⟨k+1,Nat.le_refl _,fun j hj=> ?_,fun _=>rfl⟩
    rw[g4 j hj];by_cases hj2:(k:Int)=j
    ·subst hj2
     rw[show((k:Int)==(k:Int))=true from beq_self_eq_true _,zky (show(k:Int)<((k+1:Nat):Int)by omega),e]; try rfl
    ·rw[show((k:Int)==j)=false from beq_eq_false_iff_ne.2 hj2,cond_false,h4 j hj,show ltb j ((k+1:Nat):Int)=ltb j k by rw[Bool.eq_iff_iff,zka,zka]; omega]
   ·refine⟨k,by omega,fun j hj=>by rw[g4 j,h4 j hj],fun h=> ?_⟩
    rw[g3]at h; cases h
  ·rw[hs R n hR]
   exact⟨h1,h2,k,by omega,h4,fun h=>by rw[hR]at h; cases h⟩
theorem y2R {a:dA} (hd:ya a=false):Adv (fun _=>yy) a (yx a) a.2.2.1.length :=
 yCe (one:=yN) (g:=fun _=>yy) (fun _ i h=>yD0 i h) (fun b i _ h2 hi hb _=>y2S hb (by omega)) hd _ (Nat.le_refl _)
theorem yZH {a b:dA} (h:yv b=yv a) (i:Int):yK8 b i=yK8 a i:=by
 unfold yv at h;simp only[Prod.mk.injEq]at h;obtain⟨h1,h2,h3,h4,h5,h6,h7,h8,h9⟩:=h;unfold yK8;rw[h1,h2,h3,h4,h6,h7]
theorem yCJ {a b:dA} (h:yv b=yv a):b.2.2.2.2.2.2.2.1=a.2.2.2.2.2.2.2.1:=congrArg (fun x=>x.2.2.2.2.2.2.1) h
theorem yN8 {a b:dA} (h:yv b=yv a):b.2.2.2.2.2.2.2.2.2.2.2=a.2.2.2.2.2.2.2.2.2.2.2:=congrArg (fun x=>x.2.2.2.2.2.2.2.2) h
def ySA (a:dA) (i:Int) (m:dM):dM:=yhp (a.2.2.2.2.2.2.2.1.tmod 2) (yD (yK8 a i)) m
theorem y2I {a:dA} (hd:ya a=false):Adv (ySA a) a ((List.range a.2.2.1.length).foldl yaf a) a.2.2.1.length :=
 yCe (one:=yaf) (g:=ySA a) (fun _ i h=>ywE h _ _ _) (fun b i h1 h2 hi hb _=>by
  have:=yK6 (b.2.2.2.2.2.2.2.1.tmod 2) (yD (yK8 b i)) hb (show inb (i:Int) b.2.2.1.length=true from zkR (by omega));rw[yCJ h1,yZH h1]at this;unfold ySA yaf;rw[yCJ h1,yZH h1]
  exact this) hd _ (Nat.le_refl _)
theorem y3o {a:dA} (r:dN) (hd:ya a=false):Adv (fun _=>yhp (yT r.1) (ylw r)) a ((List.range a.2.2.1.length).foldl (ybz r) a) a.2.2.1.length :=
 yCe (one:=ybz r) (g:=fun _=>yhp (yT r.1) (ylw r)) (fun _ i h=>yNB r i h) (fun b i _ h2 hi hb _=>yK6 _ _ hb (zkR (by omega))) hd _ (Nat.le_refl _)
def yP (L B i s:Int) (m:dM):Bool:= !m.2.2.1&&(i !=L||ltb s B)
theorem y0U {a:dA} {i s:Int} (hi:inb i a.2.2.1.length=true):yct a i s=yP a.2.2.2.1 a.2.2.2.2.1 i s (yl a i):=by
 unfold yct yP yl;rw[hi]; rfl
def yjg (L B p N s:Int) (d:List Int) (i:Int) (m:dM):dM:=bif yP L B i s m then(yae m (yX s) [yb5 p N (yao d) d i]).1 else m
theorem yZI {a:dA} (s:Int) (d:List Int) (hd:ya a=false):Adv (yjg a.2.2.2.1 a.2.2.2.2.1 (yg a.2.1 s) a.2.1.1 s d) a (yH a s d) a.2.2.1.length :=
 yCe (one:=ybf (yg a.2.1 s) a.2.1.1 s d) (g:=yjg a.2.2.2.1 a.2.2.2.2.1 (yg a.2.1 s) a.2.1.1 s d) (fun _ i h=>yJh _ _ _ _ i h) (fun b i h1 h2 hi hb _=>by
  have hib:inb (i:Int) b.2.2.1.length=true:=zkR (by omega);unfold ybf;rw[y0U hib,yc0 h1,ybc h1];cases hl:yP a.2.2.2.1 a.2.2.2.2.1 i s (yl b i)
  ·refine⟨rfl,rfl,.inl ⟨hb,fun j hj=> ?_⟩⟩
   by_cases hj2:(i:Int)=j
   ·subst hj2
    rw[beq_self_eq_true];show yl b i=yjg _ _ _ _ _ _ _ (yl b i);unfold yjg;rw[hl]; rfl
   ·rw[show((i:Int)==j)=false from beq_eq_false_iff_ne.2 hj2]; rfl
  ·obtain⟨g1,g2,g3⟩:=yK6 (yX s) [yb5 (yg a.2.1 s) a.2.1.1 (yao d) d i] hb hib
   refine⟨g1,g2,g3.imp (fun⟨g3,g4⟩=>⟨g3,fun j hj=> ?_⟩) id⟩;show yl (ycR b i (yX s) _) j=_;rw[g4 j hj];by_cases hj2:(i:Int)=j
   ·subst hj2
    rw[beq_self_eq_true,cond_true,cond_true];unfold yjg yhp;rw[hl,cond_true];simp only[yP,Bool.and_eq_true,Bool.not_eq_true']at hl;rw[hl.1]; rfl
   ·rw[show((i:Int)==j)=false from beq_eq_false_iff_ne.2 hj2]; rfl) hd _ (Nat.le_refl _)
def yq (a:dA):dA:=bif leb 4 (i64.wrap (a.2.2.2.2.2.1-a.2.2.2.2.2.2.1))then yW a else a
def yE (a:dA) (s:Int) (d:List Int):Int×dA :=bif ya (yq a)then(6,yq a)else bif ya (yQ (yq a) ((yq a).2.2.2.2.2.1,s,d))then(6,yQ (yq a) ((yq a).2.2.2.2.2.1,s,d))else (bif ya (yH (yaa (yQ (yq a) ((yq a).2.2.2.2.2.1,s,d))) s d)then 6 else 0,yH (yaa (yQ (yq a) ((yq a).2.2.2.2.2.1,s,d))) s d)
theorem yJe (a:dA):(yW a).2.1=a.2.1:=by
 unfold yW;cases ya (yx a)
 ·exact(yaQ (ynv (ybe (yx a)))).trans (show(yx a).2.1=a.2.1 from yaQ (ydf a))
 ·exact yaQ (ydf a)
theorem yKX (a:dA):(yq a).2.1=a.2.1:=by
 unfold yq;cases leb 4 (i64.wrap (a.2.2.2.2.2.1-a.2.2.2.2.2.2.1))
 ·rfl
 ·exact yJe a
theorem yoB {a:dA} (h:yap a) {i:Int} (h0:0≤i) (h1:i<a.2.1.1):yz (yl a i)=true∧((yl a i).1.length:Int)=6+a.2.1.2∧((yl a i).2.2.1=true→i=a.2.2.2.1∨a.2.2.2.2.2.2.2.2.2.2.2=true):=by
 have:=h.1.1 i.toNat (by have:=h.1.2; omega);unfold yzB at this;rw[Int.toNat_of_nonneg h0]at this;exact this
theorem yA8 {s:Int} (h0:0≤s) (h1:s≤1000):yX s=s+6:=by
 unfold yX;rw[zk2 h0,zk2 (show s≤1099511627776 by omega)]; rfl
def yad (a:dA) (s i:Int):Bool:=yP a.2.2.2.1 a.2.2.2.2.1 i s (yl a i)&& !(ykH (yl a i) (s+6))
def yHb (V:Int→Int→Int) (a:dA):Prop:= ∀i s,0≤i→i<a.2.1.1→0≤s→s<a.2.1.2→yad a s i=true→ylK (yl a i) (s+6)= [V s i]
def ydJ (V:Int→Int→Int) (N:Int) (s:Int):List Int:=(List.range N.toNat).map (fun(i:Nat)=>V s i)
structure EvV (g:dG) (V:Int→Int→Int):Prop where
 ev: ∀s,0≤s→s<g.2→yao (ydJ V g.1 s)=0
 ew: ∀s i,0≤s→s<g.2→0≤i→i<g.1→isW (V s i)=true
theorem ysk {V:Int→Int→Int} {a:dA} {i s:Int} (hg:ye a.2.1=true) (hk:yap a) (hv:yHb V a) (i0:0≤i) (i1:i<a.2.1.1) (s0:0≤s) (s1:s<a.2.1.2):yu a i s=yad a s i∧(yad a s i=true→yiW a i s=V s i):=by
 have hge:=yj.1 hg;have hin:inb i a.2.2.1.length=true:=zj6.2 (by have:=hk.1.2; omega);obtain⟨d1,d2,d3⟩:=yoB hk i0 i1
 have key:yP a.2.2.2.1 a.2.2.2.2.1 i s (yl a i)=true→ydh a i s=bif ykH (yl a i) (s+6)then([],false)else(ylK (yl a i) (s+6),true):=fun hl=>by
  simp only[yP,Bool.and_eq_true,Bool.not_eq_true']at hl;unfold ydh;rw[yA8 s0 (by omega)];exact y2M d1 hl.1 (zj6.2 (show 0≤s+6∧s+6<((yl a i).1.length:Int)by omega))
 have hw:yu a i s=yad a s i:=by
  unfold yu;rw[y0U hin];cases hl:yP a.2.2.2.1 a.2.2.2.2.1 i s (yl a i)
  ·unfold yad; rw[hl]; rfl
  ·rw[key hl]
   cases hb:ykH (yl a i) (s+6)
   ·have hh:yad a s i=true:=by unfold yad; rw[hl,hb]; rfl
    rw[hh,cond_false,hv i s i0 i1 s0 s1 hh]; rfl
   ·unfold yad; rw[hl,hb]; rfl
 refine⟨hw,fun hh=> ?_⟩;unfold yiW;rw[hw,hh,cond_true];have hh':=hh;unfold yad at hh';rw[Bool.and_eq_true,Bool.not_eq_true']at hh';rw[key hh'.1,hh'.2,cond_false,hv i s i0 i1 s0 s1 hh]; rfl
theorem y20: ∀(l:List Int) (k:Nat) (x:Int),k<l.length→yfd (l.set k x)=yfd l ^^^ bv (nth l k 0) ^^^ bv x:=by
 intro l k x hk
 have e1:l=l.take k++nth l k 0::l.drop (k+1):=by
  rw[zkS,zkJ hk,← List.drop_eq_getElem_cons hk,List.take_append_drop]
 have e2:l.set k x=l.take k++x::l.drop (k+1):=by
  rw[List.set_eq_take_append_cons_drop,if_pos hk]
 have fo: ∀(l:List Int) (v:BitVec 64),l.foldl (fun v x=>v ^^^ bv x) v=v ^^^ yfd l:=by
  intro l
  induction l with
  | nil=>intro v; show v=v ^^^ 0#64; rw[BitVec.xor_zero]
  | cons y t ih =>
   intro v;unfold yfd;rw[List.foldl_cons,List.foldl_cons,ih,ih (0#64 ^^^ bv y),BitVec.zero_xor,BitVec.xor_assoc]
 have cut: ∀(A:List Int) (y:Int) (B:List Int),yfd (A++y::B)=yfd A ^^^ bv y ^^^ yfd B:=fun A y B=>by
  show(A++y::B).foldl _ _=_;rw[List.foldl_append,List.foldl_cons,fo]; rfl
 rw[e2,cut]
 conv=>rhs; rw[e1]
 rw[cut];have hn:nth (List.take k l++nth l (↑k) 0::List.drop (k+1) l) (k:Int) 0=nth l k 0:=by rw[← e1]
 rw[hn,BitVec.xor_assoc (yfd (l.take k)),BitVec.xor_assoc (yfd (l.take k)),BitVec.xor_comm (bv (nth l k 0)),BitVec.xor_assoc (yfd (l.take k)),yXs,BitVec.xor_comm (bv x),BitVec.xor_assoc]
theorem y1z {l:List Int} (h:yao l=0):yfd l=0#64:=by
 rw[yn8]at h;have:=congrArg bv h;rw[ywo]at this;rw[this]; rfl
theorem yXi {p:Nat→Bool}: ∀{n:Nat},yeF p n=false→ ∀j,j<n→p j=true∨(j:Int)=yA p n
 | 0,_,j,hj=>absurd hj (Nat.not_lt_zero _)
 | n+1,h,j,hj=>by
  have h':yeF p n=false:=by
   unfold yeF at h ⊢;rw[List.range_succ,List.any_append,Bool.or_eq_false_iff]at h;exact h.1
  have hl:(!p n&&leb 0 (yA p n))=false:=by
   unfold yeF at h;rw[List.range_succ,List.any_append,Bool.or_eq_false_iff]at h;simpa using h.2
  unfold yA;rcases Nat.lt_succ_iff_lt_or_eq.1 hj with hj | rfl
  ·rcases yXi h' j hj with h1 | h1
   ·exact .inl h1
   ·cases hp:p n
    ·rw[hp,← h1]at hl
     rw[zk2 (show(0:Int)≤j by omega)]at hl; cases hl
    ·exact .inr h1
  ·cases hp:p j
   ·exact .inr rfl
   ·exact .inl rfl
theorem yXh {p:Nat→Bool}: ∀{n:Nat},leb 0 (yA p n)=false→ ∀j,j<n→p j=true
 | 0,_,j,hj=>absurd hj (Nat.not_lt_zero _)
 | n+1,h,j,hj=>by
  unfold yA at h;cases hp:p n
  ·rw[hp,cond_false,zk2 (show(0:Int)≤n by omega)]at h; cases h
  ·rw[hp,cond_true]at h
   rcases Nat.lt_succ_iff_lt_or_eq.1 hj with hj | rfl
   ·exact yXh h j hj
   ·exact hp
theorem yKS (V:Int→Int→Int) (N s:Int):(ydJ V N s).length=N.toNat:=by unfold ydJ; rw[List.length_map,List.length_range]
theorem y2d (V:Int→Int→Int) (N s:Int) {j:Nat} (h:j<(ydJ V N s).length):(ydJ V N s)[j]=V s j:=by simp[ydJ]
theorem yQR (V:Int→Int→Int) {N s i:Int} (h0:0≤i) (h1:i<N):nth (ydJ V N s) i 0=V s i:=by
 unfold ydJ nth;rw[zkJ (by rw[List.length_map,List.length_range]; omega),List.getElem_map,List.getElem_range,Int.toNat_of_nonneg h0]
theorem yUv {V:Int→Int→Int} {a:dA} {s:Int} (hg:ye a.2.1=true) (hk:yap a) (he:EvV a.2.1 V) (hv:yHb V a) (s0:0≤s) (s1:s<a.2.1.2) :
  yR a s=bif yeF (fun(i:Nat)=>yad a s i) a.2.1.1.toNat then([],false)else(ydJ V a.2.1.1 s,true):=by
 have hw: ∀i:Nat,i<a.2.1.1.toNat→yu a i s=yad a s i:=fun i hi=>(ysk hg hk hv (by omega) (by omega) s0 s1).1
 have hm: ∀n,n≤a.2.1.1.toNat→yA (fun(i:Nat)=>yu a i s) n=yA (fun(i:Nat)=>yad a s i) n:=by
  intro n
  induction n with
  | zero=>intro _; rfl
  | succ n ih=>intro hn; unfold yA; rw[hw n (by omega),ih (by omega)]
 have h2:yeF (fun(i:Nat)=>yu a i s) a.2.1.1.toNat=yeF (fun(i:Nat)=>yad a s i) a.2.1.1.toNat:=by
  unfold yeF;rw[Bool.eq_iff_iff,List.any_eq_true,List.any_eq_true];constructor
  ·rintro⟨i,hi,h⟩
   have hi':=List.mem_range.1 hi;exact⟨i,hi,by dsimp only at h ⊢; rw[hw i hi',hm i (by omega)]at h; exact h⟩
  ·rintro⟨i,hi,h⟩
   have hi':=List.mem_range.1 hi;exact⟨i,hi,by dsimp only at h ⊢; rw[hw i hi',hm i (by omega)]; exact h⟩
 unfold yR;rw[h2,hm _ (Nat.le_refl _)];cases hc:yeF (fun(i:Nat)=>yad a s i) a.2.1.1.toNat
 ·simp only[cond_false]
  cases hn:leb 0 (yA (fun(i:Nat)=>yad a s i) a.2.1.1.toNat)
  ·simp only[cond_false]
   congr 1;refine List.map_congr_left fun i hi=> ?_
   have hi':=List.mem_range.1 hi;exact(ysk hg hk hv (by omega) (by omega) s0 s1).2 (yXh hn i hi')
  ·simp only[cond_true]
   congr 1;rcases yJZ (fun(i:Nat)=>yad a s i) a.2.1.1.toNat with h3 | ⟨k0,k1,k2⟩
   ·rw[h3]at hn; cases hn
   ·have hu:=yXi hc
    generalize yA (fun(i:Nat)=>yad a s i) a.2.1.1.toNat=k at *;obtain⟨k,rfl⟩: ∃m:Nat,k=m:=⟨k.toNat,by omega⟩;rw[Int.toNat_natCast]at k2 ⊢;have hkl:k<(ydJ V a.2.1.1 s).length:=by rw[yKS]; omega
    have e:yV a s a.2.1.1.toNat=(ydJ V a.2.1.1 s).set k 0:=by
     refine List.ext_getElem (by rw[yfc,List.length_set,yKS]) fun j h3 h4=> ?_
     rw[yfc]at h3;rw[List.getElem_set];have e1:(yV a s a.2.1.1.toNat)[j]'(by rw[yfc]; exact h3)=yiW a j s:=by unfold yV; simp
     have e2:(ydJ V a.2.1.1 s)[j]'(by rw[yKS]; exact h3)=V s j:=by unfold ydJ; simp
     rw[e1];by_cases hj:k=j
     ·subst hj
      rw[if_pos rfl];unfold yiW;rw[hw k (by omega),k2]; rfl
     ·rw[if_neg hj,e2]
      rcases hu j h3 with h5 | h5
      ·exact(ysk hg hk hv (by omega) (by omega) s0 s1).2 h5
      ·exact absurd h5 (by omega)
    have hx:yao (yV a s a.2.1.1.toNat)=V s k:=by
     rw[e,yn8,y20 _ _ _ hkl,y1z (he.ev s s0 s1),BitVec.zero_xor,show bv 0=0#64 by decide,BitVec.xor_zero,yQR V (by omega) (by omega)];have:=ywu.1 (he.ew s k s0 s1 (by omega) (by omega));exact y2T (by omega) (by omega)
    rw[hx,e,List.set_set];refine List.ext_getElem (by rw[List.length_set]) fun j h3 h4=> ?_
    rw[List.getElem_set];by_cases hj:k=j
    ·subst hj
     rw[if_pos rfl];exact(y2d _ _ _ h4).symm
    ·rw[if_neg hj]
 ·rfl
def yXP:Code:=(f83.body).getD .skip
def yYk:Env:=zkw TT [(72,yeu)] []
theorem yOD:FrOk prog ⟨yYk,9,fun _=>none⟩ yXP:=zkA mixed yc ⟨yiF,trivial⟩
abbrev yyS:List Par:= [.pt tU .fz,.rd tI]
abbrev yzm:List OT:= [⟨false,tB,.fz⟩]
def ycc (a0:dU) (a1:Int):Option (zaY yzm×zak yyS) :=bnd (yk a0 a1) fun r1 =>some (((r1.1.1==0),()),(r1.2.1,()))
theorem yTC:ConOk prog 83 ⟨yyS,yzm,fun x=>ycc x.1 x.2.1⟩:=zkI (yOD) func83 ntmps83.symm fun x=>by kernel_rfl
def yEJ:Con:=⟨yyS,yzm,fun x=>ycc x.1 x.2.1⟩
theorem yWE:ConOk prog 83 yEJ:=yTC
theorem y0O (u:dU) (n:Int) (h:yeH u): ∃(r:Bool) (u':dU),ycc u n=some ((r,()),(u',()))∧yeH u':=by
 unfold ycc;obtain⟨r,u1,e1,_,d1⟩:=yfo u n h;simp only[e1,zkH];exact⟨_,_,rfl,d1⟩
def yfm:Code:=(f76.body).getD .skip
def yk5:Env:=zkw TT [] [(21056,.fz),(21120,.fz),(37952,(.pr .fz .fz)),(38016,(.pr .fz .fz))]
theorem yOG:FrOk prog ⟨yk5,60,fun _=>none⟩ yfm:=zkA mixed yc trivial
def yEc:Nat→Option Seg:=fun _=>none
def ycI:Shape:=⟨[(1,false,[.ptr 0 0]),(2,false,[.ptr 64 0]),(3,false,[.ptr 4544 0]),(4,false,[.int .i64])],[(0,[.br tL,.br tW,.bool,.br tI]),(64,[.nil,.nil,.bool,.nil]),(4544,[.at 800000001,.nil,.bool,.at 800000000])],[(800000001,tL,.fz),(800000000,tI,.fz)]⟩
def ygJ:Shape:=⟨[(1,false,[.ptr 0 0]),(2,false,[.ptr 64 0]),(3,false,[.ptr 4544 0]),(4,false,[.ci .i64 0])],[(0,[.br tL,.br tW,.bool,.br tI]),(64,[.nil,.nil,.bool,.nil]),(4544,[.at 800000001,.nil,.bool,.at 800000000])],[(800000001,tL,.fz),(800000000,tI,.fz)]⟩
def ygz:Shape:=⟨[(1,false,[.ptr 0 0]),(2,false,[.ptr 64 0]),(3,false,[.ptr 4544 0])],[(0,[.br tL,.br tW,.bool,.br tI]),(64,[.nil,.nil,.bool,.nil]),(4544,[.at 800000000,.nil,.bool,.at 800000001])],[(800000000,tL,.fz),(800000001,tI,.fz)]⟩
def ykB:Shape:=⟨[],[],[]⟩
abbrev ypm (v0:Int) (v1 v2 v3:dM):(ycI).X:=((((),()),((),()),((),()),(v0,()),()),((v1.1,v1.2.1,v1.2.2.1,v1.2.2.2,()),((),(),v2.2.2.1,(),()),((),(),v3.2.2.1,(),()),()),(v3.1,v3.2.2.2,()))
abbrev yMw (v0 v1 v2:dM):(ygJ).X:=((((),()),((),()),((),()),((),()),()),((v0.1,v0.2.1,v0.2.2.1,v0.2.2.2,()),((),(),v1.2.2.1,(),()),((),(),v2.2.2.1,(),()),()),(v2.1,v2.2.2.2,()))
abbrev yAM (v0 v1 v2:dM):(ygz).X:=((((),()),((),()),((),()),()),((v0.1,v0.2.1,v0.2.2.1,v0.2.2.2,()),((),(),v1.2.2.1,(),()),((),(),v2.2.2.1,(),()),()),(v2.1,v2.2.2.2,()))
def ypU (v0:Int) (v1:List (List Int)) (v2:List dW) (v3:Bool) (v4:List Int) (v5 v6:Bool) (v7:List (List Int)) (v8:List Int):Option ((ycI).X ⊕ ((ygz).X ⊕ (ykB).X)) :=bif(ltb v0 (v1.length:Int))then bif(inb v0 v1.length)then bif(zkl ([]:List Int).length (nth v1 v0 []).length 8)then bif(zkl v7.length ([(([]:List Int)++(nth v1 v0 []))]:List (List Int)).length 24)then some (.inl ((((),()),((),()),((),()),((i64.wrap (v0+1)),()),()),((v1,v2,v3,v4,()),((),(),v5,(),()),((),(),v6,(),()),()),((v7++([(([]:List Int)++(nth v1 v0 []))]:List (List Int))),v8,()))) else none else none else none else some (.inr (.inl ((((),()),((),()),((),()),()),((v1,v2,v3,v4,()),((),(),v5,(),()),((),(),v6,(),()),()),(v7,v8,()))))
def yda (x:(ycI).X):=ypU x.1.2.2.2.1.1 x.2.1.1.1 x.2.1.1.2.1 x.2.1.1.2.2.1 x.2.1.1.2.2.2.1 x.2.1.2.1.2.2.1 x.2.1.2.2.1.2.2.1 x.2.2.1 x.2.2.2.1
def yAv (x:(ygJ).X):(ycI).X:=((((),()),((),()),((),()),(0,()),()),((x.2.1.1.1,x.2.1.1.2.1,x.2.1.1.2.2.1,x.2.1.1.2.2.2.1,()),((),(),x.2.1.2.1.2.2.1,(),()),((),(),x.2.1.2.2.1.2.2.1,(),()),()),(x.2.2.1,x.2.2.2.1,()))
def yCl:Code:=(zd7 yfm 64 116).getD .skip
theorem yN2:zd7 yfm 64 29=some (.block 0 (.loop yCl)):=by kernel_rfl
theorem yQL (x:(ycI).X):zhu ⟨yk5,60,yEc⟩ 0 yCl 116 ycI ygz ykB x=yda x:=by kernel_rfl
def yAF (x:(ygJ).X):Nat:=18446744073709551616
def yqQ (x:(ygJ).X):Option ((ygz).X ⊕ (ykB).X):=zF yda (yAF x) (yAv x)
def yAZ:Seg:=⟨ygJ,ygz,ykB,yqQ⟩
def ysy:Nat→Option Seg:=fun q=>bif Nat.beq q 29 then some yAZ else yEc q
theorem yOH:FrOk prog ⟨yk5,60,ysy⟩ yfm:=(yOG).loop (sg:=yAZ) ycI yAv (by decide) yN2 yda yAF (by decide) (fun _=>rfl) (fun x r _ h=>h) yQL
def ycJ:Shape:=⟨[(1,false,[.ptr 0 0]),(2,false,[.ptr 64 0]),(3,false,[.ptr 4544 0]),(5,false,[.int .i64])],[(0,[.br tL,.br tW,.bool,.br tI]),(64,[.nil,.nil,.bool,.nil]),(4544,[.at 800000000,.at 800000002,.bool,.at 800000001])],[(800000000,tL,.fz),(800000002,tW,(.pr .fz .fz)),(800000001,tI,.fz)]⟩
def ygK:Shape:=⟨[(1,false,[.ptr 0 0]),(2,false,[.ptr 64 0]),(3,false,[.ptr 4544 0]),(5,false,[.ci .i64 0])],[(0,[.br tL,.br tW,.bool,.br tI]),(64,[.nil,.nil,.bool,.nil]),(4544,[.at 800000000,.at 800000002,.bool,.at 800000001])],[(800000000,tL,.fz),(800000002,tW,(.pr .fz .fz)),(800000001,tI,.fz)]⟩
def ygA:Shape:=⟨[(2,false,[.ptr 64 0]),(3,false,[.ptr 4544 0])],[(64,[.nil,.nil,.bool,.nil]),(4544,[.at 800000000,.at 800000001,.bool,.at 800000002])],[(800000000,tL,.fz),(800000001,tW,(.pr .fz .fz)),(800000002,tI,.fz)]⟩
def ykC:Shape:=⟨[],[],[]⟩
abbrev ypn (v0:Int) (v1 v2 v3:dM):(ycJ).X:=((((),()),((),()),((),()),(v0,()),()),((v1.1,v1.2.1,v1.2.2.1,v1.2.2.2,()),((),(),v2.2.2.1,(),()),((),(),v3.2.2.1,(),()),()),(v3.1,v3.2.1,v3.2.2.2,()))
abbrev yMx (v0 v1 v2:dM):(ygK).X:=((((),()),((),()),((),()),((),()),()),((v0.1,v0.2.1,v0.2.2.1,v0.2.2.2,()),((),(),v1.2.2.1,(),()),((),(),v2.2.2.1,(),()),()),(v2.1,v2.2.1,v2.2.2.2,()))
abbrev yAN (v0 v1:dM):(ygA).X:=((((),()),((),()),()),(((),(),v0.2.2.1,(),()),((),(),v1.2.2.1,(),()),()),(v1.1,v1.2.1,v1.2.2.2,()))
def ypV (v0:Int) (v1:List (List Int)) (v2:List dW) (v3:Bool) (v4:List Int) (v5 v6:Bool) (v7:List (List Int)) (v8:List dW) (v9:List Int):Option ((ycJ).X ⊕ ((ygA).X ⊕ (ykC).X)) :=bif(ltb v0 (v2.length:Int))then bif(inb v0 v2.length)then bif(inb v0 v2.length)then bif(zkl ([]:List Int).length ((nth v2 v0 (0,[])).2).length 8)then bif(zkl v8.length ([((nth v2 v0 (0,[])).1,(([]:List Int)++((nth v2 v0 (0,[])).2)))]:List dW).length 32)then some (.inl ((((),()),((),()),((),()),((i64.wrap (v0+1)),()),()),((v1,v2,v3,v4,()),((),(),v5,(),()),((),(),v6,(),()),()),(v7,(v8++([((nth v2 v0 (0,[])).1,(([]:List Int)++((nth v2 v0 (0,[])).2)))]:List dW)),v9,()))) else none else none else none else none else some (.inr (.inl ((((),()),((),()),()),(((),(),v5,(),()),((),(),v6,(),()),()),(v7,v8,v9,()))))
def ydb (x:(ycJ).X):=ypV x.1.2.2.2.1.1 x.2.1.1.1 x.2.1.1.2.1 x.2.1.1.2.2.1 x.2.1.1.2.2.2.1 x.2.1.2.1.2.2.1 x.2.1.2.2.1.2.2.1 x.2.2.1 x.2.2.2.1 x.2.2.2.2.1
def yAw (x:(ygK).X):(ycJ).X:=((((),()),((),()),((),()),(0,()),()),((x.2.1.1.1,x.2.1.1.2.1,x.2.1.1.2.2.1,x.2.1.1.2.2.2.1,()),((),(),x.2.1.2.1.2.2.1,(),()),((),(),x.2.1.2.2.1.2.2.1,(),()),()),(x.2.2.1,x.2.2.2.1,x.2.2.2.2.1,()))
def yCm:Code:=(zd7 yfm 64 244).getD .skip
theorem yN3:zd7 yfm 64 61=some (.block 2 (.loop yCm)):=by kernel_rfl
theorem yQM (x:(ycJ).X):zhu ⟨yk5,60,ysy⟩ 2 yCm 244 ycJ ygA ykC x=ydb x:=by kernel_rfl
def yAG (x:(ygK).X):Nat:=18446744073709551616
def yqR (x:(ygK).X):Option ((ygA).X ⊕ (ykC).X):=zF ydb (yAG x) (yAw x)
def yA0:Seg:=⟨ygK,ygA,ykC,yqR⟩
def yRb:Nat→Option Seg:=fun q=>bif Nat.beq q 61 then some yA0 else ysy q
theorem yOI:FrOk prog ⟨yk5,60,yRb⟩ yfm:=(yOH).loop (sg:=yA0) ycJ yAw (by decide) yN3 ydb yAG (by decide) (fun _=>rfl) (fun x r _ h=>h) yQM
abbrev yqr:List Par:= [.rd tM]
abbrev yzp:List OT:= [⟨false,tM,(.pr (.ow .fz) (.pr (.ow (.pr .fz .fz)) (.pr .fz (.ow .fz))))⟩]
def yuE (a0:dM):Option (zaY yzp×zak yqr) :=bif(zkl ([]:List Int).length a0.2.2.2.length 8)then zkt (yqQ ((((),()),((),()),((),()),((),()),()),((a0.1,a0.2.1,a0.2.2.1,a0.2.2.2,()),((),(),false,(),()),((),(),a0.2.2.1,(),()),()),([],(([]:List Int)++a0.2.2.2),()))) (fun y0 =>zkt (yqR ((((),()),((),()),((),()),((),()),()),((y0.2.1.1.1,y0.2.1.1.2.1,y0.2.1.1.2.2.1,y0.2.1.1.2.2.2.1,()),((),(),y0.2.1.2.1.2.2.1,(),()),((),(),y0.2.1.2.2.1.2.2.1,(),()),()),(y0.2.2.1,[],y0.2.2.2.1,()))) (fun y1 =>some (((y1.2.2.1,y1.2.2.2.1,y1.2.1.2.1.2.2.1,y1.2.2.2.2.1),()),())) (fun y1 =>none)) (fun y0 =>none) else none
theorem yTF:ConOk prog 76 ⟨yqr,yzp,fun x=>yuE x.1⟩:=zkI (yOI) func76 ntmps76.symm fun x=>by kernel_rfl
def yaz (a0:dM):dM:=a0
theorem yVW (a0:dM) (hk:zjx yqr (a0,())):yuE a0=(fun n=>some ((n,()),())) (yaz a0):=by
 have hb1:a0.1.length*24≤2^47:=hk.1.1.1;have hb2:a0.2.1.length*32≤2^47:=hk.1.2.1.1;have hb3:a0.2.2.2.length*8≤2^47:=hk.1.2.2.2.1;have hs: ∀i,i<a0.1.length→(a0.1.getD i []).length*8≤2^47:=fun i hi=>by rw[zkJ hi]; exact(hk.1.1.2 _ (List.getElem_mem hi)).1
 have hc: ∀i,i<a0.2.1.length→(a0.2.1.getD i (0,[])).2.length*8≤2^47:=fun i hi=>by rw[zkJ hi]; exact(hk.1.2.1.2 _ (List.getElem_mem hi)).2.1
 have h1:yqQ (yMw a0 yh ([],[],a0.2.2.1,a0.2.2.2))=some (.inl (yAM a0 yh (a0.1,[],a0.2.2.1,a0.2.2.2))):=by
  have:=zkx (step:=yda) a0.1 [] (fun i s=>ypm i a0 yh (s,[],a0.2.2.1,a0.2.2.2)) (fun s x=>s++ [x]) (fun i s=>s.length=i) (fun s=> .inl (yAM a0 yh (s,[],a0.2.2.1,a0.2.2.2))) (fun i s hi hs2=>⟨by
   have:=hs i hi;simp only[yda,ypm,ypU,zky (show(i:Int)<a0.1.length by omega),cond_true,wq ((i:Int)+1) (by omega) (by omega),Int.natCast_add,Int.natCast_one,Int.toNat_natCast,zkR hi,zkS,List.nil_append]
   rw[zkF.2 (show(([]:List Int).length+(a0.1.getD i []).length)*8≤140737488355328 by rw[List.length_nil]; omega),zkF.2 (show(s.length+ [a0.1.getD i []].length)*24≤140737488355328 by simp only[List.length_cons,List.length_nil]; omega)]; rfl,by simp[hs2]⟩) (fun s _=>by simp only[yda,ypm,ypU,zk3 (Int.le_refl _),cond_false]) [] rfl 18446744073709551616 (by omega)
  rw[ywt]at this;exact this
 have h2:yqR (yMx a0 yh (a0.1,[],a0.2.2.1,a0.2.2.2))=some (.inl (yAN yh a0)):=by
  have:=zkx (step:=ydb) a0.2.1 (0,[]) (fun i s=>ypn i a0 yh (a0.1,s,a0.2.2.1,a0.2.2.2)) (fun s x=>s++ [x]) (fun i s=>s.length=i) (fun s=> .inl (yAN yh (a0.1,s,a0.2.2.1,a0.2.2.2))) (fun i s hi hs2=>⟨by
   have:=hc i hi;simp only[ydb,ypn,ypV,zky (show(i:Int)<a0.2.1.length by omega),cond_true,wq ((i:Int)+1) (by omega) (by omega),Int.natCast_add,Int.natCast_one,Int.toNat_natCast,zkR hi,zkS,List.nil_append,zkX]
   rw[zkF.2 (show(([]:List Int).length+(a0.2.1.getD i (0,[])).2.length)*8≤140737488355328 by rw[List.length_nil]; omega),zkF.2 (show(s.length+ [a0.2.1.getD i (0,[])].length)*32≤140737488355328 by simp only[List.length_cons,List.length_nil]; omega)]; rfl,by simp[hs2]⟩) (fun s _=>by simp only[ydb,ypn,ypV,zk3 (Int.le_refl _),cond_false]) [] rfl 18446744073709551616 (by omega)
  rw[ywt]at this;exact this
 unfold yuE yaz;rw[zkF.2 (show(([]:List Int).length+a0.2.2.2.length)*8≤140737488355328 by rw[List.length_nil]; omega)];simp only[cond_true,List.nil_append,h1,zkN,h2]
def yir:Con:=⟨yqr,yzp,fun x=>(fun n=>some ((n,()),())) (yaz x.1)⟩
theorem yoN:ConOk prog 76 yir:=(yTF).mono (fun x r hk h=>(yVW x.1 hk).trans h)
def yUE:Code:=(f143.body).getD .skip
def yU7:Env:=zkw TT [(76,yir)] [(12288,(.pr .fz .fz))]
theorem yL6:FrOk prog ⟨yU7,10,fun _=>none⟩ yUE:=zkA mixed yc ⟨yoN,trivial⟩
abbrev yvZ:List Par:= [.rd tM]
abbrev ywh:List OT:= [⟨false,tM,(.pr (.ow .fz) (.pr (.ow (.pr .fz .fz)) (.pr .fz (.ow .fz))))⟩]
def yDH (a0:dM):Option (zaY ywh×zak yvZ) :=let r1:=yaz a0;some (((r1.1,([]:List dW),true,r1.2.2.2),()),())
theorem yQc:ConOk prog 143 ⟨yvZ,ywh,fun x=>yDH x.1⟩:=zkI (yL6) func143 ntmps143.symm fun x=>by kernel_rfl
def yoH (a0:dM):dM :=let r1:=yaz a0;(r1.1,([]:List dW),true,r1.2.2.2)
def yCB:Con:=⟨yvZ,ywh,fun x=>(fun n=>some ((n,()),())) (yoH x.1)⟩
theorem yS1 (a0:dM):yDH a0=(fun n=>some ((n,()),())) (yoH a0):=zkV (p:=fun(n:dM)=>((n,()),())) rfl
theorem yT0:ConOk prog 143 yCB:=(yQc).mono (fun x r _ h=>(yS1 x.1).trans h)
def ykr:Code:=(f245.body).getD .skip
def yqL:Env:=zkw TT [] []
theorem yIn:FrOk prog ⟨yqL,28,fun _=>none⟩ ykr:=zkA mixed yc trivial
def yxb:Nat→Option Seg:=fun _=>none
def ya3:Shape:=⟨[(0,false,[.br tI]),(1,false,[.int .i64]),(5,false,[.at 800000000]),(6,false,[.int .i64])],[],[(800000000,tI,.fz)]⟩
def yem:Shape:=⟨[(0,false,[.br tI]),(1,false,[.int .i64]),(5,false,[.at 800000000]),(6,false,[.ci .i64 0])],[],[(800000000,tI,.fz)]⟩
def yeh:Shape:=⟨[(5,false,[.at 800000000])],[],[(800000000,tI,.fz)]⟩
def yhj:Shape:=⟨[],[],[]⟩
abbrev ykQ (v0:List Int) (v1 v2:Int) (v3:List Int):(ya3).X:=(((v0,()),(v1,()),((),()),(v2,()),()),(),(v3,()))
abbrev yHC (v0:List Int) (v1:Int) (v2:List Int):(yem).X:=(((v0,()),(v1,()),((),()),((),()),()),(),(v2,()))
abbrev yHx (v0:List Int):(yeh).X:=((((),()),()),(),(v0,()))
def yk3 (v0:List Int) (v1 v2:Int) (v3:List Int):Option ((ya3).X ⊕ ((yeh).X ⊕ (yhj).X)) :=bif(ltb v2 (v0.length:Int))then bif(inb v2 v0.length)then bif((nth v0 v2 0) !=v1)then bif(inb v2 v0.length)then bif(zkl v3.length ([(nth v0 v2 0)]:List Int).length 8)then some (.inl (((v0,()),(v1,()),((),()),((i64.wrap (v2+1)),()),()),(),((v3++([(nth v0 v2 0)]:List Int)),()))) else none else none else some (.inl (((v0,()),(v1,()),((),()),((i64.wrap (v2+1)),()),()),(),(v3,()))) else none else some (.inr (.inl ((((),()),()),(),(v3,()))))
def ybl (x:(ya3).X):=yk3 x.1.1.1 x.1.2.1.1 x.1.2.2.2.1.1 x.2.2.1
def yt5 (x:(yem).X):(ya3).X:=(((x.1.1.1,()),(x.1.2.1.1,()),((),()),(0,()),()),(),(x.2.2.1,()))
def yuY:Code:=(zd7 ykr 64 116).getD .skip
theorem yId:zd7 ykr 64 29=some (.block 0 (.loop yuY)):=by kernel_rfl
theorem yIS (x:(ya3).X):zhu ⟨yqL,28,yxb⟩ 0 yuY 116 ya3 yeh yhj x=ybl x:=by kernel_rfl
def yua (x:(yem).X):Nat:=18446744073709551616
def ylI (x:(yem).X):Option ((yeh).X ⊕ (yhj).X):=zF ybl (yua x) (yt5 x)
def yuP:Seg:=⟨yem,yeh,yhj,ylI⟩
def yIY:Nat→Option Seg:=fun q=>bif Nat.beq q 29 then some yuP else yxb q
theorem yIo:FrOk prog ⟨yqL,28,yIY⟩ ykr:=(yIn).loop (sg:=yuP) ya3 yt5 (by decide) yId ybl yua (by decide) (fun _=>rfl) (fun x r _ h=>h) yIS
abbrev ykv:List Par:= [.rd tL,.rd tI]
abbrev yq1:List OT:= [⟨false,tL,(.ow .fz)⟩]
def ynT (a0:List Int) (a1:Int):Option (zaY yq1×zak ykv) :=zkt (ylI (((a0,()),(a1,()),((),()),((),()),()),(),(([]:List Int),()))) (fun y0 =>some ((y0.2.2.1,()),())) (fun y0 =>none)
theorem yKv:ConOk prog 245 ⟨ykv,yq1,fun x=>ynT x.1 x.2.1⟩:=zkI (yIo) func245 ntmps245.symm fun x=>by kernel_rfl
def yg2 (a0:List Int) (a1:Int):List Int:=yHT a0 a1
theorem yJj {α:Type} (p:α→Bool): ∀(l:List α) (s:List α),l.foldl (fun s x=>bif p x then s++ [x]else s) s=s++l.filter p
 | [],s=>by simp
 | x::l,s=>by
  rw[List.foldl_cons,yJj p l,List.filter_cons];cases p x<;>simp
theorem yMJ (a0:List Int) (a1:Int) (hk:zjx ykv (a0,a1,())):ynT a0 a1=(fun n=>some ((n,()),())) (yg2 a0 a1):=by
 have hb:a0.length*8≤2^47:=hk.1.1
 have h1:=zkx (step:=ybl) a0 0 (fun i s=>ykQ a0 a1 i s) (fun s x=>bif x !=a1 then s++ [x]else s) (fun i s=>s.length≤i) (fun s=> .inl (yHx s)) (fun i s hi hs=>by
   constructor
   ·simp only[ybl,ykQ,yk3,zky (show(i:Int)<a0.length by omega),cond_true,wq ((i:Int)+1) (by omega) (by omega),Int.natCast_add,Int.natCast_one,Int.toNat_natCast,zkR hi,zkS]
    rw[zkF.2 (show(s.length+ [a0.getD i 0].length)*8≤140737488355328 by simp only[List.length_cons,List.length_nil]; omega)];cases(a0.getD i 0 !=a1)<;>rfl
   ·cases(a0.getD i 0 !=a1)
    ·show s.length≤_; omega
    ·simp only[cond_true,List.length_append,List.length_cons,List.length_nil]; omega) (fun s _=>by simp only[ybl,ykQ,yk3,zk3 (Int.le_refl _),cond_false]) [] (Nat.le_refl _) 18446744073709551616 (by omega)
 unfold ynT yg2 yHT;rw[show ylI (yHC a0 a1 [])=_ from h1,yJj]; rfl
def yxs:Con:=⟨ykv,yq1,fun x=>(fun n=>some ((n,()),())) (yg2 x.1 x.2.1)⟩
theorem yNd:ConOk prog 245 yxs:=(yKv).mono (fun x r hk h=>(yMJ x.1 x.2.1 hk).trans h)
def yQ4:Code:=(f225.body).getD .skip
def yRs:Env:=zkw TT [(76,yir),(82,yF),(160,ygk),(202,ywr),(245,yxs)] [(16832,(.pr .fz .fz))]
theorem yJS:FrOk prog ⟨yRs,55,fun _=>none⟩ yQ4:=zkA mixed yc ⟨yoN,yK,ylu,yH2,yNd,trivial⟩
abbrev ymA:List Par:= [.rd tM,.rd tI,.rd tL]
abbrev ytB:List OT:= [⟨false,tM,(.pr (.ow .fz) (.pr (.ow (.pr .fz .fz)) (.pr .fz (.ow .fz))))⟩,⟨false,tB,.fz⟩]
def ypN (a0:dM) (a1:Int) (a2:List Int):Option (zaY ytB×zak ymA) :=let r1:=yaz a0;let r2:=yaC a0;bif(!(!r2))then bif(!a0.2.2.1)then let r3:=yb a1 0 (i64.wrap ((a0.1.length:Int)-1));bif(!(!r3))then let r4:=yg0 a2;bif(!(!r4))then bif(leb 60 (a0.2.1.length:Int))then some ((r1,false,()),()) else bif(zkl ([]:List Int).length a2.length 8)then bif(zkl r1.2.1.length ([(a1,(([]:List Int)++a2))]:List dW).length 32)then let r5:=yg2 a0.2.2.2 a1;some (((r1.1,(r1.2.1++([(a1,(([]:List Int)++a2))]:List dW)),r1.2.2.1,r5),true,()),()) else none else none else some ((r1,false,()),()) else some ((r1,false,()),()) else some ((r1,false,()),()) else some ((r1,false,()),())
theorem yM6:ConOk prog 225 ⟨ymA,ytB,fun x=>ypN x.1 x.2.1 x.2.2.1⟩:=zkI (yJS) func225 ntmps225.symm fun x=>by kernel_rfl
def yiB (a0:dM) (a1:Int) (a2:List Int):dM×Bool:=yae a0 a1 a2
theorem yPT (a0:dM) (a1:Int) (a2:List Int) (hk:zjx ymA (a0,a1,a2,())):ypN a0 a1 a2=(fun n=>some ((n.1,n.2,()),())) (yiB a0 a1 a2):=by
 have hb1:a0.1.length*24≤2^47:=hk.1.1.1;have hb2:a2.length*8≤2^47:=hk.2.2.1.1;unfold ypN yiB yae ybu;simp only[yaz,yaC,ynu (show a0.1.length≤1152921504606846976 by omega),yFX,yg2,List.nil_append];cases yz a0
 ·rfl
 cases a0.2.2.1
 ·cases inb a1 a0.1.length
  ·rfl
  cases yan a2
  ·rfl
  by_cases h:(a0.2.1.length:Int)<60
  ·rw[zky h,zk1 h,zkF.2 (show(([]:List Int).length+a2.length)*8≤140737488355328 by rw[List.length_nil]; omega),zkF.2 (show(a0.2.1.length+ [(a1,a2)].length)*32≤140737488355328 by simp only[List.length_cons,List.length_nil]; omega)]; rfl
  ·rw[zk3 (by omega),zk2 (by omega)]; rfl
 ·rfl
def yAo:Con:=⟨ymA,ytB,fun x=>(fun n=>some ((n.1,n.2,()),())) (yiB x.1 x.2.1 x.2.2.1)⟩
theorem yQB:ConOk prog 225 yAo:=(yM6).mono (fun x r hk h=>(yPT x.1 x.2.1 x.2.2.1 hk).trans h)
def y0q:Code:=(f228.body).getD .skip
def y0s:Env:=zkw TT [] []
theorem yVs:FrOk prog ⟨y0s,31,fun _=>none⟩ y0q:=zkA mixed yc trivial
abbrev yFG:List Par:= [.pt tA (.pr .fz (.pr (.pr .fz .fz) (.pr (.ow (.pr (.ow .fz) (.pr (.ow (.pr .fz .fz)) (.pr .fz (.ow .fz))))) (.pr .fz (.pr .fz (.pr .fz (.pr .fz (.pr .fz (.pr (.ow (.pr .fz .fz)) (.pr .fz (.pr .fz .fz)))))))))))]
abbrev yFK:List OT:= [⟨false,tB,.fz⟩]
def yH5 (a0:dA):Option (zaY yFK×zak yFG) :=bif a0.2.2.2.2.2.2.2.2.2.2.1 then some ((false,()),(a0,())) else bif(a0.2.2.2.2.2.2.2.2.2.1==0)then some ((false,()),((a0.1,a0.2.1,a0.2.2.1,a0.2.2.2.1,a0.2.2.2.2.1,a0.2.2.2.2.2.1,a0.2.2.2.2.2.2.1,a0.2.2.2.2.2.2.2.1,a0.2.2.2.2.2.2.2.2.1,(-1),true,a0.2.2.2.2.2.2.2.2.2.2.2),())) else bif(ltb 0 a0.2.2.2.2.2.2.2.2.2.1)then some ((true,()),((a0.1,a0.2.1,a0.2.2.1,a0.2.2.2.1,a0.2.2.2.2.1,a0.2.2.2.2.2.1,a0.2.2.2.2.2.2.1,a0.2.2.2.2.2.2.2.1,a0.2.2.2.2.2.2.2.2.1,(i64.wrap (a0.2.2.2.2.2.2.2.2.2.1-1)),a0.2.2.2.2.2.2.2.2.2.2),())) else some ((true,()),(a0,()))
theorem yYS:ConOk prog 228 ⟨yFG,yFK,fun x=>yH5 x.1⟩:=zkI (yVs) func228 ntmps228.symm fun x=>by kernel_rfl
def yp7 (a0:dA):Bool×dA :=bif a0.2.2.2.2.2.2.2.2.2.2.1 then (false,a0) else bif(a0.2.2.2.2.2.2.2.2.2.1==0)then (false,(a0.1,a0.2.1,a0.2.2.1,a0.2.2.2.1,a0.2.2.2.2.1,a0.2.2.2.2.2.1,a0.2.2.2.2.2.2.1,a0.2.2.2.2.2.2.2.1,a0.2.2.2.2.2.2.2.2.1,(-1),true,a0.2.2.2.2.2.2.2.2.2.2.2)) else bif(ltb 0 a0.2.2.2.2.2.2.2.2.2.1)then (true,(a0.1,a0.2.1,a0.2.2.1,a0.2.2.2.1,a0.2.2.2.2.1,a0.2.2.2.2.2.1,a0.2.2.2.2.2.2.1,a0.2.2.2.2.2.2.2.1,a0.2.2.2.2.2.2.2.2.1,(i64.wrap (a0.2.2.2.2.2.2.2.2.2.1-1)),a0.2.2.2.2.2.2.2.2.2.2)) else (true,a0)
def yzx:Con:=⟨yFG,yFK,fun x=>(fun n=>some ((n.1,()),(n.2,()))) (yp7 x.1)⟩
theorem yZ6 (a0:dA):yH5 a0=(fun n=>some ((n.1,()),(n.2,()))) (yp7 a0):=zkV (p:=fun(n:Bool×dA)=>((n.1,()),(n.2,()))) (zkG (p:=fun(n:Bool×dA)=>((n.1,()),(n.2,()))) rfl (zkG (p:=fun(n:Bool×dA)=>((n.1,()),(n.2,()))) rfl (zkG (p:=fun(n:Bool×dA)=>((n.1,()),(n.2,()))) rfl rfl)))
theorem yKA:ConOk prog 228 yzx:=(yYS).mono (fun x r _ h=>(yZ6 x.1).trans h)
theorem yUt (a:dA):yp7 a=opA a:=by kernel_rfl
def yZq:Code:=(f206.body).getD .skip
def yZD:Env:=zkw TT [(225,yAo),(228,yzx)] []
theorem ySs:FrOk prog ⟨yZD,43,fun _=>none⟩ yZq:=zkA mixed yc ⟨yQB,yKA,trivial⟩
abbrev yni:List Par:= [.pt tA (.pr .fz (.pr (.pr .fz .fz) (.pr (.ow (.pr (.ow .fz) (.pr (.ow (.pr .fz .fz)) (.pr .fz (.ow .fz))))) (.pr .fz (.pr .fz (.pr .fz (.pr .fz (.pr .fz (.pr (.ow (.pr .fz .fz)) (.pr .fz (.pr .fz .fz))))))))))),.rd tI,.rd tI,.rd tL]
abbrev ytD:List OT:= []
def ywT (a0:dA) (a1 a2:Int) (a3:List Int):Option (zaY ytD×zak yni) :=bif(inb a1 a0.2.2.1.length)then bif(!((((nth a0.2.2.1 a1 ([],[],false,[])).2).2).1))then let r1:=yp7 a0;bif(!r1.1)then some ((),(r1.2,())) else bif(inb a1 r1.2.2.2.1.length)then let r2:=yiB ((nth r1.2.2.2.1 a1 ([],[],false,[])).1,((nth r1.2.2.2.1 a1 ([],[],false,[])).2).1,(((nth r1.2.2.2.1 a1 ([],[],false,[])).2).2)) a2 a3;bif(inb a1 r1.2.2.2.1.length)then some ((),((r1.2.1,r1.2.2.1,(r1.2.2.2.1.set (a1).toNat r2.1),r1.2.2.2.2),())) else none else none else some ((),(a0,())) else none
theorem yWq:ConOk prog 206 ⟨yni,ytD,fun x=>ywT x.1 x.2.1 x.2.2.1 x.2.2.2.1⟩:=zkI (ySs) func206 ntmps206.symm fun x=>by kernel_rfl
def ynN (a0:dA) (a1 a2:Int) (a3:List Int):dA:=ycR a0 a1 a2 a3
def yDA (a0:dA) (a1 a2:Int) (a3:List Int):Bool:=inb a1 a0.2.2.1.length
theorem yYL (a0:dA) (a1 a2:Int) (a3:List Int) (hk:zjx yni (a0,a1,a2,a3,())) (hq:yDA a0 a1 a2 a3=true):ywT a0 a1 a2 a3=(fun n=>some ((),(n,()))) (ynN a0 a1 a2 a3):=by
 have hq:inb a1 a0.2.2.1.length=true:=hq;unfold ywT ynN ycR yeo;simp only[yUt,yaE,hq,zkX,yiB];cases(nth a0.2.2.1 a1 yh).2.2.1<;>cases(opA a0).1<;>rfl
def ye8 (a0:dA) (a1 a2:Int) (a3:List Int):Option (zaY ytD×zak yni):=bif yDA a0 a1 a2 a3 then(fun n=>some ((),(n,()))) (ynN a0 a1 a2 a3)else none
theorem ylv (a0:dA) (a1 a2:Int) (a3:List Int) (h:yDA a0 a1 a2 a3=true):ye8 a0 a1 a2 a3=(fun n=>some ((),(n,()))) (ynN a0 a1 a2 a3):=by unfold ye8; rw[h]; rfl
def yjI:Con:=⟨yni,ytD,fun x=>ye8 x.1 x.2.1 x.2.2.1 x.2.2.2.1⟩
theorem yqG:ConOk prog 206 yjI:=(yWq).mono (fun x r hk h=>zkY h (fun hq=>yYL x.1 x.2.1 x.2.2.1 x.2.2.2.1 hk hq))
def ymh:Code:=(f224.body).getD .skip
def ysJ:Env:=zkw TT [(76,yir),(160,ygk)] [(32768,(.pr .fz .fz))]
theorem yJL:FrOk prog ⟨ysJ,40,fun _=>none⟩ ymh:=zkA mixed yc ⟨yoN,ylu,trivial⟩
def yzX:Nat→Option Seg:=fun _=>none
def ybt:Shape:=⟨[(2,false,[.ptr 64 0]),(3,false,[.ptr 4224 0]),(4,false,[.int .i64])],[(64,[.nil,.nil,.bool,.nil]),(4224,[.at 800000000,.at 800000001,.bool,.at 800000002])],[(800000000,tL,.fz),(800000001,tW,(.pr .fz .fz)),(800000002,tI,.fz)]⟩
def yeX:Shape:=⟨[(2,false,[.ptr 64 0]),(3,false,[.ptr 4224 0]),(4,false,[.ci .i64 0])],[(64,[.nil,.nil,.bool,.nil]),(4224,[.at 800000000,.at 800000001,.bool,.at 800000002])],[(800000000,tL,.fz),(800000001,tW,(.pr .fz .fz)),(800000002,tI,.fz)]⟩
def yeP:Shape:=⟨[(2,false,[.ptr 64 0]),(3,false,[.ptr 4224 0])],[(64,[.nil,.nil,.bool,.nil]),(4224,[.at 800000000,.at 800000001,.bool,.at 800000002])],[(800000000,tL,.fz),(800000001,tW,(.pr .fz .fz)),(800000002,tI,.fz)]⟩
def yim:Shape:=⟨[],[],[]⟩
abbrev ylR (v0:Int) (v1 v2:dM):(ybt).X:=((((),()),((),()),(v0,()),()),(((),(),v1.2.2.1,(),()),((),(),v2.2.2.1,(),()),()),(v2.1,v2.2.1,v2.2.2.2,()))
abbrev yIx (v0 v1:dM):(yeX).X:=((((),()),((),()),((),()),()),(((),(),v0.2.2.1,(),()),((),(),v1.2.2.1,(),()),()),(v1.1,v1.2.1,v1.2.2.2,()))
abbrev yvp (v0 v1:dM):(yeP).X:=((((),()),((),()),()),(((),(),v0.2.2.1,(),()),((),(),v1.2.2.1,(),()),()),(v1.1,v1.2.1,v1.2.2.2,()))
def yl6 (v0:Int) (v1 v2:Bool) (v3:List (List Int)) (v4:List dW) (v5:List Int):Option ((ybt).X ⊕ ((yeP).X ⊕ (yim).X)) :=bif(ltb v0 (v4.length:Int))then bif(inb v0 v4.length)then bif(inb v0 v4.length)then bif(inb ((nth v4 v0 (0,[])).1) v3.length)then let r4:=(v3.set ((nth v4 v0 (0,[])).1).toNat ((nth v4 v0 (0,[])).2));some (.inl ((((),()),((),()),((i64.wrap (v0+1)),()),()),(((),(),v1,(),()),((),(),v2,(),()),()),(r4,v4,v5,()))) else none else none else none else some (.inr (.inl ((((),()),((),()),()),(((),(),v1,(),()),((),(),v2,(),()),()),(v3,v4,v5,()))))
def ybN (x:(ybt).X):=yl6 x.1.2.2.1.1 x.2.1.1.2.2.1 x.2.1.2.1.2.2.1 x.2.2.1 x.2.2.2.1 x.2.2.2.2.1
def yvb (x:(yeX).X):(ybt).X:=((((),()),((),()),(0,()),()),(((),(),x.2.1.1.2.2.1,(),()),((),(),x.2.1.2.1.2.2.1,(),()),()),(x.2.2.1,x.2.2.2.1,x.2.2.2.2.1,()))
def yxn:Code:=(zd7 ymh 64 244).getD .skip
theorem yJc:zd7 ymh 64 61=some (.block 0 (.loop yxn)):=by kernel_rfl
theorem yKM (x:(ybt).X):zhu ⟨ysJ,40,yzX⟩ 0 yxn 244 ybt yeP yim x=ybN x:=by kernel_rfl
def yvk (x:(yeX).X):Nat:=18446744073709551616
def ynh (x:(yeX).X):Option ((yeP).X ⊕ (yim).X):=zF ybN (yvk x) (yvb x)
def yvB:Seg:=⟨yeX,yeP,yim,ynh⟩
def yLn:Nat→Option Seg:=fun q=>bif Nat.beq q 61 then some yvB else yzX q
theorem yJM:FrOk prog ⟨ysJ,40,yLn⟩ ymh:=(yJL).loop (sg:=yvB) ybt yvb (by decide) yJc ybN yvk (by decide) (fun _=>rfl) (fun x r _ h=>h) yKM
abbrev ymw:List Par:= [.rd tM]
abbrev ytw:List OT:= [⟨false,tM,(.pr (.ow .fz) (.pr (.ow (.pr .fz .fz)) (.pr .fz (.ow .fz))))⟩]
def ypJ (a0:dM):Option (zaY ytw×zak ymw) :=let r1:=yaz a0;let r2:=yaC a0;bif(!(!r2))then bif a0.2.2.1 then some ((r1,()),()) else zkt (ynh ((((),()),((),()),((),()),()),(((),(),false,(),()),((),(),r1.2.2.1,(),()),()),(r1.1,r1.2.1,r1.2.2.2,()))) (fun y4 =>some (((y4.2.2.1,([]:List dW),y4.2.1.2.1.2.2.1,y4.2.2.2.2.1),()),())) (fun y4 =>none) else some ((r1,()),())
theorem yM1:ConOk prog 224 ⟨ymw,ytw,fun x=>ypJ x.1⟩:=zkI (yJM) func224 ntmps224.symm fun x=>by kernel_rfl
def yiz (a0:dM):dM:=yy a0
theorem yPO (a0:dM) (hk:zjx ymw (a0,())):ypJ a0=(fun n=>some ((n,()),())) (yiz a0):=by
 have hb2:a0.2.1.length*32≤2^47:=hk.1.2.1.1;unfold ypJ yiz yy;simp only[yaz,yaC];cases hm:yz a0
 ·rfl
 have h1:ynh (yIx yh a0)=some (.inl (yvp yh (yjK (fun _=>true) a0.2.1 a0.1,a0.2))) :=
  zkD (step:=ybN) a0.2.1.length (fun i s=>ylR i yh (s,a0.2)) (ygW (fun _=>true) a0.2.1) (fun i s=>s.length=a0.1.length) (fun s=> .inl (yvp yh (s,a0.2))) (fun i s hi hs=>by
   have hw:=(yZ1 hm hi).1;refine⟨?_,yBd.trans hs⟩
   simp only[ybN,ylR,yl6,zky (show(i:Int)<a0.2.1.length by omega),cond_true,wq ((i:Int)+1) (by omega) (by omega),Int.natCast_add,Int.natCast_one,Int.toNat_natCast,zkR hi,hs,hw,ygW]) (fun s hs=>by simp only[ybN,ylR,yl6,zk3 (Int.le_refl _),cond_false]) a0.1 rfl _ (by show _<18446744073709551616; omega)
 rw[h1];cases hf:a0.2.2.1
 ·exact congrArg (fun z=>some (((yjK (fun _=>true) a0.2.1 a0.1,([]:List dW),z,a0.2.2.2),()),())) hf
 ·rfl
def yAl:Con:=⟨ymw,ytw,fun x=>(fun n=>some ((n,()),())) (yiz x.1)⟩
theorem yQy:ConOk prog 224 yAl:=(yM1).mono (fun x r hk h=>(yPO x.1 hk).trans h)
def yqh:Code:=(f208.body).getD .skip
def yyC:Env:=zkw TT [(224,yAl),(228,yzx)] []
theorem yOX:FrOk prog ⟨yyC,39,fun _=>none⟩ yqh:=zkA mixed yc ⟨yQy,yKA,trivial⟩
def yEi:Nat→Option Seg:=fun _=>none
def ydu:Shape:=⟨[(0,false,[.ptr 1000000000 0]),(2,false,[.int .i64])],[(1000000000,[.int .i64,.int .i64,.int .i64,.at 800000000,.int .i64,.int .i64,.int .i64,.int .i64,.int .i64,.at 800000001,.int .i64,.bool,.bool])],[(800000000,tM,(.pr (.ow .fz) (.pr (.ow (.pr .fz .fz)) (.pr .fz (.ow .fz))))),(800000001,tW,(.pr .fz .fz))]⟩
def yia:Shape:=⟨[(0,false,[.ptr 1000000000 0]),(2,false,[.ci .i64 0])],[(1000000000,[.int .i64,.int .i64,.int .i64,.at 800000000,.int .i64,.int .i64,.int .i64,.int .i64,.int .i64,.at 800000001,.int .i64,.bool,.bool])],[(800000000,tM,(.pr (.ow .fz) (.pr (.ow (.pr .fz .fz)) (.pr .fz (.ow .fz))))),(800000001,tW,(.pr .fz .fz))]⟩
def yhV:Shape:=⟨[],[(1000000000,[.int .i64,.int .i64,.int .i64,.at 800000000,.int .i64,.int .i64,.int .i64,.int .i64,.int .i64,.at 800000001,.int .i64,.bool,.bool])],[(800000000,tM,(.pr (.ow .fz) (.pr (.ow (.pr .fz .fz)) (.pr .fz (.ow .fz))))),(800000001,tW,(.pr .fz .fz))]⟩
def ymM:Shape:=⟨[],[],[]⟩
abbrev yrk (v0:Int) (v1:dA):(ydu).X:=((((),()),(v0,()),()),((v1.1,v1.2.1.1,v1.2.1.2,(),v1.2.2.2.1,v1.2.2.2.2.1,v1.2.2.2.2.2.1,v1.2.2.2.2.2.2.1,v1.2.2.2.2.2.2.2.1,(),v1.2.2.2.2.2.2.2.2.2.1,v1.2.2.2.2.2.2.2.2.2.2.1,v1.2.2.2.2.2.2.2.2.2.2.2,()),()),(v1.2.2.1,v1.2.2.2.2.2.2.2.2.1,()))
abbrev yPo (v0:dA):(yia).X:=((((),()),((),()),()),((v0.1,v0.2.1.1,v0.2.1.2,(),v0.2.2.2.1,v0.2.2.2.2.1,v0.2.2.2.2.2.1,v0.2.2.2.2.2.2.1,v0.2.2.2.2.2.2.2.1,(),v0.2.2.2.2.2.2.2.2.2.1,v0.2.2.2.2.2.2.2.2.2.2.1,v0.2.2.2.2.2.2.2.2.2.2.2,()),()),(v0.2.2.1,v0.2.2.2.2.2.2.2.2.1,()))
abbrev yDo (v0:dA):(yhV).X:=((),((v0.1,v0.2.1.1,v0.2.1.2,(),v0.2.2.2.1,v0.2.2.2.2.1,v0.2.2.2.2.2.1,v0.2.2.2.2.2.2.1,v0.2.2.2.2.2.2.2.1,(),v0.2.2.2.2.2.2.2.2.2.1,v0.2.2.2.2.2.2.2.2.2.2.1,v0.2.2.2.2.2.2.2.2.2.2.2,()),()),(v0.2.2.1,v0.2.2.2.2.2.2.2.2.1,()))
def yrV (v0 v1 v2 v3 v4 v5 v6 v7 v8 v9:Int) (v10 v11:Bool) (v12:List dM) (v13:List dW):Option ((ydu).X ⊕ ((yhV).X ⊕ (ymM).X)) :=bif(ltb v0 (v12.length:Int))then bif(inb v0 v12.length)then bif(!((((nth v12 v0 ([],[],false,[])).2).2).1))then let r3:=yp7 (v1,(v2,v3),v12,v4,v5,v6,v7,v8,v13,v9,v10,v11);bif r3.1 then bif(inb v0 r3.2.2.2.1.length)then let r4:=yiz ((nth r3.2.2.2.1 v0 ([],[],false,[])).1,((nth r3.2.2.2.1 v0 ([],[],false,[])).2).1,(((nth r3.2.2.2.1 v0 ([],[],false,[])).2).2));bif(inb v0 r3.2.2.2.1.length)then some (.inl ((((),()),((i64.wrap (v0+1)),()),()),((r3.2.1,r3.2.2.1.1,r3.2.2.1.2,(),r3.2.2.2.2.1,r3.2.2.2.2.2.1,r3.2.2.2.2.2.2.1,r3.2.2.2.2.2.2.2.1,r3.2.2.2.2.2.2.2.2.1,(),r3.2.2.2.2.2.2.2.2.2.2.1,r3.2.2.2.2.2.2.2.2.2.2.2.1,r3.2.2.2.2.2.2.2.2.2.2.2.2,()),()),((r3.2.2.2.1.set (v0).toNat r4),r3.2.2.2.2.2.2.2.2.2.1,()))) else none else none else some (.inl ((((),()),((i64.wrap (v0+1)),()),()),((r3.2.1,r3.2.2.1.1,r3.2.2.1.2,(),r3.2.2.2.2.1,r3.2.2.2.2.2.1,r3.2.2.2.2.2.2.1,r3.2.2.2.2.2.2.2.1,r3.2.2.2.2.2.2.2.2.1,(),r3.2.2.2.2.2.2.2.2.2.2.1,r3.2.2.2.2.2.2.2.2.2.2.2.1,r3.2.2.2.2.2.2.2.2.2.2.2.2,()),()),(r3.2.2.2.1,r3.2.2.2.2.2.2.2.2.2.1,()))) else some (.inl ((((),()),((i64.wrap (v0+1)),()),()),((v1,v2,v3,(),v4,v5,v6,v7,v8,(),v9,v10,v11,()),()),(v12,v13,()))) else none else some (.inr (.inl ((),((v1,v2,v3,(),v4,v5,v6,v7,v8,(),v9,v10,v11,()),()),(v12,v13,()))))
def yd3 (x:(ydu).X):=yrV x.1.2.1.1 x.2.1.1.1 x.2.1.1.2.1 x.2.1.1.2.2.1 x.2.1.1.2.2.2.2.1 x.2.1.1.2.2.2.2.2.1 x.2.1.1.2.2.2.2.2.2.1 x.2.1.1.2.2.2.2.2.2.2.1 x.2.1.1.2.2.2.2.2.2.2.2.1 x.2.1.1.2.2.2.2.2.2.2.2.2.2.1 x.2.1.1.2.2.2.2.2.2.2.2.2.2.2.1 x.2.1.1.2.2.2.2.2.2.2.2.2.2.2.2.1 x.2.2.1 x.2.2.2.1
def yCX (x:(yia).X):(ydu).X:=((((),()),(0,()),()),((x.2.1.1.1,x.2.1.1.2.1,x.2.1.1.2.2.1,(),x.2.1.1.2.2.2.2.1,x.2.1.1.2.2.2.2.2.1,x.2.1.1.2.2.2.2.2.2.1,x.2.1.1.2.2.2.2.2.2.2.1,x.2.1.1.2.2.2.2.2.2.2.2.1,(),x.2.1.1.2.2.2.2.2.2.2.2.2.2.1,x.2.1.1.2.2.2.2.2.2.2.2.2.2.2.1,x.2.1.1.2.2.2.2.2.2.2.2.2.2.2.2.1,()),()),(x.2.2.1,x.2.2.2.1,()))
def yEy:Code:=(zd7 yqh 64 12).getD .skip
theorem yRJ:zd7 yqh 64 3=some (.block 0 (.loop yEy)):=by kernel_rfl
theorem yUq (x:(ydu).X):zhu ⟨yyC,39,yEi⟩ 0 yEy 12 ydu yhV ymM x=yd3 x:=by kernel_rfl
def yDd (x:(yia).X):Nat:=18446744073709551616
def ysY (x:(yia).X):Option ((yhV).X ⊕ (ymM).X):=zF yd3 (yDd x) (yCX x)
def yDX:Seg:=⟨yia,yhV,ymM,ysY⟩
def yRh:Nat→Option Seg:=fun q=>bif Nat.beq q 3 then some yDX else yEi q
theorem yOY:FrOk prog ⟨yyC,39,yRh⟩ yqh:=(yOX).loop (sg:=yDX) ydu yCX (by decide) yRJ yd3 yDd (by decide) (fun _=>rfl) (fun x r _ h=>h) yUq
abbrev yqu:List Par:= [.pt tA (.pr .fz (.pr (.pr .fz .fz) (.pr (.ow (.pr (.ow .fz) (.pr (.ow (.pr .fz .fz)) (.pr .fz (.ow .fz))))) (.pr .fz (.pr .fz (.pr .fz (.pr .fz (.pr .fz (.pr (.ow (.pr .fz .fz)) (.pr .fz (.pr .fz .fz)))))))))))]
abbrev yzv:List OT:= []
def yuK (a0:dA):Option (zaY yzv×zak yqu) :=zkt (ysY ((((),()),((),()),()),((a0.1,a0.2.1.1,a0.2.1.2,(),a0.2.2.2.1,a0.2.2.2.2.1,a0.2.2.2.2.2.1,a0.2.2.2.2.2.2.1,a0.2.2.2.2.2.2.2.1,(),a0.2.2.2.2.2.2.2.2.2.1,a0.2.2.2.2.2.2.2.2.2.2.1,a0.2.2.2.2.2.2.2.2.2.2.2,()),()),(a0.2.2.1,a0.2.2.2.2.2.2.2.2.1,()))) (fun y4 =>some ((),((y4.2.1.1.1,(y4.2.1.1.2.1,y4.2.1.1.2.2.1),y4.2.2.1,y4.2.1.1.2.2.2.2.1,y4.2.1.1.2.2.2.2.2.1,y4.2.1.1.2.2.2.2.2.2.1,y4.2.1.1.2.2.2.2.2.2.2.1,y4.2.1.1.2.2.2.2.2.2.2.2.1,y4.2.2.2.1,y4.2.1.1.2.2.2.2.2.2.2.2.2.2.1,y4.2.1.1.2.2.2.2.2.2.2.2.2.2.2.1,y4.2.1.1.2.2.2.2.2.2.2.2.2.2.2.2.1),()))) (fun y4 =>none)
theorem yTP:ConOk prog 208 ⟨yqu,yzv,fun x=>yuK x.1⟩:=zkI (yOY) func208 ntmps208.symm fun x=>by kernel_rfl
def yea (a0:dA):dA:=yx a0
theorem yV4 (a0:dA) (hk:zjx yqu (a0,())):yuK a0=(fun n=>some ((),(n,()))) (yea a0):=by
 have hb:a0.2.2.1.length*80≤2^47:=hk.1.2.2.1.1
 have h1:ysY (yPo a0)=some (.inl (yDo (yx a0))) :=
  zkD (step:=yd3) a0.2.2.1.length (fun i s=>yrk i s) yN (fun _ s=>s.2.2.1.length=a0.2.2.1.length) (fun s=> .inl (yDo s)) (fun i s hi hs=>⟨by
   simp only[yd3,yrk,yrV,hs,zky (show(i:Int)<a0.2.2.1.length by omega),cond_true,wq ((i:Int)+1) (by omega) (by omega),Int.natCast_add,Int.natCast_one,Int.toNat_natCast,zkR hi,zkX,yUt,yaE,yiz,yN,yeo]
   cases(nth s.2.2.1 i yh).2.2.1<;>cases(opA s).1<;>simp only[cond_true,cond_false,Bool.not_true,Bool.not_false,yaE,Int.toNat_natCast],(ylD s i).trans hs⟩) (fun s hs=>by simp only[yd3,yrk,yrV,hs,zk3 (Int.le_refl _),cond_false]) a0 rfl _ (by show _<18446744073709551616; omega)
 unfold yuK yea;rw[h1]; rfl
def ymW:Con:=⟨yqu,yzv,fun x=>(fun n=>some ((),(n,()))) (yea x.1)⟩
theorem ywD:ConOk prog 208 ymW:=(yTP).mono (fun x r hk h=>(yV4 x.1 hk).trans h)
def yqg:Code:=(f174.body).getD .skip
def yyB:Env:=zkw TT [(144,yph),(206,yjI),(208,ymW)] []
theorem yOV:FrOk prog ⟨yyB,63,fun _=>none⟩ yqg:=zkA mixed yc ⟨yDy,yqG,ywD,trivial⟩
def yEh:Nat→Option Seg:=fun _=>none
def ycN:Shape:=⟨[(0,false,[.ptr 1000000000 0]),(2,false,[.int .i64])],[(1000000000,[.int .i64,.int .i64,.int .i64,.at 800000000,.int .i64,.int .i64,.int .i64,.int .i64,.int .i64,.at 800000001,.int .i64,.bool,.bool])],[(800000000,tM,(.pr (.ow .fz) (.pr (.ow (.pr .fz .fz)) (.pr .fz (.ow .fz))))),(800000001,tW,(.pr .fz .fz))]⟩
def ygO:Shape:=⟨[(0,false,[.ptr 1000000000 0]),(2,false,[.ci .i64 0])],[(1000000000,[.int .i64,.int .i64,.int .i64,.at 800000000,.int .i64,.int .i64,.int .i64,.int .i64,.int .i64,.at 800000001,.int .i64,.bool,.bool])],[(800000000,tM,(.pr (.ow .fz) (.pr (.ow (.pr .fz .fz)) (.pr .fz (.ow .fz))))),(800000001,tW,(.pr .fz .fz))]⟩
def ygE:Shape:=⟨[(0,false,[.ptr 1000000000 0])],[(1000000000,[.int .i64,.int .i64,.int .i64,.at 800000000,.int .i64,.int .i64,.int .i64,.int .i64,.int .i64,.at 800000001,.int .i64,.bool,.bool])],[(800000000,tM,(.pr (.ow .fz) (.pr (.ow (.pr .fz .fz)) (.pr .fz (.ow .fz))))),(800000001,tW,(.pr .fz .fz))]⟩
def ykF:Shape:=⟨[],[],[]⟩
abbrev ypq (v0:Int) (v1:dA):(ycN).X:=((((),()),(v0,()),()),((v1.1,v1.2.1.1,v1.2.1.2,(),v1.2.2.2.1,v1.2.2.2.2.1,v1.2.2.2.2.2.1,v1.2.2.2.2.2.2.1,v1.2.2.2.2.2.2.2.1,(),v1.2.2.2.2.2.2.2.2.2.1,v1.2.2.2.2.2.2.2.2.2.2.1,v1.2.2.2.2.2.2.2.2.2.2.2,()),()),(v1.2.2.1,v1.2.2.2.2.2.2.2.2.1,()))
abbrev yMA (v0:dA):(ygO).X:=((((),()),((),()),()),((v0.1,v0.2.1.1,v0.2.1.2,(),v0.2.2.2.1,v0.2.2.2.2.1,v0.2.2.2.2.2.1,v0.2.2.2.2.2.2.1,v0.2.2.2.2.2.2.2.1,(),v0.2.2.2.2.2.2.2.2.2.1,v0.2.2.2.2.2.2.2.2.2.2.1,v0.2.2.2.2.2.2.2.2.2.2.2,()),()),(v0.2.2.1,v0.2.2.2.2.2.2.2.2.1,()))
abbrev yAO (v0:dA):(ygE).X:=((((),()),()),((v0.1,v0.2.1.1,v0.2.1.2,(),v0.2.2.2.1,v0.2.2.2.2.1,v0.2.2.2.2.2.1,v0.2.2.2.2.2.2.1,v0.2.2.2.2.2.2.2.1,(),v0.2.2.2.2.2.2.2.2.2.1,v0.2.2.2.2.2.2.2.2.2.2.1,v0.2.2.2.2.2.2.2.2.2.2.2,()),()),(v0.2.2.1,v0.2.2.2.2.2.2.2.2.1,()))
def ypY (v0 v1 v2 v3 v4 v5 v6 v7 v8 v9:Int) (v10 v11:Bool) (v12:List dM) (v13:List dW):Option ((ycN).X ⊕ ((ygE).X ⊕ (ykF).X)) :=bif(ltb v0 (v12.length:Int))then let r3:=yD (v1,v8,v0,v2,v3,v7,v4,v5);bnd (ye8 (v1,(v2,v3),v12,v4,v5,v6,v7,v8,v13,v9,v10,v11) v0 (v8.tmod 2) r3) fun r4 =>some (.inl ((((),()),((i64.wrap (v0+1)),()),()),((r4.2.1.1,r4.2.1.2.1.1,r4.2.1.2.1.2,(),r4.2.1.2.2.2.1,r4.2.1.2.2.2.2.1,r4.2.1.2.2.2.2.2.1,r4.2.1.2.2.2.2.2.2.1,r4.2.1.2.2.2.2.2.2.2.1,(),r4.2.1.2.2.2.2.2.2.2.2.2.1,r4.2.1.2.2.2.2.2.2.2.2.2.2.1,r4.2.1.2.2.2.2.2.2.2.2.2.2.2,()),()),(r4.2.1.2.2.1,r4.2.1.2.2.2.2.2.2.2.2.1,()))) else some (.inr (.inl ((((),()),()),((v1,v2,v3,(),v4,v5,v6,v7,v8,(),v9,v10,v11,()),()),(v12,v13,()))))
def yde (x:(ycN).X):=ypY x.1.2.1.1 x.2.1.1.1 x.2.1.1.2.1 x.2.1.1.2.2.1 x.2.1.1.2.2.2.2.1 x.2.1.1.2.2.2.2.2.1 x.2.1.1.2.2.2.2.2.2.1 x.2.1.1.2.2.2.2.2.2.2.1 x.2.1.1.2.2.2.2.2.2.2.2.1 x.2.1.1.2.2.2.2.2.2.2.2.2.2.1 x.2.1.1.2.2.2.2.2.2.2.2.2.2.2.1 x.2.1.1.2.2.2.2.2.2.2.2.2.2.2.2.1 x.2.2.1 x.2.2.2.1
def yAA (x:(ygO).X):(ycN).X:=((((),()),(0,()),()),((x.2.1.1.1,x.2.1.1.2.1,x.2.1.1.2.2.1,(),x.2.1.1.2.2.2.2.1,x.2.1.1.2.2.2.2.2.1,x.2.1.1.2.2.2.2.2.2.1,x.2.1.1.2.2.2.2.2.2.2.1,x.2.1.1.2.2.2.2.2.2.2.2.1,(),x.2.1.1.2.2.2.2.2.2.2.2.2.2.1,x.2.1.1.2.2.2.2.2.2.2.2.2.2.2.1,x.2.1.1.2.2.2.2.2.2.2.2.2.2.2.2.1,()),()),(x.2.2.1,x.2.2.2.1,()))
def yCq:Code:=(zd7 yqg 64 52).getD .skip
theorem yN7:zd7 yqg 64 13=some (.block 0 (.loop yCq)):=by kernel_rfl
theorem yQQ (x:(ycN).X):zhu ⟨yyB,63,yEh⟩ 0 yCq 52 ycN ygE ykF x=yde x:=by kernel_rfl
def yAK (x:(ygO).X):Nat:=18446744073709551616
def yqU (x:(ygO).X):Option ((ygE).X ⊕ (ykF).X):=zF yde (yAK x) (yAA x)
def yA4:Seg:=⟨ygO,ygE,ykF,yqU⟩
def yRg:Nat→Option Seg:=fun q=>bif Nat.beq q 13 then some yA4 else yEh q
theorem yOW:FrOk prog ⟨yyB,63,yRg⟩ yqg:=(yOV).loop (sg:=yA4) ycN yAA (by decide) yN7 yde yAK (by decide) (fun _=>rfl) (fun x r _ h=>h) yQQ
abbrev yqt:List Par:= [.pt tA (.pr .fz (.pr (.pr .fz .fz) (.pr (.ow (.pr (.ow .fz) (.pr (.ow (.pr .fz .fz)) (.pr .fz (.ow .fz))))) (.pr .fz (.pr .fz (.pr .fz (.pr .fz (.pr .fz (.pr (.ow (.pr .fz .fz)) (.pr .fz (.pr .fz .fz)))))))))))]
abbrev yzu:List OT:= []
def yuJ (a0:dA):Option (zaY yzu×zak yqt) :=zkt (yqU ((((),()),((),()),()),((a0.1,a0.2.1.1,a0.2.1.2,(),a0.2.2.2.1,a0.2.2.2.2.1,a0.2.2.2.2.2.1,a0.2.2.2.2.2.2.1,(i64.wrap (a0.2.2.2.2.2.2.2.1+1)),(),a0.2.2.2.2.2.2.2.2.2.1,a0.2.2.2.2.2.2.2.2.2.2.1,a0.2.2.2.2.2.2.2.2.2.2.2,()),()),(a0.2.2.1,a0.2.2.2.2.2.2.2.2.1,()))) (fun y4 =>let r6:=yea (y4.2.1.1.1,(y4.2.1.1.2.1,y4.2.1.1.2.2.1),y4.2.2.1,y4.2.1.1.2.2.2.2.1,y4.2.1.1.2.2.2.2.2.1,y4.2.1.1.2.2.2.2.2.2.1,y4.2.1.1.2.2.2.2.2.2.2.1,y4.2.1.1.2.2.2.2.2.2.2.2.1,y4.2.2.2.1,y4.2.1.1.2.2.2.2.2.2.2.2.2.2.1,y4.2.1.1.2.2.2.2.2.2.2.2.2.2.2.1,y4.2.1.1.2.2.2.2.2.2.2.2.2.2.2.2.1);some ((),(r6,()))) (fun y4 =>none)
theorem yTO:ConOk prog 174 ⟨yqt,yzu,fun x=>yuJ x.1⟩:=zkI (yOW) func174 ntmps174.symm fun x=>by kernel_rfl
def yaT (a0:dA):dA:=yak a0
theorem yNy (a:dA) (i:Nat):(yaf a i).2.2.1.length=a.2.2.1.length:=yse _ _ _ _
theorem yV3 (a0:dA) (hk:zjx yqt (a0,())):yuJ a0=(fun n=>some ((),(n,()))) (yaT a0):=by
 have hb:a0.2.2.1.length*80≤2^47:=hk.1.2.2.1.1
 have h1:yqU (yMA (yay a0))=some (.inl (yAO ((List.range a0.2.2.1.length).foldl yaf (yay a0)))) :=
  zkD (step:=yde) a0.2.2.1.length (fun i s=>ypq i s) yaf (fun _ s=>s.2.2.1.length=a0.2.2.1.length) (fun s=> .inl (yAO s)) (fun i s hi hs=>⟨by
   simp only[yde,ypq,ypY,hs,zky (show(i:Int)<a0.2.2.1.length by omega),cond_true,wq ((i:Int)+1) (by omega) (by omega),Int.natCast_add,Int.natCast_one,Int.toNat_natCast,zkX];rw[ylv s i (s.2.2.2.2.2.2.2.1.tmod 2) (yD (s.1,s.2.2.2.2.2.2.2.1,(i:Int),s.2.1.1,s.2.1.2,s.2.2.2.2.2.2.1,s.2.2.2.1,s.2.2.2.2.1)) (zkR (by rw[hs]; exact hi))]
   rfl,(yNy s i).trans hs⟩) (fun s hs=>by simp only[yde,ypq,ypY,hs,zk3 (Int.le_refl _),cond_false]) (yay a0) rfl _ (by show _<18446744073709551616; omega)
 unfold yuJ yaT yak;exact(congrArg (fun z=>zkt z _ _) h1).trans rfl
def ymV:Con:=⟨yqt,yzu,fun x=>(fun n=>some ((),(n,()))) (yaT x.1)⟩
theorem ywC:ConOk prog 174 ymV:=(yTO).mono (fun x r hk h=>(yV3 x.1 hk).trans h)
def yUH:Code:=(f108.body).getD .skip
def yVa:Env:=zkw TT [(143,yCB),(174,ymV)] []
theorem yMb:FrOk prog ⟨yVa,62,fun _=>none⟩ yUH:=zkA mixed yc ⟨yT0,ywC,trivial⟩
abbrev yjr:List Par:= [.pt tA (.pr .fz (.pr (.pr .fz .fz) (.pr (.ow (.pr (.ow .fz) (.pr (.ow (.pr .fz .fz)) (.pr .fz (.ow .fz))))) (.pr .fz (.pr .fz (.pr .fz (.pr .fz (.pr .fz (.pr (.ow (.pr .fz .fz)) (.pr .fz (.pr .fz .fz))))))))))),.rd tI]
abbrev yot:List OT:= []
def yrC (a0:dA) (a1:Int):Option (zaY yot×zak yjr) :=bif(inb a1 a0.2.2.1.length)then let r1:=yoH ((nth a0.2.2.1 a1 ([],[],false,[])).1,((nth a0.2.2.1 a1 ([],[],false,[])).2).1,(((nth a0.2.2.1 a1 ([],[],false,[])).2).2));bif(inb a1 a0.2.2.1.length)then bif(!(a0.2.2.2.1==(-1)))then bif(a0.2.2.2.1==a1)then bif(!a0.2.2.2.2.2.2.2.2.2.2.1)then bif(!a0.2.2.2.2.2.2.2.2.2.2.2)then bif(ltb a0.2.2.2.2.2.2.2.1 60000)then let r2:=yaT (a0.1,a0.2.1,(a0.2.2.1.set (a1).toNat r1),a1,0,a0.2.2.2.2.2);some ((),(r2,())) else some ((),((a0.1,a0.2.1,(a0.2.2.1.set (a1).toNat r1),a1,0,a0.2.2.2.2.2),())) else some ((),((a0.1,a0.2.1,(a0.2.2.1.set (a1).toNat r1),a1,0,a0.2.2.2.2.2),())) else some ((),((a0.1,a0.2.1,(a0.2.2.1.set (a1).toNat r1),a1,0,a0.2.2.2.2.2),())) else bif(!a0.2.2.2.2.2.2.2.2.2.2.1)then some ((),((a0.1,a0.2.1,(a0.2.2.1.set (a1).toNat r1),a0.2.2.2.1,a0.2.2.2.2.1,a0.2.2.2.2.2.1,a0.2.2.2.2.2.2.1,a0.2.2.2.2.2.2.2.1,a0.2.2.2.2.2.2.2.2.1,a0.2.2.2.2.2.2.2.2.2.1,a0.2.2.2.2.2.2.2.2.2.2.1,true),())) else some ((),((a0.1,a0.2.1,(a0.2.2.1.set (a1).toNat r1),a0.2.2.2.1,a0.2.2.2.2.1,a0.2.2.2.2.2.1,a0.2.2.2.2.2.2.1,a0.2.2.2.2.2.2.2.1,a0.2.2.2.2.2.2.2.2.1,a0.2.2.2.2.2.2.2.2.2.1,a0.2.2.2.2.2.2.2.2.2.2.1,true),())) else bif(!a0.2.2.2.2.2.2.2.2.2.2.1)then bif(!a0.2.2.2.2.2.2.2.2.2.2.2)then bif(ltb a0.2.2.2.2.2.2.2.1 60000)then let r3:=yaT (a0.1,a0.2.1,(a0.2.2.1.set (a1).toNat r1),a1,0,a0.2.2.2.2.2);some ((),(r3,())) else some ((),((a0.1,a0.2.1,(a0.2.2.1.set (a1).toNat r1),a1,0,a0.2.2.2.2.2),())) else some ((),((a0.1,a0.2.1,(a0.2.2.1.set (a1).toNat r1),a1,0,a0.2.2.2.2.2),())) else some ((),((a0.1,a0.2.1,(a0.2.2.1.set (a1).toNat r1),a1,0,a0.2.2.2.2.2),())) else none else none
theorem yQg:ConOk prog 108 ⟨yjr,yot,fun x=>yrC x.1 x.2.1⟩:=zkI (yMb) func108 ntmps108.symm fun x=>by kernel_rfl
def yoI (a0:dA) (a1:Int):dA:=yoC a0 a1
def ywG (a0:dA) (a1:Int):Bool:=inb a1 a0.2.2.1.length
theorem yS5 (a0:dA) (a1:Int) (hk:zjx yjr (a0,a1,())) (hq:ywG a0 a1=true):yrC a0 a1=(fun n=>some ((),(n,()))) (yoI a0 a1):=by
 have hq:inb a1 a0.2.2.1.length=true:=hq;unfold yrC yoI yoC yev yRS ylB ya;simp only[hq,zkX,yoH,yaz,yaT];cases(a0.2.2.2.1== -1)<;>cases(a0.2.2.2.1==a1)<;>cases a0.2.2.2.2.2.2.2.2.2.2.1<;>cases a0.2.2.2.2.2.2.2.2.2.2.2<;>cases ltb a0.2.2.2.2.2.2.2.1 60000<;>rfl
def yj7 (a0:dA) (a1:Int):Option (zaY yot×zak yjr):=bif ywG a0 a1 then(fun n=>some ((),(n,()))) (yoI a0 a1)else none
theorem yT9 (a0:dA) (a1:Int) (h:ywG a0 a1=true):yj7 a0 a1=(fun n=>some ((),(n,()))) (yoI a0 a1):=by unfold yj7; rw[h]; rfl
def yCF:Con:=⟨yjr,yot,fun x=>yj7 x.1 x.2.1⟩
theorem yT4:ConOk prog 108 yCF:=(yQg).mono (fun x r hk h=>zkY h (fun hq=>yS5 x.1 x.2.1 hk hq))
def ymi:Code:=(f112.body).getD .skip
def ysK:Env:=zkw TT [(76,yir),(82,yF),(160,ygk),(161,yws)] []
theorem yJP:FrOk prog ⟨ysK,68,fun _=>none⟩ ymi:=zkA mixed yc ⟨yoN,yK,ylu,yH3,trivial⟩
def yzY:Nat→Option Seg:=fun _=>none
def ya2:Shape:=⟨[(1,false,[.int .i64]),(4,false,[.ptr 64 0]),(5,false,[.ptr 4224 0]),(6,false,[.int .i64])],[(64,[.nil,.nil,.bool,.nil]),(4224,[.at 800000000,.at 800000001,.bool,.at 800000002])],[(800000000,tL,.fz),(800000001,tW,(.pr .fz .fz)),(800000002,tI,.fz)]⟩
def yel:Shape:=⟨[(1,false,[.int .i64]),(4,false,[.ptr 64 0]),(5,false,[.ptr 4224 0]),(6,false,[.int .i64])],[(64,[.nil,.nil,.bool,.nil]),(4224,[.at 800000000,.at 800000001,.bool,.at 800000002])],[(800000000,tL,.fz),(800000001,tW,(.pr .fz .fz)),(800000002,tI,.fz)]⟩
def yeg:Shape:=⟨[(1,false,[.int .i64]),(4,false,[.ptr 64 0]),(5,false,[.ptr 4224 0]),(6,false,[.int .i64])],[(64,[.nil,.nil,.bool,.nil]),(4224,[.at 800000000,.at 800000001,.bool,.at 800000002])],[(800000000,tL,.fz),(800000001,tW,(.pr .fz .fz)),(800000002,tI,.fz)]⟩
def yhi:Shape:=⟨[],[],[]⟩
abbrev ykP (v0 v1:Int) (v2 v3:dM):(ya2).X:=(((v0,()),((),()),((),()),(v1,()),()),(((),(),v2.2.2.1,(),()),((),(),v3.2.2.1,(),()),()),(v3.1,v3.2.1,v3.2.2.2,()))
abbrev yHB (v0 v1:Int) (v2 v3:dM):(yel).X:=(((v0,()),((),()),((),()),(v1,()),()),(((),(),v2.2.2.1,(),()),((),(),v3.2.2.1,(),()),()),(v3.1,v3.2.1,v3.2.2.2,()))
abbrev yHw (v0 v1:Int) (v2 v3:dM):(yeg).X:=(((v0,()),((),()),((),()),(v1,()),()),(((),(),v2.2.2.1,(),()),((),(),v3.2.2.1,(),()),()),(v3.1,v3.2.1,v3.2.2.2,()))
def yk2 (v0 v1:Int) (v2 v3:Bool) (v4:List (List Int)) (v5:List dW) (v6:List Int):Option ((ya2).X ⊕ ((yeg).X ⊕ (yhi).X)) :=bif(ltb 0 v1)then bif(inb (i64.wrap (v1-1)) v6.length)then bif(ltb v0 (nth v6 (i64.wrap (v1-1)) 0))then bif(inb (i64.wrap (v1-1)) v6.length)then bif(inb v1 v6.length)then some (.inl (((v0,()),((),()),((),()),((i64.wrap (v1-1)),()),()),(((),(),v2,(),()),((),(),v3,(),()),()),(v4,v5,(v6.set (v1).toNat (nth v6 (i64.wrap (v1-1)) 0)),()))) else none else none else some (.inr (.inl (((v0,()),((),()),((),()),(v1,()),()),(((),(),v2,(),()),((),(),v3,(),()),()),(v4,v5,v6,())))) else none else some (.inr (.inl (((v0,()),((),()),((),()),(v1,()),()),(((),(),v2,(),()),((),(),v3,(),()),()),(v4,v5,v6,()))))
def ybk (x:(ya2).X):=yk2 x.1.1.1 x.1.2.2.2.1.1 x.2.1.1.2.2.1 x.2.1.2.1.2.2.1 x.2.2.1 x.2.2.2.1 x.2.2.2.2.1
def yt4 (x:(yel).X):(ya2).X:=(((x.1.1.1,()),((),()),((),()),(x.1.2.2.2.1.1,()),()),(((),(),x.2.1.1.2.2.1,(),()),((),(),x.2.1.2.1.2.2.1,(),()),()),(x.2.2.1,x.2.2.2.1,x.2.2.2.2.1,()))
def yuX:Code:=(zd7 ymi 64 504).getD .skip
theorem yIc:zd7 ymi 64 126=some (.block 0 (.loop yuX)):=by kernel_rfl
theorem yIR (x:(ya2).X):zhu ⟨ysK,68,yzY⟩ 0 yuX 504 ya2 yeg yhi x=ybk x:=by kernel_rfl
def yt9 (x:(yel).X):Nat:=18446744073709551616
def ylH (x:(yel).X):Option ((yeg).X ⊕ (yhi).X):=zF ybk (yt9 x) (yt4 x)
def yuO:Seg:=⟨yel,yeg,yhi,ylH⟩
def yLo:Nat→Option Seg:=fun q=>bif Nat.beq q 126 then some yuO else yzY q
theorem yJQ:FrOk prog ⟨ysK,68,yLo⟩ ymi:=(yJP).loop (sg:=yuO) ya2 yt4 (by decide) yIc ybk yt9 (by decide) (fun _=>rfl) (fun x r _ h=>h) yIR
abbrev ymy:List Par:= [.rd tM,.rd tI]
abbrev ytz:List OT:= [⟨false,tM,(.pr (.ow .fz) (.pr (.ow (.pr .fz .fz)) (.pr .fz (.ow .fz))))⟩]
def ypL (a0:dM) (a1:Int):Option (zaY ytz×zak ymy) :=let r1:=yaz a0;let r2:=yaC a0;bif(!(!r2))then let r3:=yb a1 0 (i64.wrap ((a0.1.length:Int)-1));bif(!(!r3))then let r4:=yg1 a0.2.2.2 a1;bif r4 then some ((r1,()),()) else bif(zkl r1.2.2.2.length ([a1]:List Int).length 8)then zkt (ylH (((a1,()),((),()),((),()),((i64.wrap (((r1.2.2.2++([a1]:List Int)).length:Int)-1)),()),()),(((),(),false,(),()),((),(),r1.2.2.1,(),()),()),(r1.1,r1.2.1,(r1.2.2.2++([a1]:List Int)),()))) (fun y4 =>bif(inb y4.1.2.2.2.1.1 y4.2.2.2.2.1.length)then some (((y4.2.2.1,y4.2.2.2.1,y4.2.1.2.1.2.2.1,(y4.2.2.2.2.1.set (y4.1.2.2.2.1.1).toNat y4.1.1.1)),()),()) else none) (fun y4 =>none) else none else some ((r1,()),()) else some ((r1,()),())
theorem yM4:ConOk prog 112 ⟨ymy,ytz,fun x=>ypL x.1 x.2.1⟩:=zkI (yJQ) func112 ntmps112.symm fun x=>by kernel_rfl
def ymZ (a0:dM) (a1:Int):dM:=spoil a0 a1
theorem yUu (n:Int) (m:dM) (p:List Int) (hp: ∀x∈p,x<n): ∀(j:Nat) (q1 q2:List Int) (x:Int) (fuel:Nat),q1.length=j→j<fuel→(∀y∈q1,n<y)→p.length+q1.length≤1000 →
  ∃(x':Int) (q':List Int),q1++q2=q'∧zF ybk fuel (ykP n ((p.length+q1.length:Nat):Int) yh (m.1,m.2.1,m.2.2.1,(p++q1)++x::q2))=some (.inl (yHw n (p.length:Nat) yh (m.1,m.2.1,m.2.2.1,p++x'::q')))
 | 0,q1,q2,x,fuel+1,hj,hf,hq,hb=>by
  have:q1= []:=List.length_eq_zero_iff.1 hj;subst this;refine⟨x,q2,rfl,?_⟩;simp only[zF,ybk,ykP,yk2,List.length_nil,Nat.add_zero,List.append_nil];rcases List.eq_nil_or_concat p with rfl | ⟨P,y,rfl⟩
  ·rfl
  ·have hy:=hp y (by simp)
   simp only[List.concat_eq_append,List.length_append,List.length_cons,List.length_nil,List.append_assoc,List.cons_append,List.nil_append]at hb ⊢
   rw[zky (show(0:Int)<((P.length+(0+1):Nat):Int)by omega),wq (((P.length+(0+1):Nat):Int)-1) (by omega) (by omega),show((P.length+(0+1):Nat):Int)-1=(P.length:Nat)by omega,
    zkR (by simp),zkS,y0V,zk3 (show y≤n by omega)]
   rfl
 | j+1,q1,q2,x,fuel+1,hj,hf,hq,hb=>by
  rcases List.eq_nil_or_concat q1 with rfl | ⟨Q,y,rfl⟩
  ·cases hj
  ·rw[List.concat_eq_append]at hj hq hb ⊢
   have hQ:Q.length=j:=by simpa using hj
   have hy:=hq y (by simp);obtain⟨x',q',e1,e2⟩:=yUu n m p hp j Q (y::q2) y fuel hQ (by omega) (fun z hz=>hq z (by simp[hz])) (by simp at hb; omega);refine⟨x',q',by rw[← e1]; simp,?_⟩;rw[← e2];have ea:((p++(Q++ [y]))++x::q2)=(p++Q)++y::x::q2:=by simp
   have el:p.length+(Q++ [y]).length=(p++Q).length+1:=by simp; omega
   have el2:p.length+Q.length=(p++Q).length:=by simp
   have hb2:(p++Q).length≤1000:=by simp at hb ⊢; omega
   rw[ea,el,el2];generalize p++Q=A at hb2;rw[zF];simp only[ybk,ykP,yk2]
   have es:(A++y::x::q2).set (A.length+1) y=A++y::y::q2:=by
    have:=y00 (A++ [y]) x y q2;simp at this ⊢
   rw[zky (show(0:Int)<((A.length+1:Nat):Int)by omega),wq (((A.length+1:Nat):Int)-1) (by omega) (by omega),show((A.length+1:Nat):Int)-1=(A.length:Nat)by omega,zkR (show A.length<(A++y::x::q2).length by simp),zkS,y0V,zky hy,
    zkR (show A.length+1<(A++y::x::q2).length by simp),Int.toNat_natCast,es]
   rfl
theorem yPR (a0:dM) (a1:Int) (hk:zjx ymy (a0,a1,())):ypL a0 a1=(fun n=>some ((n,()),())) (ymZ a0 a1):=by
 unfold ypL ymZ spoil;simp only[yaz,yaC,yb6,yg1];cases hm:yz a0
 ·rfl
 obtain⟨h1,h2,h3,h4,h5,h6⟩:=ycv hm;rw[yrY]at h3;have hlen:=yVk h3.2 (lo:=0) (n:=a0.1.length) h3.1 (by omega);rw[wq ((a0.1.length:Int)-1) (by omega) (by omega)]
 have hi:(leb 0 a1&&leb a1 ((a0.1.length:Int)-1))=inb a1 a0.1.length:=by
  rw[Bool.eq_iff_iff,Bool.and_eq_true,zj7,zj7,zj6]; omega
 rw[hi];cases hin:inb a1 a0.1.length
 ·rfl
 cases hh:a0.2.2.2.any (· ==a1)
 ·have hn:a1∉a0.2.2.2:=fun h=>by
   have:=List.any_eq_false.1 hh a1 h;simp at this
  have hsp:=y0f h3.2 hn;have hp: ∀x∈a0.2.2.2.filter (fun x=>ltb x a1),x<a1:=fun x hx=>zka.1 (List.mem_filter.1 hx).2
  have hq: ∀x∈a0.2.2.2.filter (fun x=>ltb a1 x),a1<x:=fun x hx=>zka.1 (List.mem_filter.1 hx).2
  unfold yGD;generalize a0.2.2.2.filter (fun x=>ltb x a1)=P at hsp hp;generalize a0.2.2.2.filter (fun x=>ltb a1 x)=Q at hsp hq;have hPQ:P.length+Q.length=a0.2.2.2.length:=by rw[hsp,List.length_append]
  obtain⟨x',q',e1,e2⟩:=yUu a1 a0 P hp Q.length Q [] a1 18446744073709551616 rfl (by omega) hq (by omega);rw[List.append_nil]at e1;subst e1;simp only[cond_true,cond_false,Bool.not_true,Bool.not_false,Bool.and_self]
  rw[zkF.2 (show(a0.2.2.2.length+ [a1].length)*8≤140737488355328 by simp only[List.length_cons,List.length_nil]; omega),wr (show -9223372036854775808≤((a0.2.2.2++ [a1]).length:Int)-1 by omega) (by simp only[List.length_append,List.length_cons,List.length_nil]; omega),
   show((a0.2.2.2++ [a1]).length:Int)-1=((P.length+Q.length:Nat):Int)by simp only[List.length_append,List.length_cons,List.length_nil]; omega,hsp,cond_true]
  refine(congrArg (fun z=>zkt z _ _) (show ylH (yHB a1 ((P.length+Q.length:Nat):Int) yh (a0.1,a0.2.1,a0.2.2.1,(P++Q)++ [a1]))=_ from e2)).trans ?_;simp only[zkN];show(bif inb (P.length:Int) (P++x'::Q).length then some (((a0.1,a0.2.1,a0.2.2.1,(P++x'::Q).set (P.length:Int).toNat a1),()),())else none)=_;rw[zkR (by simp),Int.toNat_natCast,y00]; rfl
 ·rfl
def yAm:Con:=⟨ymy,ytz,fun x=>(fun n=>some ((n,()),())) (ymZ x.1 x.2.1)⟩
theorem yQz:ConOk prog 112 yAm:=(yM4).mono (fun x r hk h=>(yPR x.1 x.2.1 hk).trans h)
section
def yXV:Code:=(f216.body).getD .skip
def yYq:Env:=zkw TT [(78,yGl),(82,yF),(200,ygT)] []
theorem yOS:FrOk prog ⟨yYq,48,fun _=>none⟩ yXV:=zkA mixed yc ⟨yYY,yK,ym3,trivial⟩
abbrev yyX:List Par:= [.rd tA,.rd tI,.rd tL]
abbrev yzt:List OT:= [⟨false,tI,.fz⟩]
def yFw (a0:dA) (a1:Int) (a2:List Int):Option (zaY yzt×zak yyX) :=let r1:=ycy a0;bif(!(!r1))then bif(!((a2.length:Int) !=(i64.wrap (a0.2.1.1-1))))then let r2:=yag a2;bif(!r2)then some ((1,()),()) else bif a0.2.2.2.2.2.2.2.2.2.2.1 then some ((6,()),()) else let r3:=yb a1 0 (i64.wrap (a0.2.1.2-1));bif(!r3)then some ((2,()),()) else bif a0.2.2.2.2.2.2.2.2.2.2.2 then some ((5,()),()) else bif(!(leb 60000 a0.2.2.2.2.2.1))then bif(leb 59990 a0.2.2.2.2.2.2.2.1)then some ((7,()),()) else some ((0,()),()) else some ((7,()),()) else some ((1,()),()) else some ((1,()),())
theorem yTM:ConOk prog 216 ⟨yyX,yzt,fun x=>yFw x.1 x.2.1 x.2.2.1⟩:=zkI (yOS) func216 ntmps216.symm fun x=>by kernel_rfl
def yw (a0:dA) (a1:Int) (a2:List Int):Int :=let r1:=ycy a0;bif(!(!r1))then bif(!((a2.length:Int) !=(i64.wrap (a0.2.1.1-1))))then let r2:=yag a2;bif(!r2)then 1 else bif a0.2.2.2.2.2.2.2.2.2.2.1 then 6 else let r3:=yb a1 0 (i64.wrap (a0.2.1.2-1));bif(!r3)then 2 else bif a0.2.2.2.2.2.2.2.2.2.2.2 then 5 else bif(!(leb 60000 a0.2.2.2.2.2.1))then bif(leb 59990 a0.2.2.2.2.2.2.2.1)then 7 else 0 else 7 else 1 else 1
def yER:Con:=⟨yyX,yzt,fun x=>(fun n=>some ((n,()),())) (yw x.1 x.2.1 x.2.2.1)⟩
theorem yV1 (a0:dA) (a1:Int) (a2:List Int):yFw a0 a1 a2=(fun n=>some ((n,()),())) (yw a0 a1 a2):=zkV (p:=fun(n:Int)=>((n,()),())) (zkG (p:=fun(n:Int)=>((n,()),())) (zkG (p:=fun(n:Int)=>((n,()),())) (zkG (p:=fun(n:Int)=>((n,()),())) rfl (zkG (p:=fun(n:Int)=>((n,()),())) rfl (zkG (p:=fun(n:Int)=>((n,()),())) rfl (zkG (p:=fun(n:Int)=>((n,()),())) rfl (zkG (p:=fun(n:Int)=>((n,()),())) (zkG (p:=fun(n:Int)=>((n,()),())) rfl rfl) rfl))))) rfl) rfl)
theorem yWM:ConOk prog 216 yER:=(yTM).mono (fun x r _ h=>(yV1 x.1 x.2.1 x.2.2.1).trans h)
def yEU (l:List dW) (k:Nat):List dW:=l.take k++l.drop (k+1)
def yB (a:dA) (s:Int):Int×dA :=bif ltb (yi a.2.2.2.2.2.2.2.2.1 s) 0 then(0,a)else bif yw a s (nth a.2.2.2.2.2.2.2.2.1 (yi a.2.2.2.2.2.2.2.2.1 s) (0,[])).2 !=0 then(yw a s (nth a.2.2.2.2.2.2.2.2.1 (yi a.2.2.2.2.2.2.2.2.1 s) (0,[])).2,a)else bif(yE a s (nth a.2.2.2.2.2.2.2.2.1 (yi a.2.2.2.2.2.2.2.2.1 s) (0,[])).2).1==0 then (0,yav (yE a s (nth a.2.2.2.2.2.2.2.2.1 (yi a.2.2.2.2.2.2.2.2.1 s) (0,[])).2).2 (yEU a.2.2.2.2.2.2.2.2.1 (yi a.2.2.2.2.2.2.2.2.1 s).toNat)) else yE a s (nth a.2.2.2.2.2.2.2.2.1 (yi a.2.2.2.2.2.2.2.2.1 s) (0,[])).2
theorem yxo {a:dA} {s:Int} {d:List Int} (h:yw a s d=0):yO a=true∧(d.length:Int)=a.2.1.1-1∧d.all isW=true∧ya a=false∧yG a.2.1 s=true∧a.2.2.2.2.2.2.2.2.2.2.2=false∧a.2.2.2.2.2.1<60000∧a.2.2.2.2.2.2.2.1<59990:=by
 unfold yw at h;simp only[ycy,yfv,yb6]at h;cases ha:yO a
 ·rw[ha]at h; exact absurd (show(1:Int)=0 from h) (by decide)
 have hg:=yj.1 (yb3 ha);rw[ha,wq (a.2.1.1-1) (by omega) (by omega),wq (a.2.1.2-1) (by omega) (by omega)]at h;cases hl:((d.length:Int) !=a.2.1.1-1)
 ·cases hw:d.all isW
  ·rw[hl,hw]at h; exact absurd (show(1:Int)=0 from h) (by decide)
  cases hd:a.2.2.2.2.2.2.2.2.2.2.1
  ·cases hs:(leb 0 s&&leb s (a.2.1.2-1))
   ·rw[hl,hw,hd,hs]at h; exact absurd (show(2:Int)=0 from h) (by decide)
   cases hb:a.2.2.2.2.2.2.2.2.2.2.2
   ·cases h6:leb 60000 a.2.2.2.2.2.1
    ·cases h7:leb 59990 a.2.2.2.2.2.2.2.1
     ·have e6: ¬(60000≤a.2.2.2.2.2.1):=fun g=>by rw[zk2 g]at h6; cases h6
      have e7: ¬(59990≤a.2.2.2.2.2.2.2.1):=fun g=>by rw[zk2 g]at h7; cases h7
      exact⟨rfl,bne_eq_false_iff_eq.1 hl,rfl,hd,by unfold yG; rw[yb3 ha,hs]; rfl,rfl,by omega,by omega⟩
     ·rw[hl,hw,hd,hs,hb,h6,h7]at h; exact absurd (show(7:Int)=0 from h) (by decide)
    ·rw[hl,hw,hd,hs,hb,h6]at h; exact absurd (show(7:Int)=0 from h) (by decide)
   ·rw[hl,hw,hd,hs,hb]at h; exact absurd (show(5:Int)=0 from h) (by decide)
  ·rw[hl,hw,hd]at h; exact absurd (show(6:Int)=0 from h) (by decide)
 ·rw[hl]at h; exact absurd (show(1:Int)=0 from h) (by decide)
theorem yW0 (a:dA):(yq a).2.2.2.2.2.2.2.2.1=a.2.2.2.2.2.2.2.2.1:=by
 unfold yq;cases leb 4 (i64.wrap (a.2.2.2.2.2.1-a.2.2.2.2.2.2.1))
 ·rfl
 ·exact y0t a
theorem y0G (a:dA):(yaa a).2.2.2.2.2.2.2.2.1=a.2.2.2.2.2.2.2.2.1:=rfl
theorem yNE (a:dA) (s:Int) (d:List Int):(yE a s d).2.2.2.2.2.2.2.2.2.1=a.2.2.2.2.2.2.2.2.1:=by
 unfold yE;have h2:=(yRO (ybA (yq a) ((yq a).2.2.2.2.2.1,s,d))).trans (yW0 a);generalize yQ (yq a) ((yq a).2.2.2.2.2.1,s,d)=R at h2 ⊢;have h3:=(yRO (yxt (yaa R) s d)).trans ((y0G R).trans h2);generalize yH (yaa R) s d=Q at h3 ⊢;cases ya (yq a)
 ·cases ya R
  ·exact h3
  ·exact h2
 ·exact yW0 a
theorem y1H {l:List dW} {k:Int} (h0:0≤k) (h1:k<(l.length:Int)):(([]:List dW)++((l.drop (0:Int).toNat).take (k-0).toNat))++((l.drop (k+1).toNat).take ((l.length:Int)-(k+1)).toNat)=yEU l k.toNat:=by
 unfold yEU;rw[List.nil_append,show(0:Int).toNat=0 from rfl,List.drop_zero,Int.sub_zero,show(k+1).toNat=k.toNat+1 by omega,List.take_of_length_le (l:=l.drop (k.toNat+1)) (by rw[List.length_drop]; omega)]
def yge (_:Nat) (a:dA):dA ⊕ (Int×dA):=bif(yB a (nth a.2.2.2.2.2.2.2.2.1 0 (0,[])).1).1 !=0 then .inr (yB a (nth a.2.2.2.2.2.2.2.2.1 0 (0,[])).1)else .inl (yB a (nth a.2.2.2.2.2.2.2.2.1 0 (0,[])).1).2
def ykG (a:dA):Int×dA:=goE yge (fun b=>(0,b)) a.2.2.2.2.2.2.2.2.1.length 0 a
theorem yHh {e:dW} {l:List dW}:yi (e::l) e.1=0:=by
 unfold yi;rw[yub,show(e.1==e.1)=true from beq_self_eq_true _]; rfl
theorem yRT {a:dA} (h:0<a.2.2.2.2.2.2.2.2.1.length) (h0:(yB a (nth a.2.2.2.2.2.2.2.2.1 0 (0,[])).1).1=0):(yB a (nth a.2.2.2.2.2.2.2.2.1 0 (0,[])).1).2.2.2.2.2.2.2.2.2.1=a.2.2.2.2.2.2.2.2.1.drop 1:=by
 unfold yB at h0 ⊢
 have hk:yi a.2.2.2.2.2.2.2.2.1 (nth a.2.2.2.2.2.2.2.2.1 0 (0,[])).1=0:=by
  cases hl:a.2.2.2.2.2.2.2.2.1 with
  | nil=>rw[hl]at h; exact absurd h (Nat.lt_irrefl 0)
  | cons e l=>exact yHh
 rw[hk]at h0 ⊢;generalize (nth a.2.2.2.2.2.2.2.2.1 0 (0,[])).2=D at h0 ⊢;generalize (nth a.2.2.2.2.2.2.2.2.1 0 (0,[])).1=s at h0 ⊢;cases hc:(yw a s D !=0)
 ·rw[hc]at h0
  cases hr:((yE a s D).1==0)
  ·rw[hr]at h0
   exact absurd (show(yE a s D).1=0 from h0) (beq_eq_false_iff_ne.1 hr)
  ·rfl
 ·rw[hc]at h0
  exact absurd (show yw a s D=0 from h0) (bne_iff_ne.1 hc)
def yxJ (a:dA) (s:Int):dA×Int:=bif !(yO a)then(a,1)else bif ya a then(a,6)else bif !(yG a.2.1 s)then(a,2)else((yB a s).2,(yB a s).1)
def yHi (a:dA):dA×Int:=bif !(yO a)then(a,1)else bif ya a then(a,6)else((ykG a).2,(ykG a).1)
inductive Turned (a:dA):dA→Prop where
 | same:Turned a a
 | put (b x:Int):yax a.2.1 b=true→isW x=true→Turned a (ybB a b x).2
 | flush (s:Int):Turned a (yB a s).2
 | all:Turned a (ykG a).2
 | fail (m:Int):a.2.2.2.1= -1→inb m a.2.2.1.length=true→Turned a (yoC a m)
 | spare:inb a.2.2.2.1 a.2.2.1.length=true→(nth a.2.2.1 a.2.2.2.1 yh).2.2.1=true→Turned a (yak (yb2 a))
 | step:inb a.2.2.2.1 a.2.2.1.length=true→(nth a.2.2.1 a.2.2.2.1 yh).2.2.1=false→a.2.2.2.2.1<a.2.1.2→Turned a (ysj a).2
 | check:Turned a (yW a)
 | spoil (m s:Int):a.2.2.2.1= -1→inb m a.2.2.1.length=true→0≤s→s<a.2.1.2→Turned a (yeo a m (spoil (nth a.2.2.1 m yh) (yX s)))
def yZc (g:dG) (e:dW):Prop:=(0≤e.1∧e.1≤g.2-1)∧(e.2.length:Int)=g.1-1∧e.2.all isW=true
theorem ye2 {g:dG} {l:List dW}:yaq g l=true↔(∀e∈l,yZc g e)∧l.Pairwise (fun x y=>x.1<y.1):=by
 have bad: ∀i,yhr g l i=false↔yZc g (nth l i (0,[]))∧(0<i→(nth l ((i-1:Nat):Int) (0,[])).1<(nth l i (0,[])).1):=by
  intro i;unfold yhr yZc;simp only[Bool.or_eq_false_iff,Bool.not_eq_false',bne_eq_false_iff_eq,Bool.and_eq_true,Bool.and_eq_false_iff,decide_eq_false_iff_not,zj7];constructor
  ·rintro⟨h1,h2,h3,h4⟩
   refine⟨⟨h1,h2,h3⟩,fun h0=> ?_⟩;rcases h4 with h4 | h4
   ·exact absurd h0 h4
   ·have:=mt zk2 (by rw[h4]; simp: ¬leb (nth l i (0,[])).1 (nth l ((i-1:Nat):Int) (0,[])).1=true)
    omega
  ·rintro⟨⟨h1,h2,h3⟩,h4⟩
   refine⟨h1,h2,h3,?_⟩;by_cases h0:0<i
   ·exact .inr (zk1 (by have:=h4 h0; omega))
   ·exact .inl h0
 unfold yaq;simp only[Bool.not_eq_true',List.any_eq_false,List.mem_range,Bool.not_eq_true,bad];constructor
 ·intro h
  refine⟨fun e he=> ?_,?_⟩
  ·obtain⟨i,hi,rfl⟩:=List.getElem_of_mem he
   have:=(h i hi).1;rwa[zkS,zkJ hi]at this
  ·rw[List.pairwise_iff_getElem]
   have step: ∀(d i:Nat) (hi:i<l.length) (hj:i+d+1<l.length),l[i].1<l[i+d+1].1:=by
    intro d
    induction d with
    | zero =>
     intro i hi hj;have:=(h (i+1) hj).2 (by omega);rwa[Nat.add_sub_cancel,zkS,zkS,zkJ hi,zkJ hj]at this
    | succ d ih =>
     intro i hi hj;have h1:=ih i hi (by omega);have:=(h (i+d+1+1) hj).2 (by omega);rw[Nat.add_sub_cancel,zkS,zkS,zkJ (show i+d+1<l.length by omega),zkJ (show i+d+1+1<l.length from hj)]at this;exact Int.lt_trans h1 this
   intro i j hi hj hij;have:=step (j-i-1) i hi (by omega);have e:i+(j-i-1)+1=j:=by omega
   simp only[e]at this;exact this
 ·rintro⟨h1,h2⟩ i hi
  rw[List.pairwise_iff_getElem]at h2;refine⟨by rw[zkS,zkJ hi]; exact h1 _ (List.getElem_mem hi),fun h0=> ?_⟩;rw[zkS,zkS,zkJ hi,zkJ (show i-1<l.length by omega)];exact h2 (i-1) i (by omega) hi (by omega)
theorem yW4 {g:dG} {l:List dW} (k:Nat) (h:yaq g l=true):yaq g (yEU l k)=true:=by
 rw[ye2]at h ⊢
 have hs:(yEU l k).Sublist l:=by
  unfold yEU;have:(l.take k++l.drop (k+1)).Sublist (l.take k++l.drop k):=List.Sublist.append_left (by rw[← List.drop_drop]; exact List.drop_sublist _ _) _;rwa[List.take_append_drop]at this
 exact⟨fun e he=>h.1 e (hs.subset he),h.2.sublist hs⟩
theorem y0b (e:dW): ∀(l acc:List dW),l.foldl (ycz e) (true,acc)=(true,acc++l.filter (fun x=>x.1 !=e.1))
 | [],acc=>by simp
 | x::t,acc=>by
  rw[List.foldl_cons];have:ycz e (true,acc) x=(true,acc++(bif x.1 !=e.1 then[x]else[])):=rfl;rw[this,y0b e t,List.filter_cons];cases x.1 !=e.1<;>simp
theorem yFf {e:dW} {l:List dW} (h:l.Pairwise (fun x y=>x.1<y.1)):ydI l e=l.filter (fun x=>ltb x.1 e.1)++e::l.filter (fun x=>ltb e.1 x.1):=by
 have: ∀(l acc:List dW),l.Pairwise (fun x y=>x.1<y.1)→(bif(l.foldl (ycz e) (false,acc)).1 then(l.foldl (ycz e) (false,acc)).2 else(l.foldl (ycz e) (false,acc)).2++ [e])=acc++(l.filter (fun x=>ltb x.1 e.1)++e::l.filter (fun x=>ltb e.1 x.1)):=by
  intro l
  induction l with
  | nil=>intro acc _; simp
  | cons x t ih =>
   intro acc h;obtain⟨hx,ht⟩:=List.pairwise_cons.1 h;rw[List.foldl_cons];by_cases hle:e.1≤x.1
   ·have h1:ycz e (false,acc) x=(true,(acc++ [e])++(bif x.1 !=e.1 then[x]else[])):=by
     unfold ycz; rw[zk2 hle]; rfl
    have h2:t.filter (fun x=>x.1 !=e.1)=t:=List.filter_eq_self.2 (fun y hy=>bne_iff_ne.2 (by have:=hx y hy; omega));have h3:t.filter (fun x=>ltb x.1 e.1)= []:=List.filter_eq_nil_iff.2 (fun y hy=>by rw[zk3 (by have:=hx y hy; omega)]; simp);have h4:t.filter (fun x=>ltb e.1 x.1)=t:=List.filter_eq_self.2 (fun y hy=>zky (by have:=hx y hy; omega));rw[h1,y0b,h2,List.filter_cons,List.filter_cons,h3,h4,zk3 (show e.1≤x.1 by omega)];by_cases he:x.1=e.1
    ·rw[show(x.1 !=e.1)=false from bne_eq_false_iff_eq.2 he,zk3 (show x.1≤e.1 by omega)]; simp
    ·rw[show(x.1 !=e.1)=true from bne_iff_ne.2 he,zky (show e.1<x.1 by omega)]; simp
   ·have h1:ycz e (false,acc) x=(false,acc++ [x]):=by
     unfold ycz; rw[zk1 (show x.1<e.1 by omega),show(x.1 !=e.1)=true from bne_iff_ne.2 (by omega)]; rfl
    rw[h1,ih _ ht,List.filter_cons,List.filter_cons,zky (show x.1<e.1 by omega),zk3 (show x.1≤e.1 by omega)];simp
 have:=this l [] h;rw[List.nil_append]at this;exact this
theorem yW5 {g:dG} {l:List dW} {e:dW} (h:yaq g l=true) (he:yZc g e):yaq g (ydI l e)=true:=by
 rw[ye2]at h ⊢;rw[yFf h.2];refine⟨fun x hx=> ?_,?_⟩
 ·rcases List.mem_append.1 hx with h1 | h1
  ·exact h.1 x (List.mem_filter.1 h1).1
  ·rcases List.mem_cons.1 h1 with rfl | h1
   ·exact he
   ·exact h.1 x (List.mem_filter.1 h1).1
 ·rw[List.pairwise_append,List.pairwise_cons]
  refine⟨h.2.filter _,⟨fun y hy=>zka.1 (List.mem_filter.1 hy).2,h.2.filter _⟩,fun x hx y hy=> ?_⟩;have h1:=zka.1 (List.mem_filter.1 hx).2;rcases List.mem_cons.1 hy with rfl | hy
  ·exact h1
  ·exact Int.lt_trans h1 (zka.1 (List.mem_filter.1 hy).2)
theorem yis {g:dG} {l:List dW} (h:yaq g l=true) (hg:ye g=true):l.length≤8:=by
 rw[ye2]at h;have hg:=yj.1 hg
 have:=yVk (l:=l.map (fun e=>e.1)) (lo:=0) (n:=g.2) (by rw[List.pairwise_map]; exact h.2) (fun x hx=>by
  obtain⟨e,he,rfl⟩:=List.mem_map.1 hx
  have:=(h.1 e he).1; omega) (by omega)
 rw[List.length_map]at this;omega
theorem yZV {a:dA} (r:dN) (h:yap a):yap (yQ a r) :=yE4 (ykL (P:=yap) (one:=ybz r) (yoO r) (fun _ _ h hi=>yDi h (zkR hi)) _ a (Nat.le_refl _) h)
theorem y2w {a:dA} (r:dN) (h:yiN a):yiN (yQ a r) :=yEZ (ykL (P:=yiN) (one:=ybz r) (yoO r) (fun _ _ h _=>yHr h _ _ _) _ a (Nat.le_refl _) h)
theorem yXc {a:dA} (s:Int) (d:List Int) (h:yap a):yap (yH a s d) :=
 ykL (P:=yap) (one:=ybf (yg a.2.1 s) a.2.1.1 s d) (yw4 _ _ _ _) (fun b i h hi=>by
  unfold ybf;cases yct b i s
  ·exact h
  ·exact yDi h (zkR hi)) _ a (Nat.le_refl _) h
theorem y1O {a:dA} (s:Int) (d:List Int) (h:yiN a):yiN (yH a s d) :=
 ykL (P:=yiN) (one:=ybf (yg a.2.1 s) a.2.1.1 s d) (yw4 _ _ _ _) (fun b i h hi=>by
  unfold ybf;cases yct b i s
  ·exact h
  ·exact yHr h _ _ _) _ a (Nat.le_refl _) h
theorem y3V {k:Int} {a:dA} (r:dN) (h:Wk k a):Wk k (yQ a r):=yBk (ybA _ _) (yZV r h.2.1) (y2w r h.2.2.1) h
theorem y3s {k:Int} {a:dA} (s:Int) (d:List Int) (h:Wk k a):Wk k (yH a s d):=yBk (yxt _ _ _) (yXc s d h.2.1) (y1O s d h.2.2.1) h
theorem y2W {k:Int} {a:dA} (h:Wk k a) (h1:a.2.2.2.2.2.1<60000) (h2:a.2.2.2.2.2.1-a.2.2.2.2.2.2.1≤3):Wk k (yaa a):=by
 obtain⟨⟨c1,c2,c3,c4,c5,c6,c7,c8,c9,c10,c11⟩,g2,g3,g4,g5⟩:=h;have e:i64.wrap (a.2.2.2.2.2.1+1)=a.2.2.2.2.2.1+1:=wr (by omega) (by omega);refine⟨⟨c1,c2,c3,c4,c5,c6,c7,⟨?_,?_⟩,?_,c10,c11⟩,g2,g3,g4,g5⟩
 ·show a.2.2.2.2.2.2.1≤i64.wrap (a.2.2.2.2.2.1+1); omega
 ·show i64.wrap (a.2.2.2.2.2.1+1)≤60000; omega
 ·show i64.wrap (a.2.2.2.2.2.1+1)≤a.2.2.2.2.2.2.1+4; omega
theorem yiQ {a b:dA} (h:yv a=yv b):a.2.2.2.2.2.1=b.2.2.2.2.2.1:=congrArg (fun x=>x.2.2.2.2.1) h
theorem yW2 {a b:dA} (h:yv a=yv b):a.2.2.2.2.2.2.1=b.2.2.2.2.2.2.1:=congrArg (fun x=>x.2.2.2.2.2.1) h
theorem yRM {a:dA} (h:yiN a):yv (yW a)=yv (yay (ybe a)):=by
 rw[yRN h,ynv];have:=ydf a;unfold yv at this ⊢;simp only[Prod.mk.injEq]at this;obtain⟨h1,h2,h3,h4,h5,h6,h7,h8,h9⟩:=this;unfold yay ybe;simp only[h1,h2,h3,h4,h5,h7,h8,h9]
theorem y3T {k:Int} {a:dA} (h:Wk k a) (hk:k+1≤60000):Wk (k+1) (yq a)∧(yq a).2.2.2.2.2.1=a.2.2.2.2.2.1∧(yq a).2.2.2.2.2.1-(yq a).2.2.2.2.2.2.1≤3:=by
 have c:=h.1;unfold yaH at c;unfold yq;rw[wr (by omega) (by omega)];cases h4:leb 4 (a.2.2.2.2.2.1-a.2.2.2.2.2.2.1)
 ·refine⟨ydg h (by omega),rfl,?_⟩
  have: ¬(4≤a.2.2.2.2.2.1-a.2.2.2.2.2.2.1):=fun g=>by rw[zk2 g]at h4; cases h4
  show a.2.2.2.2.2.1-a.2.2.2.2.2.2.1≤3; omega
 ·have e1:(yW a).2.2.2.2.2.1=a.2.2.2.2.2.1:=(yiQ (yRM h.2.2.1)).trans rfl
  have e2:(yW a).2.2.2.2.2.2.1=a.2.2.2.2.2.1:=(yW2 (yRM h.2.2.1)).trans rfl;rw[cond_true];exact⟨y0k h hk,e1,by omega⟩
theorem y0n {k:Int} {a:dA} (s:Int) (d:List Int) (h:Wk k a) (hs:a.2.2.2.2.2.1<60000) (hk:k+1≤60000):Wk (k+1) (yE a s d).2∧(yE a s d).1=0:=by
 obtain⟨h1,h2,h3⟩:=y3T h hk;have h4:=y3V ((yq a).2.2.2.2.2.1,s,d) h1;have e1:=yiQ (ybA (yq a) ((yq a).2.2.2.2.2.1,s,d));have e2:=yW2 (ybA (yq a) ((yq a).2.2.2.2.2.1,s,d));unfold yE;generalize yQ (yq a) ((yq a).2.2.2.2.2.1,s,d)=R at h4 e1 e2 ⊢;have h5:=y3s s d (y2W h4 (by omega) (by omega));generalize yH (yaa R) s d=Q at h5 ⊢;rw[h1.2.2.1.1,h4.2.2.1.1,h5.2.2.1.1];exact⟨h5,rfl⟩
theorem yw8 {k:Int} {a:dA} {l:List dW} (h:Wk k a) (hd:yaq a.2.1 l=true):Wk k (yav a l):=by
 obtain⟨⟨c1,c2,c3,c4,c5,c6,c7,c8,c9,c10,c11⟩,g2,g3,g4,g5⟩:=h;exact⟨⟨c1,c2,hd,c4,c5,c6,c7,c8,c9,c10,c11⟩,g2,g3,g4,g5⟩
theorem yyt (a:dA) (s:Int) (d:List Int):(yE a s d).2.2.1=a.2.1:=by
 unfold yE;have h2:=(yaQ (ybA (yq a) ((yq a).2.2.2.2.2.1,s,d))).trans (yKX a);generalize yQ (yq a) ((yq a).2.2.2.2.2.1,s,d)=R at h2 ⊢;have h3:=(yaQ (yxt (yaa R) s d)).trans (show(yaa R).2.1=a.2.1 from h2);generalize yH (yaa R) s d=Q at h3 ⊢;cases ya (yq a)
 ·cases ya R
  ·exact h3
  ·exact h2
 ·exact yKX a
theorem y0l {k:Int} {a:dA} (s:Int) (h:Wk k a) (hk:k+1≤60000):Wk (k+1) (yB a s).2:=by
 unfold yB;cases ltb (yi a.2.2.2.2.2.2.2.2.1 s) 0
 ·generalize hD:(nth a.2.2.2.2.2.2.2.2.1 (yi a.2.2.2.2.2.2.2.2.1 s) (0,[])).2=D
  cases hc:(yw a s D !=0)
  ·have hz:=yxo (bne_eq_false_iff_eq.1 hc)
   obtain⟨h1,h2⟩:=y0n s D h hz.2.2.2.2.2.2.1 hk;rw[show((yE a s D).1==0)=true from beq_iff_eq.2 h2];exact yw8 h1 (by rw[yyt]; exact yW4 _ h.1.2.2.1)
  ·exact ydg h (by omega)
 ·exact ydg h (by omega)
theorem y0m {k:Int}: ∀(n i:Nat) (j:Int) (a:dA),Wk j a→j+n≤k→k≤60000→Wk k (goE yge (fun b=>((0:Int),b)) n i a).2
 | 0,_,j,a,h,h1,_=>ydg h (by omega)
 | n+1,i,j,a,h,h1,h2=>by
  have h3:=y0l (nth a.2.2.2.2.2.2.2.2.1 0 (0,[])).1 h (by omega);unfold goE yge;cases((yB a (nth a.2.2.2.2.2.2.2.2.1 0 (0,[])).1).1 !=0)
  ·exact y0m n (i+1) (j+1) _ h3 (by omega) h2
  ·exact ydg h3 (by omega)
theorem y3R {k:Int} {a:dA} (h:Wk k a) (hk:k+8≤60000):Wk (k+8) (ykG a).2:=by
 have:=yis h.1.2.2.1 h.1.1;exact y0m _ 0 k a h (by omega) hk
theorem y3W {k:Int} {a:dA} {b n:Int} (h:Wk k a) (hb:yax a.2.1 b=true) (hn:isW n=true):Wk k (ybB a b n).2:=by
 unfold ybB;cases hs:(ym a (yp a.2.1 b)).2
 ·exact h
 ·have hstr:=ygg hb
  have hl:=yhw (y3S h) hstr hs;refine yw8 h (yW5 h.1.2.2.1 ⟨(yM.1 hstr).2,by rw[List.length_set]; exact hl,yWV ?_ hn⟩);unfold ym;cases hk:leb 0 (yi a.2.2.2.2.2.2.2.2.1 (yp a.2.1 b))
  ·rw[h.2.2.2.1]; exact yW3 _ _
  ·have:=(ygV (d:=((0:Int),([]:List Int))) hk).1
   exact ywx (P:=fun e:dW=>e.2.all isW=true) this (fun e he=>((ye2.1 h.1.2.2.1).1 e he).2.2)
def yQS (a:dA) (s:Int) (d:List Int):dA×Int:=bif yw a s d !=0 then(a,yw a s d)else((yE a s d).2,(yE a s d).1)
theorem y1x (a:dA) (s:Int) (d:List Int):(yE a s d).1=bif ya (yE a s d).2 then 6 else 0:=by
 unfold yE;generalize yq a=C;generalize yQ C (C.2.2.2.2.2.1,s,d)=R;generalize yH (yaa R) s d=Q;rcases Bool.eq_false_or_eq_true (ya C)with h | h
 ·rw[h,cond_true]
  exact(congrArg (fun x=>bif x then(6:Int)else 0) h).symm
 ·rw[h,cond_false]
  rcases Bool.eq_false_or_eq_true (ya R)with h2 | h2
  ·rw[h2,cond_true]
   exact(congrArg (fun x=>bif x then(6:Int)else 0) h2).symm
  ·rw[h2,cond_false]
theorem y0R {α:Type} (p:α→Bool) (l:List α):leb 0 (yU p l)=l.any p:=by
 unfold yU;cases l.any p
 ·rfl
 ·exact zk2 (show(0:Int)≤((l.takeWhile (fun x=> !p x)).length:Int)by omega)
theorem y2H {l:List dW} (h:l.Pairwise (fun x y=>x.1<y.1)) {x y:dW} (hx:x∈l) (hy:y∈l) (e:x.1=y.1):x=y:=by
 induction l with
 | nil=>cases hx
 | cons z t ih =>
  rw[List.pairwise_cons]at h;rcases List.mem_cons.1 hx with e1 | h1<;>rcases List.mem_cons.1 hy with e2 | h2
  ·rw[e1,e2]
  ·have:=h.1 y h2; rw[e1]at e; omega
  ·have:=h.1 x h1; rw[e2]at e; omega
  ·exact ih h.2 h1 h2
theorem yRQ {l:List dW} (h:l.Pairwise (fun x y=>x.1<y.1)) {x:dW} (hx:x∈l):leb 0 (yi l x.1)=true∧nth l (yi l x.1) (0,[])=x:=by
 have h0:leb 0 (yi l x.1)=true:=by
  unfold yi;rw[y0R,List.any_eq_true];exact⟨x,hx,beq_self_eq_true _⟩
 obtain⟨h1,h2⟩:=ygV (d:=((0:Int),([]:List Int))) h0;refine⟨h0,y2H h ?_ hx (beq_iff_eq.1 h2)⟩;obtain⟨k0,k1⟩:=zj6.1 h1
 have k2:(yi l x.1).toNat<l.length:=by
  have k3:0≤yi l x.1:=k0;have k4:yi l x.1<(l.length:Int):=k1;omega
 show l.getD (yi l x.1).toNat (0,[])∈l;rw[zkJ k2];exact List.getElem_mem _
theorem yZK {l:List dW} {t:Int} (h: ∀x∈l,x.1≠t):leb 0 (yi l t)=false:=by
 unfold yi;rw[y0R,List.any_eq_false];exact fun x hx=>by rw[beq_iff_eq]; exact h x hx
theorem yZL {l m:List dW} (hl:l.Pairwise (fun x y=>x.1<y.1)) (hm:m.Pairwise (fun x y=>x.1<y.1)) {t:Int} (h: ∀x:dW,x.1=t→(x∈m↔x∈l)):leb 0 (yi m t)=leb 0 (yi l t)∧(leb 0 (yi l t)=true→nth m (yi m t) (0,[])=nth l (yi l t) (0,[])):=by
 by_cases hx: ∃x∈l,x.1=t
 ·obtain⟨x,hx,rfl⟩:=hx
  obtain⟨a1,a2⟩:=yRQ hl hx;obtain⟨b1,b2⟩:=yRQ hm ((h x rfl).2 hx);exact⟨by rw[a1,b1],fun _=>by rw[a2,b2]⟩
 ·have h1: ∀x∈l,x.1≠t:=fun x hx2 e=>hx ⟨x,hx2,e⟩
  rw[yZK h1,yZK (fun x hx2 e=>h1 x ((h x e).1 hx2) e)];exact⟨rfl,fun h=>by cases h⟩
theorem y3n {l:List dW} {e x:dW} (h:l.Pairwise (fun x y=>x.1<y.1)) (hx:x.1≠e.1):x∈ydI l e↔x∈l:=by
 rw[yFf h,List.mem_append,List.mem_cons,List.mem_filter,List.mem_filter];constructor
 ·rintro(h | h | h)
  ·exact h.1
  ·rw[h]at hx; exact absurd rfl hx
  ·exact h.1
 ·intro h
  rcases Int.lt_trichotomy x.1 e.1 with g | g | g
  ·exact .inl ⟨h,zky g⟩
  ·exact absurd g hx
  ·exact .inr (.inr ⟨h,zky g⟩)
def ypu (l:List dW) (s:Int):Int:=bif leb 0 (yU (fun x:dW=> !ltb x.1 s) l)then yU (fun x:dW=> !ltb x.1 s) l else(l.length:Int)
def y1q (l:List dW) (e:dW):List dW:=bif ltb (ypu l e.1) (l.length:Int)&&((nth l (ypu l e.1) (0,[])).1==e.1)then l.set (ypu l e.1).toNat ((nth l (ypu l e.1) (0,[])).1,e.2)else l.take (ypu l e.1).toNat++ [e]++l.drop (ypu l e.1).toNat
theorem y0a (x:dW) (t:List dW) (s:Int):ypu (x::t) s=bif ltb x.1 s then ypu t s+1 else 0:=by
 unfold ypu;rw[yub];cases ltb x.1 s
 ·rfl
 ·simp only[Bool.not_true,cond_false,cond_true,List.length_cons]
  cases hl:leb 0 (yU (fun x:dW=> !ltb x.1 s) t)
  ·rfl
  ·have:=zj7.1 hl
   simp only[cond_true];rw[zk2 (show 0≤yU (fun x:dW=> !ltb x.1 s) t+1 by omega)]; rfl
theorem y1Z (l:List dW) (s:Int):0≤ypu l s∧ypu l s≤(l.length:Int):=by
 induction l with
 | nil=>exact⟨Int.le_refl 0,Int.le_refl 0⟩
 | cons x t ih =>
  rw[y0a,List.length_cons];cases ltb x.1 s
  ·exact⟨Int.le_refl 0,by simp only[cond_false]; omega⟩
  ·simp only[cond_true]; omega
theorem y0Y {e:dW}: ∀{l:List dW},l.Pairwise (fun x y=>x.1<y.1)→y1q l e=l.filter (fun x=>ltb x.1 e.1)++e::l.filter (fun x=>ltb e.1 x.1)
 | [],_=>rfl
 | x::t,h=>by
  obtain⟨hx,ht⟩:=List.pairwise_cons.1 h;have ih:=y0Y (e:=e) ht;unfold y1q at ih ⊢;rw[y0a];cases hlt:ltb x.1 e.1
  ·have hle:=zkW hlt
   have h3:t.filter (fun x=>ltb x.1 e.1)= []:=List.filter_eq_nil_iff.2 (fun y hy=>by rw[zk3 (by have:=hx y hy; omega)]; simp);have h4:t.filter (fun x=>ltb e.1 x.1)=t:=List.filter_eq_self.2 (fun y hy=>zky (by have:=hx y hy; omega));rw[List.filter_cons,List.filter_cons,h3,h4,hlt];simp only[cond_false,List.length_cons,zky (show(0:Int)<((t.length+1:Nat):Int)by omega),Bool.true_and];show(bif(x.1==e.1)then(x.1,e.2)::t else e::x::t)=_;cases he:(x.1==e.1)
   ·have:=beq_eq_false_iff_ne.1 he
    rw[zky (show e.1<x.1 by omega)]; rfl
   ·have:=beq_iff_eq.1 he
    rw[zk3 (show x.1≤e.1 by omega),this]; rfl
  ·have hl:=zka.1 hlt
   have hp:=(y1Z t e.1).1;rw[List.filter_cons,List.filter_cons,hlt,zk3 (show x.1≤e.1 by omega)];simp only[if_true,cond_true,Bool.false_eq_true,if_false,List.cons_append];rw[← ih];obtain⟨k,hk⟩: ∃k:Nat,ypu t e.1=(k:Int):=⟨(ypu t e.1).toNat,by omega⟩
   rw[hk,show((k:Int)+1)=((k+1:Nat):Int)by omega,List.length_cons,show ltb ((k+1:Nat):Int) ((t.length+1:Nat):Int)=ltb (k:Int) (t.length:Int)by
    rw[Bool.eq_iff_iff,zka,zka]; omega]
   simp only[Int.toNat_natCast,zkS,List.getD_cons_succ,List.set_cons_succ,List.take_succ_cons,List.drop_succ_cons,List.cons_append];cases ltb (k:Int) (t.length:Int)&&((t.getD k (0,[])).1==e.1)<;>rfl
theorem yxd {a:dA} (h:yO a=true):yaq a.2.1 a.2.2.2.2.2.2.2.2.1=true:=by
 simp only[yO,Bool.and_eq_true]at h; exact h.2.2.2.1
theorem y2L {a:dA} {e:dW} (h:yO a=true):ydI a.2.2.2.2.2.2.2.2.1 e=y1q a.2.2.2.2.2.2.2.2.1 e:=by
 have h2:=(ye2.1 (yxd h)).2;rw[yFf h2,y0Y h2]
def yUs (a:dA) (b n:Int):dA×Int:=bif yb4 a b !=0 then(a,yb4 a b)else bif isW n then((ybB a b n).2,(ybB a b n).1)else(a,3)
theorem y1K {a:dA} {s:Int} (hd:yO a=true→leb 0 (yi a.2.2.2.2.2.2.2.2.1 s)=true) (hn:leb 0 (yi a.2.2.2.2.2.2.2.2.1 s)=true):yxJ a s=((yB a s).2,(yB a s).1):=by
 have hlt:ltb (yi a.2.2.2.2.2.2.2.2.1 s) 0=false:=zk3 (zj7.1 hn);unfold yxJ;cases ha:yO a
 ·unfold yB
  rw[hlt];have: ∀D,yw a s D=1:=fun D=>by unfold yw ycy; rw[ha]; rfl
  rw[this]; rfl
 have hin:=ygV (p:=fun e:dW=>e.1==s) (d:=((0:Int),([]:List Int))) hn
 have hm:nth a.2.2.2.2.2.2.2.2.1 (yi a.2.2.2.2.2.2.2.2.1 s) (0,[])∈a.2.2.2.2.2.2.2.2.1:=by
  have hi:=zj6.1 hin.1;unfold nth yi;rw[zkJ (show(yU (fun e:dW=>e.1==s) a.2.2.2.2.2.2.2.2.1).toNat<_ by omega)];exact List.getElem_mem _
 have he:=(ye2.1 (yxd ha)).1 _ hm;have hs:(nth a.2.2.2.2.2.2.2.2.1 (yi a.2.2.2.2.2.2.2.2.1 s) (0,[])).1=s:=beq_iff_eq.1 hin.2;have hst:yG a.2.1 s=true:=yM.2 ⟨yb3 ha,by have:=he.1; rw[hs]at this; exact this⟩;have hg:=yj.1 (yb3 ha);rcases Bool.eq_false_or_eq_true (ya a)with hd | hd
 ·unfold yB
  rw[hlt,hd];generalize hD:(nth a.2.2.2.2.2.2.2.2.1 (yi a.2.2.2.2.2.2.2.2.1 s) (0,[])).2=D;have hD1:=he.2.1;have hD2:=he.2.2;rw[hD]at hD1 hD2
  have:yw a s D=6:=by
   unfold yw;simp only[ycy,yfv];rw[ha,wq (a.2.1.1-1) (by omega) (by omega),show((D.length:Int) !=a.2.1.1-1)=false from bne_eq_false_iff_eq.2 hD1,hD2,show a.2.2.2.2.2.2.2.2.2.2.1=true from hd]; rfl
  rw[this]; rfl
 ·rw[hd,hst]; rfl
def yFM (s:Int×dA) (e:dW):Int×dA:=bif s.1==0 then((yxJ s.2 e.1).2,(yxJ s.2 e.1).1)else s
theorem y1C (l:List dW) (s:Int×dA) (h:s.1≠0):l.foldl yFM s=s:=by
 induction l with
 | nil=>rfl
 | cons e l ih =>
  rw[List.foldl_cons];have:yFM s e=s:=by unfold yFM; rw[beq_eq_false_iff_ne.2 h]; rfl
  rw[this,ih]
theorem y1D: ∀(l:List dW) (i:Nat) (a:dA),a.2.2.2.2.2.2.2.2.1=l→l.foldl yFM (0,a)=goE yge (fun b=>(0,b)) l.length i a
 | [],_,_,_=>rfl
 | e::l,i,a,h=>by
  have hn:leb 0 (yi a.2.2.2.2.2.2.2.2.1 e.1)=true:=by rw[h,yHh]; rfl
  have h0:nth a.2.2.2.2.2.2.2.2.1 0 (0,[])=e:=by rw[h]; rfl
  rw[List.foldl_cons,List.length_cons]
  have ht:yFM (0,a) e=yB a e.1:=by
   unfold yFM;show((yxJ a e.1).2,(yxJ a e.1).1)=_;rw[y1K (fun _=>hn) hn]
  rw[ht];unfold goE;unfold yge;rw[h0];cases hc:((yB a e.1).1 !=0)
  ·have hc0:=bne_eq_false_iff_eq.1 hc
   have hd:=yRT (a:=a) (by rw[h]; exact Nat.succ_pos _) (by rw[h0]; exact hc0);rw[h0,h]at hd;have:=y1D l (i+1) (yB a e.1).2 hd;rw[show yB a e.1=(0,(yB a e.1).2)from Prod.ext hc0 rfl];exact this
  ·exact y1C l _ (bne_iff_ne.1 hc)
theorem y2h {k:Int} {a b:dA} (h:Wk k a) (ht:Turned a b) (hk:k+8≤60000):Wk (k+8) b:=by
 cases ht with
 | same=>exact ydg h (by omega)
 | put b x hb hx=>exact ydg (y3W h hb hx) (by omega)
 | flush s=>exact ydg (y0l s h (by omega)) (by omega)
 | all=>exact y3R h hk
 | fail m hl hm=>exact ydg (y3t h hl hm (by omega)) (by omega)
 | spare hl _=>exact ydg (y2X h hl (by omega)) (by omega)
 | step hl _ hb=>exact ydg (y3u h hl hb) (by omega)
 | check=>exact ydg (y0k h (by omega)) (by omega)
 | spoil m s _ hm _ _=>exact ydg (y2Y h hm) (by omega)
structure Ix (k:Int) (V:Int→Int→Int) (a:dA):Prop where
 xc:yaH a
 xk:yap a
 xu:ya a=false
 xb:a.2.2.2.2.2.2.2.2.2.2.2=false
 xg:a.2.2.2.2.2.2.2.1≤k
 xs:a.2.2.2.2.2.1≤k
 xe:EvV a.2.1 V
 xv:yHb V a
 xn: ∀i,0≤i→i<a.2.1.1→((yl a i).2.1.length:Int)≤1+(bif i==a.2.2.2.1 then a.2.2.2.2.1 else 0)
theorem yp4 {k:Int} {V:Int→Int→Int} {a:dA} (h:Ix k V a):yO a=true:=yKW.2 ⟨h.xc,h.xk⟩
theorem yc1 {k j:Int} {V:Int→Int→Int} {a:dA} (h:Ix k V a) (hj:k≤j):Ix j V a:=⟨h.xc,h.xk,h.xu,h.xb,Int.le_trans h.xg hj,Int.le_trans h.xs hj,h.xe,h.xv,h.xn⟩
def yFH (S:Int) (m x:dM):Prop:=(x.2.2.1=false→m.2.2.1=false∧ ∀k,6≤k→k<6+S→ykH x k=false→ykH m k=false∧ylK x k=ylK m k)
theorem yE5 (S:Int) (m:dM):yFH S m m:=fun h=>⟨h,fun _ _ _ hb=>⟨hb,rfl⟩⟩
theorem ySE {S:Int} {m x y:dM} (h:yFH S m x) (g:yFH S x y):yFH S m y:=fun hy=>by
 obtain⟨h1,h2⟩:=g hy;obtain⟨h3,h4⟩:=h h1;exact⟨h3,fun k k0 k1 hb=>⟨(h4 k k0 k1 (h2 k k0 k1 hb).1).1,(h2 k k0 k1 hb).2.trans (h4 k k0 k1 (h2 k k0 k1 hb).1).2⟩⟩
theorem yHu {S:Int} {m:dM} (h:yz m=true):yFH S m (yy m):=fun hf=>by
 rw[(ykm m).2]at hf;exact⟨hf,fun k k0 k1 hb=>⟨by rw[yW7]at hb; exact hb,y1L h hf (by omega)⟩⟩
theorem yZZ {S n:Int} {s:List Int} {m:dM} (hn:n<6):yFH S m (yhp n s m):=fun hf=>by
 unfold yhp at hf ⊢;cases hm:m.2.2.1
 ·refine⟨rfl,fun k k0 k1 hb=> ?_⟩
  rw[cond_false]at hb ⊢;cases hc:ybu m n s
  ·unfold yae at hb ⊢
   rw[hc]at hb ⊢; exact⟨hb,rfl⟩
  ·rw[yxe hc,show(k !=n)=true from bne_iff_ne.2 (by omega),Bool.and_true]at hb
   rw[yET hc,show(n==k)=false from beq_eq_false_iff_ne.2 (by omega)];exact⟨hb,rfl⟩
 ·rw[hm]at hf
  rw[cond_true,hm]at hf; cases hf
theorem yE3 (n:Int) (s:List Int) (m:dM):(yhp n s m).2.2.1=m.2.2.1:=by
 unfold yhp;cases hm:m.2.2.1
 ·show(yae m n s).1.2.2.1=false
  rw[(yyu m n s).2]; exact hm
 ·exact hm
theorem yKR {V:Int→Int→Int} {a b:dA} (hg:b.2.1=a.2.1) (hl: ∀i s,0≤i→i<a.2.1.1→0≤s→yP b.2.2.2.1 b.2.2.2.2.1 i s (yl b i)=true→(i !=a.2.2.2.1||ltb s a.2.2.2.2.1)=true∧yFH a.2.1.2 (yl a i) (yl b i)) (h:yHb V a):yHb V b:=fun i s i0 i1 s0 s1 hh=>by
 rw[hg]at i1 s1;unfold yad at hh;rw[Bool.and_eq_true,Bool.not_eq_true']at hh;obtain⟨h1,h2⟩:=hl i s i0 i1 s0 hh.1
 have hf:(yl b i).2.2.1=false:=by
  have:=hh.1;simp only[yP,Bool.and_eq_true,Bool.not_eq_true']at this; exact this.1
 obtain⟨h3,h4⟩:=h2 hf;obtain⟨h5,h6⟩:=h4 (s+6) (by omega) (by omega) hh.2;rw[h6];exact h i s i0 i1 s0 s1 (by unfold yad yP; rw[h3,h1,h5]; rfl)
theorem y2c {V:Int→Int→Int} {a b:dA} (hc:yv b=yv a) (hl: ∀i,0≤i→i<a.2.1.1→yFH a.2.1.2 (yl a i) (yl b i)) (h:yHb V a):yHb V b :=
 yKR (yaQ hc) (fun i s i0 i1 s0 hh=>⟨by
  rw[yc0 hc,ybc hc]at hh
  simp only[yP,Bool.and_eq_true]at hh; exact hh.2,hl i i0 i1⟩) h
theorem yK4 {k:Int} {V:Int→Int→Int} {a b:dA} (hc:yv b=yv a) (hk:yap b) (hu:ya b=false) (hl: ∀i,0≤i→i<a.2.1.1→yFH a.2.1.2 (yl a i) (yl b i)∧(yl b i).2.1.length≤(yl a i).2.1.length) (h:Ix k V a):Ix k V b:=by
 refine⟨yKZ hc h.xc,hk,hu,(yN8 hc).trans h.xb,by rw[yCJ hc]; exact h.xg,by rw[yiQ hc]; exact h.xs,by rw[yaQ hc]; exact h.xe,y2c hc (fun i i0 i1=>(hl i i0 i1).1) h.xv,fun i i0 i1=> ?_⟩;rw[yaQ hc]at i1;rw[yc0 hc,ybc hc];have:=h.xn i i0 i1;have:=(hl i i0 i1).2;omega
theorem yCd {g:Int→dM→dM} {a r:dA} (h:Adv g a r a.2.2.1.length) (hu:ya r=false) {i:Int} (i0:0≤i) (i1:i<(a.2.2.1.length:Int)):yl r i=g i (yl a i):=by
 obtain⟨_,_,k,h1,h2,h3⟩:=h;rw[h2 i i0,h3 hu,zky i1]; rfl
theorem yD1 {a:dA} (hu:ya (yx a)=false) {i:Int} (i0:0≤i) (i1:i<(a.2.2.1.length:Int)):yl (yx a) i=yy (yl a i):=by
 cases hd:ya a
 ·exact yCd (y2R hd) hu i0 i1
 ·rw[yFC hd]at hu; rw[hd]at hu; cases hu
theorem y03 {a:dA} (hu:ya (yx a)=false):ya a=false:=by
 cases hd:ya a
 ·rfl
 ·rw[yFC hd]at hu; rw[hd]at hu; cases hu
theorem yNw {m:dM} (h:yz m=true):(yy m).2.1.length≤m.2.1.length:=by
 unfold yy;rw[h];cases m.2.2.1
 ·exact Nat.zero_le _
 ·exact Nat.le_refl _
theorem y0T {k:Int} {V:Int→Int→Int} {a:dA} (h:Ix k V a) (hu:ya (yx a)=false):Ix k V (yx a) :=
 yK4 (ydf a) (yE4 h.xk) hu (fun i i0 i1=>by
  obtain⟨d1,_,_⟩:=yoB h.xk i0 i1;rw[yD1 hu i0 (by have:=h.xk.1.2; omega)]
  exact⟨yHu d1,yNw d1⟩) h
theorem y3l {a:dA} (hu:ya (yak a)=false):ya ((List.range a.2.2.1.length).foldl yaf (yay a))=false∧ya a=false:=by
 have h1:=y03 hu;refine⟨h1,?_⟩;cases hd:ya a
 ·rfl
 ·rw[yxL (one:=yaf) (fun _ _ h=>ywE h _ _ _) _ (yay a) hd]at h1
  exact(hd.symm.trans h1)
theorem yO3 {a:dA} (hu:ya (yak a)=false) {i:Int} (i0:0≤i) (i1:i<(a.2.2.1.length:Int)):yl (yak a) i=yy (ySA (yay a) i (yl a i)):=by
 obtain⟨h1,h2⟩:=y3l hu;have hl:((List.range a.2.2.1.length).foldl yaf (yay a)).2.2.1.length=a.2.2.1.length:=yq7 (one:=yaf) (fun _ _=>yse _ _ _ _) _ (yay a);unfold yak at hu ⊢;rw[yD1 hu i0 (by omega)];exact congrArg yy (yCd (a:=yay a) (y2I (a:=yay a) h2) h1 i0 i1)
theorem yK2 {n:Int} {s:List Int} {m:dM} (h:yz m=true):yz (yhp n s m)=true:=by
 unfold yhp;cases m.2.2.1
 ·exact y0o _ _ h
 ·exact h
theorem yEY {n:Int} {s:List Int} {m:dM} (h:yz m=true):(yy (yhp n s m)).2.1.length≤m.2.1.length:=by
 cases hf:m.2.2.1
 ·rw[(yHj (yK2 h) ((yE3 n s m).trans hf)).1]; exact Nat.zero_le _
 ·have e:yhp n s m=m:=by unfold yhp; rw[hf]; rfl
  rw[e]; exact yNw h
theorem y01 {q:Int} (h:0≤q):2≤yT q∧yT q<6∧yT q=2+q % 4:=by
 unfold yT;rw[zk3 h,cond_false,Int.tmod_eq_emod_of_nonneg h];have:=Int.emod_nonneg q (show(4:Int)≠0 by omega);have:=Int.emod_lt_of_pos q (show(0:Int)<4 by omega);rw[wr (by omega) (by omega)]; omega
theorem y0h {g:Int} (h:0≤g):0≤g.tmod 2∧g.tmod 2<2:=by
 rw[Int.tmod_eq_emod_of_nonneg h]; omega
theorem yVn {a b:dA} (h:yv a=yv b):a.2.2.2.2.2.2.1=b.2.2.2.2.2.2.1:=congrArg (fun x=>x.2.2.2.2.2.1) h
theorem yVw {k:Int} {V:Int→Int→Int} {a:dA} (h:Ix k V a) (hk:k+1≤60000) (hu:ya (yak a)=false):Ix (k+1) V (yak a):=by
 have c:=h.xc;unfold yaH at c;have hgk:=h.xg;have hsk:=h.xs;have e:i64.wrap (a.2.2.2.2.2.2.2.1+1)=a.2.2.2.2.2.2.2.1+1:=wr (by omega) (by omega)
 have hG:Ix (k+1) V (yay a):=by
  obtain⟨⟨c1,c2,c3,c4,c5,c6,c7,c8,c9,c10,c11⟩,g2,g3,g4,g5,g6,g7,g8,g9⟩:=h;refine⟨⟨c1,c2,c3,c4,c5,c6,c7,c8,c9,?_,?_⟩,g2,g3,g4,?_,?_,g7,g8,g9⟩
  ·show 0≤i64.wrap (a.2.2.2.2.2.2.2.1+1); omega
  ·show i64.wrap (a.2.2.2.2.2.2.2.1+1)≤_; omega
  ·show i64.wrap (a.2.2.2.2.2.2.2.1+1)≤_; omega
  ·show a.2.2.2.2.2.1≤k+1; omega
 refine yK4 (a:=yay a) (ynv a) (yXd h.xk) hu (fun i i0 i1=> ?_) hG;have i1':i<a.2.1.1:=i1;obtain⟨d1,_,_⟩:=yoB h.xk i0 i1';rw[yO3 hu i0 (by have:=h.xk.1.2; omega)]
 have hn:(yay a).2.2.2.2.2.2.2.1.tmod 2<6:=by
  show(i64.wrap (a.2.2.2.2.2.2.2.1+1)).tmod 2<6;have:=y0h (g:=i64.wrap (a.2.2.2.2.2.2.2.1+1)) (by omega);omega
 exact⟨ySE (yZZ hn) (yHu (yK2 d1)),yEY d1⟩
theorem yXb {k:Int} {V:Int→Int→Int} {a:dA} (h:Ix k V a):Ix k V (ybe a):=by
 obtain⟨⟨c1,c2,c3,c4,c5,c6,c7,c8,c9,c10,c11⟩,g2,g3,g4,g5,g6,g7,g8,g9⟩:=h;refine⟨⟨c1,c2,c3,c4,c5,c6,⟨?_,?_⟩,⟨Int.le_refl _,c8.2⟩,?_,c10,c11⟩,g2,g3,g4,g5,g6,g7,g8,g9⟩
 ·show 0≤a.2.2.2.2.2.1; omega
 ·show a.2.2.2.2.2.1≤60000; omega
 ·show a.2.2.2.2.2.1≤a.2.2.2.2.2.1+4; omega
theorem yHg {a:dA} (hu:ya (yW a)=false):ya (yx a)=false∧yW a=yak (ybe (yx a)):=by
 unfold yW at hu ⊢;cases hd:ya (yx a)
 ·exact⟨rfl,rfl⟩
 ·rw[hd]at hu; exact absurd (hd.symm.trans hu) (by simp)
theorem yZS {k:Int} {V:Int→Int→Int} {a:dA} (h:Ix k V a) (hk:k+1≤60000) (hu:ya (yW a)=false):Ix (k+1) V (yW a):=by
 obtain⟨h1,h2⟩:=yHg hu;rw[h2]at hu ⊢;exact yVw (yXb (y0T h h1)) hk hu
theorem y3N {a:dA} {r:dN} (hu:ya (yQ a r)=false):ya ((List.range a.2.2.1.length).foldl (ybz r) a)=false∧ya a=false:=by
 have h1:=y03 hu;refine⟨h1,?_⟩;cases hd:ya a
 ·rfl
 ·rw[yxL (one:=ybz r) (fun _ _ h=>ywE h _ _ _) _ a hd]at h1
  exact(hd.symm.trans h1)
theorem yK7 {a:dA} {r:dN} (hu:ya (yQ a r)=false) {i:Int} (i0:0≤i) (i1:i<(a.2.2.1.length:Int)):yl (yQ a r) i=yy (yhp (yT r.1) (ylw r) (yl a i)):=by
 obtain⟨h1,h2⟩:=y3N hu;have hl:((List.range a.2.2.1.length).foldl (ybz r) a).2.2.1.length=a.2.2.1.length:=yq7 (yoO r) _ a;unfold yQ at hu ⊢;rw[yD1 hu i0 (by omega)];exact congrArg yy (yCd (y3o r h2) h1 i0 i1)
theorem y1T {k:Int} {V:Int→Int→Int} {a:dA} {r:dN} (h:Ix k V a) (hr:0≤r.1) (hu:ya (yQ a r)=false):Ix k V (yQ a r)∧ ∀i,0≤i→i<a.2.1.1→(yl (yQ a r) i).2.2.1=false→(yl (yQ a r) i).2.1= []:=by
 refine⟨yK4 (ybA a r) (yZV r h.xk) hu (fun i i0 i1=> ?_) h,fun i i0 i1 hf=> ?_⟩
 ·obtain⟨d1,_,_⟩:=yoB h.xk i0 i1
  rw[yK7 hu i0 (by have:=h.xk.1.2; omega)];exact⟨ySE (yZZ (y01 hr).2.1) (yHu (yK2 d1)),yEY d1⟩
 ·obtain⟨d1,_,_⟩:=yoB h.xk i0 i1
  rw[yK7 hu i0 (by have:=h.xk.1.2; omega)]at hf ⊢;rw[(ykm _).2]at hf;exact(yHj (yK2 d1) hf).1
theorem yZU {k:Int} {V:Int→Int→Int} {a:dA} (h:Ix k V a) (h1:a.2.2.2.2.2.1<60000) (h2:a.2.2.2.2.2.1-a.2.2.2.2.2.2.1≤3):Ix (k+1) V (yaa a):=by
 obtain⟨⟨c1,c2,c3,c4,c5,c6,c7,c8,c9,c10,c11⟩,g2,g3,g4,g5,g6,g7,g8,g9⟩:=h;have e:i64.wrap (a.2.2.2.2.2.1+1)=a.2.2.2.2.2.1+1:=wr (by omega) (by omega);refine⟨⟨c1,c2,c3,c4,c5,c6,c7,⟨?_,?_⟩,?_,c10,c11⟩,g2,g3,g4,?_,?_,g7,g8,g9⟩
 ·show a.2.2.2.2.2.2.1≤i64.wrap (a.2.2.2.2.2.1+1); omega
 ·show i64.wrap (a.2.2.2.2.2.1+1)≤60000; omega
 ·show i64.wrap (a.2.2.2.2.2.1+1)≤a.2.2.2.2.2.2.1+4; omega
 ·show a.2.2.2.2.2.2.2.1≤k+1; omega
 ·show i64.wrap (a.2.2.2.2.2.1+1)≤k+1; omega
def ywY (V:Int→Int→Int) (g:dG) (s:Int) (d:List Int):Int→Int→Int:=fun t i=>bif t==s then yb5 (yg g s) g.1 (yao d) d i else V t i
theorem y1e {N p x:Int} {d:List Int} (h:3≤N∧N≤5) (hp:0≤p∧p≤N-1) (hd:(d.length:Int)=N-1):((List.range N.toNat).map (fun(i:Nat)=>yb5 p N x d i)).Perm (x::d):=by
 have:N=3∨N=4∨N=5:=by omega
 rcases this with rfl | rfl | rfl
 ·match d,hd with
  | [a,b],_ =>
   have:p=0∨p=1∨p=2:=by omega
   rcases this with rfl | rfl | rfl<;>simp[yb5,nth,List.range_succ,List.perm_iff_count,List.count_cons]<;>(intro z; omega)
  | [],hd=>simp at hd
  | [_],hd=>simp at hd
  | _::_::_::_,hd=>simp only[List.length_cons]at hd; omega
 ·match d,hd with
  | [a,b,c],_ =>
   have:p=0∨p=1∨p=2∨p=3:=by omega
   rcases this with rfl | rfl | rfl | rfl<;>simp[yb5,nth,List.range_succ,List.perm_iff_count,List.count_cons]<;>(intro z; omega)
  | [],hd=>simp at hd
  | [_],hd=>simp at hd
  | [_,_],hd=>simp at hd
  | _::_::_::_::_,hd=>simp only[List.length_cons]at hd; omega
 ·match d,hd with
  | [a,b,c,e],_ =>
   have:p=0∨p=1∨p=2∨p=3∨p=4:=by omega
   rcases this with rfl | rfl | rfl | rfl | rfl<;>simp[yb5,nth,List.range_succ,List.perm_iff_count,List.count_cons]<;>(intro z; omega)
  | [],hd=>simp at hd
  | [_],hd=>simp at hd
  | [_,_],hd=>simp at hd
  | [_,_,_],hd=>simp at hd
  | _::_::_::_::_::_,hd=>simp only[List.length_cons]at hd; omega
theorem ykp (x:Int) (l:List Int):yfd (x::l)=bv x ^^^ yfd l:=by
 have fo: ∀(l:List Int) (v:BitVec 64),l.foldl (fun v x=>v ^^^ bv x) v=v ^^^ yfd l:=by
  intro l
  induction l with
  | nil=>intro v; show v=v ^^^ 0#64; rw[BitVec.xor_zero]
  | cons y t ih =>
   intro v;unfold yfd;rw[List.foldl_cons,List.foldl_cons,ih,ih (0#64 ^^^ bv y),BitVec.zero_xor,BitVec.xor_assoc]
 show l.foldl _ (0#64 ^^^ bv x)=_;rw[fo,BitVec.zero_xor]
theorem y2k {l m:List Int} (h:l.Perm m):yfd l=yfd m:=by
 induction h with
 | nil=>rfl
 | cons x _ ih=>rw[ykp,ykp,ih]
 | swap x y l=>rw[ykp,ykp,ykp,ykp,← BitVec.xor_assoc,BitVec.xor_comm (bv y),BitVec.xor_assoc]
 | trans _ _ h1 h2=>exact h1.trans h2
theorem y2j (d:List Int):yfd (yao d::d)=0#64:=by rw[ykp,yn8,ywo,BitVec.xor_self]
theorem y1d {N p:Int} {d:List Int} (h:3≤N∧N≤5) (hp:0≤p∧p≤N-1) (hd:(d.length:Int)=N-1):yao ((List.range N.toNat).map (fun(i:Nat)=>yb5 p N (yao d) d i))=0:=by
 rw[yn8,y2k (y1e h hp hd),y2j]; rfl
theorem yJi {N p i:Int} {d:List Int} (hd:d.all isW=true):isW (yb5 p N (yao d) d i)=true:=by
 unfold yb5;cases(i==p)
 ·exact yV5 hd
 ·exact yXr hd
theorem y29 {V:Int→Int→Int} {g:dG} {s:Int} {d:List Int} (h:EvV g V) (hs:yG g s=true) (hl:(d.length:Int)=g.1-1) (hd:d.all isW=true):EvV g (ywY V g s d):=by
 have h1:=yM.1 hs;have hg:=yj.1 h1.1;refine⟨fun t t0 t1=> ?_,fun t i t0 t1 i0 i1=> ?_⟩
 ·unfold ydJ ywY
  cases ht:(t==s)
  ·exact h.ev t t0 t1
  ·exact y1d hg.1 (yiG hs) hl
 ·unfold ywY
  cases ht:(t==s)
  ·exact h.ew t i t0 t1 i0 i1
  ·exact yJi hd
theorem yHs {L B p N s i:Int} {d:List Int} {S:Int} {m:dM} (k:Int) (hk:k≠yX s):(yjg L B p N s d i m).2.2.1=m.2.2.1∧ykH (yjg L B p N s d i m) k=ykH m k∧ylK (yjg L B p N s d i m) k=ylK m k:=by
 unfold yjg;cases hl:yP L B i s m
 ·exact⟨rfl,rfl,rfl⟩
 ·refine⟨(yyu _ _ _).2,?_⟩
  rw[cond_true];cases hc:ybu m (yX s) [yb5 p N (yao d) d i]
  ·unfold yae; rw[hc]; exact⟨rfl,rfl⟩
  ·rw[yxe hc,yET hc,show(k !=yX s)=true from bne_iff_ne.2 hk,show(yX s==k)=false from beq_eq_false_iff_ne.2 (fun e=>hk e.symm),Bool.and_true]
   exact⟨rfl,rfl⟩
theorem y0v (L B p N s:Int) (d:List Int) (i:Int) (m:dM):(yjg L B p N s d i m).2.1.length≤m.2.1.length+1∧(m.2.2.1=true→yjg L B p N s d i m=m):=by
 unfold yjg;cases hl:yP L B i s m
 ·exact⟨Nat.le_succ _,fun _=>rfl⟩
 ·simp only[yP,Bool.and_eq_true,Bool.not_eq_true']at hl
  refine⟨?_,fun h=>by rw[hl.1]at h; cases h⟩;rw[cond_true];unfold yae;cases ybu m (yX s) [yb5 p N (yao d) d i]
  ·exact Nat.le_succ _
  ·show(m.2.1++ [(yX s,[yb5 p N (yao d) d i])]).length≤_; rw[List.length_append]; simp only[List.length_cons,List.length_nil]; omega
theorem y3f {k:Int} {V:Int→Int→Int} {a:dA} {s:Int} {d:List Int} (h:Ix k V a) (hs:yG a.2.1 s=true) (hl:(d.length:Int)=a.2.1.1-1) (hd:d.all isW=true)
  (hz: ∀i,0≤i→i<a.2.1.1→(yl a i).2.2.1=false→(yl a i).2.1= []) (hu:ya (yH a s d)=false):Ix k (ywY V a.2.1 s d) (yH a s d):=by
 have hc:=yxt a s d;have h1:=yM.1 hs;have hg:=yj.1 h1.1;have hlen:=h.xk.1.2;have hdsk: ∀i,0≤i→i<a.2.1.1→yl (yH a s d) i=yjg a.2.2.2.1 a.2.2.2.2.1 (yg a.2.1 s) a.2.1.1 s d i (yl a i):=fun i i0 i1=>yCd (yZI s d h.xu) hu i0 (by omega)
 refine⟨yKZ hc h.xc,yXc s d h.xk,hu,(yN8 hc).trans h.xb,by rw[yCJ hc]; exact h.xg,by rw[yiQ hc]; exact h.xs,by rw[yaQ hc]; exact y29 h.xe hs hl hd,fun i t i0 i1 t0 t1 hh=> ?_,fun i i0 i1=> ?_⟩
 ·rw[yaQ hc]at i1 t1
  obtain⟨d1,d2,d3⟩:=yoB h.xk i0 i1;unfold yad at hh;rw[yc0 hc,ybc hc,hdsk i i0 i1,Bool.and_eq_true,Bool.not_eq_true']at hh;rw[hdsk i i0 i1];have hda:=yA8 (s:=s) h1.2.1 (by omega);unfold ywY;by_cases ht:t=s
  ·subst ht
   rw[beq_self_eq_true,cond_true]
   have hlv:yP a.2.2.2.1 a.2.2.2.2.1 i t (yl a i)=true:=by
    have:=hh.1;unfold yP at this ⊢;rw[(yHs (S:=0) (-1) (by omega)).1]at this;exact this
   have hf:(yl a i).2.2.1=false:=by
    simp only[yP,Bool.and_eq_true,Bool.not_eq_true']at hlv; exact hlv.1
   unfold yjg;rw[hlv,cond_true,yET (yFN d1 hf (by rw[hda]; exact zj6.2 (by omega)) (yFx.2 ⟨by simp,fun x hx=> ?_⟩) (by rw[hz i i0 i1 hf]; decide)),hda,beq_self_eq_true]; rfl;rw[List.mem_singleton.1 hx];exact ywu.1 (yJi hd)
  ·rw[show(t==s)=false from beq_eq_false_iff_ne.2 ht]
   obtain⟨e1,e2,e3⟩:=yHs (L:=a.2.2.2.1) (B:=a.2.2.2.2.1) (p:=yg a.2.1 s) (N:=a.2.1.1) (s:=s) (i:=i) (d:=d) (S:=0) (m:=yl a i) (t+6) (by omega);rw[e3];refine h.xv i t i0 i1 t0 t1 ?_;unfold yad;rw[e2]at hh;have h2:=hh.1;unfold yP at h2 ⊢;rw[e1]at h2;rw[h2,hh.2]; rfl
 ·rw[yaQ hc]at i1
  rw[yc0 hc,ybc hc,hdsk i i0 i1];obtain⟨g1,g2⟩:=y0v a.2.2.2.1 a.2.2.2.2.1 (yg a.2.1 s) a.2.1.1 s d i (yl a i);have c:=h.xc;unfold yaH at c;cases hf:(yl a i).2.2.1
  ·rw[hz i i0 i1 hf]at g1
   simp only[List.length_nil]at g1;cases(i==a.2.2.2.1)
   ·simp only[cond_false]; omega
   ·simp only[cond_true]; omega
  ·rw[g2 hf]
   exact h.xn i i0 i1
theorem y1S {k:Int} {V:Int→Int→Int} {a:dA} (h:Ix k V a) (hk:k+1≤60000) (hu:ya (yq a)=false):Ix (k+1) V (yq a)∧(yq a).2.2.2.2.2.1=a.2.2.2.2.2.1∧(yq a).2.2.2.2.2.1-(yq a).2.2.2.2.2.2.1≤3:=by
 have c:=h.xc;unfold yaH at c
 have e0:yq a=bif leb 4 (a.2.2.2.2.2.1-a.2.2.2.2.2.2.1)then yW a else a:=by
  unfold yq;rw[wr (by omega) (by omega)]
 rw[e0]at hu ⊢;cases h4:leb 4 (a.2.2.2.2.2.1-a.2.2.2.2.2.2.1)
 ·refine⟨yc1 h (by omega),rfl,?_⟩
  have: ¬(4≤a.2.2.2.2.2.1-a.2.2.2.2.2.2.1):=fun g=>by rw[zk2 g]at h4; cases h4
  show a.2.2.2.2.2.1-a.2.2.2.2.2.2.1≤3; omega
 ·rw[h4]at hu
  simp only[cond_true]at hu ⊢;have hi:=yZS h hk hu;obtain⟨_,h2⟩:=yHg hu;have e:=ynv (ybe (yx a));have e1:(yW a).2.2.2.2.2.1=a.2.2.2.2.2.1:=by rw[h2]; exact(yiQ e).trans (show(yay (ybe (yx a))).2.2.2.2.2.1=_ from yiQ (a:=yx a) (b:=a) (ydf a))
  have e2:(yW a).2.2.2.2.2.2.1=a.2.2.2.2.2.1:=by rw[h2]; exact(yVn e).trans (show(yay (ybe (yx a))).2.2.2.2.2.2.1=_ from yiQ (a:=yx a) (b:=a) (ydf a))
  exact⟨hi,e1,by omega⟩
theorem yO2 {k:Int} {V:Int→Int→Int} {a:dA} {s:Int} {d:List Int} (h:Ix k V a) (hs:yG a.2.1 s=true) (hl:(d.length:Int)=a.2.1.1-1) (hd:d.all isW=true) (hq:a.2.2.2.2.2.1<60000) (hk:k+1≤60000)
  (hu:ya (yE a s d).2=false):Ix (k+2) (ywY V a.2.1 s d) (yE a s d).2∧(yE a s d).1=0:=by
 unfold yE at hu ⊢;cases hc:ya (yq a)
 ·obtain⟨h1,h2,h3⟩:=y1S h hk hc
  have eg:(yq a).2.1=a.2.1:=yKX a;rw[hc]at hu;simp only[cond_false]at hu ⊢;have c:=h.xc;unfold yaH at c;cases hr:ya (yQ (yq a) ((yq a).2.2.2.2.2.1,s,d))
  ·rw[hr]at hu
   simp only[cond_false]at hu ⊢;obtain⟨h4,h5⟩:=y1T (r:=((yq a).2.2.2.2.2.1,s,d)) h1 (by show 0≤(yq a).2.2.2.2.2.1; omega) hr;have e1:=yiQ (ybA (yq a) ((yq a).2.2.2.2.2.1,s,d));have e2:=yVn (ybA (yq a) ((yq a).2.2.2.2.2.1,s,d));have e3:=(yaQ (ybA (yq a) ((yq a).2.2.2.2.2.1,s,d))).trans eg;rw[eg]at h5;generalize yQ (yq a) ((yq a).2.2.2.2.2.1,s,d)=R at h4 h5 e1 e2 e3 hu ⊢;have h6:=yZU h4 (by omega) (by omega);have e4:(yaa R).2.1=a.2.1:=e3;have h7:=y3f (s:=s) (d:=d) h6 (by rw[e4]; exact hs) (by rw[e4]; exact hl) hd (fun i i0 i1 hf=>h5 i i0 (by rw[e4]at i1; exact i1) hf) hu;rw[hu,e4]at *;exact⟨yc1 h7 (by omega),rfl⟩
  ·rw[hr]at hu
   exact absurd (hr.symm.trans hu) (by simp)
 ·rw[hc]at hu
  exact absurd (hc.symm.trans hu) (by simp)
theorem yw5 {k:Int} {V:Int→Int→Int} {a:dA} {l:List dW} (h:Ix k V a) (hd:yaq a.2.1 l=true):Ix k V (yav a l):=by
 obtain⟨⟨c1,c2,c3,c4,c5,c6,c7,c8,c9,c10,c11⟩,g2,g3,g4,g5,g6,g7,g8,g9⟩:=h;exact⟨⟨c1,c2,hd,c4,c5,c6,c7,c8,c9,c10,c11⟩,g2,g3,g4,g5,g6,g7,g8,g9⟩
theorem yO0 {k:Int} {V:Int→Int→Int} {a:dA} (s:Int) (h:Ix k V a) (hk:k+1≤60000) (hu:ya (yB a s).2=false): ∃V',Ix (k+2) V' (yB a s).2:=by
 unfold yB at hu ⊢;cases h0:ltb (yi a.2.2.2.2.2.2.2.2.1 s) 0
 ·rw[h0]at hu
  generalize (nth a.2.2.2.2.2.2.2.2.1 (yi a.2.2.2.2.2.2.2.2.1 s) (0,[])).2=D at hu ⊢;cases hc:(yw a s D !=0)
  ·rw[hc]at hu
   obtain⟨_,z1,z2,_,z4,_,z6,_⟩:=yxo (bne_eq_false_iff_eq.1 hc);simp only[cond_false]at hu ⊢;cases hw:((yE a s D).1==0)
   ·rw[hw]at hu
    obtain⟨h1,h2⟩:=yO2 h z4 z1 z2 z6 hk hu;exact⟨_,h1⟩
   ·rw[hw]at hu
    obtain⟨h1,h2⟩:=yO2 h z4 z1 z2 z6 hk hu;exact⟨_,yw5 h1 (by rw[yyt]; exact yW4 _ h.xc.2.2.1)⟩
  ·exact⟨V,yc1 h (by omega)⟩
 ·exact⟨V,yc1 h (by omega)⟩
theorem y0u {a:dA} (s:Int) (h:ya a=true):(yB a s).2=a:=by
 unfold yB;cases ltb (yi a.2.2.2.2.2.2.2.2.1 s) 0
 ·cases hc:(yw a s (nth a.2.2.2.2.2.2.2.2.1 (yi a.2.2.2.2.2.2.2.2.1 s) (0,[])).2 !=0)
  ·have:=(yxo (bne_eq_false_iff_eq.1 hc)).2.2.2.1
   rw[h]at this; cases this
  ·rfl
 ·rfl
theorem yWX: ∀(n i:Nat) {a:dA},ya a=true→(goE yge (fun b=>((0:Int),b)) n i a).2=a
 | 0,_,_,_=>rfl
 | n+1,i,a,h=>by
  unfold goE yge;have e:=y0u (nth a.2.2.2.2.2.2.2.2.1 0 (0,[])).1 h;cases((yB a (nth a.2.2.2.2.2.2.2.2.1 0 (0,[])).1).1 !=0)
  ·simp only[cond_false,e]
   exact yWX n (i+1) h
  ·exact e
theorem yZT {k:Int}: ∀(n i:Nat) (j:Int) (V:Int→Int→Int) (a:dA),Ix j V a→j+2*n≤k→k≤60000→ya (goE yge (fun b=>((0:Int),b)) n i a).2=false→ ∃V',Ix k V' (goE yge (fun b=>((0:Int),b)) n i a).2
 | 0,_,j,V,a,h,h1,_,_=>⟨V,yc1 h (by omega)⟩
 | n+1,i,j,V,a,h,h1,h2,hu=>by
  unfold goE yge at hu ⊢;cases hc:((yB a (nth a.2.2.2.2.2.2.2.2.1 0 (0,[])).1).1 !=0)
  ·rw[hc]at hu
   simp only[cond_false]at hu ⊢;have hu:ya (goE yge (fun b=>((0:Int),b)) n (i+1) (yB a (nth a.2.2.2.2.2.2.2.2.1 0 (0,[])).1).2).2=false:=hu
   have hf:ya (yB a (nth a.2.2.2.2.2.2.2.2.1 0 (0,[])).1).2=false:=by
    cases hd:ya (yB a (nth a.2.2.2.2.2.2.2.2.1 0 (0,[])).1).2
    ·rfl
    ·rw[yWX n (i+1) hd]at hu; exact hd.symm.trans hu
   obtain⟨V1,h3⟩:=yO0 (nth a.2.2.2.2.2.2.2.2.1 0 (0,[])).1 h (by omega) hf;exact yZT n (i+1) (j+2) V1 _ h3 (by omega) h2 hu
  ·rw[hc]at hu
   simp only[cond_true]at hu ⊢;obtain⟨V1,h3⟩:=yO0 (nth a.2.2.2.2.2.2.2.2.1 0 (0,[])).1 h (by omega) hu;exact⟨V1,yc1 h3 (by omega)⟩
theorem y3J {k:Int} {V:Int→Int→Int} {a:dA} (h:Ix k V a) (hk:k+16≤60000) (hu:ya (ykG a).2=false): ∃V',Ix (k+16) V' (ykG a).2:=by
 have:=yis h.xc.2.2.1 h.xc.1;exact yZT _ 0 k V a h (by omega) hk hu
theorem y1U {k:Int} {V:Int→Int→Int} {a:dA} {b n:Int} (h:Ix k V a) (hb:yax a.2.1 b=true) (hn:isW n=true):Ix k V (ybB a b n).2:=by
 unfold ybB;cases hs:(ym a (yp a.2.1 b)).2
 ·exact h
 ·have hstr:=ygg hb
  have hl:=yhw (yp4 h) hstr hs;refine yw5 h (yW5 h.xc.2.2.1 ⟨(yM.1 hstr).2,by rw[List.length_set]; exact hl,yWV ?_ hn⟩);unfold ym;cases hk:leb 0 (yi a.2.2.2.2.2.2.2.2.1 (yp a.2.1 b))
  ·rw[h.xb]; exact yW3 _ _
  ·have:=(ygV (d:=((0:Int),([]:List Int))) hk).1
   exact ywx (P:=fun e:dW=>e.2.all isW=true) this (fun e he=>((ye2.1 h.xc.2.2.1).1 e he).2.2)
theorem yZJ {a:dA} {m i:Int} {x:dM} (l:Int) (t:Int×Int×Int×Int×List dW×Int×Bool×Bool) (hm:inb m a.2.2.1.length=true) (hi:0≤i):yl (a.1,a.2.1,a.2.2.1.set m.toNat x,l,t) i=bif m==i then x else yl a i:=yrm hm hi
theorem y1J {a:dA} {m:Int} (hl:a.2.2.2.1= -1∨a.2.2.2.1=m) (hm:inb m a.2.2.1.length=true) (i s:Int) (i0:0≤i) (s0:0≤s) (hh:yP m 0 i s (yl (yev a m) i)=true):(i !=a.2.2.2.1||ltb s a.2.2.2.2.1)=true∧i≠m∧yl (yev a m) i=yl a i:=by
 have e:yl (yev a m) i=bif m==i then ylB (yl a m)else yl a i:=yZJ m _ hm i0;by_cases hi:m=i
 ·subst hi
  rw[e,beq_self_eq_true]at hh;simp only[yP,Bool.and_eq_true,Bool.not_eq_true',cond_true]at hh;have:=hh.1;cases this
 ·rw[show(m==i)=false from beq_eq_false_iff_ne.2 hi]at e
  refine⟨?_,fun e=>hi e.symm,e⟩;rw[show(i !=a.2.2.2.1)=true from bne_iff_ne.2 (by omega)]; rfl
theorem y0y {k m:Int} {V:Int→Int→Int} {a:dA} (h:Ix k V a) (hl:a.2.2.2.1= -1∨a.2.2.2.1=m) (hm:inb m a.2.2.1.length=true):Ix k V (yev a m):=by
 have hmi:=zj6.1 hm
 have hv:yHb V (yev a m):=yKR (a:=a) (b:=yev a m) rfl (fun i s i0 i1 s0 hh=>by
  obtain⟨h1,h2,h3⟩:=y1J hl hm i s i0 s0 hh;rw[h3]
  exact⟨h1,yE5 _ _⟩) h.xv
 have hn: ∀i,0≤i→i<a.2.1.1→((yl (yev a m) i).2.1.length:Int)≤1+(bif i==m then 0 else 0):=fun i i0 i1=>by
  have e:yl (yev a m) i=bif m==i then ylB (yl a m)else yl a i:=yZJ m _ hm i0;rw[e];by_cases hi:m=i
  ·rw[show(m==i)=true from beq_iff_eq.2 hi]
   show(([]:List dW).length:Int)≤_;rw[List.length_nil];cases(i==m)<;>decide
  ·rw[show(m==i)=false from beq_eq_false_iff_ne.2 hi,cond_false]
   have:=h.xn i i0 i1;rw[show(i==a.2.2.2.1)=false from beq_eq_false_iff_ne.2 (by omega)]at this;simp only[cond_false]at this;cases(i==m)<;>simp only[cond_true,cond_false]<;>omega
 obtain⟨⟨c1,c2,c3,c4,c5,c6,c7,c8,c9,c10,c11⟩,⟨⟨g1,g2⟩,g3⟩,f,b,t,t2,t3,_,_⟩:=h;refine⟨⟨c1,c2,c3,⟨?_,?_⟩,⟨Int.le_refl _,by show(0:Int)≤a.2.1.2; omega⟩,fun e=>rfl,c7,c8,c9,c10,c11⟩,⟨⟨?_,?_⟩,g3⟩,f,b,t,t2,t3,hv,hn⟩
 ·show -1≤m; omega
 ·show m≤a.2.1.1-1; omega
 ·show yHv m a.2.2.2.2.2.2.2.2.2.2.2 a.2.1.2 (a.2.2.1.set m.toNat (ylB (nth a.2.2.1 m yh)))
  refine yx1 (fun i hi=> ?_) (fun hi=> ?_)
  ·obtain⟨e1,e2,e3⟩:=g1 i hi
   refine⟨e1,e2,fun e=> ?_⟩;rcases e3 e with e | e
   ·exact .inl (by omega)
   ·exact .inr e
  ·have:=g1 m.toNat hi
   rw[Int.toNat_of_nonneg hmi.1]at this;exact⟨y0P this.1,this.2.1,fun _=> .inl (Int.toNat_of_nonneg hmi.1)⟩
 ·show((a.2.2.1.set m.toNat (ylB (nth a.2.2.1 m yh))).length:Int)=a.2.1.1
  rw[List.length_set]; exact g2
theorem y3a {k m:Int} {V:Int→Int→Int} {a:dA} (h:Ix k V a) (hl:a.2.2.2.1= -1∨a.2.2.2.1=m) (hk:k+1≤60000):yoC a m=yak (yev a m):=by
 have:=h.xg;unfold yoC;rw[h.xu,h.xb,zky (show a.2.2.2.2.2.2.2.1<60000 by omega)];rcases hl with e | e
 ·rw[show(a.2.2.2.1== -1)=true from beq_iff_eq.2 e]; rfl
 ·rw[show(a.2.2.2.1==m)=true from beq_iff_eq.2 e,Bool.or_true]; rfl
theorem y3h {k m:Int} {V:Int→Int→Int} {a:dA} (h:Ix k V a) (hl:a.2.2.2.1= -1∨a.2.2.2.1=m) (hm:inb m a.2.2.1.length=true) (hk:k+1≤60000) (hu:ya (yoC a m)=false):Ix (k+1) V (yoC a m):=by
 rw[y3a h hl hk]at hu ⊢;exact yVw (y0y h hl hm) hk hu
theorem yx0 {S:Int} (h:1≤S∧S≤8):ycu (6+S)=(List.replicate (6+S).toNat [],[],false,[]):=by
 unfold ycu;rw[zk2 (show 1≤6+S by omega),zk2 (show 6+S≤20 by omega)]; rfl
theorem y0z {k:Int} {V:Int→Int→Int} {a:dA} (h:Ix k V a) (hm:inb a.2.2.2.1 a.2.2.1.length=true):Ix k V (yb2 a):=by
 have hg:=yj.1 h.xc.1;have e: ∀i,0≤i→yl (yb2 a) i=bif a.2.2.2.1==i then ycu (6+a.2.1.2)else yl a i:=fun i i0=>yZJ _ _ hm i0
 have hv:yHb V (yb2 a):=yKR (a:=a) (b:=yb2 a) rfl (fun i s i0 i1 s0 hh=>by
  have hh:yP a.2.2.2.1 0 i s (yl (yb2 a) i)=true:=hh;rw[e i i0]at hh ⊢;simp only[yP,Bool.and_eq_true,Bool.or_eq_true,bne_iff_ne,ne_eq,zka]at hh;have hne:i≠a.2.2.2.1:=hh.2.resolve_right (by omega);rw[show(a.2.2.2.1==i)=false from beq_eq_false_iff_ne.2 (fun e=>hne e.symm),show(i !=a.2.2.2.1)=true from bne_iff_ne.2 hne]
  exact⟨rfl,yE5 _ _⟩) h.xv
 have hn: ∀i,0≤i→i<a.2.1.1→((yl (yb2 a) i).2.1.length:Int)≤1+(bif i==a.2.2.2.1 then 0 else 0):=fun i i0 i1=>by
  rw[e i i0];by_cases hi:a.2.2.2.1=i
  ·rw[show(a.2.2.2.1==i)=true from beq_iff_eq.2 hi,cond_true,yx0 hg.2]
   show(([]:List dW).length:Int)≤_;rw[List.length_nil];cases(i==a.2.2.2.1)<;>decide
  ·rw[show(a.2.2.2.1==i)=false from beq_eq_false_iff_ne.2 hi,cond_false]
   have:=h.xn i i0 i1;rw[show(i==a.2.2.2.1)=false from beq_eq_false_iff_ne.2 (fun e=>hi e.symm)]at this ⊢;exact this
 have hmi:=zj6.1 hm;obtain⟨⟨c1,c2,c3,c4,c5,c6,c7,c8,c9,c10,c11⟩,⟨⟨g1,g2⟩,g3⟩,f,b,t,t2,t3,_,_⟩:=h;refine⟨⟨c1,c2,c3,c4,⟨Int.le_refl _,by show(0:Int)≤a.2.1.2; omega⟩,fun e=>rfl,c7,c8,c9,c10,c11⟩,⟨⟨yx1 g1 (fun hi=>⟨yXf (by omega) (by omega),?_,fun e=> ?_⟩),?_⟩,g3⟩,f,b,t,t2,t3,hv,hn⟩
 ·rw[yx0 hg.2]
  show((List.replicate (6+a.2.1.2).toNat ([]:List Int)).length:Int)=6+a.2.1.2;rw[List.length_replicate]; omega
 ·rw[yx0 hg.2]at e
  cases e
 ·show((a.2.2.1.set a.2.2.2.1.toNat (ycu (6+a.2.1.2))).length:Int)=a.2.1.1
  rw[List.length_set]; exact g2
theorem y2D {k:Int} {V:Int→Int→Int} {a:dA} (h:Ix k V a) (hm:inb a.2.2.2.1 a.2.2.1.length=true) (hk:k+1≤60000) (hu:ya (yak (yb2 a))=false):Ix (k+1) V (yak (yb2 a)):=yVw (y0z h hm) hk hu
theorem y1t (S:Int) (m:dM) (n:Int):yFH S m (spoil m n):=by
 unfold spoil;cases(yz m&&(inb n m.1.length&& !(m.2.2.2.any (· ==n))))
 ·exact yE5 _ _
 ·refine fun h=>⟨h,fun k k0 k1 hb=>⟨?_,rfl⟩⟩
  have hb:(yGD m.2.2.2 n).any (· ==k)=false:=hb;show m.2.2.2.any (· ==k)=false;rw[List.any_eq_false]at hb ⊢;intro x hx hxk;have hxk':=beq_iff_eq.1 hxk;refine hb x ?_ hxk;unfold yGD;rw[List.mem_append,List.mem_cons,List.mem_filter,List.mem_filter];rcases Int.lt_trichotomy x n with h1 | h1 | h1
  ·exact .inl ⟨hx,zky h1⟩
  ·exact .inr (.inl h1)
  ·exact .inr (.inr ⟨hx,zky h1⟩)
theorem y0I (m:dM) (n:Int):(spoil m n).2.1=m.2.1:=by
 unfold spoil;cases(yz m&&(inb n m.1.length&& !(m.2.2.2.any (· ==n))))<;>rfl
theorem y2E {k m n:Int} {V:Int→Int→Int} {a:dA} (h:Ix k V a) (hm:inb m a.2.2.1.length=true):Ix k V (yeo a m (spoil (nth a.2.2.1 m yh) n)) :=
 yK4 (a:=a) (b:=yeo a m (spoil (nth a.2.2.1 m yh) n)) rfl (yw6 h.xk hm (fun g=>⟨y0g n g.1,by rw[(yFB _ _).1]; exact g.2.1,by rw[(yFB _ _).2]; exact g.2.2⟩)) h.xu (fun i i0 i1=>by
  rw[yVo hm i0];by_cases hi:m=i
  ·subst hi
   rw[beq_self_eq_true,cond_true];exact⟨y1t _ _ _,by rw[y0I]; exact Nat.le_refl _⟩
  ·rw[show(m==i)=false from beq_eq_false_iff_ne.2 hi]
   exact⟨yE5 _ _,Nat.le_refl _⟩) h
theorem y3i {k:Int} {V:Int→Int→Int} {a:dA} (h:Ix k V a) (hl:inb a.2.2.2.1 a.2.2.1.length=true) (hf:(nth a.2.2.1 a.2.2.2.1 yh).2.2.1=false) (hb:a.2.2.2.2.1<a.2.1.2) (hu:ya (ysj a).2=false):Ix k V (ysj a).2:=by
 have hmi:=zj6.1 hl;have hlen:=h.xk.1.2;have hg:=yj.1 h.xc.1;have c:=h.xc;unfold yaH at c;have hb0:0≤a.2.2.2.2.1:=by omega
 have hda:=yA8 hb0 (by omega);have e:=yrr a a.2.2.2.1 (yX a.2.2.2.2.1) [nth (yR a a.2.2.2.2.1).1 a.2.2.2.1 0];have hkp:yap (ybg a):=yDi h.xk hl;have hd:=yK6 (yX a.2.2.2.2.1) [nth (yR a a.2.2.2.2.1).1 a.2.2.2.1 0] h.xu hl;have e1:(ybg a).2.2.2.2.1=a.2.2.2.2.1:=ybc e;have e2:(ybg a).2.1=a.2.1:=yaQ e;have e3:(ybg a).2.2.2.1=a.2.2.2.1:=yc0 e;unfold ysj at hu ⊢;cases hw:(yR a a.2.2.2.2.1).2
 ·exact h
 ·rw[hw]at hu
  have hwv:=yUv h.xc.1 h.xk h.xe h.xv hb0 hb
  have hw1:(yR a a.2.2.2.2.1).1=ydJ V a.2.1.1 a.2.2.2.2.1:=by
   rw[hwv]at hw ⊢;cases hm:yeF (fun(i:Nat)=>yad a a.2.2.2.2.1 i) a.2.1.1.toNat
   ·rfl
   ·rw[hm]at hw; cases hw
  have hx:nth (yR a a.2.2.2.2.1).1 a.2.2.2.1 0=V a.2.2.2.2.1 a.2.2.2.1:=by rw[hw1]; exact yQR V (by omega) (by omega)
  rw[hx]at hd e;have hst:ybg a=ycR a a.2.2.2.1 (yX a.2.2.2.2.1) [V a.2.2.2.2.1 a.2.2.2.1]:=by unfold ybg; rw[hx]
  have hcc:yv (ybg a)=yv a:=by rw[hst]; exact e
  rw[← hst]at hd;generalize ybg a=R at *;simp only[cond_true]at hu ⊢;cases hr:ya R
  ·rw[hr]at hu
   obtain⟨_,_,⟨_,hdd⟩ | ⟨hdd,_⟩⟩:=hd
   ·obtain⟨d1,d2,d3⟩:=yoB h.xk (i:=a.2.2.2.1) (by omega) (by omega)
    have hf':(yl a a.2.2.2.1).2.2.1=false:=hf;have hxw:=h.xe.ew a.2.2.2.2.1 a.2.2.2.1 hb0 hb (by omega) (by omega);have hcn:=h.xn a.2.2.2.1 (by omega) (by omega);rw[beq_self_eq_true,cond_true]at hcn;have hcw:ybu (yl a a.2.2.2.1) (a.2.2.2.2.1+6) [V a.2.2.2.2.1 a.2.2.2.1]=true:=yFN d1 hf' (zj6.2 (by omega)) (yFx.2 ⟨by simp,fun x hx=>by rw[List.mem_singleton.1 hx]; exact ywu.1 hxw⟩) (by omega);have e4:i64.wrap (R.2.2.2.2.1+1)=a.2.2.2.2.1+1:=by rw[e1]; exact wr (by omega) (by omega)
    have hRL:yl R a.2.2.2.1=(yae (yl a a.2.2.2.1) (a.2.2.2.2.1+6) [V a.2.2.2.2.1 a.2.2.2.1]).1:=by
     rw[hdd _ (by omega),beq_self_eq_true,cond_true,hda];unfold yhp;rw[hf']; rfl
    have hRo: ∀i,0≤i→i≠a.2.2.2.1→yl R i=yl a i:=fun i i0 hi=>by rw[hdd i i0,show(a.2.2.2.1==i)=false from beq_eq_false_iff_ne.2 (fun e=>hi e.symm)]; rfl
    have hco:=yKZ hcc h.xc;refine⟨?_,hkp,hr,(yN8 hcc).trans h.xb,by show R.2.2.2.2.2.2.2.1≤k; rw[yCJ hcc]; exact h.xg,by show R.2.2.2.2.2.1≤k; rw[yiQ hcc]; exact h.xs,by show EvV R.2.1 V; rw[e2]; exact h.xe,?_,?_⟩
    ·obtain⟨c1,c2,c3,c4,c5,c6,c7,c8,c9,c10,c11⟩:=hco
     refine⟨c1,c2,c3,c4,⟨?_,?_⟩,fun e=> ?_,c7,c8,c9,c10,c11⟩
     ·show 0≤i64.wrap (R.2.2.2.2.1+1); omega
     ·show i64.wrap (R.2.2.2.2.1+1)≤R.2.1.2; rw[e4,e2]; omega
     ·have:R.2.2.2.1= -1:=e
      omega
    ·intro i t i0 i1 t0 t1 hh
     have i1:i<R.2.1.1:=i1;have t1:t<R.2.1.2:=t1;rw[e2]at i1 t1;unfold yad at hh;have hh:(yP R.2.2.2.1 (i64.wrap (R.2.2.2.2.1+1)) i t (yl R i)&& !(ykH (yl R i) (t+6)))=true:=hh;show ylK (yl R i) (t+6)= [V t i];rw[e3,e4]at hh;by_cases hi:i=a.2.2.2.1
     ·subst hi
      rw[hRL]at hh ⊢;rw[yET hcw];by_cases ht:a.2.2.2.2.1+6=t+6
      ·rw[show(a.2.2.2.2.1+6==t+6)=true from beq_iff_eq.2 ht,show a.2.2.2.2.1=t by omega]; rfl
      ·rw[show(a.2.2.2.2.1+6==t+6)=false from beq_eq_false_iff_ne.2 ht,cond_false]
       refine h.xv _ t i0 i1 t0 t1 ?_;rw[yxe hcw,show(t+6 !=a.2.2.2.2.1+6)=true from bne_iff_ne.2 (fun e=>ht e.symm),Bool.and_true,Bool.and_eq_true]at hh;have h2:=hh.1;simp only[yP,Bool.and_eq_true,Bool.or_eq_true,bne_self_eq_false,Bool.false_eq_true,false_or,zka]at h2;unfold yad yP;rw[hf',hh.2,zky (show t<a.2.2.2.2.1 by omega),Bool.or_true]; rfl
     ·rw[hRo i i0 hi]at hh ⊢
      refine h.xv i t i0 i1 t0 t1 ?_;rw[Bool.and_eq_true]at hh;have h2:=hh.1;simp only[yP,Bool.and_eq_true]at h2;unfold yad yP;rw[h2.1,hh.2,show(i !=a.2.2.2.1)=true from bne_iff_ne.2 hi]; rfl
    ·intro i i0 i1
     have i1:i<R.2.1.1:=i1;rw[e2]at i1;show((yl R i).2.1.length:Int)≤1+(bif i==R.2.2.2.1 then i64.wrap (R.2.2.2.2.1+1)else 0);rw[e3,e4];by_cases hi:i=a.2.2.2.1
     ·subst hi
      rw[hRL,yQT hcw,beq_self_eq_true,cond_true];show(((yl a a.2.2.2.1).2.1++ [(a.2.2.2.2.1+6,[V a.2.2.2.2.1 a.2.2.2.1])]).length:Int)≤_;rw[List.length_append];simp only[List.length_cons,List.length_nil];omega
     ·rw[hRo i i0 hi,show(i==a.2.2.2.1)=false from beq_eq_false_iff_ne.2 hi]
      have:=h.xn i i0 i1;rw[show(i==a.2.2.2.1)=false from beq_eq_false_iff_ne.2 hi]at this;exact this
   ·rw[hr]at hdd; cases hdd
  ·rw[hr]at hu
   exact absurd (hr.symm.trans hu) (by simp)
theorem y0B {id i:Int} {g:dG} (hg:ye g=true): ∀n:Nat,n≤g.2.toNat→ ∀k:Int,0≤k→nth ((List.range n).foldl ysd (yj6 id g i)).1 k []=bif leb 6 k&&ltb k (6+n)then[0]else bif k==0 then yD (yZ3 id g i)else[]:=by
 have hge:=yj.1 hg;intro n
 induction n with
 | zero =>
  intro _ k hk;show nth (yj6 id g i).1 k []=_;unfold yj6;rw[yx0 hge.2];have h0:inb 0 (List.replicate (6+g.2).toNat ([]:List Int)).length=true:=by rw[List.length_replicate]; exact zj6.2 (by omega)
  have:=yrm (x:=yD (yZ3 id g i)) (d:=([]:List Int)) h0 hk;rw[show(0:Int).toNat=0 from rfl]at this;rw[this]
  have e1:(leb 6 k&&ltb k (6+((0:Nat):Int)))=false:=by
   cases h:(leb 6 k&&ltb k (6+((0:Nat):Int)))
   ·rfl
   ·rw[Bool.and_eq_true,zj7,zka]at h; omega
  rw[e1,cond_false];by_cases h:k=0
  ·rw[show((0:Int)==k)=true from beq_iff_eq.2 h.symm,show(k==0)=true from beq_iff_eq.2 h]; rfl
  ·rw[show((0:Int)==k)=false from beq_eq_false_iff_ne.2 (fun e=>h e.symm),show(k==0)=false from beq_eq_false_iff_ne.2 h,cond_false,cond_false]
   unfold nth;rw[List.getD_eq_getElem?_getD,List.getElem?_replicate];split<;>rfl
 | succ n ih =>
  intro hn k hk;rw[List.range_succ,List.foldl_append,List.foldl_cons,List.foldl_nil]
  have hlen:((List.range n).foldl ysd (yj6 id g i)).1.length=(6+g.2).toNat:=by
   rw[yNz];show((ycu (6+g.2)).1.set 0 _).length=_;rw[List.length_set,yx0 hge.2];show(List.replicate (6+g.2).toNat ([]:List Int)).length=_;rw[List.length_replicate]
  have h1:=ih (by omega) k hk;generalize (List.range n).foldl ysd (yj6 id g i)=M at h1 hlen ⊢;show nth (M.1.set (n+6) [0]) k []=_;have:=yrm (l:=M.1) (i:=((n+6:Nat):Int)) (x:= [0]) (d:=([]:List Int)) (zkR (by omega)) hk;rw[Int.toNat_natCast]at this;rw[this,h1];by_cases h:((n+6:Nat):Int)=k
  ·rw[show(((n+6:Nat):Int)==k)=true from beq_iff_eq.2 h,zk2 (show 6≤k by omega),zky (show k<6+((n+1:Nat):Int)by omega)]; rfl
  ·rw[show(((n+6:Nat):Int)==k)=false from beq_eq_false_iff_ne.2 h,cond_false,show ltb k (6+((n+1:Nat):Int))=ltb k (6+(n:Int))by rw[Bool.eq_iff_iff,zka,zka]; omega]
theorem y2u (g:dG):EvV g (fun _ _=>0):=by
 refine⟨fun s _ _=> ?_,fun _ _ _ _ _ _=>rfl⟩;unfold ydJ;rw[yn8]
 have: ∀l:List Nat,yfd (l.map (fun(_:Nat)=>(0:Int)))=0#64:=by
  intro l
  induction l with
  | nil=>rfl
  | cons x t ih=>rw[List.map_cons,ykp,ih]; decide
 rw[this]; rfl
theorem y3L {id:Int} {g:dG} (hg:ye g=true) (h1:1≤id) (h2:id≤60000) {i:Int} (i0:0≤i) (i1:i<g.1):yl (yla id g) i=yI id g i:=by
 rw[yJd hg h1 h2];show nth ((List.range g.1.toNat).map (fun(i:Nat)=>yI id g i)) i yh=_;unfold nth;rw[zkJ (by rw[List.length_map,List.length_range]; omega),List.getElem_map,List.getElem_range,Int.toNat_of_nonneg i0]
theorem y3K {id:Int} {g:dG} (hg:ye g=true) (h1:1≤id) (h2:id≤60000):Ix 0 (fun _ _=>0) (yla id g):=by
 have hw:=y2e hg h1 h2;have hge:=yj.1 hg;have e:=yJd hg h1 h2;have eg:(yla id g).2.1=g:=by rw[e]
 have ed: ∀i,0≤i→i<g.1→yl (yla id g) i=yI id g i:=fun i i0 i1=>y3L hg h1 h2 i0 i1
 refine⟨hw.1,hw.2.1,hw.2.2.1.1,hw.2.2.2.1,hw.2.2.2.2,by rw[e]; exact Int.le_refl _,y2u _,fun i s i0 i1 s0 s1 _=> ?_,fun i i0 i1=> ?_⟩
 ·rw[eg]at i1 s1
  rw[ed i i0 i1];obtain⟨_,_,n3⟩:=yHD id i hg;unfold ylK;rw[n3];show nth (yI id g i).1 (s+6) []=_;unfold yI;rw[y0B hg g.2.toNat (Nat.le_refl _) (s+6) (by omega),zk2 (show 6≤s+6 by omega),zky (show s+6<6+(g.2.toNat:Int)by omega)]; rfl
 ·rw[eg]at i1
  rw[ed i i0 i1,(yHD id i hg).2.2,e];show((([]:List dW).length:Nat):Int)≤1+(bif i== -1 then 0 else 0);rw[List.length_nil];cases(i== -1)<;>decide
theorem y1V {k:Int} {V:Int→Int→Int} {a b:dA} (h:Ix k V a) (ht:Turned a b) (hk:k+16≤60000) (hu:ya b=false): ∃V',Ix (k+16) V' b:=by
 cases ht with
 | same=>exact⟨V,yc1 h (by omega)⟩
 | put b x hb hx=>exact⟨V,yc1 (y1U h hb hx) (by omega)⟩
 | flush s=>obtain⟨V',h'⟩:=yO0 s h (by omega) hu; exact⟨V',yc1 h' (by omega)⟩
 | all=>exact y3J h hk hu
 | fail m hl hm=>exact⟨V,yc1 (y3h h (.inl hl) hm (by omega) hu) (by omega)⟩
 | spare hl _=>exact⟨V,yc1 (y2D h hl (by omega) hu) (by omega)⟩
 | step hl hf hb=>exact⟨V,yc1 (y3i h hl hf hb hu) (by omega)⟩
 | check=>exact⟨V,yc1 (yZS h (by omega) hu) (by omega)⟩
 | spoil m s _ hm _ _=>exact⟨V,yc1 (y2E h hm) (by omega)⟩
def yaF (a:dA) (s:Int):Nat:=yue (fun(i:Nat)=>yad a s i) a.2.1.1.toNat
theorem y2F {k:Int} {V:Int→Int→Int} {a:dA} {s:Int} (h:Ix k V a) (s0:0≤s) (s1:s<a.2.1.2):yR a s=bif decide (yaF a s<2)then(ydJ V a.2.1.1 s,true)else([],false):=by
 rw[yUv h.xc.1 h.xk h.xe h.xv s0 s1,(ySF _ _).2];show(bif decide (2≤yaF a s)then([],false)else(ydJ V a.2.1.1 s,true))=_;by_cases h2:yaF a s<2
 ·rw[decide_eq_true h2,decide_eq_false (by omega)]; rfl
 ·rw[decide_eq_false h2,decide_eq_true (by omega)]; rfl
def ycZ (V:Int→Int→Int) (g:dG) (s:Int):List Int:=(List.range (g.1-1).toNat).map (fun(i:Nat)=>nth (ydJ V g.1 s) (yaI g s i) 0)
theorem yO1 {k:Int} {V:Int→Int→Int} {a:dA} {s:Int} (h:Ix k V a) (s0:0≤s) (s1:s<a.2.1.2):yG a.2.1 s=true:=yM.2 ⟨h.xc.1,s0,by omega⟩
theorem ySC {k:Int} {V:Int→Int→Int} {a:dA} {s:Int} (h:Ix k V a) (s0:0≤s) (s1:s<a.2.1.2):ybO a s=bif decide (yaF a s<2)then(ycZ V a.2.1 s,true)else([],false):=by
 unfold ybO ykK;rw[yp4 h,h.xb,yO1 h s0 s1,y2F h s0 s1];cases decide (yaF a s<2)<;>rfl
theorem yw3 (V:Int→Int→Int) (g:dG) (s:Int):(ycZ V g s).length=(g.1-1).toNat:=by unfold ycZ; rw[List.length_map,List.length_range]
def y2Q (id:Int) (g:dG) (G T L B i:Int):dS:=(id,G,i,g.1,g.2,T,L,B)
def y3z (id n:Int) (v:List Int) (s:dS):Prop:=y2x v=(s,true)∧s.1=id∧s.2.1.tmod 2=n
def y08 (id:Int) (f:Int→List Int):Prop:= ∃n s,(n=0∨n=1)∧y3z id n (f n) s
structure Wsup (id:Int) (g:dG) (G T L B Lf Bf:Int) (f:Int→Int→List Int) (fl:Int→Bool):Prop where
 u0: ∀i,0≤i→i<g.1→yaD (y2Q id g G T L B i)=true
 u1: ∀i n s,0≤i→i<g.1→fl i=false→(n=0∨n=1)→y3z id n (f i n) s→s.2.2.1=i∧(s.2.1<G∨s=y2Q id g G T L B i)
 u2: ∀i,0≤i→i<g.1→i≠Lf→fl i=false∧y08 id (f i)
 u3: ∃i,0≤i∧i<g.1∧fl i=false∧f i (G.tmod 2)=yD (y2Q id g G T L B i)
 u4:(Lf=L∧Bf=B∧(Lf= -1∨(fl Lf=false∧y08 id (f Lf))))∨(0≤Lf∧Lf<g.1∧ ¬(fl Lf=false∧y08 id (f Lf))∧(L= -1∨L=Lf)∧Bf=0)
structure Wdat (g:dG) (T Q:Int) (R:Int→Int×List Int) (V:Int→Int→Int) (Lf Bf:Int) (f:Int→Int→List Int) (fl:Int→Bool) (bd:Int→Int→Bool):Prop where
 e:EvV g V
 q:0≤T∧T≤Q∧Q≤T+4∧Q≤60000
 d: ∀i s,0≤i→i<g.1→0≤s→s<g.2→fl i=false→(i≠Lf∨s<Bf)→bd i (s+6)=false→(∀q,T≤q→q<Q→(R q).1≠s)→f i (s+6)= [V s i]
 r: ∀q,T≤q→q<Q→ ∃i,0≤i∧i<g.1∧fl i=false∧f i (yT q)=ylw (q,R q)
 h: ∀i n r,0≤i→i<g.1→fl i=false→2≤n→n<6→y3F (f i n)=(r,true)→r.1<Q∧(T≤r.1→r.2=R r.1)
 v: ∀q,T≤q→q<Q→yG g (R q).1=true∧((R q).2.length:Int)=g.1-1∧(R q).2.all isW=true
 l: ∀q,T≤q→q<Q→(∀p,q<p→p<Q→(R p).1≠(R q).1)→ ∀i,0≤i→i<g.1→V (R q).1 i=yb5 (yg g (R q).1) g.1 (yao (R q).2) (R q).2 i
 b: ∀i n,0≤i→i<g.1→fl i=false→bd i n=true→6≤n
def flA (a:dA) (i:Int):Bool:=(yl a i).2.2.1
def bdA (a:dA) (i n:Int):Bool:=ykH (yl a i) n
def Ch (a:dA) (f:Int→Int→List Int):Prop:= ∀i n,0≤i→i<a.2.1.1→0≤n→y2m (yl a i) n (f i n)
structure Trn (n:Int) (v:Int→List Int) (a r:dA):Prop where
 g:r.2.1=a.2.1
 c: ∀f',Ch r f'→ ∃f,Ch a f∧ ∀i m,0≤i→i<a.2.1.1→0≤m→f' i m=f i m∨(m=n∧f' i m=v i)
 f: ∀i,0≤i→i<a.2.1.1→flA r i=flA a i
 b: ∀i m,0≤i→i<a.2.1.1→m≠n→bdA r i m=bdA a i m
 d: ∀i m,0≤i→i<a.2.1.1→bdA r i m=true→bdA a i m=true
def y3X (a:dA):Prop:=(a.2.2.1.length:Int)=a.2.1.1∧ ∀i,0≤i→i<a.2.1.1→yz (yl a i)=true
def Al (L N:Int) (fl0 fl:Int→Bool) (Lf:Int):Prop:=(Lf=L∧ ∀i,0≤i→i<N→fl i=fl0 i)∨(0≤Lf∧Lf<N∧(L= -1∨L=Lf)∧ ∀i,0≤i→i<N→fl i=(fl0 i||i==Lf))
def Eq0 (a:dA) (fl:Int→Bool) (Lf:Int):Prop:=Lf=a.2.2.2.1∧ ∀i,0≤i→i<a.2.1.1→fl i=flA a i
def WW (K id:Int) (g:dG) (V:Int→Int→Int) (Lf:Int) (f:Int→Int→List Int) (fl:Int→Bool) (bd:Int→Int→Bool):Prop:= ∃(G T L B Q:Int) (R:Int→Int×List Int) (Bf:Int),G≤K∧Q≤K∧Wsup id g G T L B Lf Bf f fl∧Wdat g T Q R V Lf Bf f fl bd
structure Mk (a:dA):Prop where
 k:y3X a
 g:ye a.2.1=true
 i:1≤a.1∧a.1≤60000
 l: -1≤a.2.2.2.1∧a.2.2.2.1≤a.2.1.1-1
 b:0≤a.2.2.2.2.1∧a.2.2.2.2.1≤a.2.1.2
 z:0≤a.2.2.2.1∨a.2.2.2.2.1=0
 t:0≤a.2.2.2.2.2.2.1∧a.2.2.2.2.2.2.1≤60000
 n:0≤a.2.2.2.2.2.2.2.1∧a.2.2.2.2.2.2.2.1<60000
def y4a (R:Int→Int×List Int) (B0:Int) (V:Int→Int→Int) (a:dA):Prop:=B0≤a.2.2.2.2.1∧ ∀f fl Lf,Ch a f→Al a.2.2.2.1 a.2.1.1 (flA a) fl Lf→ ∃Bf,((Eq0 a fl Lf→Bf=B0)∧(Eq0 a fl Lf→Lf≠ -1→fl Lf=false→y08 a.1 (f Lf)))∧Wsup a.1 a.2.1 a.2.2.2.2.2.2.2.1 a.2.2.2.2.2.2.1 a.2.2.2.1 B0 Lf Bf f fl∧Wdat a.2.1 a.2.2.2.2.2.2.1 a.2.2.2.2.2.1 R V Lf Bf f fl (bdA a)
def Rob (B0:Int) (V:Int→Int→Int) (a:dA):Prop:= ∃R,y4a R B0 V a
structure Nb (a:dA):Prop where
 n:a.2.2.2.1≠ -1→ ∀i s,0≤i→i<a.2.1.1→i≠a.2.2.2.1→0≤s→s<a.2.2.2.2.1→bdA a i (s+6)=false
 z:a.2.2.2.1≠ -1→flA a a.2.2.2.1=true→a.2.2.2.2.1=0
structure Lv (K:Int) (V:Int→Int→Int) (a:dA):Prop where
 x:Ix K V a
 r: ∃B0,Rob B0 V a
 n:Nb a
structure CoreEq (a b:dA):Prop where
 i:a.1=b.1
 g:a.2.1=b.2.1
 l:a.2.2.2.1=b.2.2.2.1
 u:a.2.2.2.2.1=b.2.2.2.2.1
 s:a.2.2.2.2.2.1=b.2.2.2.2.2.1
 t:a.2.2.2.2.2.2.1=b.2.2.2.2.2.2.1
 e:a.2.2.2.2.2.2.2.1=b.2.2.2.2.2.2.2.1
structure Fell (S:Int) (m:dM):Prop where
 ok:yz m=true
 len:(m.1.length:Int)=6+S
 cac:m.2.1= []
structure FellAll (g:dG) (l:List dM):Prop where
 n:(l.length:Int)=g.1
 f: ∀i,0≤i→i<g.1→Fell g.2 (nth l i yh)
def flF (l:List dM) (i:Int):Bool:=(nth l i yh).2.2.1
def bdF (l:List dM) (i n:Int):Bool:=ykH (nth l i yh) n
structure Way (id:Int) (g:dG) (G T L B Q:Int) (R:Int→Int×List Int) (V:Int→Int→Int) (Lf Bf:Int) (l0:List dM) (a:dA):Prop where
 e1:a.1=id
 e2:a.2.1=g
 e3:a.2.2.2.1=Lf
 e4:a.2.2.2.2.1=Bf
 e6:a.2.2.2.2.2.2.1=T
 e7:a.2.2.2.2.2.2.2.1=G
 e8:a.2.2.2.2.2.2.2.2.1= []
 e9:a.2.2.2.2.2.2.2.2.2.2.2=false
 kp:yap a
 st: ∀f,Ch a f→Wsup id g G T L B Lf Bf f (flA a)∧Wdat g T Q R V Lf Bf f (flA a) (bdA a)
 fl: ∀i,0≤i→i<g.1→flA a i=flF l0 i
 bd: ∀i m,0≤i→i<g.1→6≤m→(bdA a i m=true→bdF l0 i m=true)∧(T=Q→bdA a i m=bdF l0 i m)
structure Rp (id:Int) (g:dG) (G T L B Q:Int) (R:Int→Int×List Int) (V:Int→Int→Int) (Lf Bf:Int) (l0:List dM) (q:Int) (a:dA):Prop where
 w:Way id g G T L B Q R V Lf Bf l0 a
 q0:T≤q
 q1:q≤Q
 s:a.2.2.2.2.2.1=q
 u:ya a=false
 c: ∀i,0≤i→i<g.1→(yl a i).2.1.length≤1
 v: ∀i s,0≤i→i<g.1→0≤s→s<g.2→yad a s i=true→(∀p,q≤p→p<Q→(R p).1≠s)→ylK (yl a i) (s+6)= [V s i]
section
variable {id:Int} {g:dG} {G T L B Q:Int} {R:Int→Int×List Int} {V:Int→Int→Int} {Lf Bf:Int} {l0:List dM}
end
structure Back (K id:Int) (g:dG) (V:Int→Int→Int) (Lf:Int) (l:List dM) (x:dA):Prop where
 bi:x.1=id
 bg:x.2.1=g
 bl:x.2.2.2.1=Lf
 bc:x.2.2.2.2.2.2.2.2.1= []
 bb:x.2.2.2.2.2.2.2.2.2.2.2=false
 bk:yap x
 bf: ∀i,0≤i→i<g.1→flA x i=flF l i
 be: ∀i m,0≤i→i<g.1→6≤m→bdA x i m=true→bdF l i m=true
 dn:ya x=true→ ∀f,Ch x f→WW K id g V Lf f (flA x) (bdA x)
 up:ya x=false→Ix K V x∧Rob x.2.2.2.2.1 V x∧x.2.2.2.2.2.2.1=x.2.2.2.2.2.1∧(x.2.2.2.1≠ -1→flA x x.2.2.2.1=true→x.2.2.2.2.1=0)
def yKU (S:Int) (m x:dM):Prop:=x.2.2.1=m.2.2.1∧ ∀k,6≤k→k<6+S→ykH x k=ykH m k
theorem yNC {S:Int} {m x y:dM} (h:yKU S m x) (g:yKU S x y):yKU S m y:=⟨g.1.trans h.1,fun k k0 k1=>(g.2 k k0 k1).trans (h.2 k k0 k1)⟩
theorem yFW (S:Int) (m:dM):yKU S m (yy m):=⟨(ykm m).2,fun k _ _=>yW7 m k⟩
theorem yXl {S n:Int} (s:List Int) (m:dM) (hn:n<6):yKU S m (yhp n s m):=⟨yE3 n s m,fun k k0 k1=>by
 unfold yhp;cases m.2.2.1
 ·rw[cond_false]
  cases hc:ybu m n s
  ·unfold yae; rw[hc]; rfl
  ·rw[yxe hc,show(k !=n)=true from bne_iff_ne.2 (by omega),Bool.and_true]
 ·rfl⟩
theorem yOZ {a b:dA} {s i:Int} (h1:b.2.2.2.1=a.2.2.2.1) (h2:b.2.2.2.2.1=a.2.2.2.2.1) (s0:0≤s) (s1:s<a.2.1.2) (h:yKU a.2.1.2 (yl a i) (yl b i)):yad b s i=yad a s i:=by
 unfold yad yP;rw[h1,h2,h.1,h.2 (s+6) (by omega) (by omega)]
theorem y2A {a:dA} {s i:Int} (hk:yap a) (hu:ya (yx a)=false) (i0:0≤i) (i1:i<a.2.1.1) (s0:0≤s) (s1:s<a.2.1.2):yad (yx a) s i=yad a s i:=by
 have e:=ydf a;refine yOZ (yc0 e) (ybc e) s0 s1 ?_;rw[yD1 hu i0 (by have:=hk.1.2; omega)];exact yFW _ _
theorem y2z {a:dA} {s i:Int} (hk:yap a) (hg:0≤a.2.2.2.2.2.2.2.1) (hg2:a.2.2.2.2.2.2.2.1<60000) (hu:ya (yak a)=false) (i0:0≤i) (i1:i<a.2.1.1) (s0:0≤s) (s1:s<a.2.1.2):yad (yak a) s i=yad a s i:=by
 have e:=ynv a;refine yOZ ((yc0 e).trans rfl) ((ybc e).trans rfl) s0 s1 ?_;rw[yO3 hu i0 (by have:=hk.1.2; omega)]
 have hn:(yay a).2.2.2.2.2.2.2.1.tmod 2<6:=by
  show(i64.wrap (a.2.2.2.2.2.2.2.1+1)).tmod 2<6;rw[wr (by omega) (by omega)];have:=y0h (g:=a.2.2.2.2.2.2.2.1+1) (by omega);omega
 exact yNC (yXl _ _ hn) (yFW _ _)
theorem y3c {a:dA} {r:dN} {s i:Int} (hk:yap a) (hr:0≤r.1) (hu:ya (yQ a r)=false) (i0:0≤i) (i1:i<a.2.1.1) (s0:0≤s) (s1:s<a.2.1.2):yad (yQ a r) s i=yad a s i:=by
 have e:=ybA a r;refine yOZ (yc0 e) (ybc e) s0 s1 ?_;rw[yK7 hu i0 (by have:=hk.1.2; omega)];exact yNC (yXl _ _ (y01 hr).2.1) (yFW _ _)
theorem y1Q {k:Int} {V:Int→Int→Int} {a:dA} {s i:Int} (h:Ix k V a) (hk:k+1≤60000) (hu:ya (yW a)=false) (i0:0≤i) (i1:i<a.2.1.1) (s0:0≤s) (s1:s<a.2.1.2):yad (yW a) s i=yad a s i:=by
 obtain⟨h1,h2⟩:=yHg hu;rw[h2]at hu ⊢;have hs:=yXb (y0T h h1);have eg:(ybe (yx a)).2.1=a.2.1:=(by have h9:=yaQ (ydf a); exact h9);have c:=hs.xc;unfold yaH at c;have:=hs.xg;rw[y2z hs.xk (by omega) (by omega) hu i0 (by rw[eg]; exact i1) s0 (by rw[eg]; exact s1)];exact y2A h.xk h1 i0 i1 s0 s1
theorem y3b {k:Int} {V:Int→Int→Int} {a:dA} {s i:Int} (h:Ix k V a) (hk:k+1≤60000) (hu:ya (yq a)=false) (i0:0≤i) (i1:i<a.2.1.1) (s0:0≤s) (s1:s<a.2.1.2):yad (yq a) s i=yad a s i:=by
 unfold yq at hu ⊢;cases h4:leb 4 (i64.wrap (a.2.2.2.2.2.1-a.2.2.2.2.2.2.1))
 ·rfl
 ·rw[h4]at hu
  exact y1Q h hk hu i0 i1 s0 s1
theorem y2y {k:Int} {V:Int→Int→Int} {a:dA} {s:Int} {d:List Int} {i t:Int} (h:Ix k V a) (hs:yG a.2.1 s=true) (hd:d.all isW=true) (hz:(yl a i).2.2.1=false→(yl a i).2.1= []) (hu:ya (yH a s d)=false)
  (i0:0≤i) (i1:i<a.2.1.1) (t0:0≤t) (t1:t<a.2.1.2):yad (yH a s d) t i=bif t==s then yP a.2.2.2.1 a.2.2.2.2.1 i s (yl a i)else yad a t i:=by
 have hc:=yxt a s d;have h1:=yM.1 hs;have hg:=yj.1 h1.1;have hlen:=h.xk.1.2;have e:yl (yH a s d) i=yjg a.2.2.2.1 a.2.2.2.2.1 (yg a.2.1 s) a.2.1.1 s d i (yl a i):=yCd (yZI s d h.xu) hu i0 (by omega);obtain⟨d1,d2,d3⟩:=yoB h.xk i0 i1;have hda:=yA8 (s:=s) h1.2.1 (by omega);unfold yad;rw[yc0 hc,ybc hc,e];by_cases ht:t=s
 ·subst ht
  rw[beq_self_eq_true,cond_true];unfold yjg;cases hl:yP a.2.2.2.1 a.2.2.2.2.1 i t (yl a i)
  ·rw[cond_false,hl]; rfl
  ·have hf:(yl a i).2.2.1=false:=by
    simp only[yP,Bool.and_eq_true,Bool.not_eq_true']at hl; exact hl.1
   have hcw:ybu (yl a i) (yX t) [yb5 (yg a.2.1 t) a.2.1.1 (yao d) d i]=true:=yFN d1 hf (by rw[hda]; exact zj6.2 (by omega)) (yFx.2 ⟨by simp,fun x hx=>by rw[List.mem_singleton.1 hx]; exact ywu.1 (yJi hd)⟩) (by rw[hz hf]; decide);rw[cond_true,yxe hcw,hda,bne_self_eq_false,Bool.and_false,Bool.not_false,Bool.and_true];unfold yP at hl ⊢;rw[(yyu _ _ _).2]; exact hl
 ·rw[show(t==s)=false from beq_eq_false_iff_ne.2 ht,cond_false]
  obtain⟨e1,e2,e3⟩:=yHs (L:=a.2.2.2.1) (B:=a.2.2.2.2.1) (p:=yg a.2.1 s) (N:=a.2.1.1) (s:=s) (i:=i) (d:=d) (S:=0) (m:=yl a i) (t+6) (by omega);unfold yP;rw[e1,e2]
theorem yXq {k:Int} {V:Int→Int→Int} {a:dA} {s:Int} {d:List Int} {i t:Int} (h:Ix k V a) (hs:yG a.2.1 s=true) (hd:d.all isW=true) (hq:a.2.2.2.2.2.1<60000) (hk:k+1≤60000) (hu:ya (yE a s d).2=false)
  (i0:0≤i) (i1:i<a.2.1.1) (t0:0≤t) (t1:t<a.2.1.2):yad (yE a s d).2 t i=bif t==s then yP a.2.2.2.1 a.2.2.2.2.1 i s (yl a i)else yad a t i:=by
 unfold yE at hu ⊢;cases hc:ya (yq a)
 ·obtain⟨h1,h2,h3⟩:=y1S h hk hc
  have eg:(yq a).2.1=a.2.1:=yKX a;have hb0:=fun t t0 t1=>y3b (s:=t) h hk hc i0 i1 t0 t1
  have hlv:yP (yq a).2.2.2.1 (yq a).2.2.2.2.1 i s (yl (yq a) i)=yP a.2.2.2.1 a.2.2.2.2.1 i s (yl a i):=by
   unfold yq at hc ⊢;cases h4:leb 4 (i64.wrap (a.2.2.2.2.2.1-a.2.2.2.2.2.2.1))
   ·rfl
   ·rw[h4]at hc
    simp only[cond_true]at hc ⊢;obtain⟨g1,g2⟩:=yHg hc;have e:=ynv (ybe (yx a));rw[g2]at hc ⊢;rw[yc0 e,ybc e,yO3 hc i0 (by show i<((yx a).2.2.1.length:Int); rw[yD2]; have:=h.xk.1.2; omega)];have el:(yay (ybe (yx a))).2.2.2.1=a.2.2.2.1:=(by have h9:=yc0 (ydf a); exact h9);have eb:(yay (ybe (yx a))).2.2.2.2.1=a.2.2.2.2.1:=(by have h9:=ybc (ydf a); exact h9);rw[el,eb];unfold yP ySA;rw[(ykm _).2,yE3,show yl (ybe (yx a)) i=yl (yx a) i from rfl,yD1 g1 i0 (by have:=h.xk.1.2; omega),(ykm _).2]
  rw[hc]at hu;simp only[cond_false]at hu ⊢;have c:=h.xc;unfold yaH at c;cases hr:ya (yQ (yq a) ((yq a).2.2.2.2.2.1,s,d))
  ·rw[hr]at hu
   simp only[cond_false]at hu ⊢;have hq0:0≤(yq a).2.2.2.2.2.1:=by omega
   obtain⟨h4,h5⟩:=y1T (r:=((yq a).2.2.2.2.2.1,s,d)) h1 hq0 hr;have e1:=yiQ (ybA (yq a) ((yq a).2.2.2.2.2.1,s,d));have e2:=yVn (ybA (yq a) ((yq a).2.2.2.2.2.1,s,d));have e3:=(yaQ (ybA (yq a) ((yq a).2.2.2.2.2.1,s,d))).trans eg;have e5:=yc0 (ybA (yq a) ((yq a).2.2.2.2.2.1,s,d));have e6:=ybc (ybA (yq a) ((yq a).2.2.2.2.2.1,s,d));have hb1:=fun t t0 t1=>y3c (s:=t) (r:=((yq a).2.2.2.2.2.1,s,d)) h1.xk hq0 hr i0 (by rw[eg]; exact i1) t0 t1
   have hfl:(yl (yQ (yq a) ((yq a).2.2.2.2.2.1,s,d)) i).2.2.1=(yl (yq a) i).2.2.1:=by
    rw[yK7 hr i0 (by have:=h1.xk.1.2; rw[eg]at this; omega),(ykm _).2,yE3]
   rw[eg]at h5 hb1;generalize yQ (yq a) ((yq a).2.2.2.2.2.1,s,d)=R at h4 h5 e1 e2 e3 e5 e6 hb1 hfl hu ⊢;have h6:=yZU h4 (by omega) (by omega);have e4:(yaa R).2.1=a.2.1:=e3;have h7:=y2y (s:=s) (d:=d) (i:=i) (t:=t) h6 (by rw[e4]; exact hs) hd (fun hf=>h5 i i0 i1 hf) hu i0 (by rw[e4]; exact i1) t0 (by rw[e4]; exact t1);show yad (yH (yaa R) s d) t i=_;rw[h7]
   have e7:yP (yaa R).2.2.2.1 (yaa R).2.2.2.2.1 i s (yl (yaa R) i)=yP a.2.2.2.1 a.2.2.2.2.1 i s (yl a i):=by
    rw[← hlv];show yP R.2.2.2.1 R.2.2.2.2.1 i s (yl R i)=_;unfold yP;rw[e5,e6,hfl]
   have e8:yad (yaa R) t i=yad a t i:=(hb1 t t0 t1).trans (hb0 t t0 t1);rw[e7,e8]
  ·rw[hr]at hu
   exact absurd (hr.symm.trans hu) (by simp)
 ·rw[hc]at hu
  exact absurd (hc.symm.trans hu) (by simp)
theorem yHt (p:Nat→Bool): ∀n,decide (yue p n=0)=(List.range n).all p
 | 0=>rfl
 | n+1=>by
  rw[List.range_succ,List.all_append,← yHt p n,yuf];cases hp:p n
  ·simp[hp]
  ·simp[hp]
theorem y2G {k:Int} {V:Int→Int→Int} {a:dA} {s:Int} (h:Ix k V a) (s0:0≤s) (s1:s<a.2.1.2):yqH a s=(0,decide (yaF a s=0)):=by
 have hlen:=h.xk.1.2;have hN:a.2.2.1.length=a.2.1.1.toNat:=by omega
 have hw:yCf a s=decide (yaF a s=0):=by
  unfold yCf yaF;rw[yHt,hN,Bool.eq_iff_iff,List.all_eq_true,List.all_eq_true];constructor
  ·intro g i hi
   have hi':=List.mem_range.1 hi;have:=g i hi;rwa[(ysk h.xc.1 h.xk h.xv (show(0:Int)≤(i:Int)by omega) (by omega) s0 s1).1]at this
  ·intro g i hi
   have hi':=List.mem_range.1 hi;rw[(ysk h.xc.1 h.xk h.xv (show(0:Int)≤(i:Int)by omega) (by omega) s0 s1).1];exact g i hi
 unfold yqH;rw[hw];cases hd:decide (yaF a s=0)
 ·rfl
 ·rw[cond_true,hN]
  congr 1
  have:(List.range a.2.1.1.toNat).map (fun(i:Nat)=>yiW a i s)=ydJ V a.2.1.1 s:=by
   unfold ydJ;refine List.map_congr_left fun i hi=> ?_
   have hi':=List.mem_range.1 hi;refine(ysk h.xc.1 h.xk h.xv (show(0:Int)≤(i:Int)by omega) (by omega) s0 s1).2 ?_;unfold yaF at hd;rw[yHt,List.all_eq_true]at hd;exact hd i hi
  rw[this];exact h.xe.ev s s0 s1
theorem y3g {k:Int} {V:Int→Int→Int} {a:dA} (h:Ix k V a):yRR a=true:=by
 unfold yRR;rw[List.all_eq_true];intro s hs;have:=List.mem_range.1 hs;rw[y2G h (by omega) (by omega)];simp
theorem ySD {K:Int} {V:Int→Int→Int} {a:dA} (h:Ix K V a):yr3 a=bif(List.range a.2.1.2.toNat).all (fun(s:Nat)=>decide (yaF a s<2))then(List.range a.2.1.2.toNat).flatMap (fun(s:Nat)=>ycZ V a.2.1 s)else[]:=by
 unfold yr3
 have e: ∀s,s∈List.range a.2.1.2.toNat→ybO a (s:Int)=bif decide (yaF a s<2)then(ycZ V a.2.1 s,true)else([],false):=fun s hs=>by
  have:=List.mem_range.1 hs;exact ySC h (by omega) (by omega)
 have h1:(List.range a.2.1.2.toNat).all (fun(s:Nat)=>(ybO a s).2)=(List.range a.2.1.2.toNat).all (fun(s:Nat)=>decide (yaF a s<2)):=by
  rw[Bool.eq_iff_iff,List.all_eq_true,List.all_eq_true];constructor
  ·intro g s hs
   have:=g s hs;rw[e s hs]at this;cases hd:decide (yaF a s<2)
   ·rw[hd]at this; cases this
   ·rfl
  ·intro g s hs
   rw[e s hs,g s hs]; rfl
 rw[yp4 h,h1,Bool.true_and];cases hc:(List.range a.2.1.2.toNat).all (fun(s:Nat)=>decide (yaF a s<2))
 ·rfl
 ·rw[cond_true,cond_true]
  rw[List.all_eq_true]at hc;rw[List.flatMap_def,List.flatMap_def];refine congrArg List.flatten (List.map_congr_left fun s hs=> ?_);rw[e s hs,hc s hs]; rfl
def y3x (a:dA):Prop:= ∀s,0≤s→s<a.2.1.2→yaF a s<2
theorem yZP {K:Int} {V:Int→Int→Int} {a:dA} (h:Ix K V a) (hf:y3x a):yr3 a=(List.range a.2.1.2.toNat).flatMap (fun(s:Nat)=>ycZ V a.2.1 s):=by
 rw[ySD h,show(List.range a.2.1.2.toNat).all (fun(s:Nat)=>decide (yaF a s<2))=true from List.all_eq_true.2 fun s hs=>decide_eq_true (hf s (by omega) (by have:=List.mem_range.1 hs; omega))]; rfl
theorem yDh {K s:Int} {V:Int→Int→Int} {a:dA} (h:Ix K V a) (s0:0≤s) (s1:s<a.2.1.2):ykK a s=bif decide (yaF a s<2)then(ycZ V a.2.1 s,true)else([],false):=by
 have h4:=ySC h s0 s1;unfold ybO at h4;rw[yp4 h,h.xb,yO1 h s0 s1]at h4;exact h4
theorem ywv {K b:Int} {V:Int→Int→Int} {a:dA} (h:Ix K V a):yb4 a b=bif yax a.2.1 b then 0 else 2:=by
 unfold yb4;rw[yp4 h,show a.2.2.2.2.2.2.2.2.2.2.1=false from h.xu]; rfl
theorem y3G {K J:Int} {V W:Int→Int→Int} {a x:dA} (h:Ix K V a) (hx:Ix J W x) (hg:x.2.1=a.2.1) (hn: ∀s,0≤s→s<a.2.1.2→ym x s=ym a s) (b:Int):yS x b=yS a b:=by
 unfold yS;rw[ywv h,ywv hx,hg];cases hb:yax a.2.1 b
 ·rfl
 ·have:=yM.1 (ygg hb)
  rw[hn _ this.2.1 (by omega)]
theorem y1F {g:dG} {b i:Int} (hb:yax g b=true) (hi:yax g i=true) (hs:yp g i=yp g b) (hx:yC g i=yC g b):i=b:=by
 unfold yp at hs;unfold yC at hx;rw[hb,hi,cond_true,cond_true]at hs hx;have h1:=Int.mul_tdiv_add_tmod i (g.1-1);have h2:=Int.mul_tdiv_add_tmod b (g.1-1);rw[hs,hx]at h1;exact h1.symm.trans h2
theorem y3r {K s:Int} {V:Int→Int→Int} {d:List Int} {a:dA} (h:Ix K V a) (hd:yaq a.2.1 (ydI a.2.2.2.2.2.2.2.2.1 (s,d))=true):ym (yav a (ydI a.2.2.2.2.2.2.2.2.1 (s,d))) s=(d,true)∧ ∀t,0≤t→t<a.2.1.2→t≠s→ym (yav a (ydI a.2.2.2.2.2.2.2.2.1 (s,d))) t=ym a t:=by
 have p0:=(ye2.1 h.xc.2.2.1).2;have p1:=(ye2.1 hd).2;have hI:=yw5 h hd;constructor
 ·have he:(s,d)∈ydI a.2.2.2.2.2.2.2.2.1 (s,d):=by
   rw[yFf p0];exact List.mem_append_right _ List.mem_cons_self
  obtain⟨e1,e2⟩:=yRQ p1 he;unfold ym;show(bif leb 0 (yi (ydI a.2.2.2.2.2.2.2.2.1 (s,d)) s)then((nth (ydI a.2.2.2.2.2.2.2.2.1 (s,d)) (yi (ydI a.2.2.2.2.2.2.2.2.1 (s,d)) s) (0,[])).2,true)else _)=_;rw[e1,e2]; rfl
 ·intro t t0 t1 ht
  obtain⟨e1,e2⟩:=yZL (t:=t) p0 p1 (fun x hx=>y3n p0 (by rw[hx]; exact ht));have dI:=yDh hI (s:=t) t0 t1;have dA:=yDh h t0 t1;have lI:yaF (yav a (ydI a.2.2.2.2.2.2.2.2.1 (s,d))) t=yaF a t:=rfl;rw[lI]at dI;unfold ym;rw[dI,dA,h.xb,hI.xb];show(bif leb 0 (yi (ydI a.2.2.2.2.2.2.2.2.1 (s,d)) t)then((nth (ydI a.2.2.2.2.2.2.2.2.1 (s,d)) (yi (ydI a.2.2.2.2.2.2.2.2.1 (s,d)) t) (0,[])).2,true)else _)=_;rw[e1];cases h3:leb 0 (yi a.2.2.2.2.2.2.2.2.1 t)
  ·rfl
  ·rw[e2 h3]; rfl
theorem y3q {K b n:Int} {V:Int→Int→Int} {a:dA} (hw:Wk K a) (h:Ix K V a) (hb:yax a.2.1 b=true) (hn:isW n=true) (hs:(ym a (yp a.2.1 b)).2=true) :
  (ybB a b n).1=0∧Wk K (ybB a b n).2∧Ix K V (ybB a b n).2∧(ybB a b n).2.2.1=a.2.1∧(ybB a b n).2.2.2.1=a.2.2.1∧yS (ybB a b n).2 b=(n,0)∧ ∀i,i≠b→yS (ybB a b n).2 i=yS a i:=by
 have hI:=y1U h hb hn;have hso:=ygg hb;have hs2:=yM.1 hso;obtain⟨_,_,hx⟩:=ye1 hb;have hx2:yC a.2.1 b=b.tmod (a.2.1.1-1):=by unfold yC; rw[hb]; rfl
 have hl:=yhw (yp4 h) hso hs;unfold ybB at hI ⊢;rw[hs,cond_true]at hI ⊢;have hd:yaq a.2.1 _=true:=hI.xc.2.2.1;obtain⟨e1,e2⟩:=y3r h hd;have hg1:(yav a (ydI a.2.2.2.2.2.2.2.2.1 (yp a.2.1 b,(ym a (yp a.2.1 b)).1.set (yC a.2.1 b).toNat n))).2.1=a.2.1:=rfl;refine⟨rfl,yw8 hw hd,hI,rfl,rfl,?_,fun i hi=> ?_⟩
 ·unfold yS
  rw[ywv hI,hg1,hb,e1];show(nth _ _ 0,(0:Int))=_;rw[yrm (zj6.2 (show 0≤yC a.2.1 b∧yC a.2.1 b<(ym a (yp a.2.1 b)).1.length by omega)) (by omega),beq_self_eq_true]; rfl
 ·unfold yS
  rw[ywv hI,ywv h,hg1];cases hbi:yax a.2.1 i
  ·rfl
  ·have hsi:=yM.1 (ygg hbi)
   by_cases hst:yp a.2.1 i=yp a.2.1 b
   ·rw[hst,e1,hs]
    have hne:yC a.2.1 i≠yC a.2.1 b:=fun hx=>hi (y1F hb hbi hst hx)
    obtain⟨_,_,hx3⟩:=ye1 hbi;have hx4:yC a.2.1 i=i.tmod (a.2.1.1-1):=by unfold yC; rw[hbi]; rfl
    show(nth _ _ 0,(0:Int))=(nth _ _ 0,(0:Int));rw[yrm (zj6.2 (show 0≤yC a.2.1 b∧yC a.2.1 b<(ym a (yp a.2.1 b)).1.length by omega)) (by omega),beq_eq_false_iff_ne.2 hne.symm]; rfl
   ·rw[e2 _ hsi.2.1 (by omega) hst]
end
def yXL:Code:=(f207.body).getD .skip
def yYg:Env:=zkw TT [(162,yGm)] []
theorem yOz:FrOk prog ⟨yYg,18,fun _=>none⟩ yXL:=zkA mixed yc ⟨yYZ,trivial⟩
abbrev yqq:List Par:= [.rd tN]
abbrev yzi:List OT:= [⟨false,tL,(.ow .fz)⟩]
def yuD (a0:dN):Option (zaY yzi×zak yqq) :=let r1:=yby a0;bif(!r1)then some ((([]:List Int),()),()) else bif(zkl ([21322,a0.1,a0.2.1,(a0.2.2.length:Int)]:List Int).length a0.2.2.length 8)then some (((([21322,a0.1,a0.2.1,(a0.2.2.length:Int)]:List Int)++a0.2.2),()),()) else none
theorem yTy:ConOk prog 207 ⟨yqq,yzi,fun x=>yuD x.1⟩:=zkI (yOz) func207 ntmps207.symm fun x=>by kernel_rfl
def yln (a0:dN):List Int:=ylw a0
theorem yVS (a0:dN) (hk:zjx yqq (a0,())):yuD a0=(fun n=>some ((n,()),())) (yln a0):=by
 unfold yuD yln ylw;cases hr:yby a0
 ·rfl
 ·have:=(yXk.1 hr).2.2.1
  rw[zkF.2 (show(([21322,a0.1,a0.2.1,(a0.2.2.length:Int)]:List Int).length+a0.2.2.length)*8≤140737488355328 by simp only[List.length_cons,List.length_nil]; omega)]; rfl
def yEF:Con:=⟨yqq,yzi,fun x=>(fun n=>some ((n,()),())) (yln x.1)⟩
theorem yWA:ConOk prog 207 yEF:=(yTy).mono (fun x r hk h=>(yVS x.1 hk).trans h)
def yss:Code:=(f169.body).getD .skip
def yBF:Env:=zkw TT [(91,yEG),(206,yjI),(207,yEF),(208,ymW)] []
theorem ySt:FrOk prog ⟨yBF,24,fun _=>none⟩ yss:=zkA mixed yc ⟨yWB,yqG,yWA,ywD,trivial⟩
def yF8:Nat→Option Seg:=fun _=>none
def ydt:Shape:=⟨[(0,false,[.ptr 1000000000 0]),(3,false,[.ptr 0 0]),(4,false,[.int .i64])],[(0,[.int .i64,.int .i64,.br tI]),(1000000000,[.int .i64,.int .i64,.int .i64,.at 800000000,.int .i64,.int .i64,.int .i64,.int .i64,.int .i64,.at 800000001,.int .i64,.bool,.bool])],[(800000000,tM,(.pr (.ow .fz) (.pr (.ow (.pr .fz .fz)) (.pr .fz (.ow .fz))))),(800000001,tW,(.pr .fz .fz))]⟩
def yh9:Shape:=⟨[(0,false,[.ptr 1000000000 0]),(3,false,[.ptr 0 0]),(4,false,[.ci .i64 0])],[(0,[.int .i64,.int .i64,.br tI]),(1000000000,[.int .i64,.int .i64,.int .i64,.at 800000000,.int .i64,.int .i64,.int .i64,.int .i64,.int .i64,.at 800000001,.int .i64,.bool,.bool])],[(800000000,tM,(.pr (.ow .fz) (.pr (.ow (.pr .fz .fz)) (.pr .fz (.ow .fz))))),(800000001,tW,(.pr .fz .fz))]⟩
def yhU:Shape:=⟨[(0,false,[.ptr 1000000000 0])],[(1000000000,[.int .i64,.int .i64,.int .i64,.at 800000000,.int .i64,.int .i64,.int .i64,.int .i64,.int .i64,.at 800000001,.int .i64,.bool,.bool])],[(800000000,tM,(.pr (.ow .fz) (.pr (.ow (.pr .fz .fz)) (.pr .fz (.ow .fz))))),(800000001,tW,(.pr .fz .fz))]⟩
def ymL:Shape:=⟨[],[],[]⟩
abbrev yrj (v0:Int) (v1:dN) (v2:dA):(ydt).X:=((((),()),((),()),(v0,()),()),((v1.1,v1.2.1,v1.2.2,()),(v2.1,v2.2.1.1,v2.2.1.2,(),v2.2.2.2.1,v2.2.2.2.2.1,v2.2.2.2.2.2.1,v2.2.2.2.2.2.2.1,v2.2.2.2.2.2.2.2.1,(),v2.2.2.2.2.2.2.2.2.2.1,v2.2.2.2.2.2.2.2.2.2.2.1,v2.2.2.2.2.2.2.2.2.2.2.2,()),()),(v2.2.2.1,v2.2.2.2.2.2.2.2.2.1,()))
abbrev yPn (v0:dN) (v1:dA):(yh9).X:=((((),()),((),()),((),()),()),((v0.1,v0.2.1,v0.2.2,()),(v1.1,v1.2.1.1,v1.2.1.2,(),v1.2.2.2.1,v1.2.2.2.2.1,v1.2.2.2.2.2.1,v1.2.2.2.2.2.2.1,v1.2.2.2.2.2.2.2.1,(),v1.2.2.2.2.2.2.2.2.2.1,v1.2.2.2.2.2.2.2.2.2.2.1,v1.2.2.2.2.2.2.2.2.2.2.2,()),()),(v1.2.2.1,v1.2.2.2.2.2.2.2.2.1,()))
abbrev yDn (v0:dA):(yhU).X:=((((),()),()),((v0.1,v0.2.1.1,v0.2.1.2,(),v0.2.2.2.1,v0.2.2.2.2.1,v0.2.2.2.2.2.1,v0.2.2.2.2.2.2.1,v0.2.2.2.2.2.2.2.1,(),v0.2.2.2.2.2.2.2.2.2.1,v0.2.2.2.2.2.2.2.2.2.2.1,v0.2.2.2.2.2.2.2.2.2.2.2,()),()),(v0.2.2.1,v0.2.2.2.2.2.2.2.2.1,()))
def yrU (v0 v1 v2:Int) (v3:List Int) (v4 v5 v6 v7 v8 v9 v10 v11 v12:Int) (v13 v14:Bool) (v15:List dM) (v16:List dW):Option ((ydt).X ⊕ ((yhU).X ⊕ (ymL).X)) :=bif(ltb v0 (v15.length:Int))then let r4:=yT v1;let r5:=yln (v1,v2,v3);bnd (ye8 (v4,(v5,v6),v15,v7,v8,v9,v10,v11,v16,v12,v13,v14) v0 r4 r5) fun r6 =>some (.inl ((((),()),((),()),((i64.wrap (v0+1)),()),()),((v1,v2,v3,()),(r6.2.1.1,r6.2.1.2.1.1,r6.2.1.2.1.2,(),r6.2.1.2.2.2.1,r6.2.1.2.2.2.2.1,r6.2.1.2.2.2.2.2.1,r6.2.1.2.2.2.2.2.2.1,r6.2.1.2.2.2.2.2.2.2.1,(),r6.2.1.2.2.2.2.2.2.2.2.2.1,r6.2.1.2.2.2.2.2.2.2.2.2.2.1,r6.2.1.2.2.2.2.2.2.2.2.2.2.2,()),()),(r6.2.1.2.2.1,r6.2.1.2.2.2.2.2.2.2.2.1,()))) else some (.inr (.inl ((((),()),()),((v4,v5,v6,(),v7,v8,v9,v10,v11,(),v12,v13,v14,()),()),(v15,v16,()))))
def yd2 (x:(ydt).X):=yrU x.1.2.2.1.1 x.2.1.1.1 x.2.1.1.2.1 x.2.1.1.2.2.1 x.2.1.2.1.1 x.2.1.2.1.2.1 x.2.1.2.1.2.2.1 x.2.1.2.1.2.2.2.2.1 x.2.1.2.1.2.2.2.2.2.1 x.2.1.2.1.2.2.2.2.2.2.1 x.2.1.2.1.2.2.2.2.2.2.2.1 x.2.1.2.1.2.2.2.2.2.2.2.2.1 x.2.1.2.1.2.2.2.2.2.2.2.2.2.2.1 x.2.1.2.1.2.2.2.2.2.2.2.2.2.2.2.1 x.2.1.2.1.2.2.2.2.2.2.2.2.2.2.2.2.1 x.2.2.1 x.2.2.2.1
def yCW (x:(yh9).X):(ydt).X:=((((),()),((),()),(0,()),()),((x.2.1.1.1,x.2.1.1.2.1,x.2.1.1.2.2.1,()),(x.2.1.2.1.1,x.2.1.2.1.2.1,x.2.1.2.1.2.2.1,(),x.2.1.2.1.2.2.2.2.1,x.2.1.2.1.2.2.2.2.2.1,x.2.1.2.1.2.2.2.2.2.2.1,x.2.1.2.1.2.2.2.2.2.2.2.1,x.2.1.2.1.2.2.2.2.2.2.2.2.1,(),x.2.1.2.1.2.2.2.2.2.2.2.2.2.2.1,x.2.1.2.1.2.2.2.2.2.2.2.2.2.2.2.1,x.2.1.2.1.2.2.2.2.2.2.2.2.2.2.2.2.1,()),()),(x.2.2.1,x.2.2.2.1,()))
def yEx:Code:=(zd7 yss 64 52).getD .skip
theorem yRI:zd7 yss 64 13=some (.block 0 (.loop yEx)):=by kernel_rfl
theorem yUp (x:(ydt).X):zhu ⟨yBF,24,yF8⟩ 0 yEx 52 ydt yhU ymL x=yd2 x:=by kernel_rfl
def yDc (x:(yh9).X):Nat:=18446744073709551616
def ysX (x:(yh9).X):Option ((yhU).X ⊕ (ymL).X):=zF yd2 (yDc x) (yCW x)
def yDW:Seg:=⟨yh9,yhU,ymL,ysX⟩
def yUW:Nat→Option Seg:=fun q=>bif Nat.beq q 13 then some yDW else yF8 q
theorem ySu:FrOk prog ⟨yBF,24,yUW⟩ yss:=(ySt).loop (sg:=yDW) ydt yCW (by decide) yRI yd2 yDc (by decide) (fun _=>rfl) (fun x r _ h=>h) yUp
abbrev ytg:List Par:= [.pt tA (.pr .fz (.pr (.pr .fz .fz) (.pr (.ow (.pr (.ow .fz) (.pr (.ow (.pr .fz .fz)) (.pr .fz (.ow .fz))))) (.pr .fz (.pr .fz (.pr .fz (.pr .fz (.pr .fz (.pr (.ow (.pr .fz .fz)) (.pr .fz (.pr .fz .fz))))))))))),.rd tN]
abbrev yCb:List OT:= []
def ywU (a0:dA) (a1:dN):Option (zaY yCb×zak ytg) :=zkt (ysX ((((),()),((),()),((),()),()),((a1.1,a1.2.1,a1.2.2,()),(a0.1,a0.2.1.1,a0.2.1.2,(),a0.2.2.2.1,a0.2.2.2.2.1,a0.2.2.2.2.2.1,a0.2.2.2.2.2.2.1,a0.2.2.2.2.2.2.2.1,(),a0.2.2.2.2.2.2.2.2.2.1,a0.2.2.2.2.2.2.2.2.2.2.1,a0.2.2.2.2.2.2.2.2.2.2.2,()),()),(a0.2.2.1,a0.2.2.2.2.2.2.2.2.1,()))) (fun y6 =>let r8:=yea (y6.2.1.1.1,(y6.2.1.1.2.1,y6.2.1.1.2.2.1),y6.2.2.1,y6.2.1.1.2.2.2.2.1,y6.2.1.1.2.2.2.2.2.1,y6.2.1.1.2.2.2.2.2.2.1,y6.2.1.1.2.2.2.2.2.2.2.1,y6.2.1.1.2.2.2.2.2.2.2.2.1,y6.2.2.2.1,y6.2.1.1.2.2.2.2.2.2.2.2.2.2.1,y6.2.1.1.2.2.2.2.2.2.2.2.2.2.2.1,y6.2.1.1.2.2.2.2.2.2.2.2.2.2.2.2.1);some ((),(r8,()))) (fun y6 =>none)
theorem yWr:ConOk prog 169 ⟨ytg,yCb,fun x=>ywU x.1 x.2.1⟩:=zkI (ySu) func169 ntmps169.symm fun x=>by kernel_rfl
def yj3 (a0:dA) (a1:dN):dA:=yQ a0 a1
theorem yYM (a0:dA) (a1:dN) (hk:zjx ytg (a0,a1,())):ywU a0 a1=(fun n=>some ((),(n,()))) (yj3 a0 a1):=by
 have hb:a0.2.2.1.length*80≤2^47:=hk.1.2.2.1.1
 have h1:ysX (yPn a1 a0)=some (.inl (yDn ((List.range a0.2.2.1.length).foldl (ybz a1) a0))) :=
  zkD (step:=yd2) a0.2.2.1.length (fun i s=>yrj i a1 s) (ybz a1) (fun _ s=>s.2.2.1.length=a0.2.2.1.length) (fun s=> .inl (yDn s)) (fun i s hi hs=>⟨by
   simp only[yd2,yrj,yrU,hs,zky (show(i:Int)<a0.2.2.1.length by omega),cond_true,wq ((i:Int)+1) (by omega) (by omega),Int.natCast_add,Int.natCast_one,Int.toNat_natCast,zkX,yln];rw[ylv s i (yT a1.1) (ylw a1) (zkR (by rw[hs]; exact hi))]
   rfl,(yoO a1 s i).trans hs⟩) (fun s hs=>by simp only[yd2,yrj,yrU,hs,zk3 (Int.le_refl _),cond_false]) a0 rfl _ (by show _<18446744073709551616; omega)
 unfold ywU yj3 yQ;exact(congrArg (fun z=>zkt z _ _) h1).trans rfl
def yGr:Con:=⟨ytg,yCb,fun x=>(fun n=>some ((),(n,()))) (yj3 x.1 x.2.1)⟩
theorem yY4:ConOk prog 169 yGr:=(yWr).mono (fun x r hk h=>(yYM x.1 x.2.1 hk).trans h)
def ysp:Code:=(f230.body).getD .skip
def yBC:Env:=zkw TT [] []
theorem ySk:FrOk prog ⟨yBC,18,fun _=>none⟩ ysp:=zkA mixed yc trivial
def yF5:Nat→Option Seg:=fun _=>none
def ydq:Shape:=⟨[(0,false,[.br tI]),(3,false,[.int .i64]),(4,false,[.int .i64])],[],[]⟩
def yh6:Shape:=⟨[(0,false,[.br tI]),(3,false,[.ci .i64 0]),(4,false,[.ci .i64 0])],[],[]⟩
def yhR:Shape:=⟨[(3,false,[.int .i64])],[],[]⟩
def ymI:Shape:=⟨[],[],[]⟩
abbrev yrg (v0:List Int) (v1 v2:Int):(ydq).X:=(((v0,()),(v1,()),(v2,()),()),(),())
abbrev yPk (v0:List Int):(yh6).X:=(((v0,()),((),()),((),()),()),(),())
abbrev yDl (v0:Int):(yhR).X:=(((v0,()),()),(),())
def yrR (v0:List Int) (v1 v2:Int):Option ((ydq).X ⊕ ((yhR).X ⊕ (ymI).X)) :=bif(ltb v2 (v0.length:Int))then bif(inb v2 v0.length)then some (.inl (((v0,()),((i64.wrap ((BitVec.ofInt IntKind.i64.bits v1 ^^^ BitVec.ofInt IntKind.i64.bits (nth v0 v2 0)).toNat:Int)),()),((i64.wrap (v2+1)),()),()),(),())) else none else some (.inr (.inl (((v1,()),()),(),())))
def ydZ (x:(ydq).X):=yrR x.1.1.1 x.1.2.1.1 x.1.2.2.1.1
def yCS (x:(yh6).X):(ydq).X:=(((x.1.1.1,()),(0,()),(0,()),()),(),())
def yEt:Code:=(zd7 ysp 64 116).getD .skip
theorem yRE:zd7 ysp 64 29=some (.block 0 (.loop yEt)):=by kernel_rfl
theorem yUl (x:(ydq).X):zhu ⟨yBC,18,yF5⟩ 0 yEt 116 ydq yhR ymI x=ydZ x:=by kernel_rfl
def yC8 (x:(yh6).X):Nat:=18446744073709551616
def ysT (x:(yh6).X):Option ((yhR).X ⊕ (ymI).X):=zF ydZ (yC8 x) (yCS x)
def yDS:Seg:=⟨yh6,yhR,ymI,ysT⟩
def yUT:Nat→Option Seg:=fun q=>bif Nat.beq q 29 then some yDS else yF5 q
theorem ySl:FrOk prog ⟨yBC,18,yUT⟩ ysp:=(ySk).loop (sg:=yDS) ydq yCS (by decide) yRE ydZ yC8 (by decide) (fun _=>rfl) (fun x r _ h=>h) yUl
abbrev ytc:List Par:= [.rd tL]
abbrev yB6:List OT:= [⟨false,tI,.fz⟩]
def ywR (a0:List Int):Option (zaY yB6×zak ytc) :=zkt (ysT (((a0,()),((),()),((),()),()),(),())) (fun y0 =>some ((y0.1.1.1,()),())) (fun y0 =>none)
theorem yWl:ConOk prog 230 ⟨ytc,yB6,fun x=>ywR x.1⟩:=zkI (ySl) func230 ntmps230.symm fun x=>by kernel_rfl
def yj0 (a0:List Int):Int:=yao a0
theorem yYI (a0:List Int) (hk:zjx ytc (a0,())):ywR a0=(fun n=>some ((n,()),())) (yj0 a0):=by
 have hb:a0.length*8≤2^47:=hk.1.1
 have h1:ysT (yPk a0)=some (.inl (yDl (yao a0))) :=
  zkx (step:=ydZ) a0 0 (fun i s=>yrg a0 s i) xw (fun _ _=>True) (fun s=> .inl (yDl s)) (fun i s hi _=>⟨by
   simp only[ydZ,yrg,yrR,zky (show(i:Int)<a0.length by omega),cond_true,wq ((i:Int)+1) (by omega) (by omega),Int.natCast_add,Int.natCast_one,Int.toNat_natCast,zkR hi,zkS]; rfl,trivial⟩) (fun s _=>by simp only[ydZ,yrg,yrR,zk3 (Int.le_refl _),cond_false]) 0 trivial _ (by show _<18446744073709551616; omega)
 unfold ywR yj0;rw[h1]; rfl
def yGn:Con:=⟨ytc,yB6,fun x=>(fun n=>some ((n,()),())) (yj0 x.1)⟩
theorem yY0:ConOk prog 230 yGn:=(yWl).mono (fun x r hk h=>(yYI x.1 hk).trans h)
def yLc:Code:=(f210.body).getD .skip
def yLs:Env:=zkw TT [(230,yGn)] []
theorem yHq:FrOk prog ⟨yLs,5,fun _=>none⟩ yLc:=zkA mixed yc ⟨yY0,trivial⟩
abbrev yo8:List Par:= [.rd tL]
abbrev ypb:List OT:= [⟨false,tI,.fz⟩]
def yvs (a0:List Int):Option (zaY ypb×zak yo8) :=let r1:=yj0 a0;some ((r1,()),())
theorem yII:ConOk prog 210 ⟨yo8,ypb,fun x=>yvs x.1⟩:=zkI (yHq) func210 ntmps210.symm fun x=>by kernel_rfl
def yjj (a0:List Int):Int :=let r1:=yj0 a0;r1
def yu2:Con:=⟨yo8,ypb,fun x=>(fun n=>some ((n,()),())) (yjj x.1)⟩
theorem yKo (a0:List Int):yvs a0=(fun n=>some ((n,()),())) (yjj a0):=zkV (p:=fun(n:Int)=>((n,()),())) rfl
theorem yKz:ConOk prog 210 yu2:=(yII).mono (fun x r _ h=>(yKo x.1).trans h)
def yqf:Code:=(f170.body).getD .skip
def yyA:Env:=zkw TT [(113,yfh),(206,yjI),(209,ypg),(210,yu2),(211,ytY)] []
theorem yOT:FrOk prog ⟨yyA,61,fun _=>none⟩ yqf:=zkA mixed yc ⟨yka,yqG,yDx,yKz,yGT,trivial⟩
def yEg:Nat→Option Seg:=fun _=>none
def yds:Shape:=⟨[(0,false,[.ptr 1000000000 0]),(1,false,[.int .i64]),(2,false,[.br tI]),(6,false,[.int .i64]),(7,false,[.int .i64])],[(1000000000,[.int .i64,.int .i64,.int .i64,.at 800000000,.int .i64,.int .i64,.int .i64,.int .i64,.int .i64,.at 800000001,.int .i64,.bool,.bool])],[(800000000,tM,(.pr (.ow .fz) (.pr (.ow (.pr .fz .fz)) (.pr .fz (.ow .fz))))),(800000001,tW,(.pr .fz .fz))]⟩
def yh8:Shape:=⟨[(0,false,[.ptr 1000000000 0]),(1,false,[.int .i64]),(2,false,[.br tI]),(6,false,[.int .i64]),(7,false,[.ci .i64 0])],[(1000000000,[.int .i64,.int .i64,.int .i64,.at 800000000,.int .i64,.int .i64,.int .i64,.int .i64,.int .i64,.at 800000001,.int .i64,.bool,.bool])],[(800000000,tM,(.pr (.ow .fz) (.pr (.ow (.pr .fz .fz)) (.pr .fz (.ow .fz))))),(800000001,tW,(.pr .fz .fz))]⟩
def yhT:Shape:=⟨[],[(1000000000,[.int .i64,.int .i64,.int .i64,.at 800000000,.int .i64,.int .i64,.int .i64,.int .i64,.int .i64,.at 800000001,.int .i64,.bool,.bool])],[(800000000,tM,(.pr (.ow .fz) (.pr (.ow (.pr .fz .fz)) (.pr .fz (.ow .fz))))),(800000001,tW,(.pr .fz .fz))]⟩
def ymK:Shape:=⟨[],[],[]⟩
abbrev yri (v0:Int) (v1:List Int) (v2 v3:Int) (v4:dA):(yds).X:=((((),()),(v0,()),(v1,()),(v2,()),(v3,()),()),((v4.1,v4.2.1.1,v4.2.1.2,(),v4.2.2.2.1,v4.2.2.2.2.1,v4.2.2.2.2.2.1,v4.2.2.2.2.2.2.1,v4.2.2.2.2.2.2.2.1,(),v4.2.2.2.2.2.2.2.2.2.1,v4.2.2.2.2.2.2.2.2.2.2.1,v4.2.2.2.2.2.2.2.2.2.2.2,()),()),(v4.2.2.1,v4.2.2.2.2.2.2.2.2.1,()))
abbrev yPm (v0:Int) (v1:List Int) (v2:Int) (v3:dA):(yh8).X:=((((),()),(v0,()),(v1,()),(v2,()),((),()),()),((v3.1,v3.2.1.1,v3.2.1.2,(),v3.2.2.2.1,v3.2.2.2.2.1,v3.2.2.2.2.2.1,v3.2.2.2.2.2.2.1,v3.2.2.2.2.2.2.2.1,(),v3.2.2.2.2.2.2.2.2.2.1,v3.2.2.2.2.2.2.2.2.2.2.1,v3.2.2.2.2.2.2.2.2.2.2.2,()),()),(v3.2.2.1,v3.2.2.2.2.2.2.2.2.1,()))
abbrev yDm (v0:dA):(yhT).X:=((),((v0.1,v0.2.1.1,v0.2.1.2,(),v0.2.2.2.1,v0.2.2.2.2.1,v0.2.2.2.2.2.1,v0.2.2.2.2.2.2.1,v0.2.2.2.2.2.2.2.1,(),v0.2.2.2.2.2.2.2.2.2.1,v0.2.2.2.2.2.2.2.2.2.2.1,v0.2.2.2.2.2.2.2.2.2.2.2,()),()),(v0.2.2.1,v0.2.2.2.2.2.2.2.2.1,()))
def yrT (v0:Int) (v1:List Int) (v2 v3 v4 v5 v6 v7 v8 v9 v10 v11 v12:Int) (v13 v14:Bool) (v15:List dM) (v16:List dW):Option ((yds).X ⊕ ((yhT).X ⊕ (ymK).X)) :=bif(ltb v3 (v15.length:Int))then let r9:=yjj v1;bif(v3 !=v2)then bif(v5 !=0)then bif(inb ((i64.wrap ((i64.wrap ((i64.wrap (v3-v2))-1))+v5)).tmod v5) v1.length)then let r10:=yd7 (v4,(v5,v6),v15,v7,v8,v9,v10,v11,v16,v12,v13,v14) v3 v0;bif r10 then let r11:=ybD v0;bnd (ye8 (v4,(v5,v6),v15,v7,v8,v9,v10,v11,v16,v12,v13,v14) v3 r11 ([(nth v1 ((i64.wrap ((i64.wrap ((i64.wrap (v3-v2))-1))+v5)).tmod v5) 0)]:List Int)) fun r12 =>some (.inl ((((),()),(v0,()),(v1,()),(v2,()),((i64.wrap (v3+1)),()),()),((r12.2.1.1,r12.2.1.2.1.1,r12.2.1.2.1.2,(),r12.2.1.2.2.2.1,r12.2.1.2.2.2.2.1,r12.2.1.2.2.2.2.2.1,r12.2.1.2.2.2.2.2.2.1,r12.2.1.2.2.2.2.2.2.2.1,(),r12.2.1.2.2.2.2.2.2.2.2.2.1,r12.2.1.2.2.2.2.2.2.2.2.2.2.1,r12.2.1.2.2.2.2.2.2.2.2.2.2.2,()),()),(r12.2.1.2.2.1,r12.2.1.2.2.2.2.2.2.2.2.1,()))) else some (.inl ((((),()),(v0,()),(v1,()),(v2,()),((i64.wrap (v3+1)),()),()),((v4,v5,v6,(),v7,v8,v9,v10,v11,(),v12,v13,v14,()),()),(v15,v16,()))) else none else none else let r13:=yd7 (v4,(v5,v6),v15,v7,v8,v9,v10,v11,v16,v12,v13,v14) v3 v0;bif r13 then let r14:=ybD v0;bnd (ye8 (v4,(v5,v6),v15,v7,v8,v9,v10,v11,v16,v12,v13,v14) v3 r14 ([r9]:List Int)) fun r15 =>some (.inl ((((),()),(v0,()),(v1,()),(v2,()),((i64.wrap (v3+1)),()),()),((r15.2.1.1,r15.2.1.2.1.1,r15.2.1.2.1.2,(),r15.2.1.2.2.2.1,r15.2.1.2.2.2.2.1,r15.2.1.2.2.2.2.2.1,r15.2.1.2.2.2.2.2.2.1,r15.2.1.2.2.2.2.2.2.2.1,(),r15.2.1.2.2.2.2.2.2.2.2.2.1,r15.2.1.2.2.2.2.2.2.2.2.2.2.1,r15.2.1.2.2.2.2.2.2.2.2.2.2.2,()),()),(r15.2.1.2.2.1,r15.2.1.2.2.2.2.2.2.2.2.1,()))) else some (.inl ((((),()),(v0,()),(v1,()),(v2,()),((i64.wrap (v3+1)),()),()),((v4,v5,v6,(),v7,v8,v9,v10,v11,(),v12,v13,v14,()),()),(v15,v16,()))) else some (.inr (.inl ((),((v4,v5,v6,(),v7,v8,v9,v10,v11,(),v12,v13,v14,()),()),(v15,v16,()))))
def yd1 (x:(yds).X):=yrT x.1.2.1.1 x.1.2.2.1.1 x.1.2.2.2.1.1 x.1.2.2.2.2.1.1 x.2.1.1.1 x.2.1.1.2.1 x.2.1.1.2.2.1 x.2.1.1.2.2.2.2.1 x.2.1.1.2.2.2.2.2.1 x.2.1.1.2.2.2.2.2.2.1 x.2.1.1.2.2.2.2.2.2.2.1 x.2.1.1.2.2.2.2.2.2.2.2.1 x.2.1.1.2.2.2.2.2.2.2.2.2.2.1 x.2.1.1.2.2.2.2.2.2.2.2.2.2.2.1 x.2.1.1.2.2.2.2.2.2.2.2.2.2.2.2.1 x.2.2.1 x.2.2.2.1
def yCV (x:(yh8).X):(yds).X:=((((),()),(x.1.2.1.1,()),(x.1.2.2.1.1,()),(x.1.2.2.2.1.1,()),(0,()),()),((x.2.1.1.1,x.2.1.1.2.1,x.2.1.1.2.2.1,(),x.2.1.1.2.2.2.2.1,x.2.1.1.2.2.2.2.2.1,x.2.1.1.2.2.2.2.2.2.1,x.2.1.1.2.2.2.2.2.2.2.1,x.2.1.1.2.2.2.2.2.2.2.2.1,(),x.2.1.1.2.2.2.2.2.2.2.2.2.2.1,x.2.1.1.2.2.2.2.2.2.2.2.2.2.2.1,x.2.1.1.2.2.2.2.2.2.2.2.2.2.2.2.1,()),()),(x.2.2.1,x.2.2.2.1,()))
def yEw:Code:=(zd7 yqf 64 28).getD .skip
theorem yRH:zd7 yqf 64 7=some (.block 0 (.loop yEw)):=by kernel_rfl
theorem yUo (x:(yds).X):zhu ⟨yyA,61,yEg⟩ 0 yEw 28 yds yhT ymK x=yd1 x:=by kernel_rfl
def yDb (x:(yh8).X):Nat:=18446744073709551616
def ysW (x:(yh8).X):Option ((yhT).X ⊕ (ymK).X):=zF yd1 (yDb x) (yCV x)
def yDV:Seg:=⟨yh8,yhT,ymK,ysW⟩
def yRf:Nat→Option Seg:=fun q=>bif Nat.beq q 7 then some yDV else yEg q
theorem yOU:FrOk prog ⟨yyA,61,yRf⟩ yqf:=(yOT).loop (sg:=yDV) yds yCV (by decide) yRH yd1 yDb (by decide) (fun _=>rfl) (fun x r _ h=>h) yUo
abbrev yk9:List Par:= [.pt tA (.pr .fz (.pr (.pr .fz .fz) (.pr (.ow (.pr (.ow .fz) (.pr (.ow (.pr .fz .fz)) (.pr .fz (.ow .fz))))) (.pr .fz (.pr .fz (.pr .fz (.pr .fz (.pr .fz (.pr (.ow (.pr .fz .fz)) (.pr .fz (.pr .fz .fz))))))))))),.rd tI,.rd tL]
abbrev yqy:List OT:= []
def yuI (a0:dA) (a1:Int) (a2:List Int):Option (zaY yqy×zak yk9) :=let r1:=ydH a0.2.1 a1;zkt (ysW ((((),()),(a1,()),(a2,()),(r1,()),((),()),()),((a0.1,a0.2.1.1,a0.2.1.2,(),a0.2.2.2.1,a0.2.2.2.2.1,a0.2.2.2.2.2.1,a0.2.2.2.2.2.2.1,a0.2.2.2.2.2.2.2.1,(),a0.2.2.2.2.2.2.2.2.2.1,a0.2.2.2.2.2.2.2.2.2.2.1,a0.2.2.2.2.2.2.2.2.2.2.2,()),()),(a0.2.2.1,a0.2.2.2.2.2.2.2.2.1,()))) (fun y15 =>some ((),((y15.2.1.1.1,(y15.2.1.1.2.1,y15.2.1.1.2.2.1),y15.2.2.1,y15.2.1.1.2.2.2.2.1,y15.2.1.1.2.2.2.2.2.1,y15.2.1.1.2.2.2.2.2.2.1,y15.2.1.1.2.2.2.2.2.2.2.1,y15.2.1.1.2.2.2.2.2.2.2.2.1,y15.2.2.2.1,y15.2.1.1.2.2.2.2.2.2.2.2.2.2.1,y15.2.1.1.2.2.2.2.2.2.2.2.2.2.2.1,y15.2.1.1.2.2.2.2.2.2.2.2.2.2.2.2.1),()))) (fun y15 =>none)
theorem yTN:ConOk prog 170 ⟨yk9,yqy,fun x=>yuI x.1 x.2.1 x.2.2.1⟩:=zkI (yOU) func170 ntmps170.symm fun x=>by kernel_rfl
def yqC (a0:dA) (a1:Int) (a2:List Int):dA:=yH a0 a1 a2
def ylx (a0:dA) (a1:Int) (a2:List Int):Bool:=yG a0.2.1 a1&&((a2.length:Int)==a0.2.1.1-1&&(a0.2.2.1.length:Int)==a0.2.1.1)
theorem yV2 (a0:dA) (a1:Int) (a2:List Int) (hk:zjx yk9 (a0,a1,a2,())) (hq:ylx a0 a1 a2=true):yuI a0 a1 a2=(fun n=>some ((),(n,()))) (yqC a0 a1 a2):=by
 simp only[ylx,Bool.and_eq_true,beq_iff_eq]at hq;have hg:=yj.1 (yM.1 hq.1).1;have hp:=yiG hq.1
 have h1:ysW (yPm a1 a2 (yg a0.2.1 a1) a0)=some (.inl (yDm (yH a0 a1 a2))) :=
  zkD (step:=yd1) a0.2.2.1.length (fun i s=>yri a1 a2 (yg a0.2.1 a1) i s) (ybf (yg a0.2.1 a1) a0.2.1.1 a1 a2) (fun _ s=>s.2.2.1.length=a0.2.2.1.length∧s.2.1=a0.2.1) (fun s=> .inl (yDm s)) (fun i s hi hs=>⟨by
   have hN:s.2.1.1=a0.2.1.1:=by rw[hs.2]
   simp only[yd1,yri,yrT,hs.1,zky (show(i:Int)<a0.2.2.1.length by omega),cond_true,wq ((i:Int)+1) (by omega) (by omega),Int.natCast_add,Int.natCast_one,Int.toNat_natCast,zkX,yj0,yjj,yd7,ygo,ybf,yb5];rw[← hN];by_cases he:(i:Int)=yg a0.2.1 a1
   ·rw[show((i:Int) !=yg a0.2.1 a1)=false by simp[he],show((i:Int)==yg a0.2.1 a1)=true from beq_iff_eq.2 he]
    rw[ylv s i (yX a1) [yao a2] (zkR (by rw[hs.1]; exact hi))];cases yct s i a1<;>rfl
   ·have hd:=y4b (N:=s.2.1.1) (i:=i) (p:=yg a0.2.1 a1) ⟨by omega,by omega⟩ ⟨by omega,by omega⟩ ⟨hp.1,by omega⟩ he
    rw[show((i:Int) !=yg a0.2.1 a1)=true from bne_iff_ne.2 he,show((i:Int)==yg a0.2.1 a1)=false from beq_eq_false_iff_ne.2 he,show(s.2.1.1 !=0)=true from bne_iff_ne.2 (by omega),
     wq ((i:Int)-yg a0.2.1 a1) (by omega) (by omega),wq ((i:Int)-yg a0.2.1 a1-1) (by omega) (by omega),wq ((i:Int)-yg a0.2.1 a1-1+s.2.1.1) (by omega) (by omega),zj6.2 (show 0≤((i:Int)-yg a0.2.1 a1-1+s.2.1.1).tmod s.2.1.1∧((i:Int)-yg a0.2.1 a1-1+s.2.1.1).tmod s.2.1.1<a2.length by omega)]
    rw[ylv s i (yX a1) [nth a2 (((i:Int)-yg a0.2.1 a1-1+s.2.1.1).tmod s.2.1.1) 0] (zkR (by rw[hs.1]; exact hi))]
    cases yct s i a1<;>rfl,(yw4 _ _ _ _ s i).trans hs.1,(yaQ (yJg _ _ _ _ s i)).trans hs.2⟩) (fun s hs=>by simp only[yd1,yri,yrT,hs.1,zk3 (Int.le_refl _),cond_false]) a0 ⟨rfl,rfl⟩ _ (by show _<18446744073709551616; omega)
 unfold yuI yqC ydH;exact(congrArg (fun z=>zkt z _ _) h1).trans rfl
def yhu (a0:dA) (a1:Int) (a2:List Int):Option (zaY yqy×zak yk9):=bif ylx a0 a1 a2 then(fun n=>some ((),(n,()))) (yqC a0 a1 a2)else none
theorem yWR (a0:dA) (a1:Int) (a2:List Int) (h:ylx a0 a1 a2=true):yhu a0 a1 a2=(fun n=>some ((),(n,()))) (yqC a0 a1 a2):=by unfold yhu; rw[h]; rfl
def yES:Con:=⟨yk9,yqy,fun x=>yhu x.1 x.2.1 x.2.2.1⟩
theorem yWN:ConOk prog 170 yES:=(yTN).mono (fun x r hk h=>zkY h (fun hq=>yV2 x.1 x.2.1 x.2.2.1 hk hq))
def yUK:Code:=(f171.body).getD .skip
def yVd:Env:=zkw TT [(174,ymV),(208,ymW)] []
theorem yMk:FrOk prog ⟨yVd,17,fun _=>none⟩ yUK:=zkA mixed yc ⟨ywC,ywD,trivial⟩
abbrev yv2:List Par:= [.pt tA (.pr .fz (.pr (.pr .fz .fz) (.pr (.ow (.pr (.ow .fz) (.pr (.ow (.pr .fz .fz)) (.pr .fz (.ow .fz))))) (.pr .fz (.pr .fz (.pr .fz (.pr .fz (.pr .fz (.pr (.ow (.pr .fz .fz)) (.pr .fz (.pr .fz .fz)))))))))))]
abbrev ywn:List OT:= []
def yDJ (a0:dA):Option (zaY ywn×zak yv2) :=let r1:=yea a0;bif r1.2.2.2.2.2.2.2.2.2.2.1 then some ((),(r1,())) else let r2:=yaT (r1.1,r1.2.1,r1.2.2.1,r1.2.2.2.1,r1.2.2.2.2.1,r1.2.2.2.2.2.1,r1.2.2.2.2.2.1,r1.2.2.2.2.2.2.2);some ((),(r2,()))
theorem yQm:ConOk prog 171 ⟨yv2,ywn,fun x=>yDJ x.1⟩:=zkI (yMk) func171 ntmps171.symm fun x=>by kernel_rfl
def ygn (a0:dA):dA :=let r1:=yea a0;bif r1.2.2.2.2.2.2.2.2.2.2.1 then r1 else let r2:=yaT (r1.1,r1.2.1,r1.2.2.1,r1.2.2.2.1,r1.2.2.2.2.1,r1.2.2.2.2.2.1,r1.2.2.2.2.2.1,r1.2.2.2.2.2.2.2);r2
def yq5:Con:=⟨yv2,ywn,fun x=>(fun n=>some ((),(n,()))) (ygn x.1)⟩
theorem yTa (a0:dA):yDJ a0=(fun n=>some ((),(n,()))) (ygn a0):=zkV (p:=fun(n:dA)=>((),(n,()))) (zkG (p:=fun(n:dA)=>((),(n,()))) rfl rfl)
theorem yFb:ConOk prog 171 yq5:=(yQm).mono (fun x r _ h=>(yTa x.1).trans h)
theorem yH6 (a:dA):ygn a=yW a:=by
 unfold ygn yW yea yaT;show(bif ya (yx a)then yx a else yak (ybe (yx a)))=_;rfl
def yUL:Code:=(f217.body).getD .skip
def yVe:Env:=zkw TT [(169,yGr),(170,yES),(171,yq5)] []
theorem yMl:FrOk prog ⟨yVe,54,fun _=>none⟩ yUL:=zkA mixed yc ⟨yY4,yWN,yFb,trivial⟩
abbrev yjv:List Par:= [.pt tA (.pr .fz (.pr (.pr .fz .fz) (.pr (.ow (.pr (.ow .fz) (.pr (.ow (.pr .fz .fz)) (.pr .fz (.ow .fz))))) (.pr .fz (.pr .fz (.pr .fz (.pr .fz (.pr .fz (.pr (.ow (.pr .fz .fz)) (.pr .fz (.pr .fz .fz))))))))))),.rd tI,.rd tL]
abbrev yox:List OT:= [⟨false,tI,.fz⟩]
def yrH (a0:dA) (a1:Int) (a2:List Int):Option (zaY yox×zak yjv) :=bif(leb 4 (i64.wrap (a0.2.2.2.2.2.1-a0.2.2.2.2.2.2.1)))then let r1:=ygn a0;bif r1.2.2.2.2.2.2.2.2.2.2.1 then some ((6,()),(r1,())) else bif(zkl ([]:List Int).length a2.length 8)then let r2:=yj3 r1 (r1.2.2.2.2.2.1,a1,(([]:List Int)++a2));bif r2.2.2.2.2.2.2.2.2.2.2.1 then some ((6,()),(r2,())) else bnd (yhu (r2.1,r2.2.1,r2.2.2.1,r2.2.2.2.1,r2.2.2.2.2.1,(i64.wrap (r2.2.2.2.2.2.1+1)),r2.2.2.2.2.2.2) a1 a2) fun r3 =>bif r3.2.1.2.2.2.2.2.2.2.2.2.2.1 then some ((6,()),(r3.2.1,())) else some ((0,()),(r3.2.1,())) else none else bif a0.2.2.2.2.2.2.2.2.2.2.1 then some ((6,()),(a0,())) else bif(zkl ([]:List Int).length a2.length 8)then let r4:=yj3 a0 (a0.2.2.2.2.2.1,a1,(([]:List Int)++a2));bif r4.2.2.2.2.2.2.2.2.2.2.1 then some ((6,()),(r4,())) else bnd (yhu (r4.1,r4.2.1,r4.2.2.1,r4.2.2.2.1,r4.2.2.2.2.1,(i64.wrap (r4.2.2.2.2.2.1+1)),r4.2.2.2.2.2.2) a1 a2) fun r5 =>bif r5.2.1.2.2.2.2.2.2.2.2.2.2.1 then some ((6,()),(r5.2.1,())) else some ((0,()),(r5.2.1,())) else none
theorem yQn:ConOk prog 217 ⟨yjv,yox,fun x=>yrH x.1 x.2.1 x.2.2.1⟩:=zkI (yMl) func217 ntmps217.symm fun x=>by kernel_rfl
def yj4 (a0:dA) (a1:Int) (a2:List Int):Int×dA:=yE a0 a1 a2
def ykc (a0:dA) (a1:Int) (a2:List Int):Bool:=yG a0.2.1 a1&&((a2.length:Int)==a0.2.1.1-1&&(a0.2.2.1.length:Int)==a0.2.1.1)
theorem yTb (a0:dA) (a1:Int) (a2:List Int) (hk:zjx yjv (a0,a1,a2,())) (hq:ykc a0 a1 a2=true):yrH a0 a1 a2=(fun n=>some ((n.1,()),(n.2,()))) (yj4 a0 a1 a2):=by
 have hq':=hq;simp only[ykc,Bool.and_eq_true,beq_iff_eq]at hq;have hg:=yj.1 (yM.1 hq.1).1;have hap:zkl ([]:List Int).length a2.length 8=true:=zkF.2 (by simp only[List.length_nil]; omega)
 have key: ∀b:dA,b.2.1=a0.2.1→b.2.2.1.length=a0.2.2.1.length→yhu (yaa (yQ b (b.2.2.2.2.2.1,a1,a2))) a1 a2=some ((),(yH (yaa (yQ b (b.2.2.2.2.2.1,a1,a2))) a1 a2,())):=fun b h1 h2=>yWR _ _ _ (by
  unfold ylx;rw[show(yaa (yQ b (b.2.2.2.2.2.1,a1,a2))).2.1=a0.2.1 from(yaQ (ybA _ _)).trans h1,show(yaa (yQ b (b.2.2.2.2.2.1,a1,a2))).2.2.1.length=a0.2.2.1.length from(y0Z _ _).trans h2]
  exact hq')
 unfold yrH yj4 yE yq;simp only[yH6,yj3,List.nil_append,hap,cond_true];cases leb 4 (i64.wrap (a0.2.2.2.2.2.1-a0.2.2.2.2.2.2.1))
 ·have hd:=key a0 rfl rfl
  simp only[cond_false];generalize yQ a0 (a0.2.2.2.2.2.1,a1,a2)=R at hd ⊢;generalize yH (yaa R) a1 a2=Q at hd ⊢;unfold yaa at hd;simp only[cond_false,hd,zkH];unfold ya;cases a0.2.2.2.2.2.2.2.2.2.2.1
  ·cases R.2.2.2.2.2.2.2.2.2.2.1
   ·cases Q.2.2.2.2.2.2.2.2.2.2.1<;>rfl
   ·rfl
  ·rfl
 ·have hd:=key (yW a0) (yJe a0) (yWZ a0)
  simp only[cond_true];generalize yW a0=C at hd ⊢;generalize yQ C (C.2.2.2.2.2.1,a1,a2)=R at hd ⊢;generalize yH (yaa R) a1 a2=Q at hd ⊢;unfold yaa at hd;simp only[cond_true,hd,zkH];unfold ya;cases C.2.2.2.2.2.2.2.2.2.2.1
  ·cases R.2.2.2.2.2.2.2.2.2.2.1
   ·cases Q.2.2.2.2.2.2.2.2.2.2.1<;>rfl
   ·rfl
  ·rfl
def yoM (a0:dA) (a1:Int) (a2:List Int):Option (zaY yox×zak yjv):=bif ykc a0 a1 a2 then(fun n=>some ((n.1,()),(n.2,()))) (yj4 a0 a1 a2)else none
theorem yUc (a0:dA) (a1:Int) (a2:List Int) (h:ykc a0 a1 a2=true):yoM a0 a1 a2=(fun n=>some ((n.1,()),(n.2,()))) (yj4 a0 a1 a2):=by unfold yoM; rw[h]; rfl
def yCI:Con:=⟨yjv,yox,fun x=>yoM x.1 x.2.1 x.2.2.1⟩
theorem yT7:ConOk prog 217 yCI:=(yQn).mono (fun x r hk h=>zkY h (fun hq=>yTb x.1 x.2.1 x.2.2.1 hk hq))
def yUM:Code:=(f179.body).getD .skip
def yVf:Env:=zkw TT [(215,yzy),(216,yER),(217,yCI)] [(36928,(.pr .fz .fz))]
theorem yMm:FrOk prog ⟨yVf,63,fun _=>none⟩ yUM:=zkA mixed yc ⟨yKB,yWM,yT7,trivial⟩
abbrev yjw:List Par:= [.pt tA (.pr .fz (.pr (.pr .fz .fz) (.pr (.ow (.pr (.ow .fz) (.pr (.ow (.pr .fz .fz)) (.pr .fz (.ow .fz))))) (.pr .fz (.pr .fz (.pr .fz (.pr .fz (.pr .fz (.pr (.ow (.pr .fz .fz)) (.pr .fz (.pr .fz .fz))))))))))),.rd tI]
abbrev yoy:List OT:= [⟨false,tI,.fz⟩]
def yrI (a0:dA) (a1:Int):Option (zaY yoy×zak yjw) :=let r1:=yiT a0 a1;bif(ltb r1 0)then some ((0,()),(a0,())) else bif(inb r1 a0.2.2.2.2.2.2.2.2.1.length)then let r2:=yw a0 a1 ((nth a0.2.2.2.2.2.2.2.2.1 r1 (0,[])).2);bif(r2 !=0)then some ((r2,()),(a0,())) else bif(inb r1 a0.2.2.2.2.2.2.2.2.1.length)then bnd (yoM a0 a1 ((nth a0.2.2.2.2.2.2.2.2.1 r1 (0,[])).2)) fun r3 =>bif(r3.1.1==0)then bif(zj0 0 r1 r3.2.1.2.2.2.2.2.2.2.2.1.length)then bif(zkl ([]:List dW).length ((r3.2.1.2.2.2.2.2.2.2.2.1.drop (0:Int).toNat).take (r1-0).toNat).length 32)then bif(zj0 (i64.wrap (r1+1)) (r3.2.1.2.2.2.2.2.2.2.2.1.length:Int) r3.2.1.2.2.2.2.2.2.2.2.1.length)then bif(zkl (([]:List dW)++((r3.2.1.2.2.2.2.2.2.2.2.1.drop (0:Int).toNat).take (r1-0).toNat)).length ((r3.2.1.2.2.2.2.2.2.2.2.1.drop ((i64.wrap (r1+1))).toNat).take ((r3.2.1.2.2.2.2.2.2.2.2.1.length:Int)-(i64.wrap (r1+1))).toNat).length 32)then some ((r3.1.1,()),((r3.2.1.1,r3.2.1.2.1,r3.2.1.2.2.1,r3.2.1.2.2.2.1,r3.2.1.2.2.2.2.1,r3.2.1.2.2.2.2.2.1,r3.2.1.2.2.2.2.2.2.1,r3.2.1.2.2.2.2.2.2.2.1,((([]:List dW)++((r3.2.1.2.2.2.2.2.2.2.2.1.drop (0:Int).toNat).take (r1-0).toNat))++((r3.2.1.2.2.2.2.2.2.2.2.1.drop ((i64.wrap (r1+1))).toNat).take ((r3.2.1.2.2.2.2.2.2.2.2.1.length:Int)-(i64.wrap (r1+1))).toNat)),r3.2.1.2.2.2.2.2.2.2.2.2),())) else none else none else none else none else some ((r3.1.1,()),(r3.2.1,())) else none else none
theorem yQo:ConOk prog 179 ⟨yjw,yoy,fun x=>yrI x.1 x.2.1⟩:=zkI (yMm) func179 ntmps179.symm fun x=>by kernel_rfl
def yj5 (a0:dA) (a1:Int):Int×dA:=yB a0 a1
def ywJ (a0:dA) (a1:Int):Bool:=decide (a0.2.2.2.2.2.2.2.2.1.length≤1000)
theorem yTc (a0:dA) (a1:Int) (hk:zjx yjw (a0,a1,())) (hq:ywJ a0 a1=true):yrI a0 a1=(fun n=>some ((n.1,()),(n.2,()))) (yj5 a0 a1):=by
 have hq:=of_decide_eq_true hq;unfold yrI yj5 yB;simp only[yiT];cases h0:ltb (yi a0.2.2.2.2.2.2.2.2.1 a1) 0
 ·have h1:=zkW h0
  have hi:inb (yi a0.2.2.2.2.2.2.2.2.1 a1) a0.2.2.2.2.2.2.2.2.1.length=true:=(ygV (d:=((0:Int),([]:List Int))) (zk2 h1)).1;simp only[hi,cond_true,cond_false];generalize hD:(nth a0.2.2.2.2.2.2.2.2.1 (yi a0.2.2.2.2.2.2.2.2.1 a1) (0,[])).2=D;cases hc:(yw a0 a1 D !=0)
  ·obtain⟨ha,hl,hw,hd,hs,hb,_⟩:=yxo (bne_eq_false_iff_eq.1 hc)
   rw[yUc a0 a1 D (by unfold ykc; rw[hs,hl,yEj ha]; simp)];simp only[zkH,cond_false,yj4,yNE];have hk:=zj6.1 hi;cases hr:((yE a0 a1 D).1==0)
   ·rfl
   ·generalize yi a0.2.2.2.2.2.2.2.2.1 a1=K at h1 hk
    rw[wq (K+1) (by omega) (by omega),zkz.2 (show(0:Int)≤0∧0≤K∧K≤(a0.2.2.2.2.2.2.2.2.1.length:Int)by omega),zkz.2 (show 0≤K+1∧K+1≤(a0.2.2.2.2.2.2.2.2.1.length:Int)∧(a0.2.2.2.2.2.2.2.2.1.length:Int)≤(a0.2.2.2.2.2.2.2.2.1.length:Int)by omega),
     zkF.2 (by rw[List.length_take,List.length_drop,List.length_nil]; omega),zkF.2 (by rw[List.length_append,List.length_take,List.length_take,List.length_drop,List.length_drop,List.length_nil]; omega),y1H h1 hk.2]
    rw[beq_iff_eq.1 hr]; rfl
  ·rfl
 ·rfl
def yc5 (a0:dA) (a1:Int):Option (zaY yoy×zak yjw):=bif ywJ a0 a1 then(fun n=>some ((n.1,()),(n.2,()))) (yj5 a0 a1)else none
theorem yFe (a0:dA) (a1:Int) (h:ywJ a0 a1=true):yc5 a0 a1=(fun n=>some ((n.1,()),(n.2,()))) (yj5 a0 a1):=by unfold yc5; rw[h]; rfl
def yq6:Con:=⟨yjw,yoy,fun x=>yc5 x.1 x.2.1⟩
theorem yFc:ConOk prog 179 yq6:=(yQo).mono (fun x r hk h=>zkY h (fun hq=>yTc x.1 x.2.1 hk hq))
def yst:Code:=(f117.body).getD .skip
def yBG:Env:=zkw TT [(179,yq6)] []
theorem ySv:FrOk prog ⟨yBG,22,fun _=>none⟩ yst:=zkA mixed yc ⟨yFc,trivial⟩
def yF9:Nat→Option Seg:=fun _=>none
def yes:Shape:=⟨[(0,false,[.ptr 1000000000 0])],[(1000000000,[.int .i64,.int .i64,.int .i64,.at 800000000,.int .i64,.int .i64,.int .i64,.int .i64,.int .i64,.at 800000001,.int .i64,.bool,.bool])],[(800000000,tM,(.pr (.ow .fz) (.pr (.ow (.pr .fz .fz)) (.pr .fz (.ow .fz))))),(800000001,tW,(.pr .fz .fz))]⟩
def yjB:Shape:=⟨[(0,false,[.ptr 1000000000 0])],[(1000000000,[.int .i64,.int .i64,.int .i64,.at 800000000,.int .i64,.int .i64,.int .i64,.int .i64,.int .i64,.at 800000001,.int .i64,.bool,.bool])],[(800000000,tM,(.pr (.ow .fz) (.pr (.ow (.pr .fz .fz)) (.pr .fz (.ow .fz))))),(800000001,tW,(.pr .fz .fz))]⟩
def yjy:Shape:=⟨[],[(1000000000,[.int .i64,.int .i64,.int .i64,.at 800000000,.int .i64,.int .i64,.int .i64,.int .i64,.int .i64,.at 800000001,.int .i64,.bool,.bool])],[(800000000,tM,(.pr (.ow .fz) (.pr (.ow (.pr .fz .fz)) (.pr .fz (.ow .fz))))),(800000001,tW,(.pr .fz .fz))]⟩
def yjF:Shape:=⟨[(2,false,[.int .i64])],[(1000000000,[.int .i64,.int .i64,.int .i64,.at 800000000,.int .i64,.int .i64,.int .i64,.int .i64,.int .i64,.at 800000001,.int .i64,.bool,.bool])],[(800000000,tM,(.pr (.ow .fz) (.pr (.ow (.pr .fz .fz)) (.pr .fz (.ow .fz))))),(800000001,tW,(.pr .fz .fz))]⟩
abbrev yuh (v0:dA):(yes).X:=((((),()),()),((v0.1,v0.2.1.1,v0.2.1.2,(),v0.2.2.2.1,v0.2.2.2.2.1,v0.2.2.2.2.2.1,v0.2.2.2.2.2.2.1,v0.2.2.2.2.2.2.2.1,(),v0.2.2.2.2.2.2.2.2.2.1,v0.2.2.2.2.2.2.2.2.2.2.1,v0.2.2.2.2.2.2.2.2.2.2.2,()),()),(v0.2.2.1,v0.2.2.2.2.2.2.2.2.1,()))
abbrev ySK (v0:dA):(yjB).X:=((((),()),()),((v0.1,v0.2.1.1,v0.2.1.2,(),v0.2.2.2.1,v0.2.2.2.2.1,v0.2.2.2.2.2.1,v0.2.2.2.2.2.2.1,v0.2.2.2.2.2.2.2.1,(),v0.2.2.2.2.2.2.2.2.2.1,v0.2.2.2.2.2.2.2.2.2.2.1,v0.2.2.2.2.2.2.2.2.2.2.2,()),()),(v0.2.2.1,v0.2.2.2.2.2.2.2.2.1,()))
abbrev ySH (v0:dA):(yjy).X:=((),((v0.1,v0.2.1.1,v0.2.1.2,(),v0.2.2.2.1,v0.2.2.2.2.1,v0.2.2.2.2.2.1,v0.2.2.2.2.2.2.1,v0.2.2.2.2.2.2.2.1,(),v0.2.2.2.2.2.2.2.2.2.1,v0.2.2.2.2.2.2.2.2.2.2.1,v0.2.2.2.2.2.2.2.2.2.2.2,()),()),(v0.2.2.1,v0.2.2.2.2.2.2.2.2.1,()))
abbrev ySN (v0:Int) (v1:dA):(yjF).X:=(((v0,()),()),((v1.1,v1.2.1.1,v1.2.1.2,(),v1.2.2.2.1,v1.2.2.2.2.1,v1.2.2.2.2.2.1,v1.2.2.2.2.2.2.1,v1.2.2.2.2.2.2.2.1,(),v1.2.2.2.2.2.2.2.2.2.1,v1.2.2.2.2.2.2.2.2.2.2.1,v1.2.2.2.2.2.2.2.2.2.2.2,()),()),(v1.2.2.1,v1.2.2.2.2.2.2.2.2.1,()))
def yuR (v0 v1 v2 v3 v4 v5 v6 v7 v8:Int) (v9 v10:Bool) (v11:List dM) (v12:List dW):Option ((yes).X ⊕ ((yjy).X ⊕ (yjF).X)) :=bif(ltb 0 (v12.length:Int))then bif(inb 0 v12.length)then bnd (yc5 (v0,(v1,v2),v11,v3,v4,v5,v6,v7,v12,v8,v9,v10) ((nth v12 0 (0,[])).1)) fun r2 =>bif(r2.1.1 !=0)then some (.inr (.inr (((r2.1.1,()),()),((r2.2.1.1,r2.2.1.2.1.1,r2.2.1.2.1.2,(),r2.2.1.2.2.2.1,r2.2.1.2.2.2.2.1,r2.2.1.2.2.2.2.2.1,r2.2.1.2.2.2.2.2.2.1,r2.2.1.2.2.2.2.2.2.2.1,(),r2.2.1.2.2.2.2.2.2.2.2.2.1,r2.2.1.2.2.2.2.2.2.2.2.2.2.1,r2.2.1.2.2.2.2.2.2.2.2.2.2.2,()),()),(r2.2.1.2.2.1,r2.2.1.2.2.2.2.2.2.2.2.1,())))) else some (.inl ((((),()),()),((r2.2.1.1,r2.2.1.2.1.1,r2.2.1.2.1.2,(),r2.2.1.2.2.2.1,r2.2.1.2.2.2.2.1,r2.2.1.2.2.2.2.2.1,r2.2.1.2.2.2.2.2.2.1,r2.2.1.2.2.2.2.2.2.2.1,(),r2.2.1.2.2.2.2.2.2.2.2.2.1,r2.2.1.2.2.2.2.2.2.2.2.2.2.1,r2.2.1.2.2.2.2.2.2.2.2.2.2.2,()),()),(r2.2.1.2.2.1,r2.2.1.2.2.2.2.2.2.2.2.1,()))) else none else some (.inr (.inl ((),((v0,v1,v2,(),v3,v4,v5,v6,v7,(),v8,v9,v10,()),()),(v11,v12,()))))
def yez (x:(yes).X):=yuR x.2.1.1.1 x.2.1.1.2.1 x.2.1.1.2.2.1 x.2.1.1.2.2.2.2.1 x.2.1.1.2.2.2.2.2.1 x.2.1.1.2.2.2.2.2.2.1 x.2.1.1.2.2.2.2.2.2.2.1 x.2.1.1.2.2.2.2.2.2.2.2.1 x.2.1.1.2.2.2.2.2.2.2.2.2.2.1 x.2.1.1.2.2.2.2.2.2.2.2.2.2.2.1 x.2.1.1.2.2.2.2.2.2.2.2.2.2.2.2.1 x.2.2.1 x.2.2.2.1
def yEW (x:(yjB).X):(yes).X:=((((),()),()),((x.2.1.1.1,x.2.1.1.2.1,x.2.1.1.2.2.1,(),x.2.1.1.2.2.2.2.1,x.2.1.1.2.2.2.2.2.1,x.2.1.1.2.2.2.2.2.2.1,x.2.1.1.2.2.2.2.2.2.2.1,x.2.1.1.2.2.2.2.2.2.2.2.1,(),x.2.1.1.2.2.2.2.2.2.2.2.2.2.1,x.2.1.1.2.2.2.2.2.2.2.2.2.2.2.1,x.2.1.1.2.2.2.2.2.2.2.2.2.2.2.2.1,()),()),(x.2.2.1,x.2.2.2.1,()))
def yGf:Code:=(zd7 yst 64 24).getD .skip
theorem yVh:zd7 yst 64 6=some (.block 0 (.loop yGf)):=by kernel_rfl
theorem yWT (x:(yes).X):zhu ⟨yBG,22,yF9⟩ 0 yGf 24 yes yjy yjF x=yez x:=by kernel_rfl
def yE1 (x:(yjB).X):Nat:=18446744073709551616
def yvQ (x:(yjB).X):Option ((yjy).X ⊕ (yjF).X):=zF yez (yE1 x) (yEW x)
def yFz:Seg:=⟨yjB,yjy,yjF,yvQ⟩
def yUX:Nat→Option Seg:=fun q=>bif Nat.beq q 6 then some yFz else yF9 q
theorem ySw:FrOk prog ⟨yBG,22,yUX⟩ yst:=(ySv).loop (sg:=yFz) yes yEW (by decide) yVh yez yE1 (by decide) (fun _=>rfl) (fun x r _ h=>h) yWT
abbrev ynj:List Par:= [.pt tA (.pr .fz (.pr (.pr .fz .fz) (.pr (.ow (.pr (.ow .fz) (.pr (.ow (.pr .fz .fz)) (.pr .fz (.ow .fz))))) (.pr .fz (.pr .fz (.pr .fz (.pr .fz (.pr .fz (.pr (.ow (.pr .fz .fz)) (.pr .fz (.pr .fz .fz)))))))))))]
abbrev ytE:List OT:= [⟨false,tI,.fz⟩]
def ywV (a0:dA):Option (zaY ytE×zak ynj) :=zkt (yvQ ((((),()),()),((a0.1,a0.2.1.1,a0.2.1.2,(),a0.2.2.2.1,a0.2.2.2.2.1,a0.2.2.2.2.2.1,a0.2.2.2.2.2.2.1,a0.2.2.2.2.2.2.2.1,(),a0.2.2.2.2.2.2.2.2.2.1,a0.2.2.2.2.2.2.2.2.2.2.1,a0.2.2.2.2.2.2.2.2.2.2.2,()),()),(a0.2.2.1,a0.2.2.2.2.2.2.2.2.1,()))) (fun y2 =>some ((0,()),((y2.2.1.1.1,(y2.2.1.1.2.1,y2.2.1.1.2.2.1),y2.2.2.1,y2.2.1.1.2.2.2.2.1,y2.2.1.1.2.2.2.2.2.1,y2.2.1.1.2.2.2.2.2.2.1,y2.2.1.1.2.2.2.2.2.2.2.1,y2.2.1.1.2.2.2.2.2.2.2.2.1,y2.2.2.2.1,y2.2.1.1.2.2.2.2.2.2.2.2.2.2.1,y2.2.1.1.2.2.2.2.2.2.2.2.2.2.2.1,y2.2.1.1.2.2.2.2.2.2.2.2.2.2.2.2.1),()))) (fun y2 =>some ((y2.1.1.1,()),((y2.2.1.1.1,(y2.2.1.1.2.1,y2.2.1.1.2.2.1),y2.2.2.1,y2.2.1.1.2.2.2.2.1,y2.2.1.1.2.2.2.2.2.1,y2.2.1.1.2.2.2.2.2.2.1,y2.2.1.1.2.2.2.2.2.2.2.1,y2.2.1.1.2.2.2.2.2.2.2.2.1,y2.2.2.2.1,y2.2.1.1.2.2.2.2.2.2.2.2.2.2.1,y2.2.1.1.2.2.2.2.2.2.2.2.2.2.2.1,y2.2.1.1.2.2.2.2.2.2.2.2.2.2.2.2.1),())))
theorem yWs:ConOk prog 117 ⟨ynj,ytE,fun x=>ywV x.1⟩:=zkI (ySw) func117 ntmps117.symm fun x=>by kernel_rfl
def yun (a0:dA):Int×dA:=ykG a0
def yDB (a0:dA):Bool:=decide (a0.2.2.2.2.2.2.2.2.1.length≤1000)
theorem yYN (a0:dA) (hk:zjx ynj (a0,())) (hq:yDB a0=true):ywV a0=(fun n=>some ((n.1,()),(n.2,()))) (yun a0):=by
 have hq:=of_decide_eq_true hq
 have h1:=zkC (step:=yez) a0.2.2.2.2.2.2.2.2.1.length (fun _ s=>yuh s) yge (fun i s=>s.2.2.2.2.2.2.2.2.1.length+i=a0.2.2.2.2.2.2.2.2.1.length) (fun b=>(0,b))
  (fun r=>bif r.1==0 then .inl (ySH r.2)else .inr (ySN r.1 r.2)) (fun i s hi hs=>by
   have hp:0<s.2.2.2.2.2.2.2.2.1.length:=by omega
   constructor
   ·simp only[yez,yuh,yuR,zkX,zky (show(0:Int)<(s.2.2.2.2.2.2.2.2.1.length:Int)by omega),cond_true,show inb 0 s.2.2.2.2.2.2.2.2.1.length=true from zkR (i:=0) hp]
    rw[yFe s (nth s.2.2.2.2.2.2.2.2.1 0 (0,[])).1 (decide_eq_true (show s.2.2.2.2.2.2.2.2.1.length≤1000 by omega))];simp only[zkH,yj5];unfold yge;generalize yB s (nth s.2.2.2.2.2.2.2.2.1 0 (0,[])).1=R;cases hr:(R.1 !=0)
    ·rfl
    ·simp only[cond_true]
     rw[show(R.1==0)=false from beq_eq_false_iff_ne.2 (bne_iff_ne.1 hr)]; rfl
   ·intro s' h
    unfold yge at h;cases hr:((yB s (nth s.2.2.2.2.2.2.2.2.1 0 (0,[])).1).1 !=0)
    ·rw[hr]at h
     simp only[cond_false,Sum.inl.injEq]at h;rw[← h,yRT hp (bne_eq_false_iff_eq.1 hr),List.length_drop]; omega
    ·rw[hr]at h; cases h) (fun s hs=>by
   simp only[yez,yuh,yuR,show ltb 0 (s.2.2.2.2.2.2.2.2.1.length:Int)=false from zk3 (by omega)]; rfl) a0 rfl 18446744073709551616 (by omega)
 unfold ywV yun ykG;refine(congrArg (fun z=>zkt z _ _) (show yvQ (ySK a0)=_ from h1)).trans ?_;generalize goE yge (fun b=>(0,b)) a0.2.2.2.2.2.2.2.2.1.length 0 a0=R;cases hr:(R.1==0)
 ·rfl
 ·simp only[cond_true,zkN,zkX]
  rw[show R.1=0 from beq_iff_eq.1 hr]
def ynO (a0:dA):Option (zaY ytE×zak ynj):=bif yDB a0 then(fun n=>some ((n.1,()),(n.2,()))) (yun a0)else none
theorem yY8 (a0:dA) (h:yDB a0=true):ynO a0=(fun n=>some ((n.1,()),(n.2,()))) (yun a0):=by unfold ynO; rw[h]; rfl
def yGs:Con:=⟨ynj,ytE,fun x=>ynO x.1⟩
theorem yY5:ConOk prog 117 yGs:=(yWs).mono (fun x r hk h=>zkY h (fun hq=>yYN x.1 hk hq))
def yZo:Code:=(f80.body).getD .skip
def yZB:Env:=zkw TT [(72,yeu)] []
theorem ySm:FrOk prog ⟨yZB,12,fun _=>none⟩ yZo:=zkA mixed yc ⟨yiF,trivial⟩
abbrev yBP:List Par:= [.pt tU .fz,.rd tL]
abbrev yB7:List OT:= [⟨false,tI,.fz⟩]
def ykd (a0:dU) (a1:List Int):Option (zaY yB7×zak yBP) :=bnd (yk a0 (a1.length:Int)) fun r1 =>bif(inb r1.1.1 a1.length)then some (((nth a1 r1.1.1 0),()),(r1.2.1,())) else none
theorem yWm:ConOk prog 80 ⟨yBP,yB7,fun x=>ykd x.1 x.2.1⟩:=zkI (ySm) func80 ntmps80.symm fun x=>by kernel_rfl
def yGo:Con:=⟨yBP,yB7,fun x=>ykd x.1 x.2.1⟩
theorem yY1:ConOk prog 80 yGo:=yWm
theorem y3C (u:List Int×Int×Int) (l:List Int) (h:yeH u) (hl:l≠ []): ∃(r:Int) (u':List Int×Int×Int),ykd u l=some ((r,()),(u',()))∧r∈l∧yeH u':=by
 unfold ykd;obtain⟨r1,u1,e1,q1,d1⟩:=yfo u (l.length:Int) h;have hp:0<l.length:=List.length_pos_iff.2 hl;have hr:=q1.2.1 (by omega);simp only[e1,zkH,zj6.2 ⟨q1.1,hr⟩,cond_true];refine⟨_,_,rfl,?_,d1⟩;have:r1.toNat<l.length:=by have:=q1.1; omega
 unfold nth;rw[List.getD_eq_getElem?_getD,List.getElem?_eq_getElem this,Option.getD_some];exact List.getElem_mem this
def yXO:Code:=(f120.body).getD .skip
def yYj:Env:=zkw TT [(80,yGo)] []
theorem yOC:FrOk prog ⟨yYj,6,fun _=>none⟩ yXO:=zkA mixed yc ⟨yY1,trivial⟩
abbrev yyR:List Par:= [.pt tU .fz]
abbrev yzl:List OT:= [⟨false,tI,.fz⟩]
def ybd (a0:dU):Option (zaY yzl×zak yyR) :=bnd (ykd a0 ([0,1,2,7,255,256,4660,65535]:List Int)) fun r1 =>some ((r1.1.1,()),(r1.2.1,()))
theorem yTB:ConOk prog 120 ⟨yyR,yzl,fun x=>ybd x.1⟩:=zkI (yOC) func120 ntmps120.symm fun x=>by kernel_rfl
def yEI:Con:=⟨yyR,yzl,fun x=>ybd x.1⟩
theorem yWD:ConOk prog 120 yEI:=yTB
theorem y26 (u:List Int×Int×Int) (h:yeH u): ∃(r:Int) (u':List Int×Int×Int),ybd u=some ((r,()),(u',()))∧yb r 0 65535=true∧yeH u':=by
 unfold ybd;obtain⟨r1,u1,e1,q1,d1⟩:=y3C u [0,1,2,7,255,256,4660,65535] h (by simp);simp only[e1,zkH];refine⟨_,_,rfl,?_,d1⟩;simp only[List.mem_cons,List.not_mem_nil,or_false]at q1;exact y4c (by omega) (by omega)
end
end Go.Tf
