/- Functions of the program, and what they come to. -/
import Derived.Test.YtolmneojjjpnjaaGreatBlocksF4
import Derived.Deep.RegionLaw
import Derived.Laws.Externs
import Derived.Laws.IdiomCopy
import Derived.Laws.NewBlocks
import Derived.Lib.AppendZerosOnto
import Derived.Lib.Overlaps
import Derived.Lib.SliceRun
import Derived.Lib.Walk
import Derived.Shelf.RegionOpenPlain
import Derived.Shelf.Spec.SlicesInsert
import Derived.WalkKit
namespace Go.Tf
noncomputable section
open Go.Proofs Go.Proofs.Tryz IntKind
set_option synthInstance.maxHeartbeats 400000
set_option synthInstance.maxSize 10000
set_option linter.unusedVariables false
set_option linter.unusedSimpArgs false
set_option maxRecDepth 100000
def yUx:Code:=(f212.body).getD .skip
def yU0:Env:=zkw TT [(81,yJ),(123,ygi),(125,ytV)] []
theorem yLN:FrOk prog ⟨yU0,44,fun _=>none⟩ yUx:=zkA mixed yc ⟨yY,yls,yGR,trivial⟩
abbrev yvS:List Par:= [.rd tS]
abbrev yv6:List OT:= [⟨false,tB,.fz⟩]
def yDD (a0:dS):Option (zaY yv6×zak yvS) :=let r1:=yf a0.1 1 60000;bif r1 then let r2:=yf a0.2.1 0 60000;bif r2 then let r3:=yf a0.2.2.2.2.2.1 0 60000;bif r3 then let r4:=ybw (a0.2.2.2.1,a0.2.2.2.2.1);bif r4 then let r5:=yf a0.2.2.1 0 (i64.wrap (a0.2.2.2.1-1));bif r5 then let r6:=yfu (a0.2.2.2.1,a0.2.2.2.2.1) a0.2.2.2.2.2.2.1 a0.2.2.2.2.2.2.2;some ((r6,()),()) else some ((false,()),()) else some ((false,()),()) else some ((false,()),()) else some ((false,()),()) else some ((false,()),())
theorem yP0:ConOk prog 212 ⟨yvS,yv6,fun x=>yDD x.1⟩:=zkI (yLN) func212 ntmps212.symm fun x=>by kernel_rfl
def ygl (a0:dS):Bool :=let r1:=yf a0.1 1 60000;bif r1 then let r2:=yf a0.2.1 0 60000;bif r2 then let r3:=yf a0.2.2.2.2.2.1 0 60000;bif r3 then let r4:=ybw (a0.2.2.2.1,a0.2.2.2.2.1);bif r4 then let r5:=yf a0.2.2.1 0 (i64.wrap (a0.2.2.2.1-1));bif r5 then let r6:=yfu (a0.2.2.2.1,a0.2.2.2.2.1) a0.2.2.2.2.2.2.1 a0.2.2.2.2.2.2.2;r6 else false else false else false else false else false
def yCt:Con:=⟨yvS,yv6,fun x=>(fun n=>some ((n,()),())) (ygl x.1)⟩
theorem ySS (a0:dS):yDD a0=(fun n=>some ((n,()),())) (ygl a0):=zkV (p:=fun(n:Bool)=>((n,()),())) (zkG (p:=fun(n:Bool)=>((n,()),())) (zkG (p:=fun(n:Bool)=>((n,()),())) (zkG (p:=fun(n:Bool)=>((n,()),())) (zkG (p:=fun(n:Bool)=>((n,()),())) (zkG (p:=fun(n:Bool)=>((n,()),())) rfl rfl) rfl) rfl) rfl) rfl)
theorem yTS:ConOk prog 212 yCt:=(yP0).mono (fun x r _ h=>(ySS x.1).trans h)
theorem yYs (s:dS):ygl s=yaD s:=by
 rw[Bool.eq_iff_iff,y0J];unfold ygl yfu;simp only[yJW,yas];cases hg:ye (s.2.2.2.1,s.2.2.2.2.1)
 ·cases yb s.1 1 60000<;>cases yb s.2.1 0 60000<;>cases yb s.2.2.2.2.2.1 0 60000<;>simp
 have hg2:=yj.1 hg;simp only at hg2;rw[wq (s.2.2.2.1-1) (by omega) (by omega)];simp only[← yud];cases yb s.1 1 60000
 ·simp
 cases yb s.2.1 0 60000
 ·simp
 cases yb s.2.2.2.2.2.1 0 60000
 ·simp
 cases yb s.2.2.1 0 (s.2.2.2.1-1)
 ·simp
 cases hl:yb s.2.2.2.2.2.2.1 (-1) (s.2.2.2.1-1)
 ·simp
 cases yb s.2.2.2.2.2.2.2 0 s.2.2.2.2.1
 ·simp
 have:=yud.1 hl;by_cases h0:s.2.2.2.2.2.2.2=0
 ·simp[h0]
 ·simp[h0]; omega
def yQW:Code:=(f172.body).getD .skip
def yRk:Env:=zkw TT [(212,yCt)] []
theorem yJw:FrOk prog ⟨yRk,24,fun _=>none⟩ yQW:=zkA mixed yc ⟨yTS,trivial⟩
abbrev ys2:List Par:= [.rd tS]
abbrev ytm:List OT:= [⟨false,tL,(.ow .fz)⟩]
def yAR (a0:dS):Option (zaY ytm×zak ys2) :=let r1:=ygl a0;bif(!r1)then some (([],()),()) else some ((([21317,a0.1,a0.2.1,a0.2.2.1,a0.2.2.2.1,a0.2.2.2.2.1,a0.2.2.2.2.2.1,(i64.wrap (a0.2.2.2.2.2.2.1+1)),a0.2.2.2.2.2.2.2]:List Int),()),())
theorem yMR:ConOk prog 172 ⟨ys2,ytm,fun x=>yAR x.1⟩:=zkI (yJw) func172 ntmps172.symm fun x=>by kernel_rfl
def yiw (a0:dS):(List Int) :=let r1:=ygl a0;bif(!r1)then [] else ([21317,a0.1,a0.2.1,a0.2.2.1,a0.2.2.2.1,a0.2.2.2.2.1,a0.2.2.2.2.2.1,(i64.wrap (a0.2.2.2.2.2.2.1+1)),a0.2.2.2.2.2.2.2]:List Int)
def yAh:Con:=⟨ys2,ytm,fun x=>(fun n=>some ((n,()),())) (yiw x.1)⟩
theorem yPF (a0:dS):yAR a0=(fun n=>some ((n,()),())) (yiw a0):=zkV (p:=fun(n:(List Int))=>((n,()),())) (zkG (p:=fun(n:(List Int))=>((n,()),())) rfl rfl)
theorem yQt:ConOk prog 172 yAh:=(yMR).mono (fun x r _ h=>(yPF x.1).trans h)
theorem y0w (s:dS):yiw s=yD s:=by
 unfold yiw yD;rw[yYs]
def yUB:Code:=(f173.body).getD .skip
def yU4:Env:=zkw TT [] []
theorem yLY:FrOk prog ⟨yU4,23,fun _=>none⟩ yUB:=zkA mixed yc trivial
abbrev yvV:List Par:= [.rd tA,.rd tI]
abbrev ywc:List OT:= [⟨false,tS,(.pr .fz (.pr .fz (.pr .fz (.pr .fz (.pr .fz (.pr .fz (.pr .fz .fz)))))))⟩]
def yDG (a0:dA) (a1:Int):Option (zaY ywc×zak yvV) :=some (((a0.1,a0.2.2.2.2.2.2.2.1,a1,a0.2.1.1,a0.2.1.2,a0.2.2.2.2.2.2.1,a0.2.2.2.1,a0.2.2.2.2.1),()),())
theorem yP7:ConOk prog 173 ⟨yvV,ywc,fun x=>yDG x.1 x.2.1⟩:=zkI (yLY) func173 ntmps173.symm fun x=>by kernel_rfl
def yoG (a0:dA) (a1:Int):dS :=(a0.1,a0.2.2.2.2.2.2.2.1,a1,a0.2.1.1,a0.2.1.2,a0.2.2.2.2.2.2.1,a0.2.2.2.1,a0.2.2.2.2.1)
def yCx:Con:=⟨yvV,ywc,fun x=>(fun n=>some ((n,()),())) (yoG x.1 x.2.1)⟩
theorem ySZ (a0:dA) (a1:Int):yDG a0 a1=(fun n=>some ((n,()),())) (yoG a0 a1):=zkV (p:=fun(n:dS)=>((n,()),())) rfl
theorem yTW:ConOk prog 173 yCx:=(yP7).mono (fun x r _ h=>(ySZ x.1 x.2.1).trans h)
def yl7:Code:=(f107.body).getD .skip
def ysz:Env:=zkw TT [(139,yiq),(165,yjd),(172,yAh),(173,yCx)] []
theorem yJk:FrOk prog ⟨ysz,37,fun _=>none⟩ yl7:=zkA mixed yc ⟨yps,yrn,yQt,yTW,trivial⟩
def yzN:Nat→Option Seg:=fun _=>none
def ybm:Shape:=⟨[(0,false,[.ptr 1000000000 0]),(15,false,[.int .i64]),(16,false,[.int .i64])],[(1000000000,[.int .i64,.int .i64,.int .i64,.at 800000000,.int .i64,.int .i64,.int .i64,.int .i64,.int .i64,.at 800000001,.int .i64,.bool,.bool])],[(800000000,tM,(.pr (.ow (.ow .fz)) (.pr (.ow (.pr .fz (.ow .fz))) (.pr .fz (.ow .fz))))),(800000001,tW,(.pr .fz (.ow .fz)))]⟩
def yeQ:Shape:=⟨[(0,false,[.ptr 1000000000 0]),(15,false,[.int .i64]),(16,false,[.ci .i64 0])],[(1000000000,[.int .i64,.int .i64,.int .i64,.at 800000000,.int .i64,.int .i64,.int .i64,.int .i64,.int .i64,.at 800000001,.int .i64,.bool,.bool])],[(800000000,tM,(.pr (.ow (.ow .fz)) (.pr (.ow (.pr .fz (.ow .fz))) (.pr .fz (.ow .fz))))),(800000001,tW,(.pr .fz (.ow .fz)))]⟩
def yeI:Shape:=⟨[(0,false,[.ptr 1000000000 0])],[(1000000000,[.int .i64,.int .i64,.int .i64,.at 800000000,.int .i64,.int .i64,.int .i64,.int .i64,.int .i64,.at 800000001,.int .i64,.bool,.bool])],[(800000000,tM,(.pr (.ow (.ow .fz)) (.pr (.ow (.pr .fz (.ow .fz))) (.pr .fz (.ow .fz))))),(800000001,tW,(.pr .fz (.ow .fz)))]⟩
def yeY:Shape:=⟨[(2,false,[.bool])],[(1000000000,[.int .i64,.int .i64,.int .i64,.at 800000000,.int .i64,.int .i64,.int .i64,.int .i64,.int .i64,.at 800000001,.int .i64,.bool,.bool])],[(800000000,tM,(.pr (.ow (.ow .fz)) (.pr (.ow (.pr .fz (.ow .fz))) (.pr .fz (.ow .fz))))),(800000001,tW,(.pr .fz (.ow .fz)))]⟩
abbrev ylL (v0 v1:Int) (v2:dA):(ybm).X:=((((),()),(v0,()),(v1,()),()),((v2.1,v2.2.1.1,v2.2.1.2,(),v2.2.2.2.1,v2.2.2.2.2.1,v2.2.2.2.2.2.1,v2.2.2.2.2.2.2.1,v2.2.2.2.2.2.2.2.1,(),v2.2.2.2.2.2.2.2.2.2.1,v2.2.2.2.2.2.2.2.2.2.2.1,v2.2.2.2.2.2.2.2.2.2.2.2,()),()),(v2.2.2.1,v2.2.2.2.2.2.2.2.2.1,()))
abbrev yIq (v0:Int) (v1:dA):(yeQ).X:=((((),()),(v0,()),((),()),()),((v1.1,v1.2.1.1,v1.2.1.2,(),v1.2.2.2.1,v1.2.2.2.2.1,v1.2.2.2.2.2.1,v1.2.2.2.2.2.2.1,v1.2.2.2.2.2.2.2.1,(),v1.2.2.2.2.2.2.2.2.2.1,v1.2.2.2.2.2.2.2.2.2.2.1,v1.2.2.2.2.2.2.2.2.2.2.2,()),()),(v1.2.2.1,v1.2.2.2.2.2.2.2.2.1,()))
abbrev ylS (v0:dA):(yeI).X:=((((),()),()),((v0.1,v0.2.1.1,v0.2.1.2,(),v0.2.2.2.1,v0.2.2.2.2.1,v0.2.2.2.2.2.1,v0.2.2.2.2.2.2.1,v0.2.2.2.2.2.2.2.1,(),v0.2.2.2.2.2.2.2.2.2.1,v0.2.2.2.2.2.2.2.2.2.2.1,v0.2.2.2.2.2.2.2.2.2.2.2,()),()),(v0.2.2.1,v0.2.2.2.2.2.2.2.2.1,()))
abbrev ylU (v0:Bool) (v1:dA):(yeY).X:=(((v0,()),()),((v1.1,v1.2.1.1,v1.2.1.2,(),v1.2.2.2.1,v1.2.2.2.2.1,v1.2.2.2.2.2.1,v1.2.2.2.2.2.2.1,v1.2.2.2.2.2.2.2.1,(),v1.2.2.2.2.2.2.2.2.2.1,v1.2.2.2.2.2.2.2.2.2.2.1,v1.2.2.2.2.2.2.2.2.2.2.2,()),()),(v1.2.2.1,v1.2.2.2.2.2.2.2.2.1,()))
def ylY (v0 v1 v2 v3 v4 v5 v6 v7 v8 v9 v10:Int) (v11 v12:Bool) (v13:List dM) (v14:List dW):Option ((ybm).X ⊕ ((yeI).X ⊕ (yeY).X)) :=bif(ltb v1 v0)then let r4:=yoG (v2,(v3,v4),v13,v5,v6,v7,v8,v9,v14,v10,v11,v12) v1;let r5:=yiw r4;bnd (yex (v2,(v3,v4),v13,v5,v6,v7,v8,v9,v14,v10,v11,v12) v1 (v9.tmod 2) r5) fun r6 =>bif(!r6.1.1)then some (.inr (.inr (((false,()),()),((r6.2.1.1,r6.2.1.2.1.1,r6.2.1.2.1.2,(),r6.2.1.2.2.2.1,r6.2.1.2.2.2.2.1,r6.2.1.2.2.2.2.2.1,r6.2.1.2.2.2.2.2.2.1,r6.2.1.2.2.2.2.2.2.2.1,(),r6.2.1.2.2.2.2.2.2.2.2.2.1,r6.2.1.2.2.2.2.2.2.2.2.2.2.1,r6.2.1.2.2.2.2.2.2.2.2.2.2.2,()),()),(r6.2.1.2.2.1,r6.2.1.2.2.2.2.2.2.2.2.1,())))) else some (.inl ((((),()),(v0,()),((i64.wrap (v1+1)),()),()),((r6.2.1.1,r6.2.1.2.1.1,r6.2.1.2.1.2,(),r6.2.1.2.2.2.1,r6.2.1.2.2.2.2.1,r6.2.1.2.2.2.2.2.1,r6.2.1.2.2.2.2.2.2.1,r6.2.1.2.2.2.2.2.2.2.1,(),r6.2.1.2.2.2.2.2.2.2.2.2.1,r6.2.1.2.2.2.2.2.2.2.2.2.2.1,r6.2.1.2.2.2.2.2.2.2.2.2.2.2,()),()),(r6.2.1.2.2.1,r6.2.1.2.2.2.2.2.2.2.2.1,()))) else some (.inr (.inl ((((),()),()),((v2,v3,v4,(),v5,v6,v7,v8,v9,(),v10,v11,v12,()),()),(v13,v14,()))))
def ybF (x:(ybm).X):=ylY x.1.2.1.1 x.1.2.2.1.1 x.2.1.1.1 x.2.1.1.2.1 x.2.1.1.2.2.1 x.2.1.1.2.2.2.2.1 x.2.1.1.2.2.2.2.2.1 x.2.1.1.2.2.2.2.2.2.1 x.2.1.1.2.2.2.2.2.2.2.1 x.2.1.1.2.2.2.2.2.2.2.2.1 x.2.1.1.2.2.2.2.2.2.2.2.2.2.1 x.2.1.1.2.2.2.2.2.2.2.2.2.2.2.1 x.2.1.1.2.2.2.2.2.2.2.2.2.2.2.2.1 x.2.2.1 x.2.2.2.1
def yu3 (x:(yeQ).X):(ybm).X:=((((),()),(x.1.2.1.1,()),(0,()),()),((x.2.1.1.1,x.2.1.1.2.1,x.2.1.1.2.2.1,(),x.2.1.1.2.2.2.2.1,x.2.1.1.2.2.2.2.2.1,x.2.1.1.2.2.2.2.2.2.1,x.2.1.1.2.2.2.2.2.2.2.1,x.2.1.1.2.2.2.2.2.2.2.2.1,(),x.2.1.1.2.2.2.2.2.2.2.2.2.2.1,x.2.1.1.2.2.2.2.2.2.2.2.2.2.2.1,x.2.1.1.2.2.2.2.2.2.2.2.2.2.2.2.1,()),()),(x.2.2.1,x.2.2.2.1,()))
def yxf:Code:=(zd7 yl7 64 116).getD .skip
theorem yI4:zd7 yl7 64 29=some (.block 0 (.loop yxf)):=by kernel_rfl
theorem yKE (x:(ybm).X):zhu ⟨ysz,37,yzN⟩ 0 yxf 116 ybm yeI yeY x=ybF x:=by kernel_rfl
def yvc (x:(yeQ).X):Nat:=18446744073709551616
def ym9 (x:(yeQ).X):Option ((yeI).X ⊕ (yeY).X):=zF ybF (yvc x) (yu3 x)
def yvt:Seg:=⟨yeQ,yeI,yeY,ym9⟩
def yLd:Nat→Option Seg:=fun q=>bif Nat.beq q 29 then some yvt else yzN q
theorem yJl:FrOk prog ⟨ysz,37,yLd⟩ yl7:=(yJk).loop (sg:=yvt) ybm yu3 (by decide) yI4 ybF yvc (by decide) (fun _=>rfl) (fun x r _ h=>h) yKE
abbrev yhz:List Par:= [.pt tA (.pr .fz (.pr (.pr .fz .fz) (.pr (.ow (.pr (.ow (.ow .fz)) (.pr (.ow (.pr .fz (.ow .fz))) (.pr .fz (.ow .fz))))) (.pr .fz (.pr .fz (.pr .fz (.pr .fz (.pr .fz (.pr (.ow (.pr .fz (.ow .fz))) (.pr .fz (.pr .fz .fz)))))))))))]
abbrev ymD:List OT:= [⟨false,tB,.fz⟩]
def ypv (a0:dA):Option (zaY ymD×zak yhz) :=zkt (ym9 ((((),()),((a0.2.2.1.length:Int),()),((),()),()),((a0.1,a0.2.1.1,a0.2.1.2,(),a0.2.2.2.1,a0.2.2.2.2.1,a0.2.2.2.2.2.1,a0.2.2.2.2.2.2.1,(i64.wrap (a0.2.2.2.2.2.2.2.1+1)),(),a0.2.2.2.2.2.2.2.2.2.1,a0.2.2.2.2.2.2.2.2.2.2.1,a0.2.2.2.2.2.2.2.2.2.2.2,()),()),(a0.2.2.1,a0.2.2.2.2.2.2.2.2.1,()))) (fun y6 =>bnd (yfj (y6.2.1.1.1,(y6.2.1.1.2.1,y6.2.1.1.2.2.1),y6.2.2.1,y6.2.1.1.2.2.2.2.1,y6.2.1.1.2.2.2.2.2.1,y6.2.1.1.2.2.2.2.2.2.1,y6.2.1.1.2.2.2.2.2.2.2.1,y6.2.1.1.2.2.2.2.2.2.2.2.1,y6.2.2.2.1,y6.2.1.1.2.2.2.2.2.2.2.2.2.2.1,y6.2.1.1.2.2.2.2.2.2.2.2.2.2.2.1,y6.2.1.1.2.2.2.2.2.2.2.2.2.2.2.2.1)) fun r8 =>some ((r8.1.1,()),(r8.2.1,()))) (fun y6 =>some ((y6.1.1.1,()),((y6.2.1.1.1,(y6.2.1.1.2.1,y6.2.1.1.2.2.1),y6.2.2.1,y6.2.1.1.2.2.2.2.1,y6.2.1.1.2.2.2.2.2.1,y6.2.1.1.2.2.2.2.2.2.1,y6.2.1.1.2.2.2.2.2.2.2.1,y6.2.1.1.2.2.2.2.2.2.2.2.1,y6.2.2.2.1,y6.2.1.1.2.2.2.2.2.2.2.2.2.2.1,y6.2.1.1.2.2.2.2.2.2.2.2.2.2.2.1,y6.2.1.1.2.2.2.2.2.2.2.2.2.2.2.2.1),())))
theorem yMK:ConOk prog 107 ⟨yhz,ymD,fun x=>ypv x.1⟩:=zkI (yJl) func107 ntmps107.symm fun x=>by kernel_rfl
def ymX (a0:dA):Bool×dA:=(!(ya (yak a0)),yak a0)
def yiH (a0:dA):Bool:= !(ya a0)
theorem yZ0 {a:dA} (i:Nat) (h:ya a=true):yaf a i=a:=ywE h _ _ _
theorem yPy (a0:dA) (hk:zjx yhz (a0,())) (hq:yiH a0=true):ypv a0=(fun n=>some ((n.1,()),(n.2,()))) (ymX a0):=by
 have hb:a0.2.2.1.length*80≤2^47:=hk.1.2.2.1.1;have hd0:ya a0=false:=by simpa [yiH]using hq
 have h1:ym9 (yIq a0.2.2.1.length (yay a0))=some (bif ya ((List.range a0.2.2.1.length).foldl yaf (yay a0))then .inr (ylU false ((List.range a0.2.2.1.length).foldl yaf (yay a0)))else .inl (ylS ((List.range a0.2.2.1.length).foldl yaf (yay a0)))):=by
  have:=zkC (step:=ybF) a0.2.2.1.length (fun i s=>ylL a0.2.2.1.length i s) (fun i s=>bif ya (yaf s i)then(.inr (yaf s i):dA ⊕ dA)else .inl (yaf s i)) (fun _ s=>s.2.2.1.length=a0.2.2.1.length∧ya s=false) id
   (fun b=>bif ya b then .inr (ylU false b)else .inl (ylS b)) (fun i s hi hs=>by
    constructor
    ·simp only[ybF,ylL,ylY,zky (show(i:Int)<a0.2.2.1.length by omega),cond_true,wq ((i:Int)+1) (by omega) (by omega),Int.natCast_add,Int.natCast_one,Int.toNat_natCast,zkX,y0w,yoG]
     rw[ypt s i (s.2.2.2.2.2.2.2.1.tmod 2) (yD (s.1,s.2.2.2.2.2.2.2.1,(i:Int),s.2.1.1,s.2.1.2,s.2.2.2.2.2.2.1,s.2.2.2.1,s.2.2.2.2.1)) (by unfold ycS; rw[zkR (by rw[hs.1]; exact hi),hs.2]; rfl)];simp only[zkH,ycO];rw[show ycR s i (s.2.2.2.2.2.2.2.1.tmod 2) (yD (s.1,s.2.2.2.2.2.2.2.1,(i:Int),s.2.1.1,s.2.1.2,s.2.2.2.2.2.2.1,s.2.2.2.1,s.2.2.2.2.1))=yaf s i from rfl];cases hd:ya (yaf s i)
     ·rfl
     ·simp only[hd,Bool.not_true,Bool.not_false,cond_true,ylU]
    ·intro s' h
     cases hd:ya (yaf s i)
     ·rw[hd]at h
      cases h;exact⟨(yNy s i).trans hs.1,hd⟩
     ·rw[hd]at h; cases h) (fun s hs=>by simp only[ybF,ylL,ylY,hs.2,zk3 (Int.le_refl _),cond_false,id,ylS]) (yay a0) ⟨rfl,hd0⟩ 18446744073709551616 (by omega)
  rw[yDf (fun a i h=>yZ0 i h),← List.range_eq_range']at this;exact this
 unfold ypv ymX yak;refine(congrArg (fun z=>zkt z _ _) h1).trans ?_;cases hd:ya ((List.range a0.2.2.1.length).foldl yaf (yay a0))
 ·simp only[cond_false,zkN,zkX]
  rw[yrq _ (by unfold yfk; rw[hd]; rfl)]; rfl
 ·rw[yFC hd]
  simp only[cond_true,zkO,zkX];rw[hd]; rfl
def yiD (a0:dA):Option (zaY ymD×zak yhz):=bif yiH a0 then(fun n=>some ((n.1,()),(n.2,()))) (ymX a0)else none
theorem yQE (a0:dA) (h:yiH a0=true):yiD a0=(fun n=>some ((n.1,()),(n.2,()))) (ymX a0):=by unfold yiD; rw[h]; rfl
def yAd:Con:=⟨yhz,ymD,fun x=>yiD x.1⟩
theorem yQp:ConOk prog 107 yAd:=(yMK).mono (fun x r hk h=>zkY h (fun hq=>yPy x.1 hk hq))
def yNF:Code:=(f99.body).getD .skip
def yNU:Env:=zkw TT [(107,yAd),(165,yjd)] []
theorem yIe:FrOk prog ⟨yNU,15,fun _=>none⟩ yNF:=zkA mixed yc ⟨yQp,yrn,trivial⟩
abbrev ygs:List Par:= [.pt tA (.pr .fz (.pr (.pr .fz .fz) (.pr (.ow (.pr (.ow (.ow .fz)) (.pr (.ow (.pr .fz (.ow .fz))) (.pr .fz (.ow .fz))))) (.pr .fz (.pr .fz (.pr .fz (.pr .fz (.pr .fz (.pr (.ow (.pr .fz (.ow .fz))) (.pr .fz (.pr .fz .fz)))))))))))]
abbrev ykw:List OT:= [⟨false,tB,.fz⟩]
def ynQ (a0:dA):Option (zaY ykw×zak ygs) :=bnd (yfj a0) fun r1 =>bif(!r1.1.1)then some ((false,()),(r1.2.1,())) else bnd (yiD (r1.2.1.1,r1.2.1.2.1,r1.2.1.2.2.1,r1.2.1.2.2.2.1,r1.2.1.2.2.2.2.1,r1.2.1.2.2.2.2.2.1,r1.2.1.2.2.2.2.2.1,r1.2.1.2.2.2.2.2.2.2)) fun r2 =>some ((r2.1.1,()),(r2.2.1,()))
theorem yKp:ConOk prog 99 ⟨ygs,ykw,fun x=>ynQ x.1⟩:=zkI (yIe) func99 ntmps99.symm fun x=>by kernel_rfl
def ygY (a0:dA):Bool×dA:=(!(ya (yW a0)),yW a0)
def ykT (a0:dA):Bool:= !(ya a0)
theorem yME (a0:dA) (hk:zjx ygs (a0,())) (hq:ykT a0=true):ynQ a0=(fun n=>some ((n.1,()),(n.2,()))) (ygY a0):=by
 unfold ynQ ygY yW;rw[yrq a0 hq];simp only[zkH,yit];cases hd:ya (yx a0)
 ·have hm:yiD (ybe (yx a0))=some ((!(ya (yak (ybe (yx a0)))),()),(yak (ybe (yx a0)),())):=yQE (ybe (yx a0)) (by unfold yiH; rw[show ya (ybe (yx a0))=ya (yx a0)from rfl,hd]; rfl)
  exact(congrArg (fun z=>bnd z _) hm).trans rfl
 ·simp only[Bool.not_true,Bool.not_false,cond_true]
  rw[hd]; rfl
def ykS (a0:dA):Option (zaY ykw×zak ygs):=bif ykT a0 then(fun n=>some ((n.1,()),(n.2,()))) (ygY a0)else none
theorem yNe (a0:dA) (h:ykT a0=true):ykS a0=(fun n=>some ((n.1,()),(n.2,()))) (ygY a0):=by unfold ykS; rw[h]; rfl
def yxp:Con:=⟨ygs,ykw,fun x=>ykS x.1⟩
theorem yNa:ConOk prog 99 yxp:=(yKp).mono (fun x r hk h=>zkY h (fun hq=>yME x.1 hk hq))
def yK9:Code:=(f130.body).getD .skip
def yLp:Env:=zkw TT [(97,yuZ),(98,yxq),(99,yxp),(158,yaY)] []
theorem yHn:FrOk prog ⟨yLp,44,fun _=>none⟩ yK9:=zkA mixed yc ⟨yKw,yNb,yNa,ycQ,trivial⟩
abbrev ydK:List Par:= [.pt tA (.pr .fz (.pr (.pr .fz .fz) (.pr (.ow (.pr (.ow (.ow .fz)) (.pr (.ow (.pr .fz (.ow .fz))) (.pr .fz (.ow .fz))))) (.pr .fz (.pr .fz (.pr .fz (.pr .fz (.pr .fz (.pr (.ow (.pr .fz (.ow .fz))) (.pr .fz (.pr .fz .fz))))))))))),.rd tI,.rd tL]
abbrev yfX:List OT:= [⟨false,tB,.fz⟩]
def ylX (a0:dA) (a1:Int) (a2:List Int):Option (zaY yfX×zak ydK) :=bif(leb 4 (i64.wrap (a0.2.2.2.2.2.1-a0.2.2.2.2.2.2.1)))then bnd (ykS a0) fun r1 =>bif(!r1.1.1)then some ((false,()),(r1.2.1,())) else let r2:=yr a2;bnd (ydO r1.2.1 (r1.2.1.2.2.2.2.2.1,a1,r2)) fun r3 =>bif(!r3.1.1)then some ((false,()),(r3.2.1,())) else bnd (ycP (r3.2.1.1,r3.2.1.2.1,r3.2.1.2.2.1,r3.2.1.2.2.2.1,r3.2.1.2.2.2.2.1,(i64.wrap (r3.2.1.2.2.2.2.2.1+1)),r3.2.1.2.2.2.2.2.2) a1 a2) fun r4 =>some ((r4.1.1,()),(r4.2.1,())) else let r5:=yr a2;bnd (ydO a0 (a0.2.2.2.2.2.1,a1,r5)) fun r6 =>bif(!r6.1.1)then some ((false,()),(r6.2.1,())) else bnd (ycP (r6.2.1.1,r6.2.1.2.1,r6.2.1.2.2.1,r6.2.1.2.2.2.1,r6.2.1.2.2.2.2.1,(i64.wrap (r6.2.1.2.2.2.2.2.1+1)),r6.2.1.2.2.2.2.2.2) a1 a2) fun r7 =>some ((r7.1.1,()),(r7.2.1,()))
theorem yIF:ConOk prog 130 ⟨ydK,yfX,fun x=>ylX x.1 x.2.1 x.2.2.1⟩:=zkI (yHn) func130 ntmps130.symm fun x=>by kernel_rfl
def yf4 (a0:dA) (a1:Int) (a2:List Int):Bool×dA:=(!(ya (yE a0 a1 a2).2),(yE a0 a1 a2).2)
def yf6 (a0:dA) (a1:Int) (a2:List Int):Bool:= !(ya a0)&&(yG a0.2.1 a1&&((a2.length:Int)==a0.2.1.1-1&&(a0.2.2.1.length:Int)==a0.2.1.1))
theorem yKl (a0:dA) (a1:Int) (a2:List Int) (hk:zjx ydK (a0,a1,a2,())) (hq:yf6 a0 a1 a2=true):ylX a0 a1 a2=(fun n=>some ((n.1,()),(n.2,()))) (yf4 a0 a1 a2):=by
 simp only[yf6,Bool.and_eq_true,beq_iff_eq,Bool.not_eq_true']at hq;obtain⟨hd0,hs0,hl0,hm0⟩:=hq
 have key: ∀b:dA,b.2.1=a0.2.1→b.2.2.1.length=a0.2.2.1.length→ya (yQ b (b.2.2.2.2.2.1,a1,a2))=false→ycP (yaa (yQ b (b.2.2.2.2.2.1,a1,a2))) a1 a2=some ((!(ya (yH (yaa (yQ b (b.2.2.2.2.2.1,a1,a2))) a1 a2)),()),(yH (yaa (yQ b (b.2.2.2.2.2.1,a1,a2))) a1 a2,())):=fun b h1 h2 h3=>yNf _ _ _ (by
  unfold yg4;rw[show ya (yaa (yQ b (b.2.2.2.2.2.1,a1,a2)))=ya (yQ b (b.2.2.2.2.2.1,a1,a2))from rfl,h3,show(yaa (yQ b (b.2.2.2.2.2.1,a1,a2))).2.1=a0.2.1 from(yaQ (ybA _ _)).trans h1,show(yaa (yQ b (b.2.2.2.2.2.1,a1,a2))).2.2.1.length=a0.2.2.1.length from(y0Z _ _).trans h2,hs0,hl0,hm0]
  simp)
 have fin: ∀b:dA,b.2.1=a0.2.1→b.2.2.1.length=a0.2.2.1.length→ya b=false →
   (bnd (ydO b (b.2.2.2.2.2.1,a1,a2)) fun r3=>bif !r3.1.1 then some ((false,()),(r3.2.1,()))else bnd (ycP (yaa r3.2.1) a1 a2) fun r4=>(some ((r4.1.1,()),(r4.2.1,())):Option (zaY yfX×zak ydK))) =
   some ((!(ya (bif ya (yQ b (b.2.2.2.2.2.1,a1,a2))then(6,yQ b (b.2.2.2.2.2.1,a1,a2))else(bif ya (yH (yaa (yQ b (b.2.2.2.2.2.1,a1,a2))) a1 a2)then 6 else 0,yH (yaa (yQ b (b.2.2.2.2.2.1,a1,a2))) a1 a2):Int×dA).2),()),((bif ya (yQ b (b.2.2.2.2.2.1,a1,a2))then(6,yQ b (b.2.2.2.2.2.1,a1,a2))else(bif ya (yH (yaa (yQ b (b.2.2.2.2.2.1,a1,a2))) a1 a2)then 6 else 0,yH (yaa (yQ b (b.2.2.2.2.2.1,a1,a2))) a1 a2):Int×dA).2,())):=fun b h1 h2 h3=>by
  rw[yKC b _ (by unfold yf5; rw[h3]; rfl)];have hk:=key b h1 h2;simp only[zkH,yf3];generalize yQ b (b.2.2.2.2.2.1,a1,a2)=R at hk ⊢;rcases Bool.eq_false_or_eq_true (ya R)with hr | hr
  ·simp only[hr,Bool.not_true,Bool.not_false,cond_true]
  ·rw[hk hr]
   simp only[hr,Bool.not_false,Bool.not_true,cond_false,zkH]
 unfold ylX yf4 yE yq;simp only[yr];cases h4:leb 4 (i64.wrap (a0.2.2.2.2.2.1-a0.2.2.2.2.2.2.1))
 ·simp only[cond_false]
  have:=fin a0 rfl rfl hd0;unfold yaa at this ⊢;rw[this];rw[show ya a0=false from hd0]; rfl
 ·simp only[cond_true]
  rw[yNe a0 (by unfold ykT; rw[hd0]; rfl)];simp only[zkH,ygY];rcases Bool.eq_false_or_eq_true (ya (yW a0))with hc | hc
  ·simp only[hc,Bool.not_true,Bool.not_false,cond_true]
  ·have:=fin (yW a0) (yJe a0) (yWZ a0) hc
   simp only[hc,Bool.not_false,Bool.not_true,cond_false];unfold yaa at this ⊢;exact this
def yjk (a0:dA) (a1:Int) (a2:List Int):Option (zaY yfX×zak ydK):=bif yf6 a0 a1 a2 then(fun n=>some ((n.1,()),(n.2,()))) (yf4 a0 a1 a2)else none
theorem yKD (a0:dA) (a1:Int) (a2:List Int) (h:yf6 a0 a1 a2=true):yjk a0 a1 a2=(fun n=>some ((n.1,()),(n.2,()))) (yf4 a0 a1 a2):=by unfold yjk; rw[h]; rfl
def yu0:Con:=⟨ydK,yfX,fun x=>yjk x.1 x.2.1 x.2.2.1⟩
theorem yKx:ConOk prog 130 yu0:=(yIF).mono (fun x r hk h=>zkY h (fun hq=>yKl x.1 x.2.1 x.2.2.1 hk hq))
def yXB:Code:=(f131.body).getD .skip
def yX6:Env:=zkw TT [] []
theorem yOk:FrOk prog ⟨yX6,4,fun _=>none⟩ yXB:=zkA mixed yc trivial
abbrev yyI:List Par:= [.rd tB]
abbrev yy7:List OT:= [⟨false,tI,.fz⟩]
def yFl (a0:Bool):Option (zaY yy7×zak yyI) :=bif a0 then some ((0,()),()) else some ((6,()),())
theorem yTm:ConOk prog 131 ⟨yyI,yy7,fun x=>yFl x.1⟩:=zkI (yOk) func131 ntmps131.symm fun x=>by kernel_rfl
def yqA (a0:Bool):Int :=bif a0 then 0 else 6
def yEC:Con:=⟨yyI,yy7,fun x=>(fun n=>some ((n,()),())) (yqA x.1)⟩
theorem yVG (a0:Bool):yFl a0=(fun n=>some ((n,()),())) (yqA a0):=zkV (p:=fun(n:Int)=>((n,()),())) (zkG (p:=fun(n:Int)=>((n,()),())) rfl rfl)
theorem yWx:ConOk prog 131 yEC:=(yTm).mono (fun x r _ h=>(yVG x.1).trans h)
def yIV:Code:=(f58.body).getD .skip
def yI1:Env:=zkw TT [(55,ygh),(95,ygS),(109,ybv),(129,ytT),(130,yu0),(131,yEC)] []
theorem yGx:FrOk prog ⟨yI1,55,fun _=>none⟩ yIV:=zkA mixed yc ⟨ylr,ym2,ydP,yGP,yKx,yWx,trivial⟩
abbrev yhD:List Par:= [.rd tA,.rd tI,.rd tL]
abbrev yno:List OT:= [⟨false,tA,(.pr .fz (.pr (.pr .fz .fz) (.pr (.ow (.pr (.ow (.ow .fz)) (.pr (.ow (.pr .fz (.ow .fz))) (.pr .fz (.ow .fz))))) (.pr .fz (.pr .fz (.pr .fz (.pr .fz (.pr .fz (.pr (.ow (.pr .fz (.ow .fz))) (.pr .fz (.pr .fz .fz)))))))))))⟩,⟨false,tI,.fz⟩]
def ykW (a0:dA) (a1:Int) (a2:List Int):Option (zaY yno×zak yhD) :=let r1:=yL a0;let r2:=yat a0;bif(!(!r2))then let r3:=yd6 a0.2.1 a2;bif(!r3)then some ((r1,1,()),()) else bif a0.2.2.2.2.2.2.2.2.2.2.1 then some ((r1,6,()),()) else let r4:=yaj a0.2.1 a1;bif(!r4)then some ((r1,2,()),()) else bif a0.2.2.2.2.2.2.2.2.2.2.2 then some ((r1,5,()),()) else bif(!(a0.2.2.2.2.2.1==60000))then bif(leb 59990 a0.2.2.2.2.2.2.2.1)then some ((r1,7,()),()) else bnd (yjk r1 a1 a2) fun r5 =>let r6:=yqA r5.1.1;some ((r5.2.1,r6,()),()) else some ((r1,7,()),()) else some ((r1,1,()),())
theorem yHH:ConOk prog 58 ⟨yhD,yno,fun x=>ykW x.1 x.2.1 x.2.2.1⟩:=zkI (yGx) func58 ntmps58.symm fun x=>by kernel_rfl
def ye5 (a0:dA) (a1:Int) (a2:List Int):dA×Int:=yQS a0 a1 a2
theorem yIB (a0:dA) (a1:Int) (a2:List Int) (hk:zjx yhD (a0,a1,a2,())):ykW a0 a1 a2=(fun n=>some ((n.1,n.2,()),())) (ye5 a0 a1 a2):=by
 have hz:=fun h=>yxo (a:=a0) (s:=a1) (d:=a2) h
 unfold ykW ye5 yQS;unfold yw at hz ⊢;simp only[yL,yat,ycy,yfv,yb6]at hz ⊢;cases ha:yO a0
 ·rfl
 have hg:=yj.1 (yb3 ha);have hc:=(yKW.1 ha).1;unfold yaH at hc
 have hdo:yd6 a0.2.1 a2=((a2.length:Int)==a0.2.1.1-1&&a2.all isW):=by
  unfold yd6;rw[yuc,wq (a0.2.1.1-1) (by omega) (by omega)];cases((a2.length:Int)==a0.2.1.1-1)<;>rfl
 rw[hdo,yp3,show yG a0.2.1 a1=(leb 0 a1&&leb a1 (a0.2.1.2-1))by unfold yG; rw[yb3 ha]; rfl];rw[ha,wq (a0.2.1.1-1) (by omega) (by omega),wq (a0.2.1.2-1) (by omega) (by omega)]at hz;rw[wq (a0.2.1.1-1) (by omega) (by omega),wq (a0.2.1.2-1) (by omega) (by omega)];rw[show(a0.2.2.2.2.2.1==60000)=leb 60000 a0.2.2.2.2.2.1 by rw[Bool.eq_iff_iff,beq_iff_eq,zj7]; omega];unfold bne at hz ⊢;cases hl:((a2.length:Int)==a0.2.1.1-1)
 ·rfl
 cases hw:a2.all isW
 ·rfl
 rcases Bool.eq_false_or_eq_true a0.2.2.2.2.2.2.2.2.2.2.1 with hd | hd
 ·simp only[hd,Bool.not_true,Bool.not_false,Bool.and_self,cond_true,cond_false]; rfl
 cases hs:(leb 0 a1&&leb a1 (a0.2.1.2-1))
 ·simp only[hd,Bool.not_true,Bool.not_false,Bool.and_self,cond_true,cond_false]; rfl
 rcases Bool.eq_false_or_eq_true a0.2.2.2.2.2.2.2.2.2.2.2 with hb | hb
 ·simp only[hd,hb,Bool.not_true,Bool.not_false,Bool.and_self,cond_true,cond_false]; rfl
 cases h6:leb 60000 a0.2.2.2.2.2.1
 ·cases h7:leb 59990 a0.2.2.2.2.2.2.2.1
  ·simp only[hd,hb,Bool.not_true,Bool.not_false,Bool.and_self,cond_true,cond_false,beq_self_eq_true]
   have hso:yG a0.2.1 a1=true:=by unfold yG; rw[yb3 ha,hs]; rfl
   rw[yKD a0 a1 a2 (by unfold yf6; rw[show ya a0=false from hd,hso,hl,beq_iff_eq.2 (yEj ha)]; rfl)];simp only[zkH,yf4,yqA];rw[y1x];cases ya (yE a0 a1 a2).2<;>rfl
  ·simp only[hd,hb,Bool.not_true,Bool.not_false,Bool.and_self,cond_true,cond_false]; rfl
 ·simp only[hd,hb,Bool.not_true,Bool.not_false,Bool.and_self,cond_true,cond_false]; rfl
def ytS:Con:=⟨yhD,yno,fun x=>(fun n=>some ((n.1,n.2,()),())) (ye5 x.1 x.2.1 x.2.2.1)⟩
theorem yIL:ConOk prog 58 ytS:=(yHH).mono (fun x r hk h=>(yIB x.1 x.2.1 x.2.2.1 hk).trans h)
abbrev yhb:List Par:= [.kp tWs (.ow (.pr .fz (.ow .fz))),.rd tI,.rd tI]
abbrev yhd:List OT:= [⟨false,tWs,(.ow (.pr .fz (.ow .fz)))⟩]
end
end Go.Tf
namespace Go.Proofs
noncomputable section
open Go.Tf Go.RowKit Go.Lib
set_option synthInstance.maxHeartbeats 400000
set_option synthInstance.maxSize 10000
set_option linter.unusedVariables false
set_option linter.unusedSimpArgs false
set_option maxRecDepth 100000
set_option maxHeartbeats 4000000 in
set_option maxRecDepth 1000000 in
theorem y2r (w:World) (b off n c i j:Nat) (hij:i<j) (hj:j≤n) (hn:n≤c) (i0:TypeInfo) (hi0:Tryz.prog.info? 123=some i0) (hz1:i0.size=2) (hund:Tryz.prog.underlying 29=some (.slice 123))
  (news zs:List Value) (z:Value) (hz:Hdd (∀w,(zeroValue 123).run Tryz.prog w= .ok z w)) (hzs:Hdd ((Builtin.zeroCells z.cells (n-(i+(n-j)))).toList=zs)) (hzl:Hdd (zs.length=(j-i)*2)) (hz1c:Hdd (∀v∈zs,v.oneCell'=true))
  (hnl:Hdd (news.length=(n-j)*2)) (hn1:Hdd (∀v∈news,v.oneCell'=true)) (hnews:Hdd (∀t u,news[t]? =some u→w.drew.cell? ⟨b,off+j*2+t,none⟩=some u))
  (hcell:Hdd (∀t,t<n*2→(w.drew.cell? ⟨b,off+t,none⟩).isSome=true)) (hfr:Hdd (∀t,t<n*2→w.drew.frozen? ⟨b,off+t,none⟩=false)) :
  Calls Tryz.prog 194 #[.slice (some ⟨b,off,none⟩) n c,.int .i64 i,.int .i64 j] w fun e w'=>e= .returned (.slice (some ⟨b,off,none⟩) (i+(n-j)) c) ∧
   w'=(w.drew.setCells b (off+i*2) news).setCells b (off+(i+(n-j))*2) zs:=by
 have hne: ¬((i:Int)=(j:Int)):=by omega
 have mixed:Tryz.prog.follows .mixedOrders=true:=by kernel_rfl
 obtain⟨A,hA,hsrc⟩: ∃A:Addr,(if c=j then(some ⟨b,off,none⟩:Option Addr)else some ⟨b,off+j*2,none⟩)=some A∧Hdd (∀t u,news[t]? =some u→w.drew.cell? (A.add t)=some u):=by
  by_cases h:c=j
  ·refine⟨⟨b,off,none⟩,by simp[h],fun t u hu=> ?_⟩
   have h0:news.length=0:=by rw[hnl.out,show n-j=0 by omega]
   rw[List.length_eq_zero_iff.1 h0]at hu;simp at hu
  ·exact⟨⟨b,off+j*2,none⟩,by simp[h],fun t u hu=>by rw[zaO]; exact hnews.out t u hu⟩
 have s3:Hdd (∀t,t<news.length→(w.drew.cell? ⟨b,off+i*2+t,none⟩).isSome=true∧w.drew.frozen? ⟨b,off+i*2+t,none⟩=false):=by
  intro t ht;rw[hnl.out]at ht;rw[Nat.add_assoc];exact⟨hcell.out _ (by omega),hfr.out _ (by omega)⟩
 obtain⟨W1,hW1⟩: ∃W1,W1=w.drew.setCells b (off+i*2) news:=⟨_,rfl⟩;have hW:Hdd (W1=w.drew.setCells b (off+i*2) news):=hW1;have hic:i≤c:=by omega
 have hjc:j≤c:=by omega
 have hcl: ∀ty,(Builtin.clear_ #[29] ty #[.slice (some ⟨b,off+(i+(n-j))*2,none⟩) (n-(i+(n-j))) (c-(i+(n-j)))]).run Tryz.prog W1= .ok (.tuple #[]) (W1.setCells b (off+(i+(n-j))*2) zs):=fun ty=>by
  refine y0F W1 29 123 ty z hund hz.out zs b _ _ _ (by omega) hzs.out hz1c.out (fun t ht=> ?_) (fun t ht=> ?_)
  ·rw[hzl.out]at ht
   rw[hW1,show off+(i+(n-j))*2+t=off+((i+(n-j))*2+t)by omega];exact Tf.isSome_setCells b _ _ _ (fun q hq=>(s3.out q hq).1) _ (hcell.out _ (by omega))
  ·rw[hzl.out]at ht
   rw[hW1,World.frozen?_setCells,show off+(i+(n-j))*2+t=off+((i+(n-j))*2+t)by omega];exact hfr.out _ (by omega)
 rw[← hW1];clear hW1
 go_enter Tryz.func194,Tryz.ntmps194
 go_wp2_with fail
 go_region_law_o (refine step_append_room rfl (.tmp 22) (.tmp 25) 29 rfl 123 i0 2 hund hi0 hz1 b off i c (by simp[Act.eval,Act.put]) A (n-j) (c-j) news (by simp[Act.eval,Act.put]) hnl.out hsrc.out hn1.out (by omega) s3.out ?_; rw[← hW.out])
 go_wp2
 go_ret
 exact⟨rfl,rfl⟩
end
end Go.Proofs
namespace Go.Tf
noncomputable section
open Go.Proofs Go.Proofs.Tryz IntKind
set_option synthInstance.maxHeartbeats 400000
set_option synthInstance.maxSize 10000
set_option linter.unusedVariables false
set_option linter.unusedSimpArgs false
set_option maxRecDepth 100000
def ya4 (l:List dW) (i j:Int):Bool:=leb 0 i&&(ltb i j&&leb j (l.length:Int))
def yen (l:List dW) (i j:Int):List dW:=l.take i.toNat++l.drop j.toNat
def yVm:Con:=⟨yhb,yhd,fun x=>bif ya4 x.1 x.2.1 x.2.2.1 then some ((yen x.1 x.2.1 x.2.2.1,()),())else none⟩
theorem y25 (w:World) (Z R:Nat→Prop) (l:List dW) (i j:Nat) (a0:Value) (f0:List Nat) (o0:Own (hp w) Z (.sl tW) (.ow aW) l [a0] f0) (hij:i<j) (hj:j≤l.length)
  (hlow: ∀b,Z b∨R b→b<w.heap.size) (hnd:f0.Nodup) (hfr: ∀b∈f0,b<w.heap.size∧ ¬Z b∧ ¬R b):Calls prog 194 #[a0,.int .i64 (i:Int),.int .i64 (j:Int)] w (DoneOk yVm [a0,.int .i64 (i:Int),.int .i64 (j:Int)] [f0,[],[]] Z w ((l.take i++l.drop j,()),())):=by
 have hund:prog.underlying 29=some (.slice 123):=by kernel_rfl
 have hinf:(prog.info? 123).map (fun f=>(f.zero,f.size,f.bytes))=some (some (zA tW),tW.size,tW.bytes):=by kernel_rfl
 obtain⟨i0,hi0,hz0,hsz,hbz⟩: ∃i0,prog.info? 123=some i0∧i0.zero=some (zA tW)∧i0.size=2∧i0.bytes=32:=by
  cases hq:prog.info? 123 with
  | none=>rw[hq]at hinf; cases hinf
  | some f =>
   rw[hq]at hinf;simp only[Option.map_some,Option.some.injEq,Prod.mk.injEq]at hinf;exact⟨f,rfl,hinf.1,hinf.2.1,hinf.2.2⟩
 have hzc:(zA tW).cells.size=2:=rfl;have hfl:([f0,[],[]]:List (List Nat)).flatten=f0:=by simp
 obtain⟨hd,cap,hv0,hbnd,hlc,hc0⟩:=Own.elems o0;subst hv0;have hszt:tW.size=2:=rfl;rcases hc0 with⟨rfl,rfl,rfl,rfl⟩ | ⟨b,o,c,T,vs0,fp0,rfl,hB,hcap,hf0,hcs0,e0⟩
 ·simp at hj; omega
 ·have e0':=e0
  have hfle:=e0.fl
  have hsub:(fp0.take i++fp0.drop j).flatten.Sublist fp0.flatten:=by
   have h1:fp0.flatten=(fp0.take i).flatten++(((fp0.drop i).take (j-i)).flatten++(fp0.drop j).flatten):=by
    have:fp0.drop j=(fp0.drop i).drop (j-i):=by rw[List.drop_drop,show i+(j-i)=j by omega]
    rw[this,← List.flatten_append,List.take_append_drop,← List.flatten_append,List.take_append_drop]
   rw[h1,List.flatten_append];exact List.Sublist.append (List.Sublist.refl _) (List.sublist_append_right _ _)
  have hnd3:(b::fp0.flatten).Nodup:=by rw[← hf0]; exact hnd
  have hgb: ∀x∈fp0.flatten,x≠b:=fun x hx e=>(List.nodup_cons.1 hnd3).1 (e ▸ hx)
  have hl0:=e0.len;rw[hszt]at hcs0 hcap hl0;have h1c:=fun v hv=>ziE (e0.isCells (by decide) v hv)
  have hbf:b∈f0:=by rw[hf0]; exact List.mem_cons_self
  obtain⟨hblt,hbZ,_⟩:=hfr b hbf;have hdl:(vs0.drop (j*2)).length=(l.length-j)*2:=by rw[List.length_drop]; omega
  obtain⟨zs,hzs⟩: ∃zs,(Builtin.zeroCells (zA tW).cells (l.length-(i+(l.length-j)))).toList=zs:=⟨_,rfl⟩
  have hzl:zs.length=(j-i)*2:=by
   rw[← hzs,Array.length_toList,size_zeroCells,hzc];omega
  have hz1: ∀v∈zs,v.oneCell'=true:=fun v hv=>by
   rw[← hzs]at hv;have hzc2:(zA tW).cells= #[.int .i64 0,.slice none 0 0]:=rfl;simp only[Builtin.zeroCells,hzc2,Array.toList_map,List.mem_map]at hv;obtain⟨i,_,rfl⟩:=hv;have h2:i % 2<2:=Nat.mod_lt _ (by decide);generalize i % 2=r at h2;show(#[Value.int .i64 0,.slice none 0 0][r]!).oneCell'=true
   match r,h2 with
   | 0,_=>rfl
   | 1,_=>rfl
  have hin: ∀t,t<l.length*2→(w.drew.cell? ⟨b,o+t,none⟩).isSome=true∧w.drew.frozen? ⟨b,o+t,none⟩=false:=fun t ht=>y0N (w:=w.drew) hB (by omega)
  refine(y2r w b o l.length cap i j hij hj hlc i0 hi0 hsz hund (vs0.drop (j*2)) zs (zA tW) (fun w=>by simp[zeroValue,typeInfo,hi0,hz0]) hzs hzl hz1 hdl (fun v hv=>h1c v (List.mem_of_mem_drop hv)) (fun t u ht=>by
   rw[List.getElem?_drop]at ht;rw[Nat.add_assoc]
   exact yxu (w:=w.drew) hcs0 _ u ht) (fun t ht=>(hin t ht).1) (fun t ht=>(hin t ht).2)).mono fun e w2 ⟨he,hw2⟩=> ?_
  subst he;have e1:w.drew.setCells b (o+i*2) (vs0.drop (j*2))=World.setBlk w.drew b (zi c (o+i*2) (vs0.drop (j*2))) T:=yha _ _ w.drew c hB (by omega);have hb1:hp (World.setBlk w.drew b (zi c (o+i*2) (vs0.drop (j*2))) T) b=some (.cells (zi c (o+i*2) (vs0.drop (j*2))) T (0,0)):=zbo (w:=w.drew) hblt;rw[e1,yha zs _ _ _ hb1 (by rw[za3]; omega)]at hw2;subst hw2;have hsz1:b<(World.setBlk w.drew b (zi c (o+i*2) (vs0.drop (j*2))) T).heap.size:=by simp[World.setBlk]<;>exact hblt
  have hBn:=zbo (c:=zi (zi c (o+i*2) (vs0.drop (j*2))) (o+(i+(l.length-j))*2) zs) (T:=T) hsz1;have oth: ∀b',b'≠b→hp (World.setBlk (World.setBlk w.drew b (zi c (o+i*2) (vs0.drop (j*2))) T) b (zi (zi c (o+i*2) (vs0.drop (j*2))) (o+(i+(l.length-j))*2) zs) T) b'=hp w b':=fun b' h=>(zbp h).trans (zbp (w:=w.drew) h)
  have s1:=Elems.sub e0' 0 i (by omega);have s2:=Elems.sub e0' j (l.length-j) (by omega);rw[hszt]at s1 s2;rw[Nat.zero_mul,List.drop_zero,List.drop_zero,List.drop_zero]at s1;rw[List.take_of_length_le (l:=l.drop j) (by rw[List.length_drop]; omega),List.take_of_length_le (l:=vs0.drop (j*2)) (by rw[List.length_drop]; omega),List.take_of_length_le (l:=fp0.drop j) (by rw[List.length_drop]; omega)]at s2;have es:=s1.append s2;have hkZ: ∀b',Z b'→hp (World.setBlk (World.setBlk w.drew b (zi c (o+i*2) (vs0.drop (j*2))) T) b (zi (zi c (o+i*2) (vs0.drop (j*2))) (o+(i+(l.length-j))*2) zs) T) b'=hp w b':=fun b' hb'=>oth b' (fun e=>hbZ (e ▸ hb'))
  have es':=es.keep hkZ (fun _ h=>h) (fun b' hb'=>oth b' (hgb b' (hsub.mem hb')));have hL:(l.take i++l.drop j).length=i+(l.length-j):=by simp; omega
  have hcells:zh (hp (World.setBlk (World.setBlk w.drew b (zi c (o+i*2) (vs0.drop (j*2))) T) b (zi (zi c (o+i*2) (vs0.drop (j*2))) (o+(i+(l.length-j))*2) zs) T)) b o ((i+(l.length-j))*2)=some (vs0.take (i*2)++vs0.drop (j*2)):=by
   have hL2:(vs0.take (i*2)++vs0.drop (j*2)).length=(i+(l.length-j))*2:=by rw[List.length_append,List.length_take,List.length_drop]; omega
   have:=zap (h:=hp (World.setBlk (World.setBlk w.drew b (zi c (o+i*2) (vs0.drop (j*2))) T) b (zi (zi c (o+i*2) (vs0.drop (j*2))) (o+(i+(l.length-j))*2) zs) T)) (b:=b) (vs0.take (i*2)++vs0.drop (j*2)) o (fun t ht=>by
    rw[hL2]at ht;unfold zL;rw[hBn];show(zi (zi c (o+i*2) (vs0.drop (j*2))) (o+(i+(l.length-j))*2) zs)[o+t]? =_;rw[zah _ _ _ _ (by rw[za3]; omega),if_neg (by omega),zah _ _ _ _ (by omega)];by_cases g1:t<i*2
    ·rw[if_neg (by omega),List.getElem?_append_left (by rw[List.length_take]; omega),List.getElem?_take,if_pos g1,zab hcs0 t (by omega)]
     unfold zL; rw[hB]
    ·rw[if_pos (by omega),List.getElem?_append_right (by rw[List.length_take]; omega),List.length_take]
     exact yJX (by omega))
   rw[hL2]at this; exact this
  have hown:=es'.own (b:=b) (o:=o) (cap:=cap) hBn (by rw[hL]; exact hcells) (by rw[za3,za3]; exact hcap) (by rw[hL]; omega) (by rw[hL]; have:tW.bytes=32:=rfl; rw[this]at hbnd ⊢; omega);rw[hL]at hown;refine⟨[_],Z,[b::(fp0.take i++fp0.drop j).flatten],[[],[],[]],rfl,rfl,by simp[World.setBlk]<;>exact Nat.le_refl _,fun b' _ hb'=>oth b' (fun e=>hb' (by rw[hfl,e]; exact hbf)),fun _ h=>h,fun _ h=> .inl h,⟨⟨_,rfl,hown⟩,trivial⟩,⟨rfl,rfl,rfl,trivial⟩,?_,fun b' hb'=> ?_⟩
  ·simp only[List.flatten_cons,List.flatten_nil,List.append_nil,List.nodup_cons]
   exact⟨fun h=>hgb b (hsub.mem h) rfl,(List.nodup_cons.1 hnd3).2.sublist hsub⟩
  ·simp only[List.flatten_cons,List.flatten_nil,List.append_nil,List.mem_cons]at hb'
   rcases hb' with rfl | hb'
   ·exact⟨.inr (by rw[hfl]; exact hbf),hbZ⟩
   ·have hm:b'∈f0:=by rw[hf0]; exact List.mem_cons_of_mem _ (hsub.mem hb')
    exact⟨.inr (by rw[hfl]; exact hm),(hfr b' hm).2.1⟩
theorem y3B:ConOk prog 194 yVm where
 fn:=⟨_,func194,by kernel_rfl,by kernel_rfl⟩
 run:=fun w Z R xs args fs r ha hF hz hnd hfr=>by
  obtain⟨l,i,v,_⟩:=xs;rcases args with _ | ⟨a0,_ | ⟨a1,_ | ⟨a2,_ | ⟨a3,t⟩⟩⟩⟩<;>rcases fs with _ | ⟨f0,_ | ⟨f1,_ | ⟨f2,_ | ⟨f3,u⟩⟩⟩⟩<;>try (simp[ArgsOk,yVm]at ha; done)
  obtain⟨⟨cs0,rfl,o0⟩,⟨cs1,rfl,hi1⟩,rfl,⟨cs2,rfl,hj1⟩,rfl,_⟩:=ha;obtain⟨rfl,hif⟩:=hi1;obtain⟨rfl,hjf⟩:=hj1;have hF':(bif ya4 l i v then some (((yen l i v,()),()):zaY yhd×zak yhb)else none)=some r:=hF;cases hq:ya4 l i v with
  | false=>rw[hq]at hF'; cases hF'
  | true =>
   rw[hq]at hF';obtain rfl:=Option.some.inj hF';simp only[ya4,Bool.and_eq_true]at hq;obtain⟨i0,i1,hv1⟩:=hq;have i0:=zj7.1 i0;have i1:=zka.1 i1;have hv1:=zj7.1 hv1;obtain⟨k,hk⟩: ∃k:Nat,i=(k:Int):=⟨Int.toNat i,(Int.toNat_of_nonneg i0).symm⟩;subst hk;obtain⟨m,hm⟩: ∃m:Nat,v=(m:Int):=⟨Int.toNat v,(Int.toNat_of_nonneg (by have:=i0; have:=i1; omega)).symm⟩;subst hm;have hl1:=Own.len o0;obtain⟨a0,rfl⟩:=List.length_eq_one_iff.1 hl1;have hfe:([f0,[],[]]:List (List Nat)).flatten=f0:=by simp
   rw[hfe]at hnd hfr;exact y25 w Z R l k m a0 f0 o0 (by have:=i1; omega) (by have:=hv1; omega) hz hnd hfr
def yhm (a0:List dW) (a1 a2:Int):Option (zaY yhd×zak yhb):=bif ya4 a0 a1 a2 then(fun n=>some ((n,()),())) (yen a0 a1 a2)else none
theorem yHN (a0:List dW) (a1 a2:Int) (h:ya4 a0 a1 a2=true):yhm a0 a1 a2=(fun n=>some ((n,()),())) (yen a0 a1 a2):=by unfold yhm; rw[h]; rfl
def yr1:Con:=⟨yhb,yhd,fun x=>yhm x.1 x.2.1 x.2.2.1⟩
theorem yHK:ConOk prog 194 yr1:=y3B
def yIT:Code:=(f140.body).getD .skip
def yIZ:Env:=zkw TT [(55,ygh),(58,ytS),(95,ygS),(109,ybv),(188,ywq),(194,yr1)] []
theorem yGv:FrOk prog ⟨yIZ,58,fun _=>none⟩ yIT:=zkA mixed yc ⟨ylr,yIL,ym2,ydP,yH1,yHK,trivial⟩
abbrev yhB:List Par:= [.rd tA,.rd tI]
abbrev ynm:List OT:= [⟨false,tA,(.pr .fz (.pr (.pr .fz .fz) (.pr (.ow (.pr (.ow (.ow .fz)) (.pr (.ow (.pr .fz (.ow .fz))) (.pr .fz (.ow .fz))))) (.pr .fz (.pr .fz (.pr .fz (.pr .fz (.pr .fz (.pr (.ow (.pr .fz (.ow .fz))) (.pr .fz (.pr .fz .fz)))))))))))⟩,⟨false,tI,.fz⟩]
def ykU (a0:dA) (a1:Int):Option (zaY ynm×zak yhB) :=let r1:=yat a0;bif(!r1)then let r2:=yL a0;some ((r2,1,()),()) else bif a0.2.2.2.2.2.2.2.2.2.2.1 then let r3:=yL a0;some ((r3,6,()),()) else let r4:=yaj a0.2.1 a1;bif(!r4)then let r5:=yL a0;some ((r5,2,()),()) else let r6:=yjX a0 a1;bif(ltb r6 0)then let r7:=yL a0;some ((r7,0,()),()) else bif(inb r6 a0.2.2.2.2.2.2.2.2.1.length)then let r8:=ye5 a0 a1 ((nth a0.2.2.2.2.2.2.2.2.1 r6 (0,[])).2);bif(r8.2==0)then bnd (yhm r8.1.2.2.2.2.2.2.2.2.1 r6 (i64.wrap (r6+1))) fun r9 =>some (((r8.1.1,r8.1.2.1,r8.1.2.2.1,r8.1.2.2.2.1,r8.1.2.2.2.2.1,r8.1.2.2.2.2.2.1,r8.1.2.2.2.2.2.2.1,r8.1.2.2.2.2.2.2.2.1,r9.1.1,r8.1.2.2.2.2.2.2.2.2.2),r8.2,()),()) else some ((r8.1,r8.2,()),()) else none
theorem yHF:ConOk prog 140 ⟨yhB,ynm,fun x=>ykU x.1 x.2.1⟩:=zkI (yGv) func140 ntmps140.symm fun x=>by kernel_rfl
def ye3 (a0:dA) (a1:Int):dA×Int:=yxJ a0 a1
theorem yIz (a0:dA) (a1:Int) (hk:zjx yhB (a0,a1,())):ykU a0 a1=(fun n=>some ((n.1,n.2,()),())) (ye3 a0 a1):=by
 unfold ykU ye3 yxJ;simp only[yL,yat,yjX,ye5,yp3];cases ha:yO a0
 ·rfl
 rcases Bool.eq_false_or_eq_true (ya a0)with hd | hd
 ·rw[show a0.2.2.2.2.2.2.2.2.2.2.1=true from hd,hd]; rfl
 rw[show a0.2.2.2.2.2.2.2.2.2.2.1=false from hd,hd];cases yG a0.2.1 a1
 ·rfl
 unfold yB;cases h0:ltb (yi a0.2.2.2.2.2.2.2.2.1 a1) 0
 ·have h1:=zkW h0
  have hi:inb (yi a0.2.2.2.2.2.2.2.2.1 a1) a0.2.2.2.2.2.2.2.2.1.length=true:=(ygV (d:=((0:Int),([]:List Int))) (zk2 h1)).1;have hk:=zj6.1 hi;have hl8:=yis (yxd ha) (yb3 ha);simp only[hi,cond_true,cond_false,Bool.not_true];generalize (nth a0.2.2.2.2.2.2.2.2.1 (yi a0.2.2.2.2.2.2.2.2.1 a1) (0,[])).2=D;unfold yQS;cases hc:(yw a0 a1 D !=0)
  ·simp only[cond_false]
   cases hr:((yE a0 a1 D).1==0)
   ·rfl
   ·simp only[cond_true,yNE]
    generalize yi a0.2.2.2.2.2.2.2.2.1 a1=K at hk h1 ⊢
    rw[wq (K+1) (by omega) (by omega),yHN _ K (K+1) (by
     unfold ya4
     rw[zk2 hk.1,zky (show K<K+1 by omega),zk2 (show K+1≤(a0.2.2.2.2.2.2.2.2.1.length:Int)by omega)]; rfl),beq_iff_eq.1 hr]
    simp only[zkH];unfold yen yEU yav;rw[show(K+1).toNat=K.toNat+1 by omega]
  ·have hc2:(yw a0 a1 D==0)=false:=beq_eq_false_iff_ne.2 (bne_iff_ne.1 hc)
   simp only[cond_true,hc2,cond_false]
 ·rfl
def ytP:Con:=⟨yhB,ynm,fun x=>(fun n=>some ((n.1,n.2,()),())) (ye3 x.1 x.2.1)⟩
theorem yIJ:ConOk prog 140 ytP:=(yHF).mono (fun x r hk h=>(yIz x.1 x.2.1 hk).trans h)
def yma:Code:=(f66.body).getD .skip
def ysC:Env:=zkw TT [(55,ygh),(95,ygS),(140,ytP)] []
theorem yJq:FrOk prog ⟨ysC,40,fun _=>none⟩ yma:=zkA mixed yc ⟨ylr,ym2,yIJ,trivial⟩
def yzQ:Nat→Option Seg:=fun _=>none
def ybp:Shape:=⟨[(2,false,[.ptr 64 0]),(4,false,[.ptr 20608 0]),(5,false,[.int .i64]),(22,false,[.br tW]),(23,false,[.int .i64]),(24,false,[.int .i64])],[(64,[.int .i64,.int .i64,.int .i64,.nil,.int .i64,.int .i64,.int .i64,.int .i64,.int .i64,.nil,.int .i64,.bool,.bool]),(20608,[.int .i64,.int .i64,.int .i64,.at 800000000,.int .i64,.int .i64,.int .i64,.int .i64,.int .i64,.at 800000001,.int .i64,.bool,.bool])],[(800000000,tM,(.pr (.ow (.ow .fz)) (.pr (.ow (.pr .fz (.ow .fz))) (.pr .fz (.ow .fz))))),(800000001,tW,(.pr .fz (.ow .fz)))]⟩
def yeT:Shape:=⟨[(2,false,[.ptr 64 0]),(4,false,[.ptr 20608 0]),(5,false,[.ci .i64 0]),(22,false,[.br tW]),(23,false,[.int .i64]),(24,false,[.ci .i64 0])],[(64,[.int .i64,.int .i64,.int .i64,.nil,.int .i64,.int .i64,.int .i64,.int .i64,.int .i64,.nil,.int .i64,.bool,.bool]),(20608,[.int .i64,.int .i64,.int .i64,.at 800000000,.int .i64,.int .i64,.int .i64,.int .i64,.int .i64,.at 800000001,.int .i64,.bool,.bool])],[(800000000,tM,(.pr (.ow (.ow .fz)) (.pr (.ow (.pr .fz (.ow .fz))) (.pr .fz (.ow .fz))))),(800000001,tW,(.pr .fz (.ow .fz)))]⟩
def yeL:Shape:=⟨[(2,false,[.ptr 64 0]),(4,false,[.ptr 20608 0]),(5,false,[.int .i64])],[(64,[.int .i64,.int .i64,.int .i64,.nil,.int .i64,.int .i64,.int .i64,.int .i64,.int .i64,.nil,.int .i64,.bool,.bool]),(20608,[.int .i64,.int .i64,.int .i64,.at 800000000,.int .i64,.int .i64,.int .i64,.int .i64,.int .i64,.at 800000001,.int .i64,.bool,.bool])],[(800000000,tM,(.pr (.ow (.ow .fz)) (.pr (.ow (.pr .fz (.ow .fz))) (.pr .fz (.ow .fz))))),(800000001,tW,(.pr .fz (.ow .fz)))]⟩
def yid:Shape:=⟨[],[],[]⟩
abbrev ylN (v0:Int) (v1:List dW) (v2 v3:Int) (v4 v5:dA):(ybp).X:=((((),()),((),()),(v0,()),(v1,()),(v2,()),(v3,()),()),((v4.1,v4.2.1.1,v4.2.1.2,(),v4.2.2.2.1,v4.2.2.2.2.1,v4.2.2.2.2.2.1,v4.2.2.2.2.2.2.1,v4.2.2.2.2.2.2.2.1,(),v4.2.2.2.2.2.2.2.2.2.1,v4.2.2.2.2.2.2.2.2.2.2.1,v4.2.2.2.2.2.2.2.2.2.2.2,()),(v5.1,v5.2.1.1,v5.2.1.2,(),v5.2.2.2.1,v5.2.2.2.2.1,v5.2.2.2.2.2.1,v5.2.2.2.2.2.2.1,v5.2.2.2.2.2.2.2.1,(),v5.2.2.2.2.2.2.2.2.2.1,v5.2.2.2.2.2.2.2.2.2.2.1,v5.2.2.2.2.2.2.2.2.2.2.2,()),()),(v5.2.2.1,v5.2.2.2.2.2.2.2.2.1,()))
abbrev yIt (v0:List dW) (v1:Int) (v2 v3:dA):(yeT).X:=((((),()),((),()),((),()),(v0,()),(v1,()),((),()),()),((v2.1,v2.2.1.1,v2.2.1.2,(),v2.2.2.2.1,v2.2.2.2.2.1,v2.2.2.2.2.2.1,v2.2.2.2.2.2.2.1,v2.2.2.2.2.2.2.2.1,(),v2.2.2.2.2.2.2.2.2.2.1,v2.2.2.2.2.2.2.2.2.2.2.1,v2.2.2.2.2.2.2.2.2.2.2.2,()),(v3.1,v3.2.1.1,v3.2.1.2,(),v3.2.2.2.1,v3.2.2.2.2.1,v3.2.2.2.2.2.1,v3.2.2.2.2.2.2.1,v3.2.2.2.2.2.2.2.1,(),v3.2.2.2.2.2.2.2.2.2.1,v3.2.2.2.2.2.2.2.2.2.2.1,v3.2.2.2.2.2.2.2.2.2.2.2,()),()),(v3.2.2.1,v3.2.2.2.2.2.2.2.2.1,()))
abbrev yvm (v0:Int) (v1 v2:dA):(yeL).X:=((((),()),((),()),(v0,()),()),((v1.1,v1.2.1.1,v1.2.1.2,(),v1.2.2.2.1,v1.2.2.2.2.1,v1.2.2.2.2.2.1,v1.2.2.2.2.2.2.1,v1.2.2.2.2.2.2.2.1,(),v1.2.2.2.2.2.2.2.2.2.1,v1.2.2.2.2.2.2.2.2.2.2.1,v1.2.2.2.2.2.2.2.2.2.2.2,()),(v2.1,v2.2.1.1,v2.2.1.2,(),v2.2.2.2.1,v2.2.2.2.2.1,v2.2.2.2.2.2.1,v2.2.2.2.2.2.2.1,v2.2.2.2.2.2.2.2.1,(),v2.2.2.2.2.2.2.2.2.2.1,v2.2.2.2.2.2.2.2.2.2.2.1,v2.2.2.2.2.2.2.2.2.2.2.2,()),()),(v2.2.2.1,v2.2.2.2.2.2.2.2.2.1,()))
def yl1 (v0:Int) (v1:List dW) (v2 v3 v4 v5 v6 v7 v8 v9 v10 v11 v12:Int) (v13 v14:Bool) (v15 v16 v17 v18 v19 v20 v21 v22 v23:Int) (v24 v25:Bool) (v26:List dM) (v27:List dW):Option ((ybp).X ⊕ ((yeL).X ⊕ (yid).X)) :=bif(ltb v3 v2)then bif(inb v3 v1.length)then bif(v0==0)then let r6:=ye3 (v15,(v16,v17),v26,v18,v19,v20,v21,v22,v27,v23,v24,v25) ((nth v1 v3 (0,[])).1);some (.inl ((((),()),((),()),(r6.2,()),(v1,()),(v2,()),((i64.wrap (v3+1)),()),()),((v4,v5,v6,(),v7,v8,v9,v10,v11,(),v12,v13,v14,()),(r6.1.1,r6.1.2.1.1,r6.1.2.1.2,(),r6.1.2.2.2.1,r6.1.2.2.2.2.1,r6.1.2.2.2.2.2.1,r6.1.2.2.2.2.2.2.1,r6.1.2.2.2.2.2.2.2.1,(),r6.1.2.2.2.2.2.2.2.2.2.1,r6.1.2.2.2.2.2.2.2.2.2.2.1,r6.1.2.2.2.2.2.2.2.2.2.2.2,()),()),(r6.1.2.2.1,r6.1.2.2.2.2.2.2.2.2.1,()))) else some (.inl ((((),()),((),()),(v0,()),(v1,()),(v2,()),((i64.wrap (v3+1)),()),()),((v4,v5,v6,(),v7,v8,v9,v10,v11,(),v12,v13,v14,()),(v15,v16,v17,(),v18,v19,v20,v21,v22,(),v23,v24,v25,()),()),(v26,v27,()))) else none else some (.inr (.inl ((((),()),((),()),(v0,()),()),((v4,v5,v6,(),v7,v8,v9,v10,v11,(),v12,v13,v14,()),(v15,v16,v17,(),v18,v19,v20,v21,v22,(),v23,v24,v25,()),()),(v26,v27,()))))
def ybI (x:(ybp).X):=yl1 x.1.2.2.1.1 x.1.2.2.2.1.1 x.1.2.2.2.2.1.1 x.1.2.2.2.2.2.1.1 x.2.1.1.1 x.2.1.1.2.1 x.2.1.1.2.2.1 x.2.1.1.2.2.2.2.1 x.2.1.1.2.2.2.2.2.1 x.2.1.1.2.2.2.2.2.2.1 x.2.1.1.2.2.2.2.2.2.2.1 x.2.1.1.2.2.2.2.2.2.2.2.1 x.2.1.1.2.2.2.2.2.2.2.2.2.2.1 x.2.1.1.2.2.2.2.2.2.2.2.2.2.2.1 x.2.1.1.2.2.2.2.2.2.2.2.2.2.2.2.1 x.2.1.2.1.1 x.2.1.2.1.2.1 x.2.1.2.1.2.2.1 x.2.1.2.1.2.2.2.2.1 x.2.1.2.1.2.2.2.2.2.1 x.2.1.2.1.2.2.2.2.2.2.1 x.2.1.2.1.2.2.2.2.2.2.2.1 x.2.1.2.1.2.2.2.2.2.2.2.2.1 x.2.1.2.1.2.2.2.2.2.2.2.2.2.2.1 x.2.1.2.1.2.2.2.2.2.2.2.2.2.2.2.1 x.2.1.2.1.2.2.2.2.2.2.2.2.2.2.2.2.1 x.2.2.1 x.2.2.2.1
def yu6 (x:(yeT).X):(ybp).X:=((((),()),((),()),(0,()),(x.1.2.2.2.1.1,()),(x.1.2.2.2.2.1.1,()),(0,()),()),((x.2.1.1.1,x.2.1.1.2.1,x.2.1.1.2.2.1,(),x.2.1.1.2.2.2.2.1,x.2.1.1.2.2.2.2.2.1,x.2.1.1.2.2.2.2.2.2.1,x.2.1.1.2.2.2.2.2.2.2.1,x.2.1.1.2.2.2.2.2.2.2.2.1,(),x.2.1.1.2.2.2.2.2.2.2.2.2.2.1,x.2.1.1.2.2.2.2.2.2.2.2.2.2.2.1,x.2.1.1.2.2.2.2.2.2.2.2.2.2.2.2.1,()),(x.2.1.2.1.1,x.2.1.2.1.2.1,x.2.1.2.1.2.2.1,(),x.2.1.2.1.2.2.2.2.1,x.2.1.2.1.2.2.2.2.2.1,x.2.1.2.1.2.2.2.2.2.2.1,x.2.1.2.1.2.2.2.2.2.2.2.1,x.2.1.2.1.2.2.2.2.2.2.2.2.1,(),x.2.1.2.1.2.2.2.2.2.2.2.2.2.2.1,x.2.1.2.1.2.2.2.2.2.2.2.2.2.2.2.1,x.2.1.2.1.2.2.2.2.2.2.2.2.2.2.2.2.1,()),()),(x.2.2.1,x.2.2.2.1,()))
def yxi:Code:=(zd7 yma 64 244).getD .skip
theorem yI7:zd7 yma 64 61=some (.block 1 (.loop yxi)):=by kernel_rfl
theorem yKH (x:(ybp).X):zhu ⟨ysC,40,yzQ⟩ 1 yxi 244 ybp yeL yid x=ybI x:=by kernel_rfl
def yvf (x:(yeT).X):Nat:=18446744073709551616
def ync (x:(yeT).X):Option ((yeL).X ⊕ (yid).X):=zF ybI (yvf x) (yu6 x)
def yvw:Seg:=⟨yeT,yeL,yid,ync⟩
def yLg:Nat→Option Seg:=fun q=>bif Nat.beq q 61 then some yvw else yzQ q
theorem yJr:FrOk prog ⟨ysC,40,yLg⟩ yma:=(yJq).loop (sg:=yvw) ybp yu6 (by decide) yI7 ybI yvf (by decide) (fun _=>rfl) (fun x r _ h=>h) yKH
abbrev yml:List Par:= [.rd tA]
abbrev yti:List OT:= [⟨false,tA,(.pr .fz (.pr (.pr .fz .fz) (.pr (.ow (.pr (.ow (.ow .fz)) (.pr (.ow (.pr .fz (.ow .fz))) (.pr .fz (.ow .fz))))) (.pr .fz (.pr .fz (.pr .fz (.pr .fz (.pr .fz (.pr (.ow (.pr .fz (.ow .fz))) (.pr .fz (.pr .fz .fz)))))))))))⟩,⟨false,tI,.fz⟩]
def ypy (a0:dA):Option (zaY yti×zak yml) :=let r1:=yat a0;bif(!r1)then let r2:=yL a0;some ((r2,1,()),()) else bif a0.2.2.2.2.2.2.2.2.2.2.1 then let r3:=yL a0;some ((r3,6,()),()) else let r4:=yL a0;zkt (ync ((((),()),((),()),((),()),(a0.2.2.2.2.2.2.2.2.1,()),((a0.2.2.2.2.2.2.2.2.1.length:Int),()),((),()),()),((0,0,0,(),0,0,0,0,0,(),0,false,false,()),(r4.1,r4.2.1.1,r4.2.1.2,(),r4.2.2.2.1,r4.2.2.2.2.1,r4.2.2.2.2.2.1,r4.2.2.2.2.2.2.1,r4.2.2.2.2.2.2.2.1,(),r4.2.2.2.2.2.2.2.2.2.1,r4.2.2.2.2.2.2.2.2.2.2.1,r4.2.2.2.2.2.2.2.2.2.2.2,()),()),(r4.2.2.1,r4.2.2.2.2.2.2.2.2.1,()))) (fun y6 =>some (((y6.2.1.2.1.1,(y6.2.1.2.1.2.1,y6.2.1.2.1.2.2.1),y6.2.2.1,y6.2.1.2.1.2.2.2.2.1,y6.2.1.2.1.2.2.2.2.2.1,y6.2.1.2.1.2.2.2.2.2.2.1,y6.2.1.2.1.2.2.2.2.2.2.2.1,y6.2.1.2.1.2.2.2.2.2.2.2.2.1,y6.2.2.2.1,y6.2.1.2.1.2.2.2.2.2.2.2.2.2.2.1,y6.2.1.2.1.2.2.2.2.2.2.2.2.2.2.2.1,y6.2.1.2.1.2.2.2.2.2.2.2.2.2.2.2.2.1),y6.1.2.2.1.1,()),())) (fun y6 =>none)
theorem yMN:ConOk prog 66 ⟨yml,yti,fun x=>ypy x.1⟩:=zkI (yJr) func66 ntmps66.symm fun x=>by kernel_rfl
def yiu (a0:dA):dA×Int:=yHi a0
theorem yPB (a0:dA) (hk:zjx yml (a0,())):ypy a0=(fun n=>some ((n.1,n.2,()),())) (yiu a0):=by
 unfold ypy yiu yHi;simp only[yL,yat];cases ha:yO a0
 ·rfl
 rcases Bool.eq_false_or_eq_true (ya a0)with hd | hd
 ·rw[show a0.2.2.2.2.2.2.2.2.2.2.1=true from hd,hd]; rfl
 have hl8:=yis (yxd ha) (yb3 ha)
 have h1:ync (yIt a0.2.2.2.2.2.2.2.2.1 (a0.2.2.2.2.2.2.2.2.1.length:Int) ycC a0)=some (.inl (yvm (a0.2.2.2.2.2.2.2.2.1.foldl yFM (0,a0)).1 ycC (a0.2.2.2.2.2.2.2.2.1.foldl yFM (0,a0)).2)) :=
  zkx (step:=ybI) a0.2.2.2.2.2.2.2.2.1 (0,[]) (fun i (s:Int×dA)=>ylN s.1 a0.2.2.2.2.2.2.2.2.1 (a0.2.2.2.2.2.2.2.2.1.length:Int) i ycC s.2) yFM (fun _ _=>True) (fun s=> .inl (yvm s.1 ycC s.2)) (fun i s hi _=>by
   refine⟨?_,trivial⟩;simp only[ybI,ylN,yl1,zky (show(i:Int)<a0.2.2.2.2.2.2.2.2.1.length by omega),cond_true,wq ((i:Int)+1) (by omega) (by omega),Int.natCast_add,Int.natCast_one,Int.toNat_natCast,zkR hi,zkS,zkX,ye3];unfold yFM
   cases(s.1==0)<;>rfl) (fun s _=>by simp only[ybI,ylN,yl1,zk3 (Int.le_refl _),cond_false]) (0,a0) trivial 18446744073709551616 (by omega)
 simp only[Bool.not_true,cond_false];refine(congrArg (fun t=>bif t then _ else _) (show a0.2.2.2.2.2.2.2.2.2.2.1=false from hd)).trans ?_;rw[hd];simp only[cond_false];refine(congrArg (fun z=>zkt z _ _) h1).trans ?_;rw[y1D a0.2.2.2.2.2.2.2.2.1 0 a0 rfl];simp only[zkN,zkX];rfl
def yAf:Con:=⟨yml,yti,fun x=>(fun n=>some ((n.1,n.2,()),())) (yiu x.1)⟩
theorem yQr:ConOk prog 66 yAf:=(yMN).mono (fun x r hk h=>(yPB x.1 hk).trans h)
def yme:Code:=(f12.body).getD .skip
def ysG:Env:=zkw TT [(14,yJf),(27,yCy),(31,ypf),(48,yHZ),(49,yjf),(50,yAe),(51,ymQ),(52,yCA),(54,yCr),(56,yGh),(57,yNv),(62,yAi),(65,ypc),(66,yAf)] []
theorem yJF:FrOk prog ⟨ysG,144,fun _=>none⟩ yme:=zkA mixed yc ⟨y0E,yTX,yDv,yZ9,yrp,yQq,ywy,yTZ,yTQ,yYU,y1p,yQu,yDs,yQr,trivial⟩
def yzU:Nat→Option Seg:=fun _=>none
def yaP:Shape:=⟨[(3,false,[.ptr 12416 0]),(4,false,[.int .i64]),(5,false,[.int .i64]),(6,false,[.ptr 25024 0]),(10,false,[.int .i64])],[(12416,[.int .i64,.int .i64,.int .i64,.at 800000000,.int .i64,.int .i64,.int .i64,.int .i64,.int .i64,.at 800000001,.int .i64,.bool,.bool]),(25024,[.int .i64,.int .i64,.int .i64,.at 800000002,.int .i64,.int .i64,.int .i64,.int .i64,.int .i64,.at 800000003,.int .i64,.bool,.bool])],[(800000000,tM,(.pr (.ow .fz) (.pr (.ow (.pr .fz .fz)) (.pr .fz (.ow .fz))))),(800000001,tW,(.pr .fz .fz)),(800000002,tM,(.pr (.ow (.ow .fz)) (.pr (.ow (.pr .fz (.ow .fz))) (.pr .fz (.ow .fz))))),(800000003,tW,(.pr .fz (.ow .fz)))]⟩
def ydD:Shape:=⟨[(3,false,[.ptr 12416 0]),(4,false,[.int .i64]),(5,false,[.int .i64]),(6,false,[.ptr 25024 0]),(10,false,[.ci .i64 0])],[(12416,[.int .i64,.int .i64,.int .i64,.at 800000000,.int .i64,.int .i64,.int .i64,.int .i64,.int .i64,.at 800000001,.int .i64,.bool,.bool]),(25024,[.int .i64,.int .i64,.int .i64,.at 800000002,.int .i64,.int .i64,.int .i64,.int .i64,.int .i64,.at 800000003,.int .i64,.bool,.bool])],[(800000000,tM,(.pr (.ow .fz) (.pr (.ow (.pr .fz .fz)) (.pr .fz (.ow .fz))))),(800000001,tW,(.pr .fz .fz)),(800000002,tM,(.pr (.ow (.ow .fz)) (.pr (.ow (.pr .fz (.ow .fz))) (.pr .fz (.ow .fz))))),(800000003,tW,(.pr .fz (.ow .fz)))]⟩
def ydz:Shape:=⟨[(3,false,[.ptr 12416 0]),(6,false,[.ptr 25024 0])],[(12416,[.int .i64,.int .i64,.int .i64,.at 800000000,.int .i64,.int .i64,.int .i64,.int .i64,.int .i64,.at 800000001,.int .i64,.bool,.bool]),(25024,[.int .i64,.int .i64,.int .i64,.at 800000002,.int .i64,.int .i64,.int .i64,.int .i64,.int .i64,.at 800000003,.int .i64,.bool,.bool])],[(800000000,tM,(.pr (.ow .fz) (.pr (.ow (.pr .fz .fz)) (.pr .fz (.ow .fz))))),(800000001,tW,(.pr .fz .fz)),(800000002,tM,(.pr (.ow (.ow .fz)) (.pr (.ow (.pr .fz (.ow .fz))) (.pr .fz (.ow .fz))))),(800000003,tW,(.pr .fz (.ow .fz)))]⟩
def ygd:Shape:=⟨[(2,false,[.bool])],[],[]⟩
abbrev yjO (v0 v1 v2:Int) (v3 v4:dA):(yaP).X:=((((),()),(v0,()),(v1,()),((),()),(v2,()),()),((v3.1,v3.2.1.1,v3.2.1.2,(),v3.2.2.2.1,v3.2.2.2.2.1,v3.2.2.2.2.2.1,v3.2.2.2.2.2.2.1,v3.2.2.2.2.2.2.2.1,(),v3.2.2.2.2.2.2.2.2.2.1,v3.2.2.2.2.2.2.2.2.2.2.1,v3.2.2.2.2.2.2.2.2.2.2.2,()),(v4.1,v4.2.1.1,v4.2.1.2,(),v4.2.2.2.1,v4.2.2.2.2.1,v4.2.2.2.2.2.1,v4.2.2.2.2.2.2.1,v4.2.2.2.2.2.2.2.1,(),v4.2.2.2.2.2.2.2.2.2.1,v4.2.2.2.2.2.2.2.2.2.2.1,v4.2.2.2.2.2.2.2.2.2.2.2,()),()),(v3.2.2.1,v3.2.2.2.2.2.2.2.2.1,v4.2.2.1,v4.2.2.2.2.2.2.2.2.1,()))
abbrev ysc (v0 v1:Int) (v2 v3:dA):(ydD).X:=((((),()),(v0,()),(v1,()),((),()),((),()),()),((v2.1,v2.2.1.1,v2.2.1.2,(),v2.2.2.2.1,v2.2.2.2.2.1,v2.2.2.2.2.2.1,v2.2.2.2.2.2.2.1,v2.2.2.2.2.2.2.2.1,(),v2.2.2.2.2.2.2.2.2.2.1,v2.2.2.2.2.2.2.2.2.2.2.1,v2.2.2.2.2.2.2.2.2.2.2.2,()),(v3.1,v3.2.1.1,v3.2.1.2,(),v3.2.2.2.1,v3.2.2.2.2.1,v3.2.2.2.2.2.1,v3.2.2.2.2.2.2.1,v3.2.2.2.2.2.2.2.1,(),v3.2.2.2.2.2.2.2.2.2.1,v3.2.2.2.2.2.2.2.2.2.2.1,v3.2.2.2.2.2.2.2.2.2.2.2,()),()),(v2.2.2.1,v2.2.2.2.2.2.2.2.2.1,v3.2.2.1,v3.2.2.2.2.2.2.2.2.1,()))
abbrev yGG (v0 v1:dA):(ydz).X:=((((),()),((),()),()),((v0.1,v0.2.1.1,v0.2.1.2,(),v0.2.2.2.1,v0.2.2.2.2.1,v0.2.2.2.2.2.1,v0.2.2.2.2.2.2.1,v0.2.2.2.2.2.2.2.1,(),v0.2.2.2.2.2.2.2.2.2.1,v0.2.2.2.2.2.2.2.2.2.2.1,v0.2.2.2.2.2.2.2.2.2.2.2,()),(v1.1,v1.2.1.1,v1.2.1.2,(),v1.2.2.2.1,v1.2.2.2.2.1,v1.2.2.2.2.2.1,v1.2.2.2.2.2.2.1,v1.2.2.2.2.2.2.2.1,(),v1.2.2.2.2.2.2.2.2.2.1,v1.2.2.2.2.2.2.2.2.2.2.1,v1.2.2.2.2.2.2.2.2.2.2.2,()),()),(v0.2.2.1,v0.2.2.2.2.2.2.2.2.1,v1.2.2.1,v1.2.2.2.2.2.2.2.2.1,()))
def ykk (v0 v1 v2 v3 v4 v5 v6 v7 v8 v9 v10 v11:Int) (v12 v13:Bool) (v14 v15 v16 v17 v18 v19 v20 v21 v22:Int) (v23 v24:Bool) (v25:List dM) (v26:List dW) (v27:List dM) (v28:List dW):Option ((yaP).X ⊕ ((ydz).X ⊕ (ygd).X)) :=let r12:=yd5 (v4,v5);bif(ltb v2 r12)then let r13:=yaG (v3,(v4,v5),v25,v6,v7,v8,v9,v10,v26,v11,v12,v13) v2;let r14:=yaG (v14,(v15,v16),v27,v17,v18,v19,v20,v21,v28,v22,v23,v24) v2;bif(v2==v0)then bif(!(r14.2 !=0))then bif(!(r14.1 !=v1))then bif(v2 !=v0)then bif(!(r13.2 !=r14.2))then bif(r13.1 !=r14.1)then some (.inr (.inr (((false,()),()),(),()))) else some (.inl ((((),()),(v0,()),(v1,()),((),()),((i64.wrap (v2+1)),()),()),((v3,v4,v5,(),v6,v7,v8,v9,v10,(),v11,v12,v13,()),(v14,v15,v16,(),v17,v18,v19,v20,v21,(),v22,v23,v24,()),()),(v25,v26,v27,v28,()))) else some (.inr (.inr (((false,()),()),(),()))) else some (.inl ((((),()),(v0,()),(v1,()),((),()),((i64.wrap (v2+1)),()),()),((v3,v4,v5,(),v6,v7,v8,v9,v10,(),v11,v12,v13,()),(v14,v15,v16,(),v17,v18,v19,v20,v21,(),v22,v23,v24,()),()),(v25,v26,v27,v28,()))) else some (.inr (.inr (((false,()),()),(),()))) else some (.inr (.inr (((false,()),()),(),()))) else bif(v2 !=v0)then bif(!(r13.2 !=r14.2))then bif(r13.1 !=r14.1)then some (.inr (.inr (((false,()),()),(),()))) else some (.inl ((((),()),(v0,()),(v1,()),((),()),((i64.wrap (v2+1)),()),()),((v3,v4,v5,(),v6,v7,v8,v9,v10,(),v11,v12,v13,()),(v14,v15,v16,(),v17,v18,v19,v20,v21,(),v22,v23,v24,()),()),(v25,v26,v27,v28,()))) else some (.inr (.inr (((false,()),()),(),()))) else some (.inl ((((),()),(v0,()),(v1,()),((),()),((i64.wrap (v2+1)),()),()),((v3,v4,v5,(),v6,v7,v8,v9,v10,(),v11,v12,v13,()),(v14,v15,v16,(),v17,v18,v19,v20,v21,(),v22,v23,v24,()),()),(v25,v26,v27,v28,()))) else some (.inr (.inl ((((),()),((),()),()),((v3,v4,v5,(),v6,v7,v8,v9,v10,(),v11,v12,v13,()),(v14,v15,v16,(),v17,v18,v19,v20,v21,(),v22,v23,v24,()),()),(v25,v26,v27,v28,()))))
def yaX (x:(yaP).X):=ykk x.1.2.1.1 x.1.2.2.1.1 x.1.2.2.2.2.1.1 x.2.1.1.1 x.2.1.1.2.1 x.2.1.1.2.2.1 x.2.1.1.2.2.2.2.1 x.2.1.1.2.2.2.2.2.1 x.2.1.1.2.2.2.2.2.2.1 x.2.1.1.2.2.2.2.2.2.2.1 x.2.1.1.2.2.2.2.2.2.2.2.1 x.2.1.1.2.2.2.2.2.2.2.2.2.2.1 x.2.1.1.2.2.2.2.2.2.2.2.2.2.2.1 x.2.1.1.2.2.2.2.2.2.2.2.2.2.2.2.1 x.2.1.2.1.1 x.2.1.2.1.2.1 x.2.1.2.1.2.2.1 x.2.1.2.1.2.2.2.2.1 x.2.1.2.1.2.2.2.2.2.1 x.2.1.2.1.2.2.2.2.2.2.1 x.2.1.2.1.2.2.2.2.2.2.2.1 x.2.1.2.1.2.2.2.2.2.2.2.2.1 x.2.1.2.1.2.2.2.2.2.2.2.2.2.2.1 x.2.1.2.1.2.2.2.2.2.2.2.2.2.2.2.1 x.2.1.2.1.2.2.2.2.2.2.2.2.2.2.2.2.1 x.2.2.1 x.2.2.2.1 x.2.2.2.2.1 x.2.2.2.2.2.1
def yr7 (x:(ydD).X):(yaP).X:=((((),()),(x.1.2.1.1,()),(x.1.2.2.1.1,()),((),()),(0,()),()),((x.2.1.1.1,x.2.1.1.2.1,x.2.1.1.2.2.1,(),x.2.1.1.2.2.2.2.1,x.2.1.1.2.2.2.2.2.1,x.2.1.1.2.2.2.2.2.2.1,x.2.1.1.2.2.2.2.2.2.2.1,x.2.1.1.2.2.2.2.2.2.2.2.1,(),x.2.1.1.2.2.2.2.2.2.2.2.2.2.1,x.2.1.1.2.2.2.2.2.2.2.2.2.2.2.1,x.2.1.1.2.2.2.2.2.2.2.2.2.2.2.2.1,()),(x.2.1.2.1.1,x.2.1.2.1.2.1,x.2.1.2.1.2.2.1,(),x.2.1.2.1.2.2.2.2.1,x.2.1.2.1.2.2.2.2.2.1,x.2.1.2.1.2.2.2.2.2.2.1,x.2.1.2.1.2.2.2.2.2.2.2.1,x.2.1.2.1.2.2.2.2.2.2.2.2.1,(),x.2.1.2.1.2.2.2.2.2.2.2.2.2.2.1,x.2.1.2.1.2.2.2.2.2.2.2.2.2.2.2.1,x.2.1.2.1.2.2.2.2.2.2.2.2.2.2.2.2.1,()),()),(x.2.2.1,x.2.2.2.1,x.2.2.2.2.1,x.2.2.2.2.2.1,()))
def ytK:Code:=(zd7 yme 64 4084).getD .skip
theorem yHf:zd7 yme 64 1021=some (.block 0 (.loop ytK)):=by kernel_rfl
theorem yHS (x:(yaP).X):zhu ⟨ysG,144,yzU⟩ 0 ytK 4084 yaP ydz ygd x=yaX x:=by kernel_rfl
def ysb (x:(ydD).X):Nat:=18446744073709551616
def yf9 (x:(ydD).X):Option ((ydz).X ⊕ (ygd).X):=zF yaX (ysb x) (yr7 x)
def ysi:Seg:=⟨ydD,ydz,ygd,yf9⟩
def yLk:Nat→Option Seg:=fun q=>bif Nat.beq q 1021 then some ysi else yzU q
theorem yJG:FrOk prog ⟨ysG,144,yLk⟩ yme:=(yJF).loop (sg:=ysi) yaP yr7 (by decide) yHf yaX ysb (by decide) (fun _=>rfl) (fun x r _ h=>h) yHS
abbrev ymu:List Par:= [.kp tYs .fz]
abbrev ytt:List OT:= [⟨false,tB,.fz⟩]
def ypH (a0:List Int):Option (zaY ytt×zak ymu) :=let r1:=yBe a0;bif r1 then some ((true,()),()) else bnd (yg9 a0) fun r2 =>bnd (ylC a0 2) fun r3 =>let r4:=yd5 r2.1.1.2.1;bif(r4 !=0)then bnd (ylC a0 3) fun r5 =>let r6:=yix r2.1.1 (r3.1.1.tmod r4) (i64.wrap (r5.1.1*250));bif(r6.2 !=0)then let r7:=yaG r2.1.1 (r3.1.1.tmod r4);bif(r6.2==5)then bif(r7.2==5)then bnd (yg5 r6.1 r2.1.1) fun r8 =>some ((r8.1.1,()),()) else some ((false,()),()) else some ((false,()),()) else zkt (yf9 ((((),()),((r3.1.1.tmod r4),()),((i64.wrap (r5.1.1*250)),()),((),()),((),()),()),((r2.1.1.1,r2.1.1.2.1.1,r2.1.1.2.1.2,(),r2.1.1.2.2.2.1,r2.1.1.2.2.2.2.1,r2.1.1.2.2.2.2.2.1,r2.1.1.2.2.2.2.2.2.1,r2.1.1.2.2.2.2.2.2.2.1,(),r2.1.1.2.2.2.2.2.2.2.2.2.1,r2.1.1.2.2.2.2.2.2.2.2.2.2.1,r2.1.1.2.2.2.2.2.2.2.2.2.2.2,()),(r6.1.1,r6.1.2.1.1,r6.1.2.1.2,(),r6.1.2.2.2.1,r6.1.2.2.2.2.1,r6.1.2.2.2.2.2.1,r6.1.2.2.2.2.2.2.1,r6.1.2.2.2.2.2.2.2.1,(),r6.1.2.2.2.2.2.2.2.2.2.1,r6.1.2.2.2.2.2.2.2.2.2.2.1,r6.1.2.2.2.2.2.2.2.2.2.2.2,()),()),(r2.1.1.2.2.1,r2.1.1.2.2.2.2.2.2.2.2.1,r6.1.2.2.1,r6.1.2.2.2.2.2.2.2.2.1,()))) (fun y14 =>let r16:=yiu (y14.2.1.2.1.1,(y14.2.1.2.1.2.1,y14.2.1.2.1.2.2.1),y14.2.2.2.2.1,y14.2.1.2.1.2.2.2.2.1,y14.2.1.2.1.2.2.2.2.2.1,y14.2.1.2.1.2.2.2.2.2.2.1,y14.2.1.2.1.2.2.2.2.2.2.2.1,y14.2.1.2.1.2.2.2.2.2.2.2.2.1,y14.2.2.2.2.2.1,y14.2.1.2.1.2.2.2.2.2.2.2.2.2.2.1,y14.2.1.2.1.2.2.2.2.2.2.2.2.2.2.2.1,y14.2.1.2.1.2.2.2.2.2.2.2.2.2.2.2.2.1);bnd (ydQ y14.2.2.2.2.1 y14.2.2.1) fun r17 =>bif r17.1.1 then bif(r16.2==0)then let r18:=ynJ r16.1;bif r18 then let r19:=yjU r16.1;let r20:=yb8 r16.1;let r21:=yau r19 r20;bif r21 then let r22:=yp6 r16.1;bif r22 then let r23:=yb8 (y14.2.1.2.1.1,(y14.2.1.2.1.2.1,y14.2.1.2.1.2.2.1),y14.2.2.2.2.1,y14.2.1.2.1.2.2.2.2.1,y14.2.1.2.1.2.2.2.2.2.1,y14.2.1.2.1.2.2.2.2.2.2.1,y14.2.1.2.1.2.2.2.2.2.2.2.1,y14.2.1.2.1.2.2.2.2.2.2.2.2.1,y14.2.2.2.2.2.1,y14.2.1.2.1.2.2.2.2.2.2.2.2.2.2.1,y14.2.1.2.1.2.2.2.2.2.2.2.2.2.2.2.1,y14.2.1.2.1.2.2.2.2.2.2.2.2.2.2.2.2.1);bif(!((r23.length:Int)==0))then let r24:=yb8 r16.1;let r25:=yb8 (y14.2.1.2.1.1,(y14.2.1.2.1.2.1,y14.2.1.2.1.2.2.1),y14.2.2.2.2.1,y14.2.1.2.1.2.2.2.2.1,y14.2.1.2.1.2.2.2.2.2.1,y14.2.1.2.1.2.2.2.2.2.2.1,y14.2.1.2.1.2.2.2.2.2.2.2.1,y14.2.1.2.1.2.2.2.2.2.2.2.2.1,y14.2.2.2.2.2.1,y14.2.1.2.1.2.2.2.2.2.2.2.2.2.2.1,y14.2.1.2.1.2.2.2.2.2.2.2.2.2.2.2.1,y14.2.1.2.1.2.2.2.2.2.2.2.2.2.2.2.2.1);let r26:=yau r24 r25;some ((r26,()),()) else some ((true,()),()) else some ((false,()),()) else some ((false,()),()) else some ((false,()),()) else some ((false,()),()) else some ((false,()),())) (fun y14 =>some ((y14.1.1.1,()),())) else none
theorem yMY:ConOk prog 12 ⟨ymu,ytt,fun x=>ypH x.1⟩:=zkI (yJG) func12 ntmps12.symm fun x=>by kernel_rfl
def yum (a0:List Int):Bool:=true
theorem y16 {a:dA} {b n:Int} (h:(ym a (yp a.2.1 b)).2=false):ybB a b n=(5,a):=by
 unfold ybB;rw[h]; rfl
theorem yN9 {K:Int} {V:Int→Int→Int} {a:dA} (h:Ix K V a):a.2.2.2.2.2.2.2.2.1.length≤1000:=Nat.le_trans (yis h.xc.2.2.1 h.xc.1) (by omega)
theorem yPM (a0:List Int) (hk:zjx ymu (a0,())):ypH a0=(fun n=>some ((n,()),())) (yum a0):=by
 have hb:a0.length≤140737488355328:=by have:a0.length*1≤2^47:=hk.1.1; omega
 have hx:=y1b hk.1;obtain⟨a,V,e,hw,hi⟩:=y1f a0 hb;have hg:=yj.1 hi.xc.1;obtain⟨e2,r0,r1⟩:=y21 (i:=2) hb hx (by omega) (by omega);obtain⟨e3,q0,q1⟩:=y21 (i:=3) hb hx (by omega) (by omega)
 have hB:2≤yd a.2.1:=by
  rw[ykg hi.xc.1];have:1*2≤a.2.1.2*(a.2.1.1-1):=Int.mul_le_mul (by omega) (by omega) (by omega) (by omega);omega
 have hB2:=(yoP a.2.1).2;have b0:0≤(atV a0 2).tmod (yd a.2.1):=Int.tmod_nonneg _ r0;have b1:(atV a0 2).tmod (yd a.2.1)<yd a.2.1:=Int.tmod_lt_of_pos _ (by omega);obtain⟨b,hbe⟩: ∃b,b=(atV a0 2).tmod (yd a.2.1):=⟨_,rfl⟩;obtain⟨n,hne⟩: ∃n,n=atV a0 3*250:=⟨_,rfl⟩;rw[← hbe]at b0 b1
 have hok:yax a.2.1 b=true:=by
  unfold yax;rw[zk2 b0,zk2 (show b≤yd a.2.1-1 by omega)]; rfl
 have hn:isW n=true:=by
  unfold isW;rw[zk2 (show 0≤n by omega),zk2 (show n≤65535 by omega)]; rfl
 have hcode:yb4 a b=0:=by rw[ywv hi,hok]; rfl
 have hset:yUs a b n=((ybB a b n).2,(ybB a b n).1):=by
  unfold yUs;rw[hcode,hn]; rfl
 unfold ypH yum;simp only[e,e2,e3,zkH,yjJ,← hbe,← hne,wq (n) (by omega) (by omega),yix,yaG,hset];cases yBe a0
 ·rw[show(yd a.2.1 !=0)=true from bne_iff_ne.2 (by omega)]
  simp only[cond_false,cond_true];cases hs:(ym a (yp a.2.1 b)).2
  ·have hgb:yS a b=(0,5):=by
    unfold yS;rw[hcode,hs]; rfl
   rw[y16 hs,hgb,y2O _ (yZY (yZ2 (yp4 hi)) (by have:=yN9 hi; omega))]; rfl
  ·obtain⟨x1,x2,x3,x4,x5,x6,x7⟩:=y3q hw hi hok hn hs
   rw[x1];generalize (ybB a b n).2=x at x2 x3 x4 x5 x6 x7;obtain⟨f1,⟨W,f2⟩,f3,f4,f5⟩:=yZM x.2.2.2.2.2.2.2.2.1.length 0 480 V x x2 x3 rfl (by have:=yN9 x3; omega)
   have hfl:yHi x=((ykG x).2,(ykG x).1):=by
    unfold yHi;rw[yp4 x3,show ya x=false from x2.2.2.1.1]; rfl
   have hl:y07 x:=yZY (yZ2 (yp4 x3)) (by have:=yN9 x3; omega)
   have l1:yf9 (ysc b n a x)=some (.inl (yGG a x)) :=
    zkL (step:=yaX) (fun i=>yjO b n i a x) (yd a.2.1).toNat _ (fun i hi2=>by
     simp only[yaX,yjO,ykk,yjJ,zkX,zky (show(i:Int)<yd a.2.1 by omega),cond_true,wq ((i:Int)+1) (by omega) (by omega),Int.natCast_add,Int.natCast_one,Int.toNat_natCast,yaG];by_cases hib:(i:Int)=b
     ·rw[hib,beq_self_eq_true,bne_self_eq_false,x6]
      simp only[bne_self_eq_false,cond_true,cond_false,Bool.not_false]
     ·rw[beq_eq_false_iff_ne.2 hib,bne_iff_ne.2 hib,x7 _ hib]
      simp only[bne_self_eq_false,cond_true,cond_false,Bool.not_false]) (by simp only[yaX,yjO,ykk,yjJ,zkX,zk3 (show yd a.2.1≤(((yd a.2.1).toNat:Nat):Int)by omega),cond_false]) 18446744073709551616 (by omega)
   have f6:ygU (ykG x).2=ygU x:=by
    have h:=y3G x3 f2 f4 f5;unfold ygU;rw[show(ykG x).2.2.1=x.2.1 from f4];have h: ∀i,yS (ykG x).2 i=yS x i:=h;simp only[h]
   have f7:yr3 (ykG x).2=ygU (ykG x).2:=yVl f2 f3;have f8:yRR (ykG x).2=true:=y3g f2;have f9:(ykG x).1=0:=f1
   have f10:ynJ (ykG x).2=true:=by
    unfold ynJ;rw[show(ykG x).2.2.2.2.2.2.2.2.2.1= []from f3]; rfl
   show zkt (yf9 (ysc b n a x)) _ _=_;rw[l1,zkN];simp only[zkX,← x5,yXm _ hl.1 hl.2.1,zkH,yiu,hfl,f9,f10,yjU,yb8,f7,f6,yp6,f8,yly,beq_self_eq_true,cond_true,Bool.not_true];cases(!((ygU x).length:Int)==0)<;>rfl
 ·rfl
def yLH:Con:=⟨ymu,ytt,fun x=>(fun n=>some ((n,()),())) (yum x.1)⟩
theorem yQx:ConOk prog 12 yLH:=(yMY).mono (fun x r hk h=>(yPM x.1 hk).trans h)
end
end Go.Tf
