/- Functions of the program, and what they come to. -/
import Derived.Test.YtgmadfpnljibhaaGreatStripesF18
namespace Go.Tf
noncomputable section
open Go.Proofs
set_option synthInstance.maxHeartbeats 400000
set_option synthInstance.maxSize 10000
set_option linter.unusedVariables false
set_option linter.unusedSimpArgs false
set_option maxRecDepth 100000
section
def yAR:Code:=(Tryz.f111.body).getD .skip
def yBe:Env:=zki TT [(101,yzN),(202,yj3)] []
theorem yIK:FrOk Tryz.prog ⟨yBe,15,fun _=>none⟩ yAR:=zkp yb yd ⟨yQO,ytv,trivial⟩
def yJz:Nat→Option Seg:=fun _=>none
abbrev ycf:List Par:= [.pt tA (.pr .fz (.pr (.pr .fz .fz) (.pr (.ow (.pr (.ow (.ow .fz)) (.pr (.ow (.pr .fz (.ow .fz))) (.pr .fz (.ow .fz))))) (.pr .fz (.pr .fz (.pr .fz (.pr .fz (.pr .fz (.pr (.ow (.pr .fz (.ow .fz))) (.pr .fz (.pr .fz .fz)))))))))))]
abbrev yhp:List OT:= [⟨false,tB,.fz⟩]
def yjs (a0:dA):Option (ResD yhp×MutD ycf) :=
 bnd (yfx a0) fun r1 =>
 bif (!r1.1.1) then
 some ((false,()),(r1.2.1,()))
 else
 bnd (yjn (r1.2.1.1,r1.2.1.2.1,r1.2.1.2.2.1,r1.2.1.2.2.2.1,r1.2.1.2.2.2.2.1,r1.2.1.2.2.2.2.2.1,r1.2.1.2.2.2.2.2.1,r1.2.1.2.2.2.2.2.2.2)) fun r2 =>
 some ((r2.1.1,()),(r2.2.1,()))
theorem yOz (x:InD ycf):zjH ⟨yBe,15,yJz⟩ Tryz.f111.results.toList yAR ycf yhp x=yjs x.1:=by kernel_rfl
theorem yK3:ConOk Tryz.prog 111 ⟨ycf,yhp,fun x=>yjs x.1⟩:=zkh (yIK) Tryz.func111 (by kernel_rfl) (by kernel_rfl) Tryz.ntmps111.symm (by decide) (fun x r h=>(yOz x).trans h)
def yhx (a0:dA):Bool×dA:=(!(downA (checkA a0)),checkA a0)
def ymg (a0:dA):Bool:= !(downA a0)
theorem yM8 (a0:dA) (hk:zi9 ycf (a0,())) (hq:ymg a0=true):yjs a0=(fun n=>some ((n.1,()),(n.2,()))) (yhx a0):=by
 unfold yjs yhx checkA
 rw [ytx a0 hq]
 simp only [zky,yjf]
 cases hd:downA (yn a0)
 ·have hm:yjn (yaq (yn a0))=some ((!(downA (markA (yaq (yn a0)))),()),(markA (yaq (yn a0)),())):=yQ0 (yaq (yn a0)) (by unfold yjq; rw [show downA (yaq (yn a0))=downA (yn a0) from rfl,hd]; rfl)
  exact (congrArg (fun z=>bnd z _) hm).trans rfl
 ·simp only [Bool.not_true,Bool.not_false,cond_true]
  rw [hd]; rfl
def ymf (a0:dA):Option (ResD yhp×MutD ycf):=bif ymg a0 then (fun n=>some ((n.1,()),(n.2,()))) (yhx a0) else none
theorem yNB (a0:dA) (h:ymg a0=true):ymf a0=(fun n=>some ((n.1,()),(n.2,()))) (yhx a0):=by unfold ymf; rw [h]; rfl
def yxQ:Con:=⟨ycf,yhp,fun x=>ymf x.1⟩
theorem yNx:ConOk Tryz.prog 111 yxQ:=(yK3).mono (fun x r hk h=>zkW h (fun hq=>yM8 x.1 hk hq))
end
section
def yHC:Code:=(Tryz.f157.body).getD .skip
def yH8:Env:=zki TT [] []
theorem yON:FrOk Tryz.prog ⟨yH8,8,fun _=>none⟩ yHC:=zkp yb yd trivial
def yRm:Nat→Option Seg:=fun _=>none
abbrev ymM:List Par:= [.rd tI]
abbrev ysj:List OT:= [⟨false,tI,.fz⟩]
def yvR (a0:Int):Option (ResD ysj×MutD ymM) :=
 bif (ltb a0 0) then
 some (((-1),()),())
 else
 some (((IntKind.i64.wrap (2+(a0.tmod 4))),()),())
theorem yXV (x:InD ymM):zjH ⟨yH8,8,yRm⟩ Tryz.f157.results.toList yHC ymM ysj x=yvR x.1:=by kernel_rfl
theorem yTL:ConOk Tryz.prog 157 ⟨ymM,ysj,fun x=>yvR x.1⟩:=zkh (yON) Tryz.func157 (by kernel_rfl) (by kernel_rfl) Tryz.ntmps157.symm (by decide) (fun x r h=>(yXV x).trans h)
def ysL (a0:Int):Int :=
 bif (ltb a0 0) then
 (-1)
 else
 (IntKind.i64.wrap (2+(a0.tmod 4)))
def yEb:Con:=⟨ymM,ysj,fun x=>(fun n=>some ((n,()),())) (ysL x.1)⟩
theorem yVR (a0:Int):yvR a0=(fun n=>some ((n,()),())) (ysL a0):=zkS (p:=fun (n:Int)=>((n,()),())) (zkx (p:=fun (n:Int)=>((n,()),())) rfl rfl)
theorem yWJ:ConOk Tryz.prog 157 yEb:=(yTL).mono (fun x r _ h=>(yVR x.1).trans h)
theorem yZP (q:Int):ysL q=yM q:=rfl
end
section
def yJp:Code:=(Tryz.f237.body).getD .skip
def yJD:Env:=zki TT [(126,yJ),(228,yl7)] []
theorem ySx:FrOk Tryz.prog ⟨yJD,22,fun _=>none⟩ yJp:=zkp yb yd ⟨yT,yvN,trivial⟩
def yUZ:Nat→Option Seg:=fun _=>none
abbrev ypm:List Par:= [.rd tN]
abbrev yuR:List OT:= [⟨false,tB,.fz⟩]
def yxb (a0:dN):Option (ResD yuR×MutD ypm) :=
 let r1:=yf a0.1 0 60000
 bif r1 then
 let r2:=yf a0.2.1 0 7
 bif r2 then
 let r3:=yf (a0.2.2.length:Int) 2 4
 bif r3 then
 let r4:=yac a0.2.2
 some ((r4,()),())
 else
 some ((false,()),())
 else
 some ((false,()),())
 else
 some ((false,()),())
theorem yZr (x:InD ypm):zjH ⟨yJD,22,yUZ⟩ Tryz.f237.results.toList yJp ypm yuR x=yxb x.1:=by kernel_rfl
theorem yWn:ConOk Tryz.prog 237 ⟨ypm,yuR,fun x=>yxb x.1⟩:=zkh (ySx) Tryz.func237 (by kernel_rfl) (by kernel_rfl) Tryz.ntmps237.symm (by decide) (fun x r h=>(yZr x).trans h)
def ypR (a0:dN):Bool :=
 let r1:=yf a0.1 0 60000
 bif r1 then
 let r2:=yf a0.2.1 0 7
 bif r2 then
 let r3:=yf (a0.2.2.length:Int) 2 4
 bif r3 then
 let r4:=yac a0.2.2
 r4
 else
 false
 else
 false
 else
 false
def yF4:Con:=⟨ypm,yuR,fun x=>(fun n=>some ((n,()),())) (ypR x.1)⟩
theorem yYy (a0:dN):yxb a0=(fun n=>some ((n,()),())) (ypR a0):=zkS (p:=fun (n:Bool)=>((n,()),())) (zkx (p:=fun (n:Bool)=>((n,()),())) (zkx (p:=fun (n:Bool)=>((n,()),())) (zkx (p:=fun (n:Bool)=>((n,()),())) rfl rfl) rfl) rfl)
theorem yYU:ConOk Tryz.prog 237 yF4:=(yWn).mono (fun x r _ h=>(yYy x.1).trans h)
theorem y0y (r:dN):ypR r=ybg r:=by
 unfold ypR ybg
 simp only [yai,yvB,yh9]
end
section
def yHB:Code:=(Tryz.f240.body).getD .skip
def yH7:Env:=zki TT [(237,yF4)] []
theorem yOM:FrOk Tryz.prog ⟨yH7,17,fun _=>none⟩ yHB:=zkp yb yd ⟨yYU,trivial⟩
def yRl:Nat→Option Seg:=fun _=>none
abbrev yhS:List Par:= [.rd tN]
abbrev ysi:List OT:= [⟨false,tL,(.ow .fz)⟩]
def yoK (a0:dN):Option (ResD ysi×MutD yhS) :=
 let r1:=ypR a0
 bif (!r1) then
 some (([],()),())
 else
 bif (zj4 ([21322,a0.1,a0.2.1,(a0.2.2.length:Int)]:List Int).length a0.2.2.length 8) then
 some (((([21322,a0.1,a0.2.1,(a0.2.2.length:Int)]:List Int)++a0.2.2),()),())
 else none
theorem yXU (x:InD yhS):zjH ⟨yH7,17,yRl⟩ Tryz.f240.results.toList yHB yhS ysi x=yoK x.1:=by kernel_rfl
theorem yTK:ConOk Tryz.prog 240 ⟨yhS,ysi,fun x=>yoK x.1⟩:=zkh (yOM) Tryz.func240 (by kernel_rfl) (by kernel_rfl) Tryz.ntmps240.symm (by decide) (fun x r h=>(yXU x).trans h)
def ynf (a0:dN):List Int:=ypW a0
theorem yVQ (a0:dN) (hk:zi9 yhS (a0,())):yoK a0=(fun n=>some ((n,()),())) (ynf a0):=by
 unfold yoK ynf ypW
 simp only [y0y]
 cases hr:ybg a0
 ·rfl
 ·have:=(yXD.1 hr).2.2.1
  rw [zkw.2 (show (([21322,a0.1,a0.2.1,(a0.2.2.length:Int)]:List Int).length+a0.2.2.length) * 8≤140737488355328 by simp only [List.length_cons,List.length_nil]; omega)]; rfl
def yEa:Con:=⟨yhS,ysi,fun x=>(fun n=>some ((n,()),())) (ynf x.1)⟩
theorem yWI:ConOk Tryz.prog 240 yEa:=(yTK).mono (fun x r hk h=>(yVQ x.1 hk).trans h)
end
section
def yfL:Code:=(Tryz.f164.body).getD .skip
def yjK:Env:=zki TT [(107,yje),(157,yEb),(202,yj3),(240,yEa)] []
theorem yGW:FrOk Tryz.prog ⟨yjK,26,fun _=>none⟩ yfL:=zkp yb yd ⟨yrz,yWJ,ytv,yWI,trivial⟩
def ywd:Nat→Option Seg:=fun _=>none
def yaz:Shape:=⟨[(0,false,[.ptr 1000000000 0]),(3,false,[.ptr 0 0]),(10,false,[.int .i64]),(11,false,[.int .i64])],[(0,[.int .i64,.int .i64,.br tI]),(1000000000,[.int .i64,.int .i64,.int .i64,.at 800000000,.int .i64,.int .i64,.int .i64,.int .i64,.int .i64,.at 800000001,.int .i64,.bool,.bool])],[(800000000,tM,(.pr (.ow (.ow .fz)) (.pr (.ow (.pr .fz (.ow .fz))) (.pr .fz (.ow .fz))))),(800000001,tW,(.pr .fz (.ow .fz)))]⟩
def ydn:Shape:=⟨[(0,false,[.ptr 1000000000 0]),(3,false,[.ptr 0 0]),(10,false,[.int .i64]),(11,false,[.ci .i64 0])],[(0,[.int .i64,.int .i64,.br tI]),(1000000000,[.int .i64,.int .i64,.int .i64,.at 800000000,.int .i64,.int .i64,.int .i64,.int .i64,.int .i64,.at 800000001,.int .i64,.bool,.bool])],[(800000000,tM,(.pr (.ow (.ow .fz)) (.pr (.ow (.pr .fz (.ow .fz))) (.pr .fz (.ow .fz))))),(800000001,tW,(.pr .fz (.ow .fz)))]⟩
def ydk:Shape:=⟨[(0,false,[.ptr 1000000000 0])],[(1000000000,[.int .i64,.int .i64,.int .i64,.at 800000000,.int .i64,.int .i64,.int .i64,.int .i64,.int .i64,.at 800000001,.int .i64,.bool,.bool])],[(800000000,tM,(.pr (.ow (.ow .fz)) (.pr (.ow (.pr .fz (.ow .fz))) (.pr .fz (.ow .fz))))),(800000001,tW,(.pr .fz (.ow .fz)))]⟩
def ydq:Shape:=⟨[(4,false,[.bool])],[(1000000000,[.int .i64,.int .i64,.int .i64,.at 800000000,.int .i64,.int .i64,.int .i64,.int .i64,.int .i64,.at 800000001,.int .i64,.bool,.bool])],[(800000000,tM,(.pr (.ow (.ow .fz)) (.pr (.ow (.pr .fz (.ow .fz))) (.pr .fz (.ow .fz))))),(800000001,tW,(.pr .fz (.ow .fz)))]⟩
abbrev ylf (v0 v1:Int) (v2:dN) (v3:dA):(yaz).X:=((((),()),((),()),(v0,()),(v1,()),()),((v2.1,v2.2.1,v2.2.2,()),(v3.1,v3.2.1.1,v3.2.1.2,(),v3.2.2.2.1,v3.2.2.2.2.1,v3.2.2.2.2.2.1,v3.2.2.2.2.2.2.1,v3.2.2.2.2.2.2.2.1,(),v3.2.2.2.2.2.2.2.2.2.1,v3.2.2.2.2.2.2.2.2.2.2.1,v3.2.2.2.2.2.2.2.2.2.2.2,()),()),(v3.2.2.1,v3.2.2.2.2.2.2.2.2.1,()))
abbrev yGr (v0:Int) (v1:dN) (v2:dA):(ydn).X:=((((),()),((),()),(v0,()),((),()),()),((v1.1,v1.2.1,v1.2.2,()),(v2.1,v2.2.1.1,v2.2.1.2,(),v2.2.2.2.1,v2.2.2.2.2.1,v2.2.2.2.2.2.1,v2.2.2.2.2.2.2.1,v2.2.2.2.2.2.2.2.1,(),v2.2.2.2.2.2.2.2.2.2.1,v2.2.2.2.2.2.2.2.2.2.2.1,v2.2.2.2.2.2.2.2.2.2.2.2,()),()),(v2.2.2.1,v2.2.2.2.2.2.2.2.2.1,()))
abbrev yli (v0:dA):(ydk).X:=((((),()),()),((v0.1,v0.2.1.1,v0.2.1.2,(),v0.2.2.2.1,v0.2.2.2.2.1,v0.2.2.2.2.2.1,v0.2.2.2.2.2.2.1,v0.2.2.2.2.2.2.2.1,(),v0.2.2.2.2.2.2.2.2.2.1,v0.2.2.2.2.2.2.2.2.2.2.1,v0.2.2.2.2.2.2.2.2.2.2.2,()),()),(v0.2.2.1,v0.2.2.2.2.2.2.2.2.1,()))
abbrev ylk (v0:Bool) (v1:dA):(ydq).X:=(((v0,()),()),((v1.1,v1.2.1.1,v1.2.1.2,(),v1.2.2.2.1,v1.2.2.2.2.1,v1.2.2.2.2.2.1,v1.2.2.2.2.2.2.1,v1.2.2.2.2.2.2.2.1,(),v1.2.2.2.2.2.2.2.2.2.1,v1.2.2.2.2.2.2.2.2.2.2.1,v1.2.2.2.2.2.2.2.2.2.2.2,()),()),(v1.2.2.1,v1.2.2.2.2.2.2.2.2.1,()))
def ylF (v0 v1 v2 v3:Int) (v4:List Int) (v5 v6 v7 v8 v9 v10 v11 v12 v13:Int) (v14 v15:Bool) (v16:List dM) (v17:List dW):Option ((yaz).X ⊕ ((ydk).X ⊕ (ydq).X)) :=
 bif (ltb v1 v0) then
 let r4:=ysL v2
 let r5:=ynf (v2,v3,v4)
 bnd (yeA (v5,(v6,v7),v16,v8,v9,v10,v11,v12,v17,v13,v14,v15) v1 r4 r5) fun r6 =>
 bif (!r6.1.1) then
 some (.inr (.inr (((false,()),()),((r6.2.1.1,r6.2.1.2.1.1,r6.2.1.2.1.2,(),r6.2.1.2.2.2.1,r6.2.1.2.2.2.2.1,r6.2.1.2.2.2.2.2.1,r6.2.1.2.2.2.2.2.2.1,r6.2.1.2.2.2.2.2.2.2.1,(),r6.2.1.2.2.2.2.2.2.2.2.2.1,r6.2.1.2.2.2.2.2.2.2.2.2.2.1,r6.2.1.2.2.2.2.2.2.2.2.2.2.2,()),()),(r6.2.1.2.2.1,r6.2.1.2.2.2.2.2.2.2.2.1,()))))
 else
 some (.inl ((((),()),((),()),(v0,()),((IntKind.i64.wrap (v1+1)),()),()),((v2,v3,v4,()),(r6.2.1.1,r6.2.1.2.1.1,r6.2.1.2.1.2,(),r6.2.1.2.2.2.1,r6.2.1.2.2.2.2.1,r6.2.1.2.2.2.2.2.1,r6.2.1.2.2.2.2.2.2.1,r6.2.1.2.2.2.2.2.2.2.1,(),r6.2.1.2.2.2.2.2.2.2.2.2.1,r6.2.1.2.2.2.2.2.2.2.2.2.2.1,r6.2.1.2.2.2.2.2.2.2.2.2.2.2,()),()),(r6.2.1.2.2.1,r6.2.1.2.2.2.2.2.2.2.2.1,())))
 else
 some (.inr (.inl ((((),()),()),((v5,v6,v7,(),v8,v9,v10,v11,v12,(),v13,v14,v15,()),()),(v16,v17,()))))
def yaK (x:(yaz).X):=ylF x.1.2.2.1.1 x.1.2.2.2.1.1 x.2.1.1.1 x.2.1.1.2.1 x.2.1.1.2.2.1 x.2.1.2.1.1 x.2.1.2.1.2.1 x.2.1.2.1.2.2.1 x.2.1.2.1.2.2.2.2.1 x.2.1.2.1.2.2.2.2.2.1 x.2.1.2.1.2.2.2.2.2.2.1 x.2.1.2.1.2.2.2.2.2.2.2.1 x.2.1.2.1.2.2.2.2.2.2.2.2.1 x.2.1.2.1.2.2.2.2.2.2.2.2.2.2.1 x.2.1.2.1.2.2.2.2.2.2.2.2.2.2.2.1 x.2.1.2.1.2.2.2.2.2.2.2.2.2.2.2.2.1 x.2.2.1 x.2.2.2.1
def yt1 (x:(ydn).X):(yaz).X:=((((),()),((),()),(x.1.2.2.1.1,()),(0,()),()),((x.2.1.1.1,x.2.1.1.2.1,x.2.1.1.2.2.1,()),(x.2.1.2.1.1,x.2.1.2.1.2.1,x.2.1.2.1.2.2.1,(),x.2.1.2.1.2.2.2.2.1,x.2.1.2.1.2.2.2.2.2.1,x.2.1.2.1.2.2.2.2.2.2.1,x.2.1.2.1.2.2.2.2.2.2.2.1,x.2.1.2.1.2.2.2.2.2.2.2.2.1,(),x.2.1.2.1.2.2.2.2.2.2.2.2.2.2.1,x.2.1.2.1.2.2.2.2.2.2.2.2.2.2.2.1,x.2.1.2.1.2.2.2.2.2.2.2.2.2.2.2.2.1,()),()),(x.2.2.1,x.2.2.2.1,()))
def yu7:Code:=(zdI yfL 64 52).getD .skip
theorem yGN:zdI yfL 64 13=some (.block 0 (.loop yu7)):=by kernel_rfl
theorem yHq (x:(yaz).X):zg7 ⟨yjK,26,ywd⟩ 0 yu7 52 yaz ydk ydq x=yaK x:=by kernel_rfl
def yt4 (x:(ydn).X):Nat:=18446744073709551616
def ylQ (x:(ydn).X):Option ((ydk).X ⊕ (ydq).X):=zr yaK (yt4 x) (yt1 x)
def yuc:Seg:=⟨ydn,ydk,ydq,ylQ⟩
def ywe:Nat→Option Seg:=fun q=>bif Nat.beq q 13 then some yuc else ywd q
theorem yGX:FrOk Tryz.prog ⟨yjK,26,ywe⟩ yfL:=(yGW).loop (sg:=yuc) yaz yt1 (by decide) yGN yaK yt4 (by decide) (fun _=>rfl) (fun x r _ h=>h) yHq
abbrev ybA:List Par:= [.pt tA (.pr .fz (.pr (.pr .fz .fz) (.pr (.ow (.pr (.ow (.ow .fz)) (.pr (.ow (.pr .fz (.ow .fz))) (.pr .fz (.ow .fz))))) (.pr .fz (.pr .fz (.pr .fz (.pr .fz (.pr .fz (.pr (.ow (.pr .fz (.ow .fz))) (.pr .fz (.pr .fz .fz))))))))))),.rd tN]
abbrev ygd:List OT:= [⟨false,tB,.fz⟩]
def yhK (a0:dA) (a1:dN):Option (ResD ygd×MutD ybA) :=
 zjw (ylQ ((((),()),((),()),((a0.2.2.1.length:Int),()),((),()),()),((a1.1,a1.2.1,a1.2.2,()),(a0.1,a0.2.1.1,a0.2.1.2,(),a0.2.2.2.1,a0.2.2.2.2.1,a0.2.2.2.2.2.1,a0.2.2.2.2.2.2.1,a0.2.2.2.2.2.2.2.1,(),a0.2.2.2.2.2.2.2.2.2.1,a0.2.2.2.2.2.2.2.2.2.2.1,a0.2.2.2.2.2.2.2.2.2.2.2,()),()),(a0.2.2.1,a0.2.2.2.2.2.2.2.2.1,()))) (fun y6 =>
 bnd (yfx (y6.2.1.1.1,(y6.2.1.1.2.1,y6.2.1.1.2.2.1),y6.2.2.1,y6.2.1.1.2.2.2.2.1,y6.2.1.1.2.2.2.2.2.1,y6.2.1.1.2.2.2.2.2.2.1,y6.2.1.1.2.2.2.2.2.2.2.1,y6.2.1.1.2.2.2.2.2.2.2.2.1,y6.2.2.2.1,y6.2.1.1.2.2.2.2.2.2.2.2.2.2.1,y6.2.1.1.2.2.2.2.2.2.2.2.2.2.2.1,y6.2.1.1.2.2.2.2.2.2.2.2.2.2.2.2.1)) fun r8 =>
 some ((r8.1.1,()),(r8.2.1,()))) (fun y6 =>
 some ((y6.1.1.1,()),((y6.2.1.1.1,(y6.2.1.1.2.1,y6.2.1.1.2.2.1),y6.2.2.1,y6.2.1.1.2.2.2.2.1,y6.2.1.1.2.2.2.2.2.1,y6.2.1.1.2.2.2.2.2.2.1,y6.2.1.1.2.2.2.2.2.2.2.1,y6.2.1.1.2.2.2.2.2.2.2.2.1,y6.2.2.2.1,y6.2.1.1.2.2.2.2.2.2.2.2.2.2.1,y6.2.1.1.2.2.2.2.2.2.2.2.2.2.2.1,y6.2.1.1.2.2.2.2.2.2.2.2.2.2.2.2.1),())))
theorem yMa (x:InD ybA):zjH ⟨yjK,26,ywe⟩ Tryz.f164.results.toList yfL ybA ygd x=yhK x.1 x.2.1:=by kernel_rfl
theorem yI9:ConOk Tryz.prog 164 ⟨ybA,ygd,fun x=>yhK x.1 x.2.1⟩:=zkh (yGX) Tryz.func164 (by kernel_rfl) (by kernel_rfl) Tryz.ntmps164.symm (by decide) (fun x r h=>(yMa x).trans h)
def ygi (a0:dA) (a1:dN):Bool×dA:=(!(downA (yF a0 a1)),yF a0 a1)
def ygl (a0:dA) (a1:dN):Bool:= !(downA a0)
theorem yKY (a0:dA) (a1:dN) (hk:zi9 ybA (a0,a1,())) (hq:ygl a0 a1=true):yhK a0 a1=(fun n=>some ((n.1,()),(n.2,()))) (ygi a0 a1):=by
 have hb:a0.2.2.1.length * 80≤2 ^ 47:=hk.1.2.2.1.1
 have hd0:downA a0=false:=by simpa [ygl] using hq
 have h1:ylQ (yGr a0.2.2.1.length a1 a0)=some (bif downA ((List.range a0.2.2.1.length).foldl (ybi a1) a0) then .inr (ylk false ((List.range a0.2.2.1.length).foldl (ybi a1) a0)) else .inl (yli ((List.range a0.2.2.1.length).foldl (ybi a1) a0))):=by
  have:=zkr (step:=yaK) a0.2.2.1.length (fun i s=>ylf a0.2.2.1.length i a1 s) (fun i s=>bif downA (ybi a1 s i) then (.inr (ybi a1 s i):dA ⊕ dA) else .inl (ybi a1 s i)) (fun _ s=>s.2.2.1.length=a0.2.2.1.length∧downA s=false) id
   (fun b=>bif downA b then .inr (ylk false b) else .inl (yli b)) (fun i s hi hs=>by
    constructor
    ·simp only [yaK,ylf,ylF,zjI (show (i:Int) < a0.2.2.1.length by omega),cond_true,wr (show -9223372036854775808≤(i:Int)+1 by omega) (by omega),Int.natCast_add,Int.natCast_one,Int.toNat_natCast,zkV,yZP,ynf]
     rw [yrA s i (yM a1.1) (ypW a1) (by unfold ycv; rw [zkO (by rw [hs.1]; exact hi),hs.2]; rfl)]
     simp only [zky,yct]
     rw [show ybo s i (yM a1.1) (ypW a1)=ybi a1 s i from rfl]
     cases hd:downA (ybi a1 s i)
     ·rfl
     ·simp only [hd,Bool.not_true,Bool.not_false,cond_true,ylk]
    ·intro s' h
     cases hd:downA (ybi a1 s i)
     ·rw [hd]at h
      cases h
      exact ⟨(ymv a1 s i).trans hs.1,hd⟩
     ·rw [hd]at h; cases h) (fun s hs=>by simp only [yaK,ylf,ylF,hs.2,zkm (Int.le_refl _),cond_false,id,yli]) a0 ⟨rfl,hd0⟩ 18446744073709551616 (by omega)
  rw [yCm (fun a i h=>yN3 a1 i h),← List.range_eq_range'] at this
  exact this
 unfold yhK ygi yF
 refine (congrArg (fun z=>zjw z _ _) h1).trans ?_
 cases hd:downA ((List.range a0.2.2.1.length).foldl (ybi a1) a0)
 ·simp only [cond_false,zkJ,zkV]
  rw [ytx _ (by unfold yfy; rw [hd]; rfl)]; rfl
 ·rw [yER hd]
  simp only [cond_true,zkK,zkV]
  rw [hd]; rfl
def ydC (a0:dA) (a1:dN):Option (ResD ygd×MutD ybA):=bif ygl a0 a1 then (fun n=>some ((n.1,()),(n.2,()))) (ygi a0 a1) else none
theorem yLh (a0:dA) (a1:dN) (h:ygl a0 a1=true):ydC a0 a1=(fun n=>some ((n.1,()),(n.2,()))) (ygi a0 a1):=by unfold ydC; rw [h]; rfl
def ywk:Con:=⟨ybA,ygd,fun x=>ydC x.1 x.2.1⟩
theorem yLb:ConOk Tryz.prog 164 ywk:=(yI9).mono (fun x r hk h=>zkW h (fun hq=>yKY x.1 x.2.1 hk hq))
end
section
def yC8:Code:=(Tryz.f231.body).getD .skip
def yDF:Env:=zki TT [(116,ycL)] []
theorem yKe:FrOk Tryz.prog ⟨yDF,17,fun _=>none⟩ yC8:=zkp yb yd ⟨ygk,trivial⟩
def yLL:Nat→Option Seg:=fun _=>none
abbrev yfg:List Par:= [.rd tG,.rd tI]
abbrev yn9:List OT:= [⟨false,tI,.fz⟩]
def ykd (a0:dG) (a1:Int):Option (ResD yn9×MutD yfg) :=
 let r1:=yag a0 a1
 bif (!r1) then
 some (((-1),()),())
 else
 bif (a0.1 !=0) then
 some (((IntKind.i64.wrap ((IntKind.i64.wrap (a0.1 - 1)) - (a1.tmod a0.1))),()),())
 else none
theorem yR8 (x:InD yfg):zjH ⟨yDF,17,yLL⟩ Tryz.f231.results.toList yC8 yfg yn9 x=ykd x.1 x.2.1:=by kernel_rfl
theorem yNh:ConOk Tryz.prog 231 ⟨yfg,yn9,fun x=>ykd x.1 x.2.1⟩:=zkh (yKe) Tryz.func231 (by kernel_rfl) (by kernel_rfl) Tryz.ntmps231.symm (by decide) (fun x r h=>(yR8 x).trans h)
def ydt (a0:dG) (a1:Int):Int:=ye a0 a1
theorem yQb (a0:dG) (a1:Int) (hk:zi9 yfg (a0,a1,())):ykd a0 a1=(fun n=>some ((n,()),())) (ydt a0 a1):=by
 unfold ykd ydt
 rw [yxp]
 cases hs:yI a0 a1
 ·unfold ye; rw [hs]; rfl
 ·have h1:=yN.1 hs
  have h2:=yi.1 h1.1
  have h3:=ygz hs
  have h4:ye a0 a1=a0.1 - 1 - a1.tmod a0.1:=by unfold ye; rw [hs]; rfl
  rw [show (a0.1 !=0)=true from bne_iff_ne.2 (by omega),wr (show -9223372036854775808≤a0.1 - 1 by omega) (by omega),wr (show -9223372036854775808≤a0.1 - 1 - a1.tmod a0.1 by omega) (by omega),h4]; rfl
def yrl:Con:=⟨yfg,yn9,fun x=>(fun n=>some ((n,()),())) (ydt x.1 x.2.1)⟩
theorem yCA:ConOk Tryz.prog 231 yrl:=(yNh).mono (fun x r hk h=>(yQb x.1 x.2.1 hk).trans h)
end
end
end Go.Tf
