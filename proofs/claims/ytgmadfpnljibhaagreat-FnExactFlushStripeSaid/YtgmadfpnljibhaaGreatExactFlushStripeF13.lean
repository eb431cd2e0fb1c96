/- Functions of the program, and what they come to. -/
import Derived.Test.YtgmadfpnljibhaaGreatExactFlushStripeF12
namespace Go.Tf
noncomputable section
open Go.Proofs
set_option synthInstance.maxHeartbeats 400000
set_option synthInstance.maxSize 10000
set_option linter.unusedVariables false
set_option linter.unusedSimpArgs false
set_option maxRecDepth 100000
section
def yH7:Code:=(Tryz.f267.body).getD .skip
def yIw:Env:=zki TT [(135,yl),(272,yrx),(288,yry)] []
theorem yPv:FrOk Tryz.prog ⟨yIw,28,fun _=>none⟩ yH7:=zkp yb yc ⟨yp,yDB,yDC,trivial⟩
def yRW:Nat→Option Seg:=fun _=>none
abbrev yhu:List Par:= [.rd tG,.rd tI,.rd tI]
abbrev ysO:List OT:= [⟨false,tI,.fz⟩]
def yoR (a0:dG) (a1 a2:Int):Option (ResD ysO×MutD yhu) :=
 let r1:=ye4 a0 a1
 bif (!(!r1)) then
 let r2:=ya a2 0 (IntKind.i64.wrap (a0.1 - 2))
 bif (!r2) then
 some (((-1),()),())
 else
 let r3:=yc3 a0 a1
 bif (a0.1 !=0) then
 some ((((IntKind.i64.wrap ((IntKind.i64.wrap (r3+1))+a2)).tmod a0.1),()),())
 else none
 else
 some (((-1),()),())
theorem yYU (x:InD yhu):zjH ⟨yIw,28,yRW⟩ Tryz.f267.results.toList yH7 yhu ysO x=yoR x.1 x.2.1 x.2.2.1:=by kernel_rfl
theorem yUq:ConOk Tryz.prog 267 ⟨yhu,ysO,fun x=>yoR x.1 x.2.1 x.2.2.1⟩:=zkh (yPv) Tryz.func267 (by kernel_rfl) (by kernel_rfl) Tryz.ntmps267.symm (by decide) (fun x r h=>(yYU x).trans h)
def ym6 (a0:dG) (a1 a2:Int):Int:=yex a0 a1 a2
theorem yWO (a0:dG) (a1 a2:Int) (hk:zi9 yhu (a0,a1,a2,())):yoR a0 a1 a2=(fun n=>some ((n,()),())) (ym6 a0 a1 a2):=by
 unfold yoR ym6 yex yc3
 rw [yOp]
 cases hs:yL a0 a1
 ·rfl
 ·have h1:=ydE.1 hs
  have h2:=ym.1 h1.1
  have h3:=yp1 hs
  rw [ye1,wr (show -9223372036854775808≤a0.1 - 2 by omega) (by omega)]
  cases hi:(leb 0 a2&&leb a2 (a0.1 - 2))
  ·rfl
  ·rw [Bool.and_eq_true,zjQ,zjQ]at hi
   rw [show (a0.1 !=0)=true from bne_iff_ne.2 (by omega)]
   show some (((IntKind.i64.wrap (IntKind.i64.wrap (yg a0 a1+1)+a2)).tmod a0.1,()),())=some (((yg a0 a1+1+a2).tmod a0.1,()),())
   rw [wr (show -9223372036854775808≤yg a0 a1+1 by omega) (by omega),wr (show -9223372036854775808≤yg a0 a1+1+a2 by omega) (by omega)]
def yFl:Con:=⟨yhu,ysO,fun x=>(fun n=>some ((n,()),())) (ym6 x.1 x.2.1 x.2.2.1)⟩
theorem yXP:ConOk Tryz.prog 267 yFl:=(yUq).mono (fun x r hk h=>(yWO x.1 x.2.1 x.2.2.1 hk).trans h)
end
section
def ymx:Code:=(Tryz.f216.body).getD .skip
def ysm:Env:=zki TT [(206,yCK),(267,yFl)] []
theorem yPG:FrOk Tryz.prog ⟨ysm,41,fun _=>none⟩ ymx:=zkp yb yc ⟨yUW,yXP,trivial⟩
def yEw:Nat→Option Seg:=fun _=>none
def ybZ:Shape:=⟨[(1,false,[.int .i64]),(2,false,[.ptr 0 0]),(6,false,[.at 800000000]),(7,false,[.bool]),(8,false,[.at 800000001]),(9,false,[.int .i64])],[(0,[.int .i64,.int .i64,.int .i64,.br tM,.int .i64,.int .i64,.int .i64,.int .i64,.int .i64,.br tW,.int .i64,.bool,.bool])],[(800000000,tI,.fz),(800000001,tI,.fz)]⟩
def ygB:Shape:=⟨[(1,false,[.int .i64]),(2,false,[.ptr 0 0]),(6,false,[.at 800000000]),(7,false,[.bool]),(8,false,[.at 800000001]),(9,false,[.ci .i64 0])],[(0,[.int .i64,.int .i64,.int .i64,.br tM,.int .i64,.int .i64,.int .i64,.int .i64,.int .i64,.br tW,.int .i64,.bool,.bool])],[(800000000,tI,.fz),(800000001,tI,.fz)]⟩
def ygu:Shape:=⟨[(7,false,[.bool]),(8,false,[.at 800000000])],[],[(800000000,tI,.fz)]⟩
def ylT:Shape:=⟨[],[],[]⟩
abbrev yfO (v0:Int) (v1:Bool) (v2:Int) (v3:dA) (v4 v5:List Int):(ybZ).X:=(((v0,()),((),()),((),()),(v1,()),((),()),(v2,()),()),((v3.1,v3.2.1.1,v3.2.1.2,v3.2.2.1,v3.2.2.2.1,v3.2.2.2.2.1,v3.2.2.2.2.2.1,v3.2.2.2.2.2.2.1,v3.2.2.2.2.2.2.2.1,v3.2.2.2.2.2.2.2.2.1,v3.2.2.2.2.2.2.2.2.2.1,v3.2.2.2.2.2.2.2.2.2.2.1,v3.2.2.2.2.2.2.2.2.2.2.2,()),()),(v4,v5,()))
abbrev yBc (v0:Int) (v1:Bool) (v2:dA) (v3 v4:List Int):(ygB).X:=(((v0,()),((),()),((),()),(v1,()),((),()),((),()),()),((v2.1,v2.2.1.1,v2.2.1.2,v2.2.2.1,v2.2.2.2.1,v2.2.2.2.2.1,v2.2.2.2.2.2.1,v2.2.2.2.2.2.2.1,v2.2.2.2.2.2.2.2.1,v2.2.2.2.2.2.2.2.2.1,v2.2.2.2.2.2.2.2.2.2.1,v2.2.2.2.2.2.2.2.2.2.2.1,v2.2.2.2.2.2.2.2.2.2.2.2,()),()),(v3,v4,()))
abbrev yrG (v0:Bool) (v1:List Int):(ygu).X:=(((v0,()),((),()),()),(),(v1,()))
def ykb (v0:Int) (v1:Bool) (v2 v3 v4 v5:Int) (v6:List dM) (v7 v8 v9 v10 v11:Int) (v12:List dW) (v13:Int) (v14 v15:Bool) (v16 v17:List Int):Option ((ybZ).X ⊕ ((ygu).X ⊕ (ylT).X)) :=
 bif (ltb v2 (IntKind.i64.wrap (v4 - 1))) then
 bif v1 then
 let r3:=ym6 (v4,v5) v0 v2
 bif (inb r3 v16.length) then
 bif (zj4 v17.length ([(nth v16 r3 0)]:List Int).length 8) then
 some (.inl (((v0,()),((),()),((),()),(v1,()),((),()),((IntKind.i64.wrap (v2+1)),()),()),((v3,v4,v5,v6,v7,v8,v9,v10,v11,v12,v13,v14,v15,()),()),(v16,(v17++([(nth v16 r3 0)]:List Int)),())))
 else none
 else none
 else
 some (.inr (.inl (((v1,()),((),()),()),(),(v17,()))))
 else
 some (.inr (.inl (((v1,()),((),()),()),(),(v17,()))))
def yab (x:(ybZ).X):=ykb x.1.1.1 x.1.2.2.2.1.1 x.1.2.2.2.2.2.1.1 x.2.1.1.1 x.2.1.1.2.1 x.2.1.1.2.2.1 x.2.1.1.2.2.2.1 x.2.1.1.2.2.2.2.1 x.2.1.1.2.2.2.2.2.1 x.2.1.1.2.2.2.2.2.2.1 x.2.1.1.2.2.2.2.2.2.2.1 x.2.1.1.2.2.2.2.2.2.2.2.1 x.2.1.1.2.2.2.2.2.2.2.2.2.1 x.2.1.1.2.2.2.2.2.2.2.2.2.2.1 x.2.1.1.2.2.2.2.2.2.2.2.2.2.2.1 x.2.1.1.2.2.2.2.2.2.2.2.2.2.2.2.1 x.2.2.1 x.2.2.2.1
def yAR (x:(ygB).X):(ybZ).X:=(((x.1.1.1,()),((),()),((),()),(x.1.2.2.2.1.1,()),((),()),(0,()),()),((x.2.1.1.1,x.2.1.1.2.1,x.2.1.1.2.2.1,x.2.1.1.2.2.2.1,x.2.1.1.2.2.2.2.1,x.2.1.1.2.2.2.2.2.1,x.2.1.1.2.2.2.2.2.2.1,x.2.1.1.2.2.2.2.2.2.2.1,x.2.1.1.2.2.2.2.2.2.2.2.1,x.2.1.1.2.2.2.2.2.2.2.2.2.1,x.2.1.1.2.2.2.2.2.2.2.2.2.2.1,x.2.1.1.2.2.2.2.2.2.2.2.2.2.2.1,x.2.1.1.2.2.2.2.2.2.2.2.2.2.2.2.1,()),()),(x.2.2.1,x.2.2.2.1,()))
def yCr:Code:=(zdI ymx 64 244).getD .skip
theorem yOO:zdI ymx 64 61=some (.block 0 (.loop yCr)):=by kernel_rfl
theorem yRA (x:(ybZ).X):zg7 ⟨ysm,41,yEw⟩ 0 yCr 244 ybZ ygu ylT x=yab x:=by kernel_rfl
def yA6 (x:(ygB).X):Nat:=18446744073709551616
def yln (x:(ygB).X):Option ((ygu).X ⊕ (ylT).X):=zr yab (yA6 x) (yAR x)
def yBp:Seg:=⟨ygB,ygu,ylT,yln⟩
def yEx:Nat→Option Seg:=fun q=>bif Nat.beq q 61 then some yBp else yEw q
theorem yPH:FrOk Tryz.prog ⟨ysm,41,yEx⟩ ymx:=(yPG).loop (sg:=yBp) ybZ yAR (by decide) yOO yab yA6 (by decide) (fun _=>rfl) (fun x r _ h=>h) yRA
abbrev ye9:List Par:= [.rd tA,.rd tI]
abbrev ymS:List OT:= [⟨false,tL,(.ow .fz)⟩,⟨false,tB,.fz⟩]
def yoW (a0:dA) (a1:Int):Option (ResD ymS×MutD ye9) :=
 bnd (yqX a0 a1) fun r1 =>
 zjw (yln (((a1,()),((),()),((),()),(r1.1.2.1,()),((),()),((),()),()),((a0.1,a0.2.1.1,a0.2.1.2,a0.2.2.1,a0.2.2.2.1,a0.2.2.2.2.1,a0.2.2.2.2.2.1,a0.2.2.2.2.2.2.1,a0.2.2.2.2.2.2.2.1,a0.2.2.2.2.2.2.2.2.1,a0.2.2.2.2.2.2.2.2.2.1,a0.2.2.2.2.2.2.2.2.2.2.1,a0.2.2.2.2.2.2.2.2.2.2.2,()),()),(r1.1.1,([]:List Int),()))) (fun y3 =>
 some ((y3.2.2.1,y3.1.1.1,()),())) (fun y3 =>
 none)
theorem yY1 (x:InD ye9):zjH ⟨ysm,41,yEx⟩ Tryz.f216.results.toList ymx ye9 ymS x=yoW x.1 x.2.1:=by kernel_rfl
theorem yUx:ConOk Tryz.prog 216 ⟨ye9,ymS,fun x=>yoW x.1 x.2.1⟩:=zkh (yPH) Tryz.func216 (by kernel_rfl) (by kernel_rfl) Tryz.ntmps216.symm (by decide) (fun x r h=>(yY1 x).trans h)
def ys4 (a0:dA) (a1:Int):List Int×Bool:=yHr a0 a1
def yzA (a0:dA) (a1:Int):Bool:=yL a0.2.1 a1
theorem yWV (a0:dA) (a1:Int) (hk:zi9 ye9 (a0,a1,())) (hq:yzA a0 a1=true):yoW a0 a1=(fun n=>some ((n.1,n.2,()),())) (ys4 a0 a1):=by
 have hs:yL a0.2.1 a1=true:=hq
 have hg:=ym.1 (ydE.1 hs).1
 unfold yoW ys4 yHr
 rw [yU2 a0 a1 (ydE.1 hs).1,yk7]
 simp only [zky]
 cases hw:(yhg a0 a1).2
 ·have h1:yln (yBc a1 false a0 (yhg a0 a1).1 [])=some (.inl (yrG false [])) :=
   zjs (step:=yab) (fun i=>yfO a1 false i a0 (yhg a0 a1).1 []) 0 _ (fun i hi=>absurd hi (Nat.not_lt_zero _)) (by
    simp only [yab,yfO,ykb,cond_false]
    cases ltb ((0:Nat):Int) (IntKind.i64.wrap (a0.2.1.1 - 1))<;>rfl) _ (by show _ < 18446744073709551616; omega)
  rw [h1]; rfl
 ·have hL:=y2u hw
  have h1:yln (yBc a1 true a0 (yhg a0 a1).1 [])=some (.inl (yrG true ((List.range (a0.2.1.1 - 1).toNat).foldl (fun l (i:Nat)=>l++ [nth (yhg a0 a1).1 (yex a0.2.1 a1 i) 0]) []))) :=
   zks (step:=yab) (a0.2.1.1 - 1).toNat (fun i s=>yfO a1 true i a0 (yhg a0 a1).1 s) (fun l (i:Nat)=>l++ [nth (yhg a0 a1).1 (yex a0.2.1 a1 i) 0]) (fun i s=>s.length=i) (fun s=> .inl (yrG true s)) (fun i s hi hs2=>⟨by
    have hd:=y1H hs (show (0:Int)≤i by omega) (show (i:Int)≤a0.2.1.1 - 2 by omega)
    simp only [yab,yfO,ykb,wr (show -9223372036854775808≤a0.2.1.1 - 1 by omega) (by omega),zjI (show (i:Int) < a0.2.1.1 - 1 by omega),cond_true,wr (show -9223372036854775808≤(i:Int)+1 by omega) (by omega),Int.natCast_add,Int.natCast_one,Int.toNat_natCast,zkV,ym6,zjP.2 (show 0≤yex a0.2.1 a1 i∧yex a0.2.1 a1 i < (yhg a0 a1).1.length by omega)]
    rw [zkw.2 (show (s.length+ [nth (yhg a0 a1).1 (yex a0.2.1 a1 i) 0].length) * 8≤140737488355328 by simp only [List.length_cons,List.length_nil]; omega)]; rfl,by simp [hs2]⟩) (fun s hs2=>by simp only [yab,yfO,ykb,wr (show -9223372036854775808≤a0.2.1.1 - 1 by omega) (by omega),zkm (show a0.2.1.1 - 1≤((a0.2.1.1 - 1).toNat:Int) by omega),cond_false]) [] rfl _ (by show _ < 18446744073709551616; omega)
  rw [h1,yHt]; rfl
def ys7 (a0:dA) (a1:Int):Option (ResD ymS×MutD ye9):=bif yzA a0 a1 then (fun n=>some ((n.1,n.2,()),())) (ys4 a0 a1) else none
theorem yX2 (a0:dA) (a1:Int) (h:yzA a0 a1=true):ys7 a0 a1=(fun n=>some ((n.1,n.2,()),())) (ys4 a0 a1):=by unfold ys7; rw [h]; rfl
def yFq:Con:=⟨ye9,ymS,fun x=>ys7 x.1 x.2.1⟩
theorem yXU:ConOk Tryz.prog 216 yFq:=(yUx).mono (fun x r hk h=>zkW h (fun hq=>yWV x.1 x.2.1 hk hq))
end
section
def yr0:Code:=(Tryz.f243.body).getD .skip
def yxG:Env:=zki TT [] []
theorem yWm:FrOk Tryz.prog ⟨yxG,22,fun _=>none⟩ yr0:=zkp yb yc trivial
def yIf:Nat→Option Seg:=fun _=>none
def yd5:Shape:=⟨[(1,false,[.int .i64]),(2,false,[.ptr 0 0]),(5,false,[.int .i64])],[(0,[.int .i64,.int .i64,.int .i64,.br tM,.int .i64,.int .i64,.int .i64,.int .i64,.int .i64,.br tW,.int .i64,.bool,.bool])],[]⟩
def ykL:Shape:=⟨[(1,false,[.int .i64]),(2,false,[.ptr 0 0]),(5,false,[.ci .i64 0])],[(0,[.int .i64,.int .i64,.int .i64,.br tM,.int .i64,.int .i64,.int .i64,.int .i64,.int .i64,.br tW,.int .i64,.bool,.bool])],[]⟩
def ykK:Shape:=⟨[],[],[]⟩
def ykR:Shape:=⟨[(4,false,[.int .i64])],[],[]⟩
abbrev yvG (v0 v1:Int) (v2:dA):(yd5).X:=(((v0,()),((),()),(v1,()),()),((v2.1,v2.2.1.1,v2.2.1.2,v2.2.2.1,v2.2.2.2.1,v2.2.2.2.2.1,v2.2.2.2.2.2.1,v2.2.2.2.2.2.2.1,v2.2.2.2.2.2.2.2.1,v2.2.2.2.2.2.2.2.2.1,v2.2.2.2.2.2.2.2.2.2.1,v2.2.2.2.2.2.2.2.2.2.2.1,v2.2.2.2.2.2.2.2.2.2.2.2,()),()),())
abbrev yTC (v0:Int) (v1:dA):(ykL).X:=(((v0,()),((),()),((),()),()),((v1.1,v1.2.1.1,v1.2.1.2,v1.2.2.1,v1.2.2.2.1,v1.2.2.2.2.1,v1.2.2.2.2.2.1,v1.2.2.2.2.2.2.1,v1.2.2.2.2.2.2.2.1,v1.2.2.2.2.2.2.2.2.1,v1.2.2.2.2.2.2.2.2.2.1,v1.2.2.2.2.2.2.2.2.2.2.1,v1.2.2.2.2.2.2.2.2.2.2.2,()),()),())
abbrev yTB  :(ykK).X:=((),(),())
abbrev yFC (v0:Int):(ykR).X:=(((v0,()),()),(),())
def ywe (v0 v1 v2 v3 v4:Int) (v5:List dM) (v6 v7 v8 v9 v10:Int) (v11:List dW) (v12:Int) (v13 v14:Bool):Option ((yd5).X ⊕ ((ykK).X ⊕ (ykR).X)) :=
 bif (ltb v1 (v11.length:Int)) then
 bif (inb v1 v11.length) then
 bif ((nth v11 v1 (0,[])).1==v0) then
 some (.inr (.inr (((v1,()),()),(),())))
 else
 some (.inl (((v0,()),((),()),((IntKind.i64.wrap (v1+1)),()),()),((v2,v3,v4,v5,v6,v7,v8,v9,v10,v11,v12,v13,v14,()),()),()))
 else none
 else
 some (.inr (.inl ((),(),())))
def yea (x:(yd5).X):=ywe x.1.1.1 x.1.2.2.1.1 x.2.1.1.1 x.2.1.1.2.1 x.2.1.1.2.2.1 x.2.1.1.2.2.2.1 x.2.1.1.2.2.2.2.1 x.2.1.1.2.2.2.2.2.1 x.2.1.1.2.2.2.2.2.2.1 x.2.1.1.2.2.2.2.2.2.2.1 x.2.1.1.2.2.2.2.2.2.2.2.1 x.2.1.1.2.2.2.2.2.2.2.2.2.1 x.2.1.1.2.2.2.2.2.2.2.2.2.2.1 x.2.1.1.2.2.2.2.2.2.2.2.2.2.2.1 x.2.1.1.2.2.2.2.2.2.2.2.2.2.2.2.1
def yFy (x:(ykL).X):(yd5).X:=(((x.1.1.1,()),((),()),(0,()),()),((x.2.1.1.1,x.2.1.1.2.1,x.2.1.1.2.2.1,x.2.1.1.2.2.2.1,x.2.1.1.2.2.2.2.1,x.2.1.1.2.2.2.2.2.1,x.2.1.1.2.2.2.2.2.2.1,x.2.1.1.2.2.2.2.2.2.2.1,x.2.1.1.2.2.2.2.2.2.2.2.1,x.2.1.1.2.2.2.2.2.2.2.2.2.1,x.2.1.1.2.2.2.2.2.2.2.2.2.2.1,x.2.1.1.2.2.2.2.2.2.2.2.2.2.2.1,x.2.1.1.2.2.2.2.2.2.2.2.2.2.2.2.1,()),()),())
def yGy:Code:=(zdI yr0 64 52).getD .skip
theorem yVM:zdI yr0 64 13=some (.block 0 (.loop yGy)):=by kernel_rfl
theorem yX5 (x:(yd5).X):zg7 ⟨yxG,22,yIf⟩ 0 yGy 52 yd5 ykK ykR x=yea x:=by kernel_rfl
def yFB (x:(ykL).X):Nat:=18446744073709551616
def yw3 (x:(ykL).X):Option ((ykK).X ⊕ (ykR).X):=zr yea (yFB x) (yFy x)
def yFF:Seg:=⟨ykL,ykK,ykR,yw3⟩
def yIg:Nat→Option Seg:=fun q=>bif Nat.beq q 13 then some yFF else yIf q
theorem yWn:FrOk Tryz.prog ⟨yxG,22,yIg⟩ yr0:=(yWm).loop (sg:=yFF) yd5 yFy (by decide) yVM yea yFB (by decide) (fun _=>rfl) (fun x r _ h=>h) yX5
abbrev yng:List Par:= [.rd tA,.rd tI]
abbrev yxM:List OT:= [⟨false,tI,.fz⟩]
def ytc (a0:dA) (a1:Int):Option (ResD yxM×MutD yng) :=
 zjw (yw3 (((a1,()),((),()),((),()),()),((a0.1,a0.2.1.1,a0.2.1.2,a0.2.2.1,a0.2.2.2.1,a0.2.2.2.2.1,a0.2.2.2.2.2.1,a0.2.2.2.2.2.2.1,a0.2.2.2.2.2.2.2.1,a0.2.2.2.2.2.2.2.2.1,a0.2.2.2.2.2.2.2.2.2.1,a0.2.2.2.2.2.2.2.2.2.2.1,a0.2.2.2.2.2.2.2.2.2.2.2,()),()),())) (fun y0 =>
 some (((-1),()),())) (fun y0 =>
 some ((y0.1.1.1,()),()))
theorem y1t (x:InD yng):zjH ⟨yxG,22,yIg⟩ Tryz.f243.results.toList yr0 yng yxM x=ytc x.1 x.2.1:=by kernel_rfl
theorem yZP:ConOk Tryz.prog 243 ⟨yng,yxM,fun x=>ytc x.1 x.2.1⟩:=zkh (yWn) Tryz.func243 (by kernel_rfl) (by kernel_rfl) Tryz.ntmps243.symm (by decide) (fun x r h=>(y1t x).trans h)
def yjj (a0:dA) (a1:Int):Int:=yq a0.2.2.2.2.2.2.2.2.1 a1
theorem y1b (a0:dA) (a1:Int) (hk:zi9 yng (a0,a1,())):ytc a0 a1=(fun n=>some ((n,()),())) (yjj a0 a1):=by
 have hb:a0.2.2.2.2.2.2.2.2.1.length * 32≤2 ^ 47:=hk.1.2.2.2.2.2.2.2.2.1.1
 have h1:yw3 (yTC a1 a0)=some (bif leb 0 (yq a0.2.2.2.2.2.2.2.2.1 a1) then .inr (yFC (yq a0.2.2.2.2.2.2.2.2.1 a1)) else .inl yTB) :=
  yK9 (step:=yea) a0.2.2.2.2.2.2.2.2.1 (0,[]) (fun i=>yvG a1 i a0) (fun e:dW=>e.1==a1) (fun i=> .inr (yFC i)) _ (fun i hi=>by
   simp only [yea,yvG,ywe,zjI (show (i:Int) < a0.2.2.2.2.2.2.2.2.1.length by omega),cond_true,wr (show -9223372036854775808≤(i:Int)+1 by omega) (by omega),Int.natCast_add,Int.natCast_one,Int.toNat_natCast,zkO hi,zjW]
   cases ((a0.2.2.2.2.2.2.2.2.1.getD i (0,[])).1==a1)<;>rfl) (by simp only [yea,yvG,ywe,zkm (Int.le_refl _),cond_false]) _ (by show _ < 18446744073709551616; omega)
 unfold ytc yjj
 rw [h1]
 cases h:leb 0 (yq a0.2.2.2.2.2.2.2.2.1 a1)
 ·rw [show yq a0.2.2.2.2.2.2.2.2.1 a1= -1 from yL4 h]; rfl
 ·rfl
def yzo:Con:=⟨yng,yxM,fun x=>(fun n=>some ((n,()),())) (yjj x.1 x.2.1)⟩
theorem yLM:ConOk Tryz.prog 243 yzo:=(yZP).mono (fun x r hk h=>(y1b x.1 x.2.1 hk).trans h)
end
section
def yEb:Code:=(Tryz.f176.body).getD .skip
def yEP:Env:=zki TT [(216,yFq),(243,yzo)] []
theorem yK6:FrOk Tryz.prog ⟨yEP,28,fun _=>none⟩ yEb:=zkp yb yc ⟨yXU,yLM,trivial⟩
def yMf:Nat→Option Seg:=fun _=>none
abbrev ycF:List Par:= [.rd tA,.rd tI]
abbrev yiF:List OT:= [⟨false,tL,(.ow .fz)⟩,⟨false,tB,.fz⟩]
def yka (a0:dA) (a1:Int):Option (ResD yiF×MutD ycF) :=
 let r1:=yjj a0 a1
 bif (leb 0 r1) then
 bif (inb r1 a0.2.2.2.2.2.2.2.2.1.length) then
 bif (zj4 ([]:List Int).length ((nth a0.2.2.2.2.2.2.2.2.1 r1 (0,[])).2).length 8) then
 some (((([]:List Int)++((nth a0.2.2.2.2.2.2.2.2.1 r1 (0,[])).2)),true,()),())
 else none
 else none
 else
 bif a0.2.2.2.2.2.2.2.2.2.2.2 then
 some ((([]:List Int),false,()),())
 else
 bnd (ys7 a0 a1) fun r2 =>
 some ((r2.1.1,r2.1.2.1,()),())
theorem ySJ (x:InD ycF):zjH ⟨yEP,28,yMf⟩ Tryz.f176.results.toList yEb ycF yiF x=yka x.1 x.2.1:=by kernel_rfl
theorem yNO:ConOk Tryz.prog 176 ⟨ycF,yiF,fun x=>yka x.1 x.2.1⟩:=zkh (yK6) Tryz.func176 (by kernel_rfl) (by kernel_rfl) Tryz.ntmps176.symm (by decide) (fun x r h=>(ySJ x).trans h)
def yi9 (a0:dA) (a1:Int):List Int×Bool:=yeH a0 a1
def yvT (a0:dA) (a1:Int):Bool:=yL a0.2.1 a1
theorem yQH (a0:dA) (a1:Int) (hk:zi9 ycF (a0,a1,())) (hq:yvT a0 a1=true):yka a0 a1=(fun n=>some ((n.1,n.2,()),())) (yi9 a0 a1):=by
 unfold yka yi9 yeH yjj
 rw [yX2 a0 a1 hq]
 simp only [List.nil_append]
 cases h:leb 0 (yq a0.2.2.2.2.2.2.2.2.1 a1)
 ·cases a0.2.2.2.2.2.2.2.2.2.2.2<;>rfl
 ·have h1:=(yxc (d:=((0,[]):dW)) h).1
  have h2:(nth a0.2.2.2.2.2.2.2.2.1 (yq a0.2.2.2.2.2.2.2.2.1 a1) (0,[])).2.length * 8≤2 ^ 47:=yW4 (P:=fun x:dW=>x.2.length * 8≤2 ^ 47) h1 (fun x hx=>(hk.1.2.2.2.2.2.2.2.2.1.2 x hx).2.1)
  rw [show inb (yq a0.2.2.2.2.2.2.2.2.1 a1) a0.2.2.2.2.2.2.2.2.1.length=true from h1,zkw.2 (show (([]:List Int).length+(nth a0.2.2.2.2.2.2.2.2.1 (yq a0.2.2.2.2.2.2.2.2.1 a1) (0,[])).2.length) * 8≤140737488355328 by rw [List.length_nil]; omega)]; rfl
def yoE (a0:dA) (a1:Int):Option (ResD yiF×MutD ycF):=bif yvT a0 a1 then (fun n=>some ((n.1,n.2,()),())) (yi9 a0 a1) else none
theorem yRl (a0:dA) (a1:Int) (h:yvT a0 a1=true):yoE a0 a1=(fun n=>some ((n.1,n.2,()),())) (yi9 a0 a1):=by unfold yoE; rw [h]; rfl
def yAE:Con:=⟨ycF,yiF,fun x=>yoE x.1 x.2.1⟩
theorem yRj:ConOk Tryz.prog 176 yAE:=(yNO).mono (fun x r hk h=>zkW h (fun hq=>yQH x.1 x.2.1 hk hq))
end
section
def yD8:Code:=(Tryz.f177.body).getD .skip
def yEM:Env:=zki TT [(121,yvq),(135,yl)] []
theorem yK3:FrOk Tryz.prog ⟨yEM,16,fun _=>none⟩ yD8:=zkp yb yc ⟨yHf,yp,trivial⟩
def yMc:Nat→Option Seg:=fun _=>none
abbrev yeV:List Par:= [.rd tG,.rd tI]
abbrev yok:List OT:= [⟨false,tI,.fz⟩]
def yj8 (a0:dG) (a1:Int):Option (ResD yok×MutD yeV) :=
 let r1:=yO a0
 let r2:=ya a1 0 (IntKind.i64.wrap (r1 - 1))
 bif (!r2) then
 some (((-1),()),())
 else
 bif ((IntKind.i64.wrap (a0.1 - 1)) !=0) then
 some (((IntKind.i64.wrap (a1.tdiv (IntKind.i64.wrap (a0.1 - 1)))),()),())
 else none
theorem ySG (x:InD yeV):zjH ⟨yEM,16,yMc⟩ Tryz.f177.results.toList yD8 yeV yok x=yj8 x.1 x.2.1:=by kernel_rfl
theorem yNL:ConOk Tryz.prog 177 ⟨yeV,yok,fun x=>yj8 x.1 x.2.1⟩:=zkh (yK3) Tryz.func177 (by kernel_rfl) (by kernel_rfl) Tryz.ntmps177.symm (by decide) (fun x r h=>(ySG x).trans h)
def yi7 (a0:dG) (a1:Int):Int:=yfl a0 a1
theorem yQE (a0:dG) (a1:Int) (hk:zi9 yeV (a0,a1,())):yj8 a0 a1=(fun n=>some ((n,()),())) (yi7 a0 a1):=by
 unfold yj8 yi7 yfl
 simp only [y19]
 cases hb:ys0 a0 a1
 ·rfl
 ·obtain ⟨h1,h2,h3⟩:=yER hb
  have h4:=ym.1 h1
  rw [wr (show -9223372036854775808≤a0.1 - 1 by omega) (by omega),show (a0.1 - 1 !=0)=true from bne_iff_ne.2 (by omega),wr (by omega) (by omega)]; rfl
def yAC:Con:=⟨yeV,yok,fun x=>(fun n=>some ((n,()),())) (yi7 x.1 x.2.1)⟩
theorem yRh:ConOk Tryz.prog 177 yAC:=(yNL).mono (fun x r hk h=>(yQE x.1 x.2.1 hk).trans h)
end
section
def yFV:Code:=(Tryz.f178.body).getD .skip
def yGs:Env:=zki TT [(121,yvq),(135,yl)] []
theorem yMZ:FrOk Tryz.prog ⟨yGs,16,fun _=>none⟩ yFV:=zkp yb yc ⟨yHf,yp,trivial⟩
def yOx:Nat→Option Seg:=fun _=>none
abbrev yge:List Par:= [.rd tG,.rd tI]
abbrev yqI:List OT:= [⟨false,tI,.fz⟩]
def yme (a0:dG) (a1:Int):Option (ResD yqI×MutD yge) :=
 let r1:=yO a0
 let r2:=ya a1 0 (IntKind.i64.wrap (r1 - 1))
 bif (!r2) then
 some (((-1),()),())
 else
 bif ((IntKind.i64.wrap (a0.1 - 1)) !=0) then
 some (((a1.tmod (IntKind.i64.wrap (a0.1 - 1))),()),())
 else none
theorem yV6 (x:InD yge):zjH ⟨yGs,16,yOx⟩ Tryz.f178.results.toList yFV yge yqI x=yme x.1 x.2.1:=by kernel_rfl
theorem yQX:ConOk Tryz.prog 178 ⟨yge,yqI,fun x=>yme x.1 x.2.1⟩:=zkh (yMZ) Tryz.func178 (by kernel_rfl) (by kernel_rfl) Tryz.ntmps178.symm (by decide) (fun x r h=>(yV6 x).trans h)
def yk3 (a0:dG) (a1:Int):Int:=yug a0 a1
theorem yTU (a0:dG) (a1:Int) (hk:zi9 yge (a0,a1,())):yme a0 a1=(fun n=>some ((n,()),())) (yk3 a0 a1):=by
 unfold yme yk3 yug
 simp only [y19]
 cases hb:ys0 a0 a1
 ·rfl
 ·obtain ⟨h1,h2,h3⟩:=yER hb
  have h4:=ym.1 h1
  rw [wr (show -9223372036854775808≤a0.1 - 1 by omega) (by omega),show (a0.1 - 1 !=0)=true from bne_iff_ne.2 (by omega)]; rfl
def yCG:Con:=⟨yge,yqI,fun x=>(fun n=>some ((n,()),())) (yk3 x.1 x.2.1)⟩
theorem yUS:ConOk Tryz.prog 178 yCG:=(yQX).mono (fun x r hk h=>(yTU x.1 x.2.1 hk).trans h)
end
end
end Go.Tf
