/- Functions of the program, and what they come to. -/
import Derived.Test.YtolmneojjjpnjaaGreatAgainF4
namespace Go.Tf
noncomputable section
open Go.Proofs Go.Proofs.Tryz
set_option synthInstance.maxHeartbeats 400000
set_option synthInstance.maxSize 10000
set_option linter.unusedVariables false
set_option linter.unusedSimpArgs false
set_option maxRecDepth 100000
section
def yEA:Code:=(f209.body).getD .skip
def yFc:Env:=zj0 TT [(229,ysj)] []
theorem yLY:FrOk prog ⟨yFc,17,fun _=>none⟩ yEA:=zj4 yc yd ⟨yDZ,trivial⟩
def yNz:Nat→Option Seg:=fun _=>none
abbrev yfw:List Par:= [.rd tG,.rd tI]
abbrev yoU:List OT:= [⟨false,tI,.fz⟩]
def ykw (a0:dG) (a1:Int):Option (ResD yoU×MutD yfw) :=
 let r1:=yfG a0 a1
 bif(!r1)then
 some (((-1),()),())
 else
 bif(a0.1 !=0)then
 some (((IntKind.i64.wrap ((IntKind.i64.wrap (a0.1-1))-(a1.tmod a0.1))),()),())
 else none
theorem yUx (x:InD yfw):zju ⟨yFc,17,yNz⟩ f209.results.toList yEA yfw yoU x=ykw x.1 x.2.1:=by kernel_rfl
theorem yPi:ConOk prog 209 ⟨yfw,yoU,fun x=>ykw x.1 x.2.1⟩:=zjZ (yLY) func209 (by kernel_rfl) (by kernel_rfl) ntmps209.symm (by decide) (fun x r h=>(yUx x).trans h)
def ydv (a0:dG) (a1:Int):Int:=parityOf a0 a1
theorem ySi (a0:dG) (a1:Int) (hk:zi0 yfw (a0,a1,())):ykw a0 a1=(fun n=>some ((n,()),())) (ydv a0 a1):=by
 unfold ykw ydv;rw[yP2]
 cases hs:strOk a0 a1
 ·unfold parityOf; rw[hs]; rfl
 ·have h1:=yG.1 hs
  have h2:=yg.1 h1.1;have h3:=yl5 hs;have h4:parityOf a0 a1=a0.1-1-a1.tmod a0.1:=by unfold parityOf; rw[hs]; rfl
  rw[show(a0.1 !=0)=true from bne_iff_ne.2 (by omega),wr (show -9223372036854775808≤a0.1-1 by omega) (by omega),wr (show -9223372036854775808≤a0.1-1-a1.tmod a0.1 by omega) (by omega),h4]; rfl
def ysh:Con:=⟨yfw,yoU,fun x=>(fun n=>some ((n,()),())) (ydv x.1 x.2.1)⟩
theorem yDX:ConOk prog 209 ysh:=(yPi).mono (fun x r hk h=>(ySi x.1 x.2.1 hk).trans h)
end
section
def yJa:Code:=(f242.body).getD .skip
def yJI:Env:=zj0 TT [(82,yw),(209,ysh),(229,ysj)] []
theorem yQ2:FrOk prog ⟨yJI,28,fun _=>none⟩ yJa:=zj4 yc yd ⟨yD,yDX,yDZ,trivial⟩
def yTJ:Nat→Option Seg:=fun _=>none
abbrev yh4:List Par:= [.rd tG,.rd tI,.rd tI]
abbrev ytv:List OT:= [⟨false,tI,.fz⟩]
def ypv (a0:dG) (a1 a2:Int):Option (ResD ytv×MutD yh4) :=
 let r1:=yfG a0 a1
 bif(!(!r1))then
 let r2:=ya a2 0 (IntKind.i64.wrap (a0.1-2))
 bif(!r2)then
 some (((-1),()),())
 else
 let r3:=ydv a0 a1
 bif(a0.1 !=0)then
 some ((((IntKind.i64.wrap ((IntKind.i64.wrap (r3+1))+a2)).tmod a0.1),()),())
 else none
 else
 some (((-1),()),())
theorem y0N (x:InD yh4):zju ⟨yJI,28,yTJ⟩ f242.results.toList yJa yh4 ytv x=ypv x.1 x.2.1 x.2.2.1:=by kernel_rfl
theorem yWk:ConOk prog 242 ⟨yh4,ytv,fun x=>ypv x.1 x.2.1 x.2.2.1⟩:=zjZ (yQ2) func242 (by kernel_rfl) (by kernel_rfl) ntmps242.symm (by decide) (fun x r h=>(y0N x).trans h)
def ynM (a0:dG) (a1 a2:Int):Int:=ybi a0 a1 a2
theorem yYF (a0:dG) (a1 a2:Int) (hk:zi0 yh4 (a0,a1,a2,())):ypv a0 a1 a2=(fun n=>some ((n,()),())) (ynM a0 a1 a2):=by
 unfold ypv ynM ybi ydv;rw[yP2]
 cases hs:strOk a0 a1
 ·rfl
 ·have h1:=yG.1 hs
  have h2:=yg.1 h1.1;have h3:=yl5 hs;rw[ycf,wr (show -9223372036854775808≤a0.1-2 by omega) (by omega)]
  cases hi:(leb 0 a2&&leb a2 (a0.1-2))
  ·rfl
  ·rw[Bool.and_eq_true,zjB,zjB]at hi
   rw[show(a0.1 !=0)=true from bne_iff_ne.2 (by omega)];show some (((IntKind.i64.wrap (IntKind.i64.wrap (parityOf a0 a1+1)+a2)).tmod a0.1,()),())=some (((parityOf a0 a1+1+a2).tmod a0.1,()),());rw[wr (show -9223372036854775808≤parityOf a0 a1+1 by omega) (by omega),wr (show -9223372036854775808≤parityOf a0 a1+1+a2 by omega) (by omega)]
def yFJ:Con:=⟨yh4,ytv,fun x=>(fun n=>some ((n,()),())) (ynM x.1 x.2.1 x.2.2.1)⟩
theorem yZr:ConOk prog 242 yFJ:=(yWk).mono (fun x r hk h=>(yYF x.1 x.2.1 x.2.2.1 hk).trans h)
end
section
def ym6:Code:=(f218.body).getD .skip
def ys8:Env:=zj0 TT [(227,yud),(242,yFJ)] []
theorem yRg:FrOk prog ⟨ys8,41,fun _=>none⟩ ym6:=zj4 yc yd ⟨yGe,yZr,trivial⟩
def yER:Nat→Option Seg:=fun _=>none
def ycr:Shape:=⟨[(1,false,[.int .i64]),(2,false,[.ptr 0 0]),(6,false,[.at 800000000]),(7,false,[.bool]),(8,false,[.at 800000001]),(9,false,[.int .i64])],[(0,[.int .i64,.int .i64,.int .i64,.br tM,.int .i64,.int .i64,.int .i64,.int .i64,.int .i64,.br tW,.int .i64,.bool,.bool])],[(800000000,tI,.fz),(800000001,tI,.fz)]⟩
def yho:Shape:=⟨[(1,false,[.int .i64]),(2,false,[.ptr 0 0]),(6,false,[.at 800000000]),(7,false,[.bool]),(8,false,[.at 800000001]),(9,false,[.ci .i64 0])],[(0,[.int .i64,.int .i64,.int .i64,.br tM,.int .i64,.int .i64,.int .i64,.int .i64,.int .i64,.br tW,.int .i64,.bool,.bool])],[(800000000,tI,.fz),(800000001,tI,.fz)]⟩
def yhd:Shape:=⟨[(7,false,[.bool]),(8,false,[.at 800000000])],[],[(800000000,tI,.fz)]⟩
def ymk:Shape:=⟨[],[],[]⟩
abbrev ygu (v0:Int) (v1:Bool) (v2:Int) (v3:dA) (v4 v5:List Int):(ycr).X:=(((v0,()),((),()),((),()),(v1,()),((),()),(v2,()),()),((v3.1,v3.2.1.1,v3.2.1.2,v3.2.2.1,v3.2.2.2.1,v3.2.2.2.2.1,v3.2.2.2.2.2.1,v3.2.2.2.2.2.2.1,v3.2.2.2.2.2.2.2.1,v3.2.2.2.2.2.2.2.2.1,v3.2.2.2.2.2.2.2.2.2.1,v3.2.2.2.2.2.2.2.2.2.2.1,v3.2.2.2.2.2.2.2.2.2.2.2,()),()),(v4,v5,()))
abbrev yBH (v0:Int) (v1:Bool) (v2:dA) (v3 v4:List Int):(yho).X:=(((v0,()),((),()),((),()),(v1,()),((),()),((),()),()),((v2.1,v2.2.1.1,v2.2.1.2,v2.2.2.1,v2.2.2.2.1,v2.2.2.2.2.1,v2.2.2.2.2.2.1,v2.2.2.2.2.2.2.1,v2.2.2.2.2.2.2.2.1,v2.2.2.2.2.2.2.2.2.1,v2.2.2.2.2.2.2.2.2.2.1,v2.2.2.2.2.2.2.2.2.2.2.1,v2.2.2.2.2.2.2.2.2.2.2.2,()),()),(v3,v4,()))
abbrev yst (v0:Bool) (v1:List Int):(yhd).X:=(((v0,()),((),()),()),(),(v1,()))
def ykC (v0:Int) (v1:Bool) (v2 v3 v4 v5:Int) (v6:List dM) (v7 v8 v9 v10 v11:Int) (v12:List dW) (v13:Int) (v14 v15:Bool) (v16 v17:List Int):Option ((ycr).X ⊕ ((yhd).X ⊕ (ymk).X)) :=
 bif(ltb v2 (IntKind.i64.wrap (v4-1)))then
 bif v1 then
 let r3:=ynM (v4,v5) v0 v2
 bif(inb r3 v16.length)then
 bif(zjO v17.length ([(nth v16 r3 0)]:List Int).length 8)then
 some (.inl (((v0,()),((),()),((),()),(v1,()),((),()),((IntKind.i64.wrap (v2+1)),()),()),((v3,v4,v5,v6,v7,v8,v9,v10,v11,v12,v13,v14,v15,()),()),(v16,(v17++([(nth v16 r3 0)]:List Int)),())))
 else none
 else none
 else
 some (.inr (.inl (((v1,()),((),()),()),(),(v17,()))))
 else
 some (.inr (.inl (((v1,()),((),()),()),(),(v17,()))))
def yar (x:(ycr).X):=ykC x.1.1.1 x.1.2.2.2.1.1 x.1.2.2.2.2.2.1.1 x.2.1.1.1 x.2.1.1.2.1 x.2.1.1.2.2.1 x.2.1.1.2.2.2.1 x.2.1.1.2.2.2.2.1 x.2.1.1.2.2.2.2.2.1 x.2.1.1.2.2.2.2.2.2.1 x.2.1.1.2.2.2.2.2.2.2.1 x.2.1.1.2.2.2.2.2.2.2.2.1 x.2.1.1.2.2.2.2.2.2.2.2.2.1 x.2.1.1.2.2.2.2.2.2.2.2.2.2.1 x.2.1.1.2.2.2.2.2.2.2.2.2.2.2.1 x.2.1.1.2.2.2.2.2.2.2.2.2.2.2.2.1 x.2.2.1 x.2.2.2.1
def yBo (x:(yho).X):(ycr).X:=(((x.1.1.1,()),((),()),((),()),(x.1.2.2.2.1.1,()),((),()),(0,()),()),((x.2.1.1.1,x.2.1.1.2.1,x.2.1.1.2.2.1,x.2.1.1.2.2.2.1,x.2.1.1.2.2.2.2.1,x.2.1.1.2.2.2.2.2.1,x.2.1.1.2.2.2.2.2.2.1,x.2.1.1.2.2.2.2.2.2.2.1,x.2.1.1.2.2.2.2.2.2.2.2.1,x.2.1.1.2.2.2.2.2.2.2.2.2.1,x.2.1.1.2.2.2.2.2.2.2.2.2.2.1,x.2.1.1.2.2.2.2.2.2.2.2.2.2.2.1,x.2.1.1.2.2.2.2.2.2.2.2.2.2.2.2.1,()),()),(x.2.2.1,x.2.2.2.1,()))
def yCU:Code:=(zef ym6 64 244).getD .skip
theorem yQq:zef ym6 64 61=some (.block 0 (.loop yCU)):=by kernel_rfl
theorem yTk (x:(ycr).X):zg0 ⟨ys8,41,yER⟩ 0 yCU 244 ycr yhd ymk x=yar x:=by kernel_rfl
def yBz (x:(yho).X):Nat:=18446744073709551616
def ymc (x:(yho).X):Option ((yhd).X ⊕ (ymk).X):=zz yar (yBz x) (yBo x)
def yBP:Seg:=⟨yho,yhd,ymk,ymc⟩
def yES:Nat→Option Seg:=fun q=>bif Nat.beq q 61 then some yBP else yER q
theorem yRh:FrOk prog ⟨ys8,41,yES⟩ ym6:=(yRg).loop (sg:=yBP) ycr yBo (by decide) yQq yar yBz (by decide) (fun _=>rfl) (fun x r _ h=>h) yTk
abbrev yfM:List Par:= [.rd tA,.rd tI]
abbrev ynw:List OT:= [⟨false,tL,(.ow .fz)⟩,⟨false,tB,.fz⟩]
def ypA (a0:dA) (a1:Int):Option (ResD ynw×MutD yfM) :=
 bnd (ylS a0 a1) fun r1 =>
 zjW (ymc (((a1,()),((),()),((),()),(r1.1.2.1,()),((),()),((),()),()),((a0.1,a0.2.1.1,a0.2.1.2,a0.2.2.1,a0.2.2.2.1,a0.2.2.2.2.1,a0.2.2.2.2.2.1,a0.2.2.2.2.2.2.1,a0.2.2.2.2.2.2.2.1,a0.2.2.2.2.2.2.2.2.1,a0.2.2.2.2.2.2.2.2.2.1,a0.2.2.2.2.2.2.2.2.2.2.1,a0.2.2.2.2.2.2.2.2.2.2.2,()),()),(r1.1.1,([]:List Int),()))) (fun y3 =>
 some ((y3.2.2.1,y3.1.1.1,()),())) (fun y3 =>
 none)
theorem y0Y (x:InD yfM):zju ⟨ys8,41,yES⟩ f218.results.toList ym6 yfM ynw x=ypA x.1 x.2.1:=by kernel_rfl
theorem yWv:ConOk prog 218 ⟨yfM,ynw,fun x=>ypA x.1 x.2.1⟩:=zjZ (yRh) func218 (by kernel_rfl) (by kernel_rfl) ntmps218.symm (by decide) (fun x r h=>(y0Y x).trans h)
def ytN (a0:dA) (a1:Int):List Int×Bool:=ytM a0 a1
def yAh (a0:dA) (a1:Int):Bool:=strOk a0.2.1 a1
theorem yYN (a0:dA) (a1:Int) (hk:zi0 yfM (a0,a1,())) (hq:yAh a0 a1=true):ypA a0 a1=(fun n=>some ((n.1,n.2,()),())) (ytN a0 a1):=by
 have hs:strOk a0.2.1 a1=true:=hq;have hg:=yg.1 (yG.1 hs).1;unfold ypA ytN ytM;rw[yGh a0 a1 (yG.1 hs).1,ygU];simp only[zka]
 cases hw:(yA a0 a1).2
 ·have h1:ymc (yBH a1 false a0 (yA a0 a1).1 [])=some (.inl (yst false [])) :=
   zkd (step:=yar) (fun i=>ygu a1 false i a0 (yA a0 a1).1 []) 0 _ (fun i hi=>absurd hi (Nat.not_lt_zero _)) (by
    simp only[yar,ygu,ykC,cond_false]
    cases ltb ((0:Nat):Int) (IntKind.i64.wrap (a0.2.1.1-1))<;>rfl) _ (by show _<18446744073709551616; omega)
  rw[h1]; rfl
 ·have hL:=yNb hw
  have h1:ymc (yBH a1 true a0 (yA a0 a1).1 [])=some (.inl (yst true ((List.range (a0.2.1.1-1).toNat).foldl (fun l (i:Nat)=>l++ [nth (yA a0 a1).1 (ybi a0.2.1 a1 i) 0]) []))) :=
   zj6 (step:=yar) (a0.2.1.1-1).toNat (fun i s=>ygu a1 true i a0 (yA a0 a1).1 s) (fun l (i:Nat)=>l++ [nth (yA a0 a1).1 (ybi a0.2.1 a1 i) 0]) (fun i s=>s.length=i) (fun s=> .inl (yst true s)) (fun i s hi hs2=>⟨by
    have hd:=yXJ hs (show(0:Int)≤i by omega) (show(i:Int)≤a0.2.1.1-2 by omega);simp only[yar,ygu,ykC,wr (show -9223372036854775808≤a0.2.1.1-1 by omega) (by omega),zj2 (show(i:Int)<a0.2.1.1-1 by omega),cond_true,wr (show -9223372036854775808≤(i:Int)+1 by omega) (by omega),Int.natCast_add,Int.natCast_one,Int.toNat_natCast,zkp,ynM,zjA.2 (show 0≤ybi a0.2.1 a1 i∧ybi a0.2.1 a1 i<(yA a0 a1).1.length by omega)]
    rw[zj8.2 (show(s.length+ [nth (yA a0 a1).1 (ybi a0.2.1 a1 i) 0].length)*8≤140737488355328 by simp only[List.length_cons,List.length_nil]; omega)]; rfl,by simp[hs2]⟩) (fun s hs2=>by simp only[yar,ygu,ykC,wr (show -9223372036854775808≤a0.2.1.1-1 by omega) (by omega),zkv (show a0.2.1.1-1≤((a0.2.1.1-1).toNat:Int)by omega),cond_false]) [] rfl _ (by show _<18446744073709551616; omega)
  rw[h1,yrv]; rfl
def ytP (a0:dA) (a1:Int):Option (ResD ynw×MutD yfM):=bif yAh a0 a1 then(fun n=>some ((n.1,n.2,()),())) (ytN a0 a1)else none
theorem yZG (a0:dA) (a1:Int) (h:yAh a0 a1=true):ytP a0 a1=(fun n=>some ((n.1,n.2,()),())) (ytN a0 a1):=by unfold ytP; rw[h]; rfl
def yFR:Con:=⟨yfM,ynw,fun x=>ytP x.1 x.2.1⟩
theorem yZz:ConOk prog 218 yFR:=(yWv).mono (fun x r hk h=>zkq h (fun hq=>yYN x.1 x.2.1 hk hq))
end
section
def yEG:Code:=(f181.body).getD .skip
def yFi:Env:=zj0 TT [(215,yz8),(218,yFR)] []
theorem yL6:FrOk prog ⟨yFi,28,fun _=>none⟩ yEG:=zj4 yc yd ⟨yMQ,yZz,trivial⟩
def yNF:Nat→Option Seg:=fun _=>none
abbrev yc3:List Par:= [.rd tA,.rd tI]
abbrev yi9:List OT:= [⟨false,tL,(.ow .fz)⟩,⟨false,tB,.fz⟩]
def ykB (a0:dA) (a1:Int):Option (ResD yi9×MutD yc3) :=
 let r1:=yjS a0 a1
 bif(leb 0 r1)then
 bif(inb r1 a0.2.2.2.2.2.2.2.2.1.length)then
 bif(zjO ([]:List Int).length ((nth a0.2.2.2.2.2.2.2.2.1 r1 (0,[])).2).length 8)then
 some (((([]:List Int)++((nth a0.2.2.2.2.2.2.2.2.1 r1 (0,[])).2)),true,()),())
 else none
 else none
 else
 bif a0.2.2.2.2.2.2.2.2.2.2.2 then
 some ((([]:List Int),false,()),())
 else
 bnd (ytP a0 a1) fun r2 =>
 some ((r2.1.1,r2.1.2.1,()),())
theorem yUE (x:InD yc3):zju ⟨yFi,28,yNF⟩ f181.results.toList yEG yc3 yi9 x=ykB x.1 x.2.1:=by kernel_rfl
theorem yPp:ConOk prog 181 ⟨yc3,yi9,fun x=>ykB x.1 x.2.1⟩:=zjZ (yL6) func181 (by kernel_rfl) (by kernel_rfl) ntmps181.symm (by decide) (fun x r h=>(yUE x).trans h)
def yjE (a0:dA) (a1:Int):List Int×Bool:=ybj a0 a1
def ywR (a0:dA) (a1:Int):Bool:=strOk a0.2.1 a1
theorem ySp (a0:dA) (a1:Int) (hk:zi0 yc3 (a0,a1,())) (hq:ywR a0 a1=true):ykB a0 a1=(fun n=>some ((n.1,n.2,()),())) (yjE a0 a1):=by
 unfold ykB yjE ybj yjS;rw[yZG a0 a1 hq];simp only[List.nil_append]
 cases h:leb 0 (yP a0.2.2.2.2.2.2.2.2.1 a1)
 ·cases a0.2.2.2.2.2.2.2.2.2.2.2<;>rfl
 ·have h1:=(yqj (d:=((0,[]):dW)) h).1
  have h2:(nth a0.2.2.2.2.2.2.2.2.1 (yP a0.2.2.2.2.2.2.2.2.1 a1) (0,[])).2.length*8≤2^47:=yHY (P:=fun x:dW=>x.2.length*8≤2^47) h1 (fun x hx=>(hk.1.2.2.2.2.2.2.2.2.1.2 x hx).2.1);rw[show inb (yP a0.2.2.2.2.2.2.2.2.1 a1) a0.2.2.2.2.2.2.2.2.1.length=true from h1,zj8.2 (show(([]:List Int).length+(nth a0.2.2.2.2.2.2.2.2.1 (yP a0.2.2.2.2.2.2.2.2.1 a1) (0,[])).2.length)*8≤140737488355328 by rw[List.length_nil]; omega)]; rfl
def ypk (a0:dA) (a1:Int):Option (ResD yi9×MutD yc3):=bif ywR a0 a1 then(fun n=>some ((n.1,n.2,()),())) (yjE a0 a1)else none
theorem yTb (a0:dA) (a1:Int) (h:ywR a0 a1=true):ypk a0 a1=(fun n=>some ((n.1,n.2,()),())) (yjE a0 a1):=by unfold ypk; rw[h]; rfl
def yBf:Con:=⟨yc3,yi9,fun x=>ypk x.1 x.2.1⟩
theorem yS7:ConOk prog 181 yBf:=(yPp).mono (fun x r hk h=>zkq h (fun hq=>ySp x.1 x.2.1 hk hq))
end
section
def yGH:Code:=(f182.body).getD .skip
def yHj:Env:=zj0 TT [(82,yw),(119,ypc)] []
theorem yOl:FrOk prog ⟨yHj,16,fun _=>none⟩ yGH:=zj4 yc yd ⟨yD,yyi,trivial⟩
def yQa:Nat→Option Seg:=fun _=>none
abbrev ygN:List Par:= [.rd tG,.rd tI]
abbrev yrk:List OT:= [⟨false,tI,.fz⟩]
def ymK (a0:dG) (a1:Int):Option (ResD yrk×MutD ygN) :=
 let r1:=yr a0
 let r2:=ya a1 0 (IntKind.i64.wrap (r1-1))
 bif(!r2)then
 some (((-1),()),())
 else
 bif((IntKind.i64.wrap (a0.1-1)) !=0)then
 some (((a1.tmod (IntKind.i64.wrap (a0.1-1))),()),())
 else none
theorem yXY (x:InD ygN):zju ⟨yHj,16,yQa⟩ f182.results.toList yGH ygN yrk x=ymK x.1 x.2.1:=by kernel_rfl
theorem ySE:ConOk prog 182 ⟨ygN,yrk,fun x=>ymK x.1 x.2.1⟩:=zjZ (yOl) func182 (by kernel_rfl) (by kernel_rfl) ntmps182.symm (by decide) (fun x r h=>(yXY x).trans h)
def ylI (a0:dG) (a1:Int):Int:=yyc a0 a1
theorem yVR (a0:dG) (a1:Int) (hk:zi0 ygN (a0,a1,())):ymK a0 a1=(fun n=>some ((n,()),())) (ylI a0 a1):=by
 unfold ymK ylI yyc;simp only[y4m]
 cases hb:blkOk a0 a1
 ·rfl
 ·obtain⟨h1,h2,h3⟩:=yFl hb
  have h4:=yg.1 h1;rw[wr (show -9223372036854775808≤a0.1-1 by omega) (by omega),show(a0.1-1 !=0)=true from bne_iff_ne.2 (by omega)]; rfl
def yC6:Con:=⟨ygN,yrk,fun x=>(fun n=>some ((n,()),())) (ylI x.1 x.2.1)⟩
theorem yWO:ConOk prog 182 yC6:=(ySE).mono (fun x r hk h=>(yVR x.1 x.2.1 hk).trans h)
end
section
def ypP:Code:=(f183.body).getD .skip
def yvu:Env:=zj0 TT [] [(4096,(.pr .fz .fz)),(28800,(.pr .fz .fz)),(41472,(.pr .fz .fz)),(49280,(.pr .fz .fz))]
theorem yVj:FrOk prog ⟨yvu,67,fun _=>none⟩ ypP:=zj4 yc yd trivial
def yHb:Nat→Option Seg:=fun _=>none
def ydh:Shape:=⟨[(0,false,[.ptr 1000000000 0]),(3,false,[.ptr 0 0]),(4,false,[.at 800000000]),(5,false,[.bool]),(6,false,[.int .i64])],[(0,[.int .i64,.fz tI]),(1000000000,[.int .i64,.int .i64,.int .i64,.at 800000001,.int .i64,.int .i64,.int .i64,.int .i64,.int .i64,.at 800000002,.int .i64,.bool,.bool])],[(800000000,tW,(.pr .fz .fz)),(800000001,tM,(.pr (.ow .fz) (.pr (.ow (.pr .fz .fz)) (.pr .fz (.ow .fz))))),(800000002,tW,(.pr .fz .fz))]⟩
def yi2:Shape:=⟨[(0,false,[.ptr 1000000000 0]),(3,false,[.ptr 0 0]),(4,false,[.at 800000000]),(5,false,[.cb false]),(6,false,[.ci .i64 0])],[(0,[.int .i64,.fz tI]),(1000000000,[.int .i64,.int .i64,.int .i64,.at 800000001,.int .i64,.int .i64,.int .i64,.int .i64,.int .i64,.at 800000002,.int .i64,.bool,.bool])],[(800000000,tW,(.pr .fz .fz)),(800000001,tM,(.pr (.ow .fz) (.pr (.ow (.pr .fz .fz)) (.pr .fz (.ow .fz))))),(800000002,tW,(.pr .fz .fz))]⟩
def yiN:Shape:=⟨[(0,false,[.ptr 1000000000 0]),(3,false,[.ptr 0 0]),(4,false,[.at 800000000]),(5,false,[.bool])],[(0,[.int .i64,.fz tI]),(1000000000,[.int .i64,.int .i64,.int .i64,.at 800000001,.int .i64,.int .i64,.int .i64,.int .i64,.int .i64,.at 800000002,.int .i64,.bool,.bool])],[(800000000,tW,(.pr .fz .fz)),(800000001,tM,(.pr (.ow .fz) (.pr (.ow (.pr .fz .fz)) (.pr .fz (.ow .fz))))),(800000002,tW,(.pr .fz .fz))]⟩
def yo7:Shape:=⟨[],[],[]⟩
abbrev yuw (v0:Bool) (v1:Int) (v2:dW) (v3:dA) (v4:List dW):(ydh).X:=((((),()),((),()),((),()),(v0,()),(v1,()),()),((v2.1,v2.2,()),(v3.1,v3.2.1.1,v3.2.1.2,(),v3.2.2.2.1,v3.2.2.2.2.1,v3.2.2.2.2.2.1,v3.2.2.2.2.2.2.1,v3.2.2.2.2.2.2.2.1,(),v3.2.2.2.2.2.2.2.2.2.1,v3.2.2.2.2.2.2.2.2.2.2.1,v3.2.2.2.2.2.2.2.2.2.2.2,()),()),(v4,v3.2.2.1,v3.2.2.2.2.2.2.2.2.1,()))
abbrev yRU (v0:dW) (v1:dA) (v2:List dW):(yi2).X:=((((),()),((),()),((),()),((),()),((),()),()),((v0.1,v0.2,()),(v1.1,v1.2.1.1,v1.2.1.2,(),v1.2.2.2.1,v1.2.2.2.2.1,v1.2.2.2.2.2.1,v1.2.2.2.2.2.2.1,v1.2.2.2.2.2.2.2.1,(),v1.2.2.2.2.2.2.2.2.2.1,v1.2.2.2.2.2.2.2.2.2.2.1,v1.2.2.2.2.2.2.2.2.2.2.2,()),()),(v2,v1.2.2.1,v1.2.2.2.2.2.2.2.2.1,()))
abbrev yRG (v0:Bool) (v1:dW) (v2:dA) (v3:List dW):(yiN).X:=((((),()),((),()),((),()),(v0,()),()),((v1.1,v1.2,()),(v2.1,v2.2.1.1,v2.2.1.2,(),v2.2.2.2.1,v2.2.2.2.2.1,v2.2.2.2.2.2.1,v2.2.2.2.2.2.2.1,v2.2.2.2.2.2.2.2.1,(),v2.2.2.2.2.2.2.2.2.2.1,v2.2.2.2.2.2.2.2.2.2.2.1,v2.2.2.2.2.2.2.2.2.2.2.2,()),()),(v3,v2.2.2.1,v2.2.2.2.2.2.2.2.2.1,()))
def yuS (v0:Bool) (v1 v2:Int) (v3:List Int) (v4 v5 v6 v7 v8 v9 v10 v11 v12:Int) (v13 v14:Bool) (v15:List dW) (v16:List dM) (v17:List dW):Option ((ydh).X ⊕ ((yiN).X ⊕ (yo7).X)) :=
 bif(ltb v1 (v17.length:Int))then
 bif(!v0)then
 bif(inb v1 v17.length)then
 bif(leb v2 ((nth v17 v1 (0,[])).1))then
 bif(zjO v15.length ([(v2,v3)]:List dW).length 32)then
 bif(inb v1 v17.length)then
 bif((nth v17 v1 (0,[])).1 !=v2)then
 bif(inb v1 v17.length)then
 bif(zjO (v15++([(v2,v3)]:List dW)).length ([(nth v17 v1 (0,[]))]:List dW).length 32)then
 some (.inl ((((),()),((),()),((),()),(true,()),((IntKind.i64.wrap (v1+1)),()),()),((v2,v3,()),(v4,v5,v6,(),v7,v8,v9,v10,v11,(),v12,v13,v14,()),()),(((v15++([(v2,v3)]:List dW))++([(nth v17 v1 (0,[]))]:List dW)),v16,v17,())))
 else none
 else none
 else
 some (.inl ((((),()),((),()),((),()),(true,()),((IntKind.i64.wrap (v1+1)),()),()),((v2,v3,()),(v4,v5,v6,(),v7,v8,v9,v10,v11,(),v12,v13,v14,()),()),((v15++([(v2,v3)]:List dW)),v16,v17,())))
 else none
 else none
 else
 bif(inb v1 v17.length)then
 bif((nth v17 v1 (0,[])).1 !=v2)then
 bif(inb v1 v17.length)then
 bif(zjO v15.length ([(nth v17 v1 (0,[]))]:List dW).length 32)then
 some (.inl ((((),()),((),()),((),()),(v0,()),((IntKind.i64.wrap (v1+1)),()),()),((v2,v3,()),(v4,v5,v6,(),v7,v8,v9,v10,v11,(),v12,v13,v14,()),()),((v15++([(nth v17 v1 (0,[]))]:List dW)),v16,v17,())))
 else none
 else none
 else
 some (.inl ((((),()),((),()),((),()),(v0,()),((IntKind.i64.wrap (v1+1)),()),()),((v2,v3,()),(v4,v5,v6,(),v7,v8,v9,v10,v11,(),v12,v13,v14,()),()),(v15,v16,v17,())))
 else none
 else none
 else
 bif(inb v1 v17.length)then
 bif((nth v17 v1 (0,[])).1 !=v2)then
 bif(inb v1 v17.length)then
 bif(zjO v15.length ([(nth v17 v1 (0,[]))]:List dW).length 32)then
 some (.inl ((((),()),((),()),((),()),(v0,()),((IntKind.i64.wrap (v1+1)),()),()),((v2,v3,()),(v4,v5,v6,(),v7,v8,v9,v10,v11,(),v12,v13,v14,()),()),((v15++([(nth v17 v1 (0,[]))]:List dW)),v16,v17,())))
 else none
 else none
 else
 some (.inl ((((),()),((),()),((),()),(v0,()),((IntKind.i64.wrap (v1+1)),()),()),((v2,v3,()),(v4,v5,v6,(),v7,v8,v9,v10,v11,(),v12,v13,v14,()),()),(v15,v16,v17,())))
 else none
 else
 some (.inr (.inl ((((),()),((),()),((),()),(v0,()),()),((v2,v3,()),(v4,v5,v6,(),v7,v8,v9,v10,v11,(),v12,v13,v14,()),()),(v15,v16,v17,()))))
def ydR (x:(ydh).X):=yuS x.1.2.2.2.1.1 x.1.2.2.2.2.1.1 x.2.1.1.1 x.2.1.1.2.1 x.2.1.2.1.1 x.2.1.2.1.2.1 x.2.1.2.1.2.2.1 x.2.1.2.1.2.2.2.2.1 x.2.1.2.1.2.2.2.2.2.1 x.2.1.2.1.2.2.2.2.2.2.1 x.2.1.2.1.2.2.2.2.2.2.2.1 x.2.1.2.1.2.2.2.2.2.2.2.2.1 x.2.1.2.1.2.2.2.2.2.2.2.2.2.2.1 x.2.1.2.1.2.2.2.2.2.2.2.2.2.2.2.1 x.2.1.2.1.2.2.2.2.2.2.2.2.2.2.2.2.1 x.2.2.1 x.2.2.2.1 x.2.2.2.2.1
def yDt (x:(yi2).X):(ydh).X:=((((),()),((),()),((),()),(false,()),(0,()),()),((x.2.1.1.1,x.2.1.1.2.1,()),(x.2.1.2.1.1,x.2.1.2.1.2.1,x.2.1.2.1.2.2.1,(),x.2.1.2.1.2.2.2.2.1,x.2.1.2.1.2.2.2.2.2.1,x.2.1.2.1.2.2.2.2.2.2.1,x.2.1.2.1.2.2.2.2.2.2.2.1,x.2.1.2.1.2.2.2.2.2.2.2.2.1,(),x.2.1.2.1.2.2.2.2.2.2.2.2.2.2.1,x.2.1.2.1.2.2.2.2.2.2.2.2.2.2.2.1,x.2.1.2.1.2.2.2.2.2.2.2.2.2.2.2.2.1,()),()),(x.2.2.1,x.2.2.2.1,x.2.2.2.2.1,()))
def yFA:Code:=(zef ypP 64 244).getD .skip
theorem yUb:zef ypP 64 61=some (.block 0 (.loop yFA)):=by kernel_rfl
theorem yXg (x:(ydh).X):zg0 ⟨yvu,67,yHb⟩ 0 yFA 244 ydh yiN yo7 x=ydR x:=by kernel_rfl
def yDJ (x:(yi2).X):Nat:=18446744073709551616
def yvJ (x:(yi2).X):Option ((yiN).X ⊕ (yo7).X):=zz ydR (yDJ x) (yDt x)
def yEi:Seg:=⟨yi2,yiN,yo7,yvJ⟩
def yHc:Nat→Option Seg:=fun q=>bif Nat.beq q 61 then some yEi else yHb q
theorem yVk:FrOk prog ⟨yvu,67,yHc⟩ ypP:=(yVj).loop (sg:=yEi) ydh yDt (by decide) yUb ydR yDJ (by decide) (fun _=>rfl) (fun x r _ h=>h) yXg
abbrev yg4:List Par:= [.pt tA (.pr .fz (.pr (.pr .fz .fz) (.pr (.ow (.pr (.ow .fz) (.pr (.ow (.pr .fz .fz)) (.pr .fz (.ow .fz))))) (.pr .fz (.pr .fz (.pr .fz (.pr .fz (.pr .fz (.pr (.ow (.pr .fz .fz)) (.pr .fz (.pr .fz .fz))))))))))),.kp tW .fz]
abbrev yqd:List OT:= []
def yrX (a0:dA) (a1:dW):Option (ResD yqd×MutD yg4) :=
 zjW (yvJ ((((),()),((),()),((),()),((),()),((),()),()),((a1.1,a1.2,()),(a0.1,a0.2.1.1,a0.2.1.2,(),a0.2.2.2.1,a0.2.2.2.2.1,a0.2.2.2.2.2.1,a0.2.2.2.2.2.2.1,a0.2.2.2.2.2.2.2.1,(),a0.2.2.2.2.2.2.2.2.2.1,a0.2.2.2.2.2.2.2.2.2.2.1,a0.2.2.2.2.2.2.2.2.2.2.2,()),()),(([]:List dW),a0.2.2.1,a0.2.2.2.2.2.2.2.2.1,()))) (fun y0 =>
 bif(!y0.1.2.2.2.1.1)then
 bif(zjO y0.2.2.1.length ([(y0.2.1.1.1,y0.2.1.1.2.1)]:List dW).length 32)then
 some ((),((y0.2.1.2.1.1,(y0.2.1.2.1.2.1,y0.2.1.2.1.2.2.1),y0.2.2.2.1,y0.2.1.2.1.2.2.2.2.1,y0.2.1.2.1.2.2.2.2.2.1,y0.2.1.2.1.2.2.2.2.2.2.1,y0.2.1.2.1.2.2.2.2.2.2.2.1,y0.2.1.2.1.2.2.2.2.2.2.2.2.1,(y0.2.2.1++([(y0.2.1.1.1,y0.2.1.1.2.1)]:List dW)),y0.2.1.2.1.2.2.2.2.2.2.2.2.2.2.1,y0.2.1.2.1.2.2.2.2.2.2.2.2.2.2.2.1,y0.2.1.2.1.2.2.2.2.2.2.2.2.2.2.2.2.1),()))
 else none
 else
 some ((),((y0.2.1.2.1.1,(y0.2.1.2.1.2.1,y0.2.1.2.1.2.2.1),y0.2.2.2.1,y0.2.1.2.1.2.2.2.2.1,y0.2.1.2.1.2.2.2.2.2.1,y0.2.1.2.1.2.2.2.2.2.2.1,y0.2.1.2.1.2.2.2.2.2.2.2.1,y0.2.1.2.1.2.2.2.2.2.2.2.2.1,y0.2.2.1,y0.2.1.2.1.2.2.2.2.2.2.2.2.2.2.1,y0.2.1.2.1.2.2.2.2.2.2.2.2.2.2.2.1,y0.2.1.2.1.2.2.2.2.2.2.2.2.2.2.2.2.1),()))) (fun y0 =>
 none)
theorem y2t (x:InD yg4):zju ⟨yvu,67,yHc⟩ f183.results.toList ypP yg4 yqd x=yrX x.1 x.2.1:=by kernel_rfl
theorem yZi:ConOk prog 183 ⟨yg4,yqd,fun x=>yrX x.1 x.2.1⟩:=zjZ (yVk) func183 (by kernel_rfl) (by kernel_rfl) ntmps183.symm (by decide) (fun x r h=>(y2t x).trans h)
def ywM (a0:dA) (a1:dW):dA:=yyA a0 (yMS a0.2.2.2.2.2.2.2.2.1 a1)
def yD2 (a0:dA) (a1:dW):Bool:=decide (a0.2.2.2.2.2.2.2.2.1.length≤1000)
theorem y1v (a0:dA) (a1:dW) (hk:zi0 yg4 (a0,a1,())) (hq:yD2 a0 a1=true):yrX a0 a1=(fun n=>some ((),(n,()))) (ywM a0 a1):=by
 have hq:=of_decide_eq_true hq
 have h1:=zj1 (step:=ydR) a0.2.2.2.2.2.2.2.2.1 (0,[]) (fun i s=>yuw s.1 i a1 a0 s.2) (ycd a1) (fun i s=>s.2.length≤i*2) (fun s=> .inl (yRG s.1 a1 a0 s.2)) (fun i s hi hs=>by
  constructor
  ·simp only[ydR,yuw,yuS,zj2 (show(i:Int)<a0.2.2.2.2.2.2.2.2.1.length by omega),cond_true,wr (show -9223372036854775808≤(i:Int)+1 by omega) (by omega),Int.natCast_add,Int.natCast_one,Int.toNat_natCast,zkj hi,zkp,zkk,ycd,zj8.2 (show(s.2.length+ [a1].length)*32≤140737488355328 by simp only[List.length_cons,List.length_nil]; omega),
    show ∀x:dW,zjO s.2.length [x].length 32=true from fun x=>zj8.2 (by simp only[List.length_cons,List.length_nil]; omega),show ∀x:dW,zjO (s.2++ [a1]).length [x].length 32=true from fun x=>zj8.2 (by simp only[List.length_append,List.length_cons,List.length_nil]; omega)]
   cases s.1<;>cases leb a1.1 (a0.2.2.2.2.2.2.2.2.1.getD i (0,[])).1<;>cases((a0.2.2.2.2.2.2.2.2.1.getD i (0,[])).1 !=a1.1)<;>simp
  ·unfold ycd
   have: ∀(b c:Bool) (x:dW),((bif b then s.2++ [a1]else s.2)++(bif c then[x]else[])).length≤(i+1)*2:=fun b c x=>by
    cases b<;>cases c<;>simp<;>omega
   exact this _ _ _) (fun s hs=>by simp only[ydR,yuw,yuS,zkv (Int.le_refl _),cond_false]) (false,[]) (Nat.zero_le _) 18446744073709551616 (by omega)
 have hl:((a0.2.2.2.2.2.2.2.2.1.foldl (ycd a1) (false,[])).2).length≤2000:=by
  have: ∀(l:List dW) (s:Bool×List dW),((l.foldl (ycd a1) s).2).length≤s.2.length+l.length*2:=by
   intro l
   induction l with
   | nil=>intro s; simp
   | cons x t ih =>
    intro s;rw[List.foldl_cons];have:=ih (ycd a1 s x)
    have h2:(ycd a1 s x).2.length≤s.2.length+2:=by
     unfold ycd
     cases(!s.1&&leb a1.1 x.1)<;>cases(x.1 !=a1.1)<;>simp
    simp only[List.length_cons]; omega
  have:=this a0.2.2.2.2.2.2.2.2.1 (false,[]);simp only[List.length_nil]at this;omega
 unfold yrX ywM yMS;refine(congrArg (fun z=>zjW z _ _) (show yvJ (yRU a1 a0 [])=_ from h1)).trans ?_;generalize a0.2.2.2.2.2.2.2.2.1.foldl (ycd a1) (false,[])=R at hl;simp only[zkf,zkp]
 cases hr:R.1
 ·rw[zj8.2 (show(R.2.length+ [a1].length)*32≤140737488355328 by simp only[List.length_cons,List.length_nil]; omega)]; rfl
 ·rfl
def ywO (a0:dA) (a1:dW):Option (ResD yqd×MutD yg4):=bif yD2 a0 a1 then(fun n=>some ((),(n,()))) (ywM a0 a1)else none
theorem y1P (a0:dA) (a1:dW) (h:yD2 a0 a1=true):ywO a0 a1=(fun n=>some ((),(n,()))) (ywM a0 a1):=by unfold ywO; rw[h]; rfl
def yHL:Con:=⟨yg4,yqd,fun x=>ywO x.1 x.2.1⟩
theorem y1M:ConOk prog 183 yHL:=(yZi).mono (fun x r hk h=>zkq h (fun hq=>y1v x.1 x.2.1 hk hq))
end
section
def yK0:Code:=(f118.body).getD .skip
def yLf:Env:=zj0 TT [(180,yBc),(181,yBf),(182,yC6),(183,yHL)] []
theorem yVl:FrOk prog ⟨yLf,40,fun _=>none⟩ yK0:=zj4 yc yd ⟨yS4,yS7,yWO,y1M,trivial⟩
def yXz:Nat→Option Seg:=fun _=>none
abbrev yg5:List Par:= [.pt tA (.pr .fz (.pr (.pr .fz .fz) (.pr (.ow (.pr (.ow .fz) (.pr (.ow (.pr .fz .fz)) (.pr .fz (.ow .fz))))) (.pr .fz (.pr .fz (.pr .fz (.pr .fz (.pr .fz (.pr (.ow (.pr .fz .fz)) (.pr .fz (.pr .fz .fz))))))))))),.rd tI,.rd tI]
abbrev yqe:List OT:= [⟨false,tI,.fz⟩]
def yrY (a0:dA) (a1 a2:Int):Option (ResD yqe×MutD yg5) :=
 let r1:=yjC a0.2.1 a1
 bnd (ypk a0 r1) fun r2 =>
 bif(!r2.1.2.1)then
 some ((5,()),(a0,()))
 else
 let r3:=ylI a0.2.1 a1
 bif(inb r3 r2.1.1.length)then
 bnd (ywO a0 (r1,(r2.1.1.set (r3).toNat a2))) fun r4 =>
 some ((0,()),(r4.2.1,()))
 else none
theorem y2u (x:InD yg5):zju ⟨yLf,40,yXz⟩ f118.results.toList yK0 yg5 yqe x=yrY x.1 x.2.1 x.2.2.1:=by kernel_rfl
theorem yZj:ConOk prog 118 ⟨yg5,yqe,fun x=>yrY x.1 x.2.1 x.2.2.1⟩:=zjZ (yVl) func118 (by kernel_rfl) (by kernel_rfl) ntmps118.symm (by decide) (fun x r h=>(y2u x).trans h)
def setOne (a:dA) (b n:Int):Int×dA:=bif(ybj a (ybM a.2.1 b)).2 then(0,yyA a (yMS a.2.2.2.2.2.2.2.2.1 (ybM a.2.1 b,(ybj a (ybM a.2.1 b)).1.set (yyc a.2.1 b).toNat n)))else(5,a)
def ywN (a0:dA) (a1 a2:Int):Int×dA:=setOne a0 a1 a2
def yqE (a0:dA) (a1 a2:Int):Bool:=yR a0&&(blkOk a0.2.1 a1&&decide (a0.2.2.2.2.2.2.2.2.1.length≤1000))
theorem y1w (a0:dA) (a1 a2:Int) (hk:zi0 yg5 (a0,a1,a2,())) (hq:yqE a0 a1 a2=true):yrY a0 a1 a2=(fun n=>some ((n.1,()),(n.2,()))) (ywN a0 a1 a2):=by
 simp only[yqE,Bool.and_eq_true]at hq;have hs:=yGA hq.2.1;obtain⟨hg,_,hi⟩:=yFl hq.2.1;unfold yrY ywN setOne;simp only[yjC,ylI];rw[yTb a0 (ybM a0.2.1 a1) hs];simp only[zka,yjE]
 cases hn:(ybj a0 (ybM a0.2.1 a1)).2
 ·rfl
 ·have hl:=yAm hq.1 hs hn
  have hx:yyc a0.2.1 a1=a1.tmod (a0.2.1.1-1):=by unfold yyc; rw[hq.2.1]; rfl
  rw[zjA.2 (show 0≤yyc a0.2.1 a1∧yyc a0.2.1 a1<(ybj a0 (ybM a0.2.1 a1)).1.length by omega),y1P _ _ hq.2.2];rfl
def yff (a0:dA) (a1 a2:Int):Option (ResD yqe×MutD yg5):=bif yqE a0 a1 a2 then(fun n=>some ((n.1,()),(n.2,()))) (ywN a0 a1 a2)else none
theorem y1Q (a0:dA) (a1 a2:Int) (h:yqE a0 a1 a2=true):yff a0 a1 a2=(fun n=>some ((n.1,()),(n.2,()))) (ywN a0 a1 a2):=by unfold yff; rw[h]; rfl
def yHM:Con:=⟨yg5,yqe,fun x=>yff x.1 x.2.1 x.2.2.1⟩
theorem y1N:ConOk prog 118 yHM:=(yZj).mono (fun x r hk h=>zkq h (fun hq=>y1w x.1 x.2.1 x.2.2.1 hk hq))
end
section
def ym5:Code:=(f177.body).getD .skip
def ys7:Env:=zj0 TT [(82,yw)] [(28864,.fz),(28928,.fz)]
theorem yQ4:FrOk prog ⟨ys7,22,fun _=>none⟩ ym5:=zj4 yc yd ⟨yD,trivial⟩
def yEN:Nat→Option Seg:=fun _=>none
def ycn:Shape:=⟨[(0,false,[.int .i64]),(2,false,[.ptr 0 0]),(3,false,[.ptr 12352 0]),(4,false,[.int .i64])],[(0,[.nil,.nil,.bool,.nil]),(12352,[.at 800000000,.nil,.bool,.nil])],[(800000000,tL,.fz)]⟩
def yhk:Shape:=⟨[(0,false,[.int .i64]),(2,false,[.ptr 0 0]),(3,false,[.ptr 12352 0]),(4,false,[.ci .i64 0])],[(0,[.nil,.nil,.bool,.nil]),(12352,[.at 800000000,.nil,.bool,.nil])],[(800000000,tL,.fz)]⟩
def yg9:Shape:=⟨[(2,false,[.ptr 0 0]),(3,false,[.ptr 12352 0])],[(0,[.nil,.nil,.bool,.nil]),(12352,[.at 800000000,.nil,.bool,.nil])],[(800000000,tL,.fz)]⟩
def ymh:Shape:=⟨[],[],[]⟩
abbrev ysm (v0 v1:Int) (v2 v3:dM):(ycn).X:=(((v0,()),((),()),((),()),(v1,()),()),(((),(),v2.2.2.1,(),()),((),(),v3.2.2.1,(),()),()),(v3.1,()))
abbrev yOM (v0:Int) (v1 v2:dM):(yhk).X:=(((v0,()),((),()),((),()),((),()),()),(((),(),v1.2.2.1,(),()),((),(),v2.2.2.1,(),()),()),(v2.1,()))
abbrev yOF (v0 v1:dM):(yg9).X:=((((),()),((),()),()),(((),(),v0.2.2.1,(),()),((),(),v1.2.2.1,(),()),()),(v1.1,()))
def ysF (v0 v1:Int) (v2 v3:Bool) (v4:List (List Int)):Option ((ycn).X ⊕ ((yg9).X ⊕ (ymh).X)) :=
 bif(ltb v1 v0)then
 bif(zjO v4.length ([([]:List Int)]:List (List Int)).length 24)then
 some (.inl (((v0,()),((),()),((),()),((IntKind.i64.wrap (v1+1)),()),()),(((),(),v2,(),()),((),(),v3,(),()),()),((v4++([([]:List Int)]:List (List Int))),())))
 else none
 else
 some (.inr (.inl ((((),()),((),()),()),(((),(),v2,(),()),((),(),v3,(),()),()),(v4,()))))
def ycR (x:(ycn).X):=ysF x.1.1.1 x.1.2.2.2.1.1 x.2.1.1.2.2.1 x.2.1.2.1.2.2.1 x.2.2.1
def yBk (x:(yhk).X):(ycn).X:=(((x.1.1.1,()),((),()),((),()),(0,()),()),(((),(),x.2.1.1.2.2.1,(),()),((),(),x.2.1.2.1.2.2.1,(),()),()),(x.2.2.1,()))
def yCQ:Code:=(zef ym5 64 244).getD .skip
theorem yQm:zef ym5 64 61=some (.block 0 (.loop yCQ)):=by kernel_rfl
theorem yTg (x:(ycn).X):zg0 ⟨ys7,22,yEN⟩ 0 yCQ 244 ycn yg9 ymh x=ycR x:=by kernel_rfl
def yBv (x:(yhk).X):Nat:=18446744073709551616
def yt4 (x:(yhk).X):Option ((yg9).X ⊕ (ymh).X):=zz ycR (yBv x) (yBk x)
def yBL:Seg:=⟨yhk,yg9,ymh,yt4⟩
def yEO:Nat→Option Seg:=fun q=>bif Nat.beq q 61 then some yBL else yEN q
theorem yQ5:FrOk prog ⟨ys7,22,yEO⟩ ym5:=(yQ4).loop (sg:=yBL) ycn yBk (by decide) yQm ycR yBv (by decide) (fun _=>rfl) (fun x r _ h=>h) yTg
abbrev yh6:List Par:= [.rd tI]
abbrev ytx:List OT:= [⟨false,tM,(.pr (.ow .fz) (.pr (.ow (.pr .fz .fz)) (.pr .fz (.ow .fz))))⟩]
def ypx (a0:Int):Option (ResD ytx×MutD yh6) :=
 let r1:=ya a0 1 20
 bif(!r1)then
 some ((([],[],false,[]),()),())
 else
 zjW (yt4 (((a0,()),((),()),((),()),((),()),()),(((),(),false,(),()),((),(),false,(),()),()),([],()))) (fun y1 =>
 some (((y1.2.2.1,[],y1.2.1.2.1.2.2.1,[]),()),())) (fun y1 =>
 none)
theorem y0P (x:InD yh6):zju ⟨ys7,22,yEO⟩ f177.results.toList ym5 yh6 ytx x=ypx x.1:=by kernel_rfl
theorem yWm:ConOk prog 177 ⟨yh6,ytx,fun x=>ypx x.1⟩:=zjZ (yQ5) func177 (by kernel_rfl) (by kernel_rfl) ntmps177.symm (by decide) (fun x r h=>(y0P x).trans h)
def ydW (a0:Int):dM:=yaD a0
theorem yYH (a0:Int) (hk:zi0 yh6 (a0,())):ypx a0=(fun n=>some ((n,()),())) (ydW a0):=by
 unfold ypx ydW yaD;simp only[ycf]
 cases hc:(leb 1 a0&&leb a0 20)
 ·rfl
 ·rw[Bool.and_eq_true,zjB,zjB]at hc
  have h1:yt4 (yOM a0 noMem noMem)=some (.inl (yOF noMem (List.replicate a0.toNat [],[],false,[]))) :=
   zkd (step:=ycR) (fun i=>ysm a0 i noMem (List.replicate i [],[],false,[])) a0.toNat _ (fun i hi=>by
    simp only[ycR,ysm,ysF,zj2 (show(i:Int)<a0 by omega),cond_true,wr (show -9223372036854775808≤(i:Int)+1 by omega) (by omega),Int.natCast_add,Int.natCast_one,Int.toNat_natCast]
    rw[zj8.2 (show((List.replicate i ([]:List Int)).length+([[]]:List (List Int)).length)*24≤140737488355328 by simp only[List.length_cons,List.length_nil,List.length_replicate]; omega),← List.replicate_succ']; rfl) (by simp only[ycR,ysm,ysF,zkv (show a0≤(a0.toNat:Int)by omega),cond_false]) _ (by show _<18446744073709551616; omega)
  rw[h1]; rfl
def ywi:Con:=⟨yh6,ytx,fun x=>(fun n=>some ((n,()),())) (ydW x.1)⟩
theorem yH7:ConOk prog 177 ywi:=(yWm).mono (fun x r hk h=>(yYH x.1 hk).trans h)
end
section
def ydS:Code:=(f115.body).getD .skip
def yhV:Env:=zj0 TT [(82,yw),(113,yfD),(144,ysi),(150,ygQ),(177,ywi),(178,ypd)] [(53440,(.pr (.ow .fz) (.pr (.ow (.pr .fz .fz)) (.pr .fz (.ow .fz))))),(53504,(.pr (.ow .fz) (.pr (.ow (.pr .fz .fz)) (.pr .fz (.ow .fz)))))]
theorem yQX:FrOk prog ⟨yhV,60,fun _=>none⟩ ydS:=zj4 yc yd ⟨yD,ylT,yDY,ynR,yH7,yyj,trivial⟩
def yEL:Nat→Option Seg:=fun _=>none
def yaO:Shape:=⟨[(0,false,[.int .i64]),(3,false,[.ptr 0 0]),(4,false,[.ptr 64 0]),(5,false,[.ptr 12480 0]),(6,false,[.int .i64]),(7,false,[.ptr 28864 0]),(8,false,[.int .i64])],[(0,[.int .i64,.int .i64]),(64,[.int .i64,.int .i64,.int .i64,.nil,.int .i64,.int .i64,.int .i64,.int .i64,.int .i64,.nil,.int .i64,.bool,.bool]),(12480,[.int .i64,.int .i64,.int .i64,.at 800000000,.int .i64,.int .i64,.int .i64,.int .i64,.int .i64,.nil,.int .i64,.bool,.bool]),(28864,[.at 800000001,.at 800000002,.bool,.at 800000003])],[(800000000,tM,(.pr (.ow .fz) (.pr (.ow (.pr .fz .fz)) (.pr .fz (.ow .fz))))),(800000001,tL,.fz),(800000002,tW,(.pr .fz .fz)),(800000003,tI,.fz)]⟩
def yed:Shape:=⟨[(0,false,[.int .i64]),(3,false,[.ptr 0 0]),(4,false,[.ptr 64 0]),(5,false,[.ptr 12480 0]),(6,false,[.int .i64]),(7,false,[.ptr 28864 0]),(8,false,[.ci .i64 0])],[(0,[.int .i64,.int .i64]),(64,[.int .i64,.int .i64,.int .i64,.nil,.int .i64,.int .i64,.int .i64,.int .i64,.int .i64,.nil,.int .i64,.bool,.bool]),(12480,[.int .i64,.int .i64,.int .i64,.at 800000000,.int .i64,.int .i64,.int .i64,.int .i64,.int .i64,.nil,.int .i64,.bool,.bool]),(28864,[.at 800000001,.at 800000002,.bool,.at 800000003])],[(800000000,tM,(.pr (.ow .fz) (.pr (.ow (.pr .fz .fz)) (.pr .fz (.ow .fz))))),(800000001,tL,.fz),(800000002,tW,(.pr .fz .fz)),(800000003,tI,.fz)]⟩
def yd7:Shape:=⟨[(0,false,[.int .i64]),(3,false,[.ptr 0 0]),(4,false,[.ptr 64 0]),(5,false,[.ptr 12480 0]),(6,false,[.int .i64]),(7,false,[.ptr 28864 0])],[(0,[.int .i64,.int .i64]),(64,[.int .i64,.int .i64,.int .i64,.nil,.int .i64,.int .i64,.int .i64,.int .i64,.int .i64,.nil,.int .i64,.bool,.bool]),(12480,[.int .i64,.int .i64,.int .i64,.at 800000000,.int .i64,.int .i64,.int .i64,.int .i64,.int .i64,.nil,.int .i64,.bool,.bool]),(28864,[.at 800000001,.at 800000002,.bool,.at 800000003])],[(800000000,tM,(.pr (.ow .fz) (.pr (.ow (.pr .fz .fz)) (.pr .fz (.ow .fz))))),(800000001,tL,.fz),(800000002,tW,(.pr .fz .fz)),(800000003,tI,.fz)]⟩
def yhO:Shape:=⟨[],[],[]⟩
abbrev ymt (v0 v1 v2:Int) (v3:dG) (v4 v5:dA) (v6:dM):(yaO).X:=(((v0,()),((),()),((),()),((),()),(v1,()),((),()),(v2,()),()),((v3.1,v3.2,()),(v4.1,v4.2.1.1,v4.2.1.2,(),v4.2.2.2.1,v4.2.2.2.2.1,v4.2.2.2.2.2.1,v4.2.2.2.2.2.2.1,v4.2.2.2.2.2.2.2.1,(),v4.2.2.2.2.2.2.2.2.2.1,v4.2.2.2.2.2.2.2.2.2.2.1,v4.2.2.2.2.2.2.2.2.2.2.2,()),(v5.1,v5.2.1.1,v5.2.1.2,(),v5.2.2.2.1,v5.2.2.2.2.1,v5.2.2.2.2.2.1,v5.2.2.2.2.2.2.1,v5.2.2.2.2.2.2.2.1,(),v5.2.2.2.2.2.2.2.2.2.1,v5.2.2.2.2.2.2.2.2.2.2.1,v5.2.2.2.2.2.2.2.2.2.2.2,()),((),(),v6.2.2.1,(),()),()),(v5.2.2.1,v6.1,v6.2.1,v6.2.2.2,()))
abbrev yIA (v0 v1:Int) (v2:dG) (v3 v4:dA) (v5:dM):(yed).X:=(((v0,()),((),()),((),()),((),()),(v1,()),((),()),((),()),()),((v2.1,v2.2,()),(v3.1,v3.2.1.1,v3.2.1.2,(),v3.2.2.2.1,v3.2.2.2.2.1,v3.2.2.2.2.2.1,v3.2.2.2.2.2.2.1,v3.2.2.2.2.2.2.2.1,(),v3.2.2.2.2.2.2.2.2.2.1,v3.2.2.2.2.2.2.2.2.2.2.1,v3.2.2.2.2.2.2.2.2.2.2.2,()),(v4.1,v4.2.1.1,v4.2.1.2,(),v4.2.2.2.1,v4.2.2.2.2.1,v4.2.2.2.2.2.1,v4.2.2.2.2.2.2.1,v4.2.2.2.2.2.2.2.1,(),v4.2.2.2.2.2.2.2.2.2.1,v4.2.2.2.2.2.2.2.2.2.2.1,v4.2.2.2.2.2.2.2.2.2.2.2,()),((),(),v5.2.2.1,(),()),()),(v4.2.2.1,v5.1,v5.2.1,v5.2.2.2,()))
abbrev ywJ (v0 v1:Int) (v2:dG) (v3 v4:dA) (v5:dM):(yd7).X:=(((v0,()),((),()),((),()),((),()),(v1,()),((),()),()),((v2.1,v2.2,()),(v3.1,v3.2.1.1,v3.2.1.2,(),v3.2.2.2.1,v3.2.2.2.2.1,v3.2.2.2.2.2.1,v3.2.2.2.2.2.2.1,v3.2.2.2.2.2.2.2.1,(),v3.2.2.2.2.2.2.2.2.2.1,v3.2.2.2.2.2.2.2.2.2.2.1,v3.2.2.2.2.2.2.2.2.2.2.2,()),(v4.1,v4.2.1.1,v4.2.1.2,(),v4.2.2.2.1,v4.2.2.2.2.1,v4.2.2.2.2.2.1,v4.2.2.2.2.2.2.1,v4.2.2.2.2.2.2.2.1,(),v4.2.2.2.2.2.2.2.2.2.1,v4.2.2.2.2.2.2.2.2.2.2.1,v4.2.2.2.2.2.2.2.2.2.2.2,()),((),(),v5.2.2.1,(),()),()),(v4.2.2.1,v5.1,v5.2.1,v5.2.2.2,()))
def ymZ (v0 v1 v2 v3 v4 v5 v6 v7 v8 v9 v10 v11 v12 v13:Int) (v14 v15:Bool) (v16 v17 v18 v19 v20 v21 v22 v23 v24:Int) (v25 v26 v27:Bool) (v28:List dM) (v29:List (List Int)) (v30:List dW) (v31:List Int):Option ((yaO).X ⊕ ((yd7).X ⊕ (yhO).X)) :=
 bif(ltb v2 v4)then
 let r13:=ybl v2
 bif(inb r13 v29.length)then
 some (.inl (((v0,()),((),()),((),()),((),()),(v1,()),((),()),((IntKind.i64.wrap (v2+1)),()),()),((v3,v4,()),(v5,v6,v7,(),v8,v9,v10,v11,v12,(),v13,v14,v15,()),(v16,v17,v18,(),v19,v20,v21,v22,v23,(),v24,v25,v26,()),((),(),v27,(),()),()),(v28,(v29.set (r13).toNat ([0]:List Int)),v30,v31,())))
 else none
 else
 some (.inr (.inl (((v0,()),((),()),((),()),((),()),(v1,()),((),()),()),((v3,v4,()),(v5,v6,v7,(),v8,v9,v10,v11,v12,(),v13,v14,v15,()),(v16,v17,v18,(),v19,v20,v21,v22,v23,(),v24,v25,v26,()),((),(),v27,(),()),()),(v28,v29,v30,v31,()))))
def ya4 (x:(yaO).X):=ymZ x.1.1.1 x.1.2.2.2.2.1.1 x.1.2.2.2.2.2.2.1.1 x.2.1.1.1 x.2.1.1.2.1 x.2.1.2.1.1 x.2.1.2.1.2.1 x.2.1.2.1.2.2.1 x.2.1.2.1.2.2.2.2.1 x.2.1.2.1.2.2.2.2.2.1 x.2.1.2.1.2.2.2.2.2.2.1 x.2.1.2.1.2.2.2.2.2.2.2.1 x.2.1.2.1.2.2.2.2.2.2.2.2.1 x.2.1.2.1.2.2.2.2.2.2.2.2.2.2.1 x.2.1.2.1.2.2.2.2.2.2.2.2.2.2.2.1 x.2.1.2.1.2.2.2.2.2.2.2.2.2.2.2.2.1 x.2.1.2.2.1.1 x.2.1.2.2.1.2.1 x.2.1.2.2.1.2.2.1 x.2.1.2.2.1.2.2.2.2.1 x.2.1.2.2.1.2.2.2.2.2.1 x.2.1.2.2.1.2.2.2.2.2.2.1 x.2.1.2.2.1.2.2.2.2.2.2.2.1 x.2.1.2.2.1.2.2.2.2.2.2.2.2.1 x.2.1.2.2.1.2.2.2.2.2.2.2.2.2.2.1 x.2.1.2.2.1.2.2.2.2.2.2.2.2.2.2.2.1 x.2.1.2.2.1.2.2.2.2.2.2.2.2.2.2.2.2.1 x.2.1.2.2.2.1.2.2.1 x.2.2.1 x.2.2.2.1 x.2.2.2.2.1 x.2.2.2.2.2.1
def ywo (x:(yed).X):(yaO).X:=(((x.1.1.1,()),((),()),((),()),((),()),(x.1.2.2.2.2.1.1,()),((),()),(0,()),()),((x.2.1.1.1,x.2.1.1.2.1,()),(x.2.1.2.1.1,x.2.1.2.1.2.1,x.2.1.2.1.2.2.1,(),x.2.1.2.1.2.2.2.2.1,x.2.1.2.1.2.2.2.2.2.1,x.2.1.2.1.2.2.2.2.2.2.1,x.2.1.2.1.2.2.2.2.2.2.2.1,x.2.1.2.1.2.2.2.2.2.2.2.2.1,(),x.2.1.2.1.2.2.2.2.2.2.2.2.2.2.1,x.2.1.2.1.2.2.2.2.2.2.2.2.2.2.2.1,x.2.1.2.1.2.2.2.2.2.2.2.2.2.2.2.2.1,()),(x.2.1.2.2.1.1,x.2.1.2.2.1.2.1,x.2.1.2.2.1.2.2.1,(),x.2.1.2.2.1.2.2.2.2.1,x.2.1.2.2.1.2.2.2.2.2.1,x.2.1.2.2.1.2.2.2.2.2.2.1,x.2.1.2.2.1.2.2.2.2.2.2.2.1,x.2.1.2.2.1.2.2.2.2.2.2.2.2.1,(),x.2.1.2.2.1.2.2.2.2.2.2.2.2.2.2.1,x.2.1.2.2.1.2.2.2.2.2.2.2.2.2.2.2.1,x.2.1.2.2.1.2.2.2.2.2.2.2.2.2.2.2.2.1,()),((),(),x.2.1.2.2.2.1.2.2.1,(),()),()),(x.2.2.1,x.2.2.2.1,x.2.2.2.2.1,x.2.2.2.2.2.1,()))
def yxm:Code:=(zef ydS 64 125236).getD .skip
theorem yKc:zef ydS 64 31309=some (.block 2 (.loop yxm)):=by kernel_rfl
theorem yKM (x:(yaO).X):zg0 ⟨yhV,60,yEL⟩ 2 yxm 125236 yaO yd7 yhO x=ya4 x:=by kernel_rfl
def yww (x:(yed).X):Nat:=18446744073709551616
def yn4 (x:(yed).X):Option ((yd7).X ⊕ (yhO).X):=zz ya4 (yww x) (ywo x)
def yxa:Seg:=⟨yed,yd7,yhO,yn4⟩
def yvh:Nat→Option Seg:=fun q=>bif Nat.beq q 31309 then some yxa else yEL q
theorem yQY:FrOk prog ⟨yhV,60,yvh⟩ ydS:=(yQX).loop (sg:=yxa) yaO ywo (by decide) yKc ya4 yww (by decide) (fun _=>rfl) (fun x r _ h=>h) yKM
def ycm:Shape:=⟨[(0,false,[.int .i64]),(3,false,[.ptr 0 0]),(4,false,[.ptr 64 0]),(5,false,[.ptr 12480 0]),(6,false,[.int .i64])],[(0,[.int .i64,.int .i64]),(64,[.int .i64,.int .i64,.int .i64,.nil,.int .i64,.int .i64,.int .i64,.int .i64,.int .i64,.nil,.int .i64,.bool,.bool]),(12480,[.int .i64,.int .i64,.int .i64,.at 800000000,.int .i64,.int .i64,.int .i64,.int .i64,.int .i64,.nil,.int .i64,.bool,.bool])],[(800000000,tM,(.pr (.ow .fz) (.pr (.ow (.pr .fz .fz)) (.pr .fz (.ow .fz)))))]⟩
def yhj:Shape:=⟨[(0,false,[.int .i64]),(3,false,[.ptr 0 0]),(4,false,[.ptr 64 0]),(5,false,[.ptr 12480 0]),(6,false,[.ci .i64 0])],[(0,[.int .i64,.int .i64]),(64,[.int .i64,.int .i64,.int .i64,.nil,.int .i64,.int .i64,.int .i64,.int .i64,.int .i64,.nil,.int .i64,.bool,.bool]),(12480,[.int .i64,.int .i64,.int .i64,.at 800000000,.int .i64,.int .i64,.int .i64,.int .i64,.int .i64,.nil,.int .i64,.bool,.bool])],[(800000000,tM,(.pr (.ow .fz) (.pr (.ow (.pr .fz .fz)) (.pr .fz (.ow .fz)))))]⟩
def yg8:Shape:=⟨[(4,false,[.ptr 64 0]),(5,false,[.ptr 12480 0])],[(64,[.int .i64,.int .i64,.int .i64,.nil,.int .i64,.int .i64,.int .i64,.int .i64,.int .i64,.nil,.int .i64,.bool,.bool]),(12480,[.int .i64,.int .i64,.int .i64,.at 800000000,.int .i64,.int .i64,.int .i64,.int .i64,.int .i64,.nil,.int .i64,.bool,.bool])],[(800000000,tM,(.pr (.ow .fz) (.pr (.ow (.pr .fz .fz)) (.pr .fz (.ow .fz)))))]⟩
def ymg:Shape:=⟨[],[],[]⟩
abbrev yke (v0 v1:Int) (v2:dG) (v3 v4:dA):(ycm).X:=(((v0,()),((),()),((),()),((),()),(v1,()),()),((v2.1,v2.2,()),(v3.1,v3.2.1.1,v3.2.1.2,(),v3.2.2.2.1,v3.2.2.2.2.1,v3.2.2.2.2.2.1,v3.2.2.2.2.2.2.1,v3.2.2.2.2.2.2.2.1,(),v3.2.2.2.2.2.2.2.2.2.1,v3.2.2.2.2.2.2.2.2.2.2.1,v3.2.2.2.2.2.2.2.2.2.2.2,()),(v4.1,v4.2.1.1,v4.2.1.2,(),v4.2.2.2.1,v4.2.2.2.2.1,v4.2.2.2.2.2.1,v4.2.2.2.2.2.2.1,v4.2.2.2.2.2.2.2.1,(),v4.2.2.2.2.2.2.2.2.2.1,v4.2.2.2.2.2.2.2.2.2.2.1,v4.2.2.2.2.2.2.2.2.2.2.2,()),()),(v4.2.2.1,()))
abbrev yOL (v0:Int) (v1:dG) (v2 v3:dA):(yhj).X:=(((v0,()),((),()),((),()),((),()),((),()),()),((v1.1,v1.2,()),(v2.1,v2.2.1.1,v2.2.1.2,(),v2.2.2.2.1,v2.2.2.2.2.1,v2.2.2.2.2.2.1,v2.2.2.2.2.2.2.1,v2.2.2.2.2.2.2.2.1,(),v2.2.2.2.2.2.2.2.2.2.1,v2.2.2.2.2.2.2.2.2.2.2.1,v2.2.2.2.2.2.2.2.2.2.2.2,()),(v3.1,v3.2.1.1,v3.2.1.2,(),v3.2.2.2.1,v3.2.2.2.2.1,v3.2.2.2.2.2.1,v3.2.2.2.2.2.2.1,v3.2.2.2.2.2.2.2.1,(),v3.2.2.2.2.2.2.2.2.2.1,v3.2.2.2.2.2.2.2.2.2.2.1,v3.2.2.2.2.2.2.2.2.2.2.2,()),()),(v3.2.2.1,()))
abbrev yBD (v0 v1:dA):(yg8).X:=((((),()),((),()),()),((v0.1,v0.2.1.1,v0.2.1.2,(),v0.2.2.2.1,v0.2.2.2.2.1,v0.2.2.2.2.2.1,v0.2.2.2.2.2.2.1,v0.2.2.2.2.2.2.2.1,(),v0.2.2.2.2.2.2.2.2.2.1,v0.2.2.2.2.2.2.2.2.2.2.1,v0.2.2.2.2.2.2.2.2.2.2.2,()),(v1.1,v1.2.1.1,v1.2.1.2,(),v1.2.2.2.1,v1.2.2.2.2.1,v1.2.2.2.2.2.1,v1.2.2.2.2.2.2.1,v1.2.2.2.2.2.2.2.1,(),v1.2.2.2.2.2.2.2.2.2.1,v1.2.2.2.2.2.2.2.2.2.2.1,v1.2.2.2.2.2.2.2.2.2.2.2,()),()),(v1.2.2.1,()))
def ysE (v0 v1 v2 v3 v4 v5 v6 v7 v8 v9 v10 v11 v12:Int) (v13 v14:Bool) (v15 v16 v17 v18 v19 v20 v21 v22 v23:Int) (v24 v25:Bool) (v26:List dM):Option ((ycm).X ⊕ ((yg8).X ⊕ (ymg).X)) :=
 bif(ltb v1 v2)then
 let r15:=ycg (v2,v3)
 let r16:=ydW r15
 let r17:=n_spec_PutSuper (v0,0,v1,v2,v3,0,(-1),0)
 bif(inb 0 r16.1.length)then
 zjW (yn4 (((v0,()),((),()),((),()),((),()),(v1,()),((),()),((),()),()),((v2,v3,()),(v4,v5,v6,(),v7,v8,v9,v10,v11,(),v12,v13,v14,()),(v15,v16,v17,(),v18,v19,v20,v21,v22,(),v23,v24,v25,()),((),(),r16.2.2.1,(),()),()),(v26,(r16.1.set (0:Int).toNat r17),r16.2.1,r16.2.2.2,()))) (fun y17 =>
 bif(zjO y17.2.2.1.length ([(y17.2.2.2.1,y17.2.2.2.2.1,y17.2.1.2.2.2.1.2.2.1,y17.2.2.2.2.2.1)]:List dM).length 80)then
 some (.inl (((y17.1.1.1,()),((),()),((),()),((),()),((IntKind.i64.wrap (y17.1.2.2.2.2.1.1+1)),()),()),((y17.2.1.1.1,y17.2.1.1.2.1,()),(y17.2.1.2.1.1,y17.2.1.2.1.2.1,y17.2.1.2.1.2.2.1,(),y17.2.1.2.1.2.2.2.2.1,y17.2.1.2.1.2.2.2.2.2.1,y17.2.1.2.1.2.2.2.2.2.2.1,y17.2.1.2.1.2.2.2.2.2.2.2.1,y17.2.1.2.1.2.2.2.2.2.2.2.2.1,(),y17.2.1.2.1.2.2.2.2.2.2.2.2.2.2.1,y17.2.1.2.1.2.2.2.2.2.2.2.2.2.2.2.1,y17.2.1.2.1.2.2.2.2.2.2.2.2.2.2.2.2.1,()),(y17.2.1.2.2.1.1,y17.2.1.2.2.1.2.1,y17.2.1.2.2.1.2.2.1,(),y17.2.1.2.2.1.2.2.2.2.1,y17.2.1.2.2.1.2.2.2.2.2.1,y17.2.1.2.2.1.2.2.2.2.2.2.1,y17.2.1.2.2.1.2.2.2.2.2.2.2.1,y17.2.1.2.2.1.2.2.2.2.2.2.2.2.1,(),y17.2.1.2.2.1.2.2.2.2.2.2.2.2.2.2.1,y17.2.1.2.2.1.2.2.2.2.2.2.2.2.2.2.2.1,y17.2.1.2.2.1.2.2.2.2.2.2.2.2.2.2.2.2.1,()),()),((y17.2.2.1++([(y17.2.2.2.1,y17.2.2.2.2.1,y17.2.1.2.2.2.1.2.2.1,y17.2.2.2.2.2.1)]:List dM)),())))
 else none) (fun y17 =>
 some (.inr (.inr ((),(),()))))
 else none
 else
 some (.inr (.inl ((((),()),((),()),()),((v4,v5,v6,(),v7,v8,v9,v10,v11,(),v12,v13,v14,()),(v15,v16,v17,(),v18,v19,v20,v21,v22,(),v23,v24,v25,()),()),(v26,()))))
def ycQ (x:(ycm).X):=ysE x.1.1.1 x.1.2.2.2.2.1.1 x.2.1.1.1 x.2.1.1.2.1 x.2.1.2.1.1 x.2.1.2.1.2.1 x.2.1.2.1.2.2.1 x.2.1.2.1.2.2.2.2.1 x.2.1.2.1.2.2.2.2.2.1 x.2.1.2.1.2.2.2.2.2.2.1 x.2.1.2.1.2.2.2.2.2.2.2.1 x.2.1.2.1.2.2.2.2.2.2.2.2.1 x.2.1.2.1.2.2.2.2.2.2.2.2.2.2.1 x.2.1.2.1.2.2.2.2.2.2.2.2.2.2.2.1 x.2.1.2.1.2.2.2.2.2.2.2.2.2.2.2.2.1 x.2.1.2.2.1.1 x.2.1.2.2.1.2.1 x.2.1.2.2.1.2.2.1 x.2.1.2.2.1.2.2.2.2.1 x.2.1.2.2.1.2.2.2.2.2.1 x.2.1.2.2.1.2.2.2.2.2.2.1 x.2.1.2.2.1.2.2.2.2.2.2.2.1 x.2.1.2.2.1.2.2.2.2.2.2.2.2.1 x.2.1.2.2.1.2.2.2.2.2.2.2.2.2.2.1 x.2.1.2.2.1.2.2.2.2.2.2.2.2.2.2.2.1 x.2.1.2.2.1.2.2.2.2.2.2.2.2.2.2.2.2.1 x.2.2.1
def yBj (x:(yhj).X):(ycm).X:=(((x.1.1.1,()),((),()),((),()),((),()),(0,()),()),((x.2.1.1.1,x.2.1.1.2.1,()),(x.2.1.2.1.1,x.2.1.2.1.2.1,x.2.1.2.1.2.2.1,(),x.2.1.2.1.2.2.2.2.1,x.2.1.2.1.2.2.2.2.2.1,x.2.1.2.1.2.2.2.2.2.2.1,x.2.1.2.1.2.2.2.2.2.2.2.1,x.2.1.2.1.2.2.2.2.2.2.2.2.1,(),x.2.1.2.1.2.2.2.2.2.2.2.2.2.2.1,x.2.1.2.1.2.2.2.2.2.2.2.2.2.2.2.1,x.2.1.2.1.2.2.2.2.2.2.2.2.2.2.2.2.1,()),(x.2.1.2.2.1.1,x.2.1.2.2.1.2.1,x.2.1.2.2.1.2.2.1,(),x.2.1.2.2.1.2.2.2.2.1,x.2.1.2.2.1.2.2.2.2.2.1,x.2.1.2.2.1.2.2.2.2.2.2.1,x.2.1.2.2.1.2.2.2.2.2.2.2.1,x.2.1.2.2.1.2.2.2.2.2.2.2.2.1,(),x.2.1.2.2.1.2.2.2.2.2.2.2.2.2.2.1,x.2.1.2.2.1.2.2.2.2.2.2.2.2.2.2.2.1,x.2.1.2.2.1.2.2.2.2.2.2.2.2.2.2.2.2.1,()),()),(x.2.2.1,()))
def yCP:Code:=(zef ydS 64 244).getD .skip
theorem yQl:zef ydS 64 61=some (.block 0 (.loop yCP)):=by kernel_rfl
theorem yTf (x:(ycm).X):zg0 ⟨yhV,60,yvh⟩ 0 yCP 244 ycm yg8 ymg x=ycQ x:=by kernel_rfl
def yBu (x:(yhj).X):Nat:=18446744073709551616
def yt3 (x:(yhj).X):Option ((yg8).X ⊕ (ymg).X):=zz ycQ (yBu x) (yBj x)
def yBK:Seg:=⟨yhj,yg8,ymg,yt3⟩
def yEM:Nat→Option Seg:=fun q=>bif Nat.beq q 61 then some yBK else yvh q
theorem yQZ:FrOk prog ⟨yhV,60,yEM⟩ ydS:=(yQY).loop (sg:=yBK) ycm yBj (by decide) yQl ycQ yBu (by decide) (fun _=>rfl) (fun x r _ h=>h) yTf
abbrev yh3:List Par:= [.rd tI,.rd tG]
abbrev yts:List OT:= [⟨false,tA,(.pr .fz (.pr (.pr .fz .fz) (.pr (.ow (.pr (.ow .fz) (.pr (.ow (.pr .fz .fz)) (.pr .fz (.ow .fz))))) (.pr .fz (.pr .fz (.pr .fz (.pr .fz (.pr .fz (.pr (.ow (.pr .fz .fz)) (.pr .fz (.pr .fz .fz)))))))))))⟩]
def ypu (a0:Int) (a1:dG):Option (ResD yts×MutD yh3) :=
 let r1:=n_spec_GeoOk a1
 bif(!(!r1))then
 let r2:=ya a0 1 60000
 bif(!r2)then
 some (((0,(0,0),[],0,0,0,0,0,[],0,false,false),()),())
 else
 zjW (yt3 (((a0,()),((),()),((),()),((),()),((),()),()),((a1.1,a1.2,()),(0,0,0,(),0,0,0,0,0,(),0,false,false,()),(a0,a1.1,a1.2,(),(-1),0,0,0,0,(),(-1),false,false,()),()),([],()))) (fun y18 =>
 some (((y18.2.1.2.1.1,(y18.2.1.2.1.2.1,y18.2.1.2.1.2.2.1),y18.2.2.1,y18.2.1.2.1.2.2.2.2.1,y18.2.1.2.1.2.2.2.2.2.1,y18.2.1.2.1.2.2.2.2.2.2.1,y18.2.1.2.1.2.2.2.2.2.2.2.1,y18.2.1.2.1.2.2.2.2.2.2.2.2.1,[],y18.2.1.2.1.2.2.2.2.2.2.2.2.2.2.1,y18.2.1.2.1.2.2.2.2.2.2.2.2.2.2.2.1,y18.2.1.2.1.2.2.2.2.2.2.2.2.2.2.2.2.1),()),())) (fun y18 =>
 none)
 else
 some (((0,(0,0),[],0,0,0,0,0,[],0,false,false),()),())
theorem y0K (x:InD yh3):zju ⟨yhV,60,yEM⟩ f115.results.toList ydS yh3 yts x=ypu x.1 x.2.1:=by kernel_rfl
theorem yWh:ConOk prog 115 ⟨yh3,yts,fun x=>ypu x.1 x.2.1⟩:=zjZ (yQZ) func115 (by kernel_rfl) (by kernel_rfl) ntmps115.symm (by decide) (fun x r h=>(y0K x).trans h)
def ynL (a0:Int) (a1:dG):dA:=yeg a0 a1
theorem yYC (a0:Int) (a1:dG) (hk:zi0 yh3 (a0,a1,())):ypu a0 a1=(fun n=>some ((n,()),())) (ynL a0 a1):=by
 unfold ypu ynL yeg;simp only[ycf]
 cases hg:n_spec_GeoOk a1
 ·rfl
 cases hid:(leb 1 a0&&leb a0 60000)
 ·rfl
 have hge:=yg.1 hg
 have inner: ∀(i:Int) (a:dA),yn4 (yIA a0 i a1 yae a (yjF a0 a1 i))=some (.inl (ywJ a0 i a1 yae a (yx a0 a1 i))):=fun i a =>
  zj6 (step:=ya4) a1.2.toNat (fun s m=>ymt a0 i s a1 yae a m) yrC (fun _ m=>(m.1.length:Int)=6+a1.2) (fun m=> .inl (ywJ a0 i a1 yae a m)) (fun s m hs hm=>⟨by
   simp only[ya4,ymt,ymZ,zj2 (show(s:Int)<a1.2 by omega),cond_true,wr (show -9223372036854775808≤(s:Int)+1 by omega) (by omega),Int.natCast_add,Int.natCast_one,Int.toNat_natCast,ygY];have hd:dataAt (s:Int)=((s+6:Nat):Int):=by unfold dataAt; rw[zku (show(0:Int)≤s by omega),zku (show(s:Int)≤1099511627776 by omega)]; rfl
   rw[hd,zkj (show s+6<m.1.length by omega),Int.toNat_natCast]; rfl,by show((m.1.set _ _).length:Int)=_; rw[List.length_set]; exact hm⟩) (fun m hm=>by simp only[ya4,ymt,ymZ,show((a1.2.toNat:Nat):Int)=a1.2 by omega,zkv (Int.le_refl _),cond_false]) (yjF a0 a1 i) (by
   unfold yjF yaD;rw[zku (show 1≤6+a1.2 by omega),zku (show 6+a1.2≤20 by omega)];show(((List.replicate (6+a1.2).toNat ([]:List Int)).set 0 _).length:Int)=_
   rw[List.length_set,List.length_replicate]; omega) 18446744073709551616 (by omega)
 have hmn:ydW (ycg a1)=yaD (6+a1.2):=by
  unfold ydW ycg;rw[wr (by omega) (by omega)]
 have h0:inb 0 (yaD (6+a1.2)).1.length=true:=by
  unfold yaD;rw[zku (show 1≤6+a1.2 by omega),zku (show 6+a1.2≤20 by omega)];show inb 0 (List.replicate (6+a1.2).toNat ([]:List Int)).length=true;rw[List.length_replicate,zjA]; omega
 have outer:yt3 (yOL a0 a1 yae (yCM a0 a1))=some (.inl (yBD yae ((List.range a1.1.toNat).foldl (fun a (i:Nat)=>yCH a (yx a0 a1 i)) (yCM a0 a1)))) :=
  zj6 (step:=ycQ) a1.1.toNat (fun i a=>yke a0 i a1 yae a) (fun a i=>yCH a (yx a0 a1 i)) (fun i a=>a.2.2.1.length=i) (fun a=> .inl (yBD yae a)) (fun i a hi ha=>⟨by
   simp only[ycQ,yke,ysE,zj2 (show(i:Int)<a1.1 by omega),cond_true,wr (show -9223372036854775808≤(i:Int)+1 by omega) (by omega),Int.natCast_add,Int.natCast_one,zkp,hmn,h0];refine(congrArg (fun z=>zjW z _ _) (inner i a)).trans ?_;simp only[zkf];show(bif zjO a.2.2.1.length [yx a0 a1 i].length 80 then _ else _)=_;rw[zj8.2 (show(a.2.2.1.length+ [yx a0 a1 i].length)*80≤140737488355328 by simp only[List.length_cons,List.length_nil]; omega)];simp only[cond_true];show some (Sum.inl (yke a0 (IntKind.i64.wrap ((i:Int)+1)) a1 yae (yCH a (yx a0 a1 i))))=_
   rw[wr (show -9223372036854775808≤(i:Int)+1 by omega) (by omega)],by show(a.2.2.1++ [_]).length=_; rw[List.length_append,ha]; rfl⟩) (fun a ha=>by simp only[ycQ,yke,ysE,show((a1.1.toNat:Nat):Int)=a1.1 by omega,zkv (Int.le_refl _),cond_false]) (yCM a0 a1) rfl 18446744073709551616 (by omega)
 have hdr: ∀(l:List Nat) (a:dA),a.2.2.2.2.2.2.2.2.1= []→(l.foldl (fun a (i:Nat)=>yCH a (yx a0 a1 i)) a).2.2.2.2.2.2.2.2.1= []:=by
  intro l
  induction l with
  | nil=>intro a h; exact h
  | cons x t ih=>intro a h; exact ih _ h
 have h:=hdr (List.range a1.1.toNat) (yCM a0 a1) rfl;simp only[Bool.not_true,Bool.not_false,cond_true,cond_false,Bool.and_self];refine(congrArg (fun z=>zjW z _ _) outer).trans ?_;generalize (List.range a1.1.toNat).foldl (fun a (i:Nat)=>yCH a (yx a0 a1 i)) (yCM a0 a1)=R at h;simp only[zkf];show some ((((R.1,R.2.1,R.2.2.1,R.2.2.2.1,R.2.2.2.2.1,R.2.2.2.2.2.1,R.2.2.2.2.2.2.1,R.2.2.2.2.2.2.2.1,[],R.2.2.2.2.2.2.2.2.2):dA),()),())=some ((R,()),());rw[← h]
def yFI:Con:=⟨yh3,yts,fun x=>(fun n=>some ((n,()),())) (ynL x.1 x.2.1)⟩
theorem yZq:ConOk prog 115 yFI:=(yWh).mono (fun x r hk h=>(yYC x.1 x.2.1 hk).trans h)
end
section
def yKY:Code:=(f116.body).getD .skip
def yLd:Env:=zj0 TT [(72,yay)] []
theorem yVd:FrOk prog ⟨yLd,10,fun _=>none⟩ yKY:=zj4 yc yd ⟨ybQ,trivial⟩
def yXx:Nat→Option Seg:=fun _=>none
abbrev yp9:List Par:= [.pt tU .fz]
abbrev yv3:List OT:= [⟨false,tG,(.pr .fz .fz)⟩]
def ygX (a0:dU):Option (ResD yv3×MutD yp9) :=
 bnd (yf a0 3) fun r1 =>
 bnd (yf r1.2.1 4) fun r2 =>
 some ((((IntKind.i64.wrap (3+r1.1.1)),(IntKind.i64.wrap (1+r2.1.1))),()),(r2.2.1,()))
theorem y2p (x:InD yp9):zju ⟨yLd,10,yXx⟩ f116.results.toList yKY yp9 yv3 x=ygX x.1:=by kernel_rfl
theorem yZe:ConOk prog 116 ⟨yp9,yv3,fun x=>ygX x.1⟩:=zjZ (yVd) func116 (by kernel_rfl) (by kernel_rfl) ntmps116.symm (by decide) (fun x r h=>(y2p x).trans h)
def yHI:Con:=⟨yp9,yv3,fun x=>ygX x.1⟩
theorem y1J:ConOk prog 116 yHI:=yZe
theorem y5a (u:dU) (h:yb7 u): ∃(g:dG) (u':dU),ygX u=some ((g,()),(u',()))∧n_spec_GeoOk g=true∧yb7 u':=by
 unfold ygX;obtain⟨r1,u1,e1,q1,d1⟩:=ycv u 3 h;obtain⟨r2,u2,e2,q2,d2⟩:=ycv u1 4 d1;simp only[e1,e2,zka];refine⟨_,_,rfl,?_,d2⟩;have:=q1.2.1 (by omega); have:=q2.2.1 (by omega); have:=q1.1; have:=q2.1;rw[wr (by omega) (by omega),wr (by omega) (by omega)];exact yg.2 ⟨⟨by show 3≤3+r1; omega,by show 3+r1≤5; omega⟩,by show 1≤1+r2; omega,by show 1+r2≤8; omega⟩
end
section
def yJg:Code:=(f83.body).getD .skip
def yJO:Env:=zj0 TT [(72,yay)] []
theorem yRa:FrOk prog ⟨yJO,9,fun _=>none⟩ yJg:=zj4 yc yd ⟨ybQ,trivial⟩
def yTP:Nat→Option Seg:=fun _=>none
abbrev ynp:List Par:= [.pt tU .fz,.rd tI]
abbrev ytC:List OT:= [⟨false,tB,.fz⟩]
def yaY (a0:dU) (a1:Int):Option (ResD ytC×MutD ynp) :=
 bnd (yf a0 a1) fun r1 =>
 some (((r1.1.1==0),()),(r1.2.1,()))
theorem y0U (x:InD ynp):zju ⟨yJO,9,yTP⟩ f83.results.toList yJg ynp ytC x=yaY x.1 x.2.1:=by kernel_rfl
theorem yWr:ConOk prog 83 ⟨ynp,ytC,fun x=>yaY x.1 x.2.1⟩:=zjZ (yRa) func83 (by kernel_rfl) (by kernel_rfl) ntmps83.symm (by decide) (fun x r h=>(y0U x).trans h)
def yFO:Con:=⟨ynp,ytC,fun x=>yaY x.1 x.2.1⟩
theorem yZw:ConOk prog 83 yFO:=yWr
theorem y3u (u:dU) (n:Int) (h:yb7 u): ∃(r:Bool) (u':dU),yaY u n=some ((r,()),(u',()))∧yb7 u':=by
 unfold yaY;obtain⟨r,u1,e1,_,d1⟩:=ycv u n h;simp only[e1,zka];exact⟨_,_,rfl,d1⟩
end
section
def yGG:Code:=(f143.body).getD .skip
def yHi:Env:=zj0 TT [(76,yjq)] [(12288,(.pr .fz .fz))]
theorem yOk:FrOk prog ⟨yHi,10,fun _=>none⟩ yGG:=zj4 yc yd ⟨yrI,trivial⟩
def yP9:Nat→Option Seg:=fun _=>none
abbrev yk0:List Par:= [.rd tM]
abbrev yrj:List OT:= [⟨false,tM,(.pr (.ow .fz) (.pr (.ow (.pr .fz .fz)) (.pr .fz (.ow .fz))))⟩]
def yuC (a0:dM):Option (ResD yrj×MutD yk0) :=
 let r1:=yaj a0
 some (((r1.1,([]:List dW),true,r1.2.2.2),()),())
theorem yXX (x:InD yk0):zju ⟨yHi,10,yP9⟩ f143.results.toList yGG yk0 yrj x=yuC x.1:=by kernel_rfl
theorem ySD:ConOk prog 143 ⟨yk0,yrj,fun x=>yuC x.1⟩:=zjZ (yOk) func143 (by kernel_rfl) (by kernel_rfl) ntmps143.symm (by decide) (fun x r h=>(yXX x).trans h)
def yrz (a0:dM):dM :=
 let r1:=yaj a0
 (r1.1,([]:List dW),true,r1.2.2.2)
def yC5:Con:=⟨yk0,yrj,fun x=>(fun n=>some ((n,()),())) (yrz x.1)⟩
theorem yVQ (a0:dM):yuC a0=(fun n=>some ((n,()),())) (yrz a0):=zkn (p:=fun(n:dM)=>((n,()),())) rfl
theorem yWN:ConOk prog 143 yC5:=(ySD).mono (fun x r _ h=>(yVQ x.1).trans h)
end
section
def yGJ:Code:=(f108.body).getD .skip
def yHl:Env:=zj0 TT [(143,yC5),(174,ype)] []
theorem yOp:FrOk prog ⟨yHl,62,fun _=>none⟩ yGJ:=zj4 yc yd ⟨yWN,yyk,trivial⟩
def yQc:Nat→Option Seg:=fun _=>none
abbrev yem:List Par:= [.pt tA (.pr .fz (.pr (.pr .fz .fz) (.pr (.ow (.pr (.ow .fz) (.pr (.ow (.pr .fz .fz)) (.pr .fz (.ow .fz))))) (.pr .fz (.pr .fz (.pr .fz (.pr .fz (.pr .fz (.pr (.ow (.pr .fz .fz)) (.pr .fz (.pr .fz .fz))))))))))),.rd tI]
abbrev ylk:List OT:= []
def ymM (a0:dA) (a1:Int):Option (ResD ylk×MutD yem) :=
 bif(inb a1 a0.2.2.1.length)then
 let r1:=yrz ((nth a0.2.2.1 a1 ([],[],false,[])).1,((nth a0.2.2.1 a1 ([],[],false,[])).2).1,(((nth a0.2.2.1 a1 ([],[],false,[])).2).2))
 bif(inb a1 a0.2.2.1.length)then
 bif(!(a0.2.2.2.1==(-1)))then
 bif(a0.2.2.2.1==a1)then
 bif(!a0.2.2.2.2.2.2.2.2.2.2.1)then
 bif(!a0.2.2.2.2.2.2.2.2.2.2.2)then
 bif(ltb a0.2.2.2.2.2.2.2.1 60000)then
 let r2:=yaE (a0.1,a0.2.1,(a0.2.2.1.set (a1).toNat r1),a1,0,a0.2.2.2.2.2)
 some ((),(r2,()))
 else
 some ((),((a0.1,a0.2.1,(a0.2.2.1.set (a1).toNat r1),a1,0,a0.2.2.2.2.2),()))
 else
 some ((),((a0.1,a0.2.1,(a0.2.2.1.set (a1).toNat r1),a1,0,a0.2.2.2.2.2),()))
 else
 some ((),((a0.1,a0.2.1,(a0.2.2.1.set (a1).toNat r1),a1,0,a0.2.2.2.2.2),()))
 else
 bif(!a0.2.2.2.2.2.2.2.2.2.2.1)then
 some ((),((a0.1,a0.2.1,(a0.2.2.1.set (a1).toNat r1),a0.2.2.2.1,a0.2.2.2.2.1,a0.2.2.2.2.2.1,a0.2.2.2.2.2.2.1,a0.2.2.2.2.2.2.2.1,a0.2.2.2.2.2.2.2.2.1,a0.2.2.2.2.2.2.2.2.2.1,a0.2.2.2.2.2.2.2.2.2.2.1,true),()))
 else
 some ((),((a0.1,a0.2.1,(a0.2.2.1.set (a1).toNat r1),a0.2.2.2.1,a0.2.2.2.2.1,a0.2.2.2.2.2.1,a0.2.2.2.2.2.2.1,a0.2.2.2.2.2.2.2.1,a0.2.2.2.2.2.2.2.2.1,a0.2.2.2.2.2.2.2.2.2.1,a0.2.2.2.2.2.2.2.2.2.2.1,true),()))
 else
 bif(!a0.2.2.2.2.2.2.2.2.2.2.1)then
 bif(!a0.2.2.2.2.2.2.2.2.2.2.2)then
 bif(ltb a0.2.2.2.2.2.2.2.1 60000)then
 let r3:=yaE (a0.1,a0.2.1,(a0.2.2.1.set (a1).toNat r1),a1,0,a0.2.2.2.2.2)
 some ((),(r3,()))
 else
 some ((),((a0.1,a0.2.1,(a0.2.2.1.set (a1).toNat r1),a1,0,a0.2.2.2.2.2),()))
 else
 some ((),((a0.1,a0.2.1,(a0.2.2.1.set (a1).toNat r1),a1,0,a0.2.2.2.2.2),()))
 else
 some ((),((a0.1,a0.2.1,(a0.2.2.1.set (a1).toNat r1),a1,0,a0.2.2.2.2.2),()))
 else none
 else none
theorem yX1 (x:InD yem):zju ⟨yHl,62,yQc⟩ f108.results.toList yGJ yem ylk x=ymM x.1 x.2.1:=by kernel_rfl
theorem ySH:ConOk prog 108 ⟨yem,ylk,fun x=>ymM x.1 x.2.1⟩:=zjZ (yOp) func108 (by kernel_rfl) (by kernel_rfl) ntmps108.symm (by decide) (fun x r h=>(yX1 x).trans h)
def yrA (a0:dA) (a1:Int):dA:=failOne a0 a1
def yyn (a0:dA) (a1:Int):Bool:=inb a1 a0.2.2.1.length
theorem yVU (a0:dA) (a1:Int) (hk:zi0 yem (a0,a1,())) (hq:yyn a0 a1=true):ymM a0 a1=(fun n=>some ((),(n,()))) (yrA a0 a1):=by
 have hq:inb a1 a0.2.2.1.length=true:=hq;unfold ymM yrA failOne yY yUG yfE downA;simp only[hq,zkp,yrz,yaj,yaE]
 cases(a0.2.2.2.1== -1)<;>cases(a0.2.2.2.1==a1)<;>cases a0.2.2.2.2.2.2.2.2.2.2.1<;>cases a0.2.2.2.2.2.2.2.2.2.2.2<;>cases ltb a0.2.2.2.2.2.2.2.1 60000<;>rfl
def ylQ (a0:dA) (a1:Int):Option (ResD ylk×MutD yem):=bif yyn a0 a1 then(fun n=>some ((),(n,()))) (yrA a0 a1)else none
theorem yWY (a0:dA) (a1:Int) (h:yyn a0 a1=true):ylQ a0 a1=(fun n=>some ((),(n,()))) (yrA a0 a1):=by unfold ylQ; rw[h]; rfl
def yC9:Con:=⟨yem,ylk,fun x=>ylQ x.1 x.2.1⟩
theorem yWR:ConOk prog 108 yC9:=(ySH).mono (fun x r hk h=>zkq h (fun hq=>yVU x.1 x.2.1 hk hq))
end
section
def yio:Code:=(f112.body).getD .skip
def yoC:Env:=zj0 TT [(76,yjq),(82,yw),(160,ygR),(161,yx9)] []
theorem yL0:FrOk prog ⟨yoC,68,fun _=>none⟩ yio:=zj4 yc yd ⟨yrI,yD,ynS,yJ2,trivial⟩
def yAE:Nat→Option Seg:=fun _=>none
def yaP:Shape:=⟨[(1,false,[.int .i64]),(4,false,[.ptr 64 0]),(5,false,[.ptr 4224 0]),(6,false,[.int .i64])],[(64,[.nil,.nil,.bool,.nil]),(4224,[.at 800000000,.at 800000001,.bool,.at 800000002])],[(800000000,tL,.fz),(800000001,tW,(.pr .fz .fz)),(800000002,tI,.fz)]⟩
def yee:Shape:=⟨[(1,false,[.int .i64]),(4,false,[.ptr 64 0]),(5,false,[.ptr 4224 0]),(6,false,[.int .i64])],[(64,[.nil,.nil,.bool,.nil]),(4224,[.at 800000000,.at 800000001,.bool,.at 800000002])],[(800000000,tL,.fz),(800000001,tW,(.pr .fz .fz)),(800000002,tI,.fz)]⟩
def yd8:Shape:=⟨[(1,false,[.int .i64]),(4,false,[.ptr 64 0]),(5,false,[.ptr 4224 0]),(6,false,[.int .i64])],[(64,[.nil,.nil,.bool,.nil]),(4224,[.at 800000000,.at 800000001,.bool,.at 800000002])],[(800000000,tL,.fz),(800000001,tW,(.pr .fz .fz)),(800000002,tI,.fz)]⟩
def yhP:Shape:=⟨[],[],[]⟩
abbrev ymu (v0 v1:Int) (v2 v3:dM):(yaP).X:=(((v0,()),((),()),((),()),(v1,()),()),(((),(),v2.2.2.1,(),()),((),(),v3.2.2.1,(),()),()),(v3.1,v3.2.1,v3.2.2.2,()))
abbrev yIB (v0 v1:Int) (v2 v3:dM):(yee).X:=(((v0,()),((),()),((),()),(v1,()),()),(((),(),v2.2.2.1,(),()),((),(),v3.2.2.1,(),()),()),(v3.1,v3.2.1,v3.2.2.2,()))
abbrev yIv (v0 v1:Int) (v2 v3:dM):(yd8).X:=(((v0,()),((),()),((),()),(v1,()),()),(((),(),v2.2.2.1,(),()),((),(),v3.2.2.1,(),()),()),(v3.1,v3.2.1,v3.2.2.2,()))
def ym0 (v0 v1:Int) (v2 v3:Bool) (v4:List (List Int)) (v5:List dW) (v6:List Int):Option ((yaP).X ⊕ ((yd8).X ⊕ (yhP).X)) :=
 bif(ltb 0 v1)then
 bif(inb (IntKind.i64.wrap (v1-1)) v6.length)then
 bif(ltb v0 (nth v6 (IntKind.i64.wrap (v1-1)) 0))then
 bif(inb (IntKind.i64.wrap (v1-1)) v6.length)then
 bif(inb v1 v6.length)then
 some (.inl (((v0,()),((),()),((),()),((IntKind.i64.wrap (v1-1)),()),()),(((),(),v2,(),()),((),(),v3,(),()),()),(v4,v5,(v6.set (v1).toNat (nth v6 (IntKind.i64.wrap (v1-1)) 0)),())))
 else none
 else none
 else
 some (.inr (.inl (((v0,()),((),()),((),()),(v1,()),()),(((),(),v2,(),()),((),(),v3,(),()),()),(v4,v5,v6,()))))
 else none
 else
 some (.inr (.inl (((v0,()),((),()),((),()),(v1,()),()),(((),(),v2,(),()),((),(),v3,(),()),()),(v4,v5,v6,()))))
def ya5 (x:(yaP).X):=ym0 x.1.1.1 x.1.2.2.2.1.1 x.2.1.1.2.2.1 x.2.1.2.1.2.2.1 x.2.2.1 x.2.2.2.1 x.2.2.2.2.1
def ywp (x:(yee).X):(yaP).X:=(((x.1.1.1,()),((),()),((),()),(x.1.2.2.2.1.1,()),()),(((),(),x.2.1.1.2.2.1,(),()),((),(),x.2.1.2.1.2.2.1,(),()),()),(x.2.2.1,x.2.2.2.1,x.2.2.2.2.1,()))
def yxn:Code:=(zef yio 64 504).getD .skip
theorem yKd:zef yio 64 126=some (.block 0 (.loop yxn)):=by kernel_rfl
theorem yKN (x:(yaP).X):zg0 ⟨yoC,68,yAE⟩ 0 yxn 504 yaP yd8 yhP x=ya5 x:=by kernel_rfl
def ywx (x:(yee).X):Nat:=18446744073709551616
def yn5 (x:(yee).X):Option ((yd8).X ⊕ (yhP).X):=zz ya5 (ywx x) (ywp x)
def yxb:Seg:=⟨yee,yd8,yhP,yn5⟩
def yAF:Nat→Option Seg:=fun q=>bif Nat.beq q 126 then some yxb else yAE q
theorem yL1:FrOk prog ⟨yoC,68,yAF⟩ yio:=(yL0).loop (sg:=yxb) yaP ywp (by decide) yKd ya5 ywx (by decide) (fun _=>rfl) (fun x r _ h=>h) yKN
abbrev yfx:List Par:= [.rd tM,.rd tI]
abbrev yoW:List OT:= [⟨false,tM,(.pr (.ow .fz) (.pr (.ow (.pr .fz .fz)) (.pr .fz (.ow .fz))))⟩]
def ykx (a0:dM) (a1:Int):Option (ResD yoW×MutD yfx) :=
 let r1:=yaj a0
 let r2:=yao a0
 bif(!(!r2))then
 let r3:=ya a1 0 (IntKind.i64.wrap ((a0.1.length:Int)-1))
 bif(!(!r3))then
 let r4:=yhF a0.2.2.2 a1
 bif r4 then
 some ((r1,()),())
 else
 bif(zjO r1.2.2.2.length ([a1]:List Int).length 8)then
 zjW (yn5 (((a1,()),((),()),((),()),((IntKind.i64.wrap (((r1.2.2.2++([a1]:List Int)).length:Int)-1)),()),()),(((),(),false,(),()),((),(),r1.2.2.1,(),()),()),(r1.1,r1.2.1,(r1.2.2.2++([a1]:List Int)),()))) (fun y4 =>
 bif(inb y4.1.2.2.2.1.1 y4.2.2.2.2.1.length)then
 some (((y4.2.2.1,y4.2.2.2.1,y4.2.1.2.1.2.2.1,(y4.2.2.2.2.1.set (y4.1.2.2.2.1.1).toNat y4.1.1.1)),()),())
 else none) (fun y4 =>
 none)
 else none
 else
 some ((r1,()),())
 else
 some ((r1,()),())
theorem yUz (x:InD yfx):zju ⟨yoC,68,yAF⟩ f112.results.toList yio yfx yoW x=ykx x.1 x.2.1:=by kernel_rfl
theorem yPk:ConOk prog 112 ⟨yfx,yoW,fun x=>ykx x.1 x.2.1⟩:=zjZ (yL1) func112 (by kernel_rfl) (by kernel_rfl) ntmps112.symm (by decide) (fun x r h=>(yUz x).trans h)
def ypi (a0:dM) (a1:Int):dM:=spoil a0 a1
theorem yXl (n:Int) (m:dM) (p:List Int) (hp: ∀x∈p,x<n): ∀(j:Nat) (q1 q2:List Int) (x:Int) (fuel:Nat),q1.length=j→j<fuel→(∀y∈q1,n<y)→p.length+q1.length≤1000 →
  ∃(x':Int) (q':List Int),q1++q2=q'∧zz ya5 fuel (ymu n ((p.length+q1.length:Nat):Int) noMem (m.1,m.2.1,m.2.2.1,(p++q1)++x::q2))=some (.inl (yIv n (p.length:Nat) noMem (m.1,m.2.1,m.2.2.1,p++x'::q')))
 | 0,q1,q2,x,fuel+1,hj,hf,hq,hb=>by
  have:q1= []:=List.length_eq_zero_iff.1 hj;subst this;refine⟨x,q2,rfl,?_⟩;simp only[zz,ya5,ymu,ym0,List.length_nil,Nat.add_zero,List.append_nil];rcases List.eq_nil_or_concat p with rfl | ⟨P,y,rfl⟩
  ·rfl
  ·have hy:=hp y (by simp)
   simp only[List.concat_eq_append,List.length_append,List.length_cons,List.length_nil,List.append_assoc,List.cons_append,List.nil_append]at hb ⊢
   rw[zj2 (show(0:Int)<((P.length+(0+1):Nat):Int)by omega),wr (show -9223372036854775808≤((P.length+(0+1):Nat):Int)-1 by omega) (by omega),show((P.length+(0+1):Nat):Int)-1=(P.length:Nat)by omega,
    zkj (by simp),zkk,y3G,zkv (show y≤n by omega)]
   rfl
 | j+1,q1,q2,x,fuel+1,hj,hf,hq,hb=>by
  rcases List.eq_nil_or_concat q1 with rfl | ⟨Q,y,rfl⟩
  ·cases hj
  ·rw[List.concat_eq_append]at hj hq hb ⊢
   have hQ:Q.length=j:=by simpa using hj
   have hy:=hq y (by simp);obtain⟨x',q',e1,e2⟩:=yXl n m p hp j Q (y::q2) y fuel hQ (by omega) (fun z hz=>hq z (by simp[hz])) (by simp at hb; omega);refine⟨x',q',by rw[← e1]; simp,?_⟩;rw[← e2];have ea:((p++(Q++ [y]))++x::q2)=(p++Q)++y::x::q2:=by simp
   have el:p.length+(Q++ [y]).length=(p++Q).length+1:=by simp; omega
   have el2:p.length+Q.length=(p++Q).length:=by simp
   have hb2:(p++Q).length≤1000:=by simp at hb ⊢; omega
   rw[ea,el,el2];generalize p++Q=A at hb2;rw[zz];simp only[ya5,ymu,ym0]
   have es:(A++y::x::q2).set (A.length+1) y=A++y::y::q2:=by
    have:=y3M (A++ [y]) x y q2;simp at this ⊢
   rw[zj2 (show(0:Int)<((A.length+1:Nat):Int)by omega),wr (show -9223372036854775808≤((A.length+1:Nat):Int)-1 by omega) (by omega),show((A.length+1:Nat):Int)-1=(A.length:Nat)by omega,zkj (show A.length<(A++y::x::q2).length by simp),zkk,y3G,zj2 hy,
    zkj (show A.length+1<(A++y::x::q2).length by simp),Int.toNat_natCast,es]
   rfl
theorem ySk (a0:dM) (a1:Int) (hk:zi0 yfx (a0,a1,())):ykx a0 a1=(fun n=>some ((n,()),())) (ypi a0 a1):=by
 unfold ykx ypi spoil;simp only[yaj,yao,ycf,yhF]
 cases hm:memOk a0
 ·rfl
 obtain⟨h1,h2,h3,h4,h5,h6⟩:=yca hm;rw[yuX]at h3;have hlen:=yXE h3.2 (lo:=0) (n:=a0.1.length) h3.1 (by omega);rw[wr (show -9223372036854775808≤(a0.1.length:Int)-1 by omega) (by omega)]
 have hi:(leb 0 a1&&leb a1 ((a0.1.length:Int)-1))=inb a1 a0.1.length:=by
  rw[Bool.eq_iff_iff,Bool.and_eq_true,zjB,zjB,zjA]; omega
 rw[hi]
 cases hin:inb a1 a0.1.length
 ·rfl
 cases hh:a0.2.2.2.any (· ==a1)
 ·have hn:a1∉a0.2.2.2:=fun h=>by
   have:=List.any_eq_false.1 hh a1 h;simp at this
  have hsp:=y2Y h3.2 hn;have hp: ∀x∈a0.2.2.2.filter (fun x=>ltb x a1),x<a1:=fun x hx=>zjE.1 (List.mem_filter.1 hx).2
  have hq: ∀x∈a0.2.2.2.filter (fun x=>ltb a1 x),a1<x:=fun x hx=>zjE.1 (List.mem_filter.1 hx).2
  unfold ywA;generalize a0.2.2.2.filter (fun x=>ltb x a1)=P at hsp hp;generalize a0.2.2.2.filter (fun x=>ltb a1 x)=Q at hsp hq;have hPQ:P.length+Q.length=a0.2.2.2.length:=by rw[hsp,List.length_append]
  obtain⟨x',q',e1,e2⟩:=yXl a1 a0 P hp Q.length Q [] a1 18446744073709551616 rfl (by omega) hq (by omega);rw[List.append_nil]at e1;subst e1;simp only[cond_true,cond_false,Bool.not_true,Bool.not_false,Bool.and_self]
  rw[zj8.2 (show(a0.2.2.2.length+ [a1].length)*8≤140737488355328 by simp only[List.length_cons,List.length_nil]; omega),wr (show -9223372036854775808≤((a0.2.2.2++ [a1]).length:Int)-1 by omega) (by simp only[List.length_append,List.length_cons,List.length_nil]; omega),
   show((a0.2.2.2++ [a1]).length:Int)-1=((P.length+Q.length:Nat):Int)by simp only[List.length_append,List.length_cons,List.length_nil]; omega,hsp,cond_true]
  refine(congrArg (fun z=>zjW z _ _) (show yn5 (yIB a1 ((P.length+Q.length:Nat):Int) noMem (a0.1,a0.2.1,a0.2.2.1,(P++Q)++ [a1]))=_ from e2)).trans ?_;simp only[zkf];show(bif inb (P.length:Int) (P++x'::Q).length then some (((a0.1,a0.2.1,a0.2.2.1,(P++x'::Q).set (P.length:Int).toNat a1),()),())else none)=_;rw[zkj (by simp),Int.toNat_natCast,y3M]; rfl
 ·rfl
def yBb:Con:=⟨yfx,yoW,fun x=>(fun n=>some ((n,()),())) (ypi x.1 x.2.1)⟩
theorem yS3:ConOk prog 112 yBb:=(yPk).mono (fun x r hk h=>(ySk x.1 x.2.1 hk).trans h)
end
section
def yJm:Code:=(f216.body).getD .skip
def yJU:Env:=zj0 TT [(78,yHE),(82,yw),(200,yhA)] []
theorem yRp:FrOk prog ⟨yJU,48,fun _=>none⟩ yJm:=zj4 yc yd ⟨y1F,yD,ypm,trivial⟩
def yTV:Nat→Option Seg:=fun _=>none
abbrev ynu:List Par:= [.rd tA,.rd tI,.rd tL]
abbrev ytJ:List OT:= [⟨false,tI,.fz⟩]
def yw6 (a0:dA) (a1:Int) (a2:List Int):Option (ResD ytJ×MutD ynu) :=
 let r1:=ylH a0
 bif(!(!r1))then
 bif(!((a2.length:Int) !=(IntKind.i64.wrap (a0.2.1.1-1))))then
 let r2:=yU a2
 bif(!r2)then
 some ((1,()),())
 else
 bif a0.2.2.2.2.2.2.2.2.2.2.1 then
 some ((6,()),())
 else
 let r3:=ya a1 0 (IntKind.i64.wrap (a0.2.1.2-1))
 bif(!r3)then
 some ((2,()),())
 else
 bif a0.2.2.2.2.2.2.2.2.2.2.2 then
 some ((5,()),())
 else
 bif(!(leb 60000 a0.2.2.2.2.2.1))then
 bif(leb 59990 a0.2.2.2.2.2.2.2.1)then
 some ((7,()),())
 else
 some ((0,()),())
 else
 some ((7,()),())
 else
 some ((1,()),())
 else
 some ((1,()),())
theorem y04 (x:InD ynu):zju ⟨yJU,48,yTV⟩ f216.results.toList yJm ynu ytJ x=yw6 x.1 x.2.1 x.2.2.1:=by kernel_rfl
theorem yWB:ConOk prog 216 ⟨ynu,ytJ,fun x=>yw6 x.1 x.2.1 x.2.2.1⟩:=zjZ (yRp) func216 (by kernel_rfl) (by kernel_rfl) ntmps216.symm (by decide) (fun x r h=>(y04 x).trans h)
def yX (a0:dA) (a1:Int) (a2:List Int):Int :=
 let r1:=ylH a0
 bif(!(!r1))then
 bif(!((a2.length:Int) !=(IntKind.i64.wrap (a0.2.1.1-1))))then
 let r2:=yU a2
 bif(!r2)then
 1
 else
 bif a0.2.2.2.2.2.2.2.2.2.2.1 then
 6
 else
 let r3:=ya a1 0 (IntKind.i64.wrap (a0.2.1.2-1))
 bif(!r3)then
 2
 else
 bif a0.2.2.2.2.2.2.2.2.2.2.2 then
 5
 else
 bif(!(leb 60000 a0.2.2.2.2.2.1))then
 bif(leb 59990 a0.2.2.2.2.2.2.2.1)then
 7
 else
 0
 else
 7
 else
 1
 else
 1
def yFV:Con:=⟨ynu,ytJ,fun x=>(fun n=>some ((n,()),())) (yX x.1 x.2.1 x.2.2.1)⟩
theorem yYR (a0:dA) (a1:Int) (a2:List Int):yw6 a0 a1 a2=(fun n=>some ((n,()),())) (yX a0 a1 a2):=zkn (p:=fun(n:Int)=>((n,()),())) (zj9 (p:=fun(n:Int)=>((n,()),())) (zj9 (p:=fun(n:Int)=>((n,()),())) (zj9 (p:=fun(n:Int)=>((n,()),())) rfl (zj9 (p:=fun(n:Int)=>((n,()),())) rfl (zj9 (p:=fun(n:Int)=>((n,()),())) rfl (zj9 (p:=fun(n:Int)=>((n,()),())) rfl (zj9 (p:=fun(n:Int)=>((n,()),())) (zj9 (p:=fun(n:Int)=>((n,()),())) rfl rfl) rfl))))) rfl) rfl)
theorem yZD:ConOk prog 216 yFV:=(yWB).mono (fun x r _ h=>(yYR x.1 x.2.1 x.2.2.1).trans h)
def yNe (l:List dW) (k:Nat):List dW:=l.take k++l.drop (k+1)
def flushE (a:dA) (s:Int):Int×dA :=
 bif ltb (yP a.2.2.2.2.2.2.2.2.1 s) 0 then(0,a)else
 bif yX a s (nth a.2.2.2.2.2.2.2.2.1 (yP a.2.2.2.2.2.2.2.2.1 s) (0,[])).2 !=0 then(yX a s (nth a.2.2.2.2.2.2.2.2.1 (yP a.2.2.2.2.2.2.2.2.1 s) (0,[])).2,a)else
 bif(yv a s (nth a.2.2.2.2.2.2.2.2.1 (yP a.2.2.2.2.2.2.2.2.1 s) (0,[])).2).1==0 then
 (0,yyA (yv a s (nth a.2.2.2.2.2.2.2.2.1 (yP a.2.2.2.2.2.2.2.2.1 s) (0,[])).2).2 (yNe a.2.2.2.2.2.2.2.2.1 (yP a.2.2.2.2.2.2.2.2.1 s).toNat))
 else yv a s (nth a.2.2.2.2.2.2.2.2.1 (yP a.2.2.2.2.2.2.2.2.1 s) (0,[])).2
theorem yFB {a:dA} {s:Int} {d:List Int} (h:yX a s d=0):yR a=true∧(d.length:Int)=a.2.1.1-1∧d.all isW=true∧downA a=false∧strOk a.2.1 s=true∧a.2.2.2.2.2.2.2.2.2.2.2=false∧a.2.2.2.2.2.1<60000∧a.2.2.2.2.2.2.2.1<59990:=by
 unfold yX at h;simp only[ylH,ytY,ycf]at h
 cases ha:yR a
 ·rw[ha]at h; exact absurd (show(1:Int)=0 from h) (by decide)
 have hg:=yg.1 (yuW ha);rw[ha,wr (show -9223372036854775808≤a.2.1.1-1 by omega) (by omega),wr (show -9223372036854775808≤a.2.1.2-1 by omega) (by omega)]at h
 cases hl:((d.length:Int) !=a.2.1.1-1)
 ·cases hw:d.all isW
  ·rw[hl,hw]at h; exact absurd (show(1:Int)=0 from h) (by decide)
  cases hd:a.2.2.2.2.2.2.2.2.2.2.1
  ·cases hs:(leb 0 s&&leb s (a.2.1.2-1))
   ·rw[hl,hw,hd,hs]at h; exact absurd (show(2:Int)=0 from h) (by decide)
   cases hb:a.2.2.2.2.2.2.2.2.2.2.2
   ·cases h6:leb 60000 a.2.2.2.2.2.1
    ·cases h7:leb 59990 a.2.2.2.2.2.2.2.1
     ·have e6: ¬(60000≤a.2.2.2.2.2.1):=fun g=>by rw[zku g]at h6; cases h6
      have e7: ¬(59990≤a.2.2.2.2.2.2.2.1):=fun g=>by rw[zku g]at h7; cases h7
      exact⟨rfl,bne_eq_false_iff_eq.1 hl,rfl,hd,by unfold strOk; rw[yuW ha,hs]; rfl,rfl,by omega,by omega⟩
     ·rw[hl,hw,hd,hs,hb,h6,h7]at h; exact absurd (show(7:Int)=0 from h) (by decide)
    ·rw[hl,hw,hd,hs,hb,h6]at h; exact absurd (show(7:Int)=0 from h) (by decide)
   ·rw[hl,hw,hd,hs,hb]at h; exact absurd (show(5:Int)=0 from h) (by decide)
  ·rw[hl,hw,hd]at h; exact absurd (show(6:Int)=0 from h) (by decide)
 ·rw[hl]at h; exact absurd (show(1:Int)=0 from h) (by decide)
theorem yZY (a:dA):(yk a).2.2.2.2.2.2.2.2.1=a.2.2.2.2.2.2.2.2.1:=by
 unfold yk
 cases leb 4 (IntKind.i64.wrap (a.2.2.2.2.2.1-a.2.2.2.2.2.2.1))
 ·rfl
 ·exact yPP a
theorem y3o (a:dA):(yu a).2.2.2.2.2.2.2.2.1=a.2.2.2.2.2.2.2.2.1:=rfl
theorem y3s (a:dA) (s:Int) (d:List Int):(yv a s d).2.2.2.2.2.2.2.2.2.1=a.2.2.2.2.2.2.2.2.1:=by
 unfold yv;have h2:=(yUg (yaT (yk a) ((yk a).2.2.2.2.2.1,s,d))).trans (yZY a);generalize yj (yk a) ((yk a).2.2.2.2.2.1,s,d)=R at h2 ⊢;have h3:=(yUg (ydU (yu R) s d)).trans ((y3o R).trans h2);generalize yp (yu R) s d=Q at h3 ⊢
 cases downA (yk a)
 ·cases downA R
  ·exact h3
  ·exact h2
 ·exact yZY a
theorem y4s {l:List dW} {k:Int} (h0:0≤k) (h1:k<(l.length:Int)):(([]:List dW)++((l.drop (0:Int).toNat).take (k-0).toNat))++((l.drop (k+1).toNat).take ((l.length:Int)-(k+1)).toNat)=yNe l k.toNat:=by
 unfold yNe;rw[List.nil_append,show(0:Int).toNat=0 from rfl,List.drop_zero,Int.sub_zero,show(k+1).toNat=k.toNat+1 by omega,List.take_of_length_le (l:=l.drop (k.toNat+1)) (by rw[List.length_drop]; omega)]
def yn7 (_:Nat) (a:dA):dA ⊕ (Int×dA):=bif(flushE a (nth a.2.2.2.2.2.2.2.2.1 0 (0,[])).1).1 !=0 then .inr (flushE a (nth a.2.2.2.2.2.2.2.2.1 0 (0,[])).1)else .inl (flushE a (nth a.2.2.2.2.2.2.2.2.1 0 (0,[])).1).2
def allE (a:dA):Int×dA:=goE yn7 (fun b=>(0,b)) a.2.2.2.2.2.2.2.2.1.length 0 a
theorem y30 {e:dW} {l:List dW}:yP (e::l) e.1=0:=by
 unfold yP;rw[yB0,show(e.1==e.1)=true from beq_self_eq_true _]; rfl
theorem y31 {a:dA} (h:0<a.2.2.2.2.2.2.2.2.1.length) (h0:(flushE a (nth a.2.2.2.2.2.2.2.2.1 0 (0,[])).1).1=0):(flushE a (nth a.2.2.2.2.2.2.2.2.1 0 (0,[])).1).2.2.2.2.2.2.2.2.2.1=a.2.2.2.2.2.2.2.2.1.drop 1:=by
 unfold flushE at h0 ⊢
 have hk:yP a.2.2.2.2.2.2.2.2.1 (nth a.2.2.2.2.2.2.2.2.1 0 (0,[])).1=0:=by
  cases hl:a.2.2.2.2.2.2.2.2.1 with
  | nil=>rw[hl]at h; exact absurd h (Nat.lt_irrefl 0)
  | cons e l=>exact y30
 rw[hk]at h0 ⊢;generalize (nth a.2.2.2.2.2.2.2.2.1 0 (0,[])).2=D at h0 ⊢;generalize (nth a.2.2.2.2.2.2.2.2.1 0 (0,[])).1=s at h0 ⊢
 cases hc:(yX a s D !=0)
 ·rw[hc]at h0
  cases hr:((yv a s D).1==0)
  ·rw[hr]at h0
   exact absurd (show(yv a s D).1=0 from h0) (beq_eq_false_iff_ne.1 hr)
  ·rfl
 ·rw[hc]at h0
  exact absurd (show yX a s D=0 from h0) (bne_iff_ne.1 hc)
inductive Turned (a:dA):dA→Prop where
 | same:Turned a a
 | put (b x:Int):blkOk a.2.1 b=true→isW x=true→Turned a (setOne a b x).2
 | flush (s:Int):Turned a (flushE a s).2
 | all:Turned a (allE a).2
 | fail (m:Int):a.2.2.2.1= -1→inb m a.2.2.1.length=true→Turned a (failOne a m)
 | spare:inb a.2.2.2.1 a.2.2.1.length=true→(nth a.2.2.1 a.2.2.2.1 noMem).2.2.1=true→Turned a (markA (spareNew a))
 | step:inb a.2.2.2.1 a.2.2.1.length=true→(nth a.2.2.1 a.2.2.2.1 noMem).2.2.1=false→a.2.2.2.2.1<a.2.1.2→Turned a (stepOne a).2
 | check:Turned a (checkA a)
 | spoil (m s:Int):a.2.2.2.1= -1→inb m a.2.2.1.length=true→0≤s→s<a.2.1.2→Turned a (setMem a m (spoil (nth a.2.2.1 m noMem) (dataAt s)))
def y1S (g:dG) (e:dW):Prop:=(0≤e.1∧e.1≤g.2-1)∧(e.2.length:Int)=g.1-1∧e.2.all isW=true
theorem yzb {g:dG} {l:List dW}:yat g l=true↔(∀e∈l,y1S g e)∧l.Pairwise (fun x y=>x.1<y.1):=by
 have bad: ∀i,yic g l i=false↔y1S g (nth l i (0,[]))∧(0<i→(nth l ((i-1:Nat):Int) (0,[])).1<(nth l i (0,[])).1):=by
  intro i;unfold yic y1S;simp only[Bool.or_eq_false_iff,Bool.not_eq_false',bne_eq_false_iff_eq,Bool.and_eq_true,Bool.and_eq_false_iff,decide_eq_false_iff_not,zjB];constructor
  ·rintro⟨h1,h2,h3,h4⟩
   refine⟨⟨h1,h2,h3⟩,fun h0=> ?_⟩;rcases h4 with h4 | h4
   ·exact absurd h0 h4
   ·have:=mt zku (by rw[h4]; simp: ¬leb (nth l i (0,[])).1 (nth l ((i-1:Nat):Int) (0,[])).1=true)
    omega
  ·rintro⟨⟨h1,h2,h3⟩,h4⟩
   refine⟨h1,h2,h3,?_⟩
   by_cases h0:0<i
   ·exact .inr (zkt (by have:=h4 h0; omega))
   ·exact .inl h0
 unfold yat;simp only[Bool.not_eq_true',List.any_eq_false,List.mem_range,Bool.not_eq_true,bad];constructor
 ·intro h
  refine⟨fun e he=> ?_,?_⟩
  ·obtain⟨i,hi,rfl⟩:=List.getElem_of_mem he
   have:=(h i hi).1
   rwa[zkk,zkb hi]at this
  ·rw[List.pairwise_iff_getElem]
   have step: ∀(d i:Nat) (hi:i<l.length) (hj:i+d+1<l.length),l[i].1<l[i+d+1].1:=by
    intro d
    induction d with
    | zero =>
     intro i hi hj;have:=(h (i+1) hj).2 (by omega)
     rwa[Nat.add_sub_cancel,zkk,zkk,zkb hi,zkb hj]at this
    | succ d ih =>
     intro i hi hj;have h1:=ih i hi (by omega);have:=(h (i+d+1+1) hj).2 (by omega);rw[Nat.add_sub_cancel,zkk,zkk,zkb (show i+d+1<l.length by omega),zkb (show i+d+1+1<l.length from hj)]at this;exact Int.lt_trans h1 this
   intro i j hi hj hij;have:=step (j-i-1) i hi (by omega);have e:i+(j-i-1)+1=j:=by omega
   simp only[e]at this;exact this
 ·rintro⟨h1,h2⟩ i hi
  rw[List.pairwise_iff_getElem]at h2;refine⟨by rw[zkk,zkb hi]; exact h1 _ (List.getElem_mem hi),fun h0=> ?_⟩;rw[zkk,zkk,zkb hi,zkb (show i-1<l.length by omega)];exact h2 (i-1) i (by omega) hi (by omega)
theorem yZ2 {g:dG} {l:List dW} (k:Nat) (h:yat g l=true):yat g (yNe l k)=true:=by
 rw[yzb]at h ⊢
 have hs:(yNe l k).Sublist l:=by
  unfold yNe;have:(l.take k++l.drop (k+1)).Sublist (l.take k++l.drop k):=List.Sublist.append_left (by rw[← List.drop_drop]; exact List.drop_sublist _ _) _
  rwa[List.take_append_drop]at this
 exact⟨fun e he=>h.1 e (hs.subset he),h.2.sublist hs⟩
theorem y2T (e:dW): ∀(l acc:List dW),l.foldl (ycd e) (true,acc)=(true,acc++l.filter (fun x=>x.1 !=e.1))
 | [],acc=>by simp
 | x::t,acc=>by
  rw[List.foldl_cons];have:ycd e (true,acc) x=(true,acc++(bif x.1 !=e.1 then[x]else[])):=rfl;rw[this,y2T e t,List.filter_cons]
  cases x.1 !=e.1<;>simp
theorem y4I {e:dW} {l:List dW} (h:l.Pairwise (fun x y=>x.1<y.1)):yMS l e=l.filter (fun x=>ltb x.1 e.1)++e::l.filter (fun x=>ltb e.1 x.1):=by
 have: ∀(l acc:List dW),l.Pairwise (fun x y=>x.1<y.1)→(bif(l.foldl (ycd e) (false,acc)).1 then(l.foldl (ycd e) (false,acc)).2 else(l.foldl (ycd e) (false,acc)).2++ [e])=acc++(l.filter (fun x=>ltb x.1 e.1)++e::l.filter (fun x=>ltb e.1 x.1)):=by
  intro l
  induction l with
  | nil=>intro acc _; simp
  | cons x t ih =>
   intro acc h;obtain⟨hx,ht⟩:=List.pairwise_cons.1 h;rw[List.foldl_cons]
   by_cases hle:e.1≤x.1
   ·have h1:ycd e (false,acc) x=(true,(acc++ [e])++(bif x.1 !=e.1 then[x]else[])):=by
     unfold ycd; rw[zku hle]; rfl
    have h2:t.filter (fun x=>x.1 !=e.1)=t:=List.filter_eq_self.2 (fun y hy=>bne_iff_ne.2 (by have:=hx y hy; omega));have h3:t.filter (fun x=>ltb x.1 e.1)= []:=List.filter_eq_nil_iff.2 (fun y hy=>by rw[zkv (by have:=hx y hy; omega)]; simp);have h4:t.filter (fun x=>ltb e.1 x.1)=t:=List.filter_eq_self.2 (fun y hy=>zj2 (by have:=hx y hy; omega));rw[h1,y2T,h2,List.filter_cons,List.filter_cons,h3,h4,zkv (show e.1≤x.1 by omega)]
    by_cases he:x.1=e.1
    ·rw[show(x.1 !=e.1)=false from bne_eq_false_iff_eq.2 he,zkv (show x.1≤e.1 by omega)]; simp
    ·rw[show(x.1 !=e.1)=true from bne_iff_ne.2 he,zj2 (show e.1<x.1 by omega)]; simp
   ·have h1:ycd e (false,acc) x=(false,acc++ [x]):=by
     unfold ycd; rw[zkt (show x.1<e.1 by omega),show(x.1 !=e.1)=true from bne_iff_ne.2 (by omega)]; rfl
    rw[h1,ih _ ht,List.filter_cons,List.filter_cons,zj2 (show x.1<e.1 by omega),zkv (show x.1≤e.1 by omega)];simp
 have:=this l [] h;rw[List.nil_append]at this;exact this
theorem yZ3 {g:dG} {l:List dW} {e:dW} (h:yat g l=true) (he:y1S g e):yat g (yMS l e)=true:=by
 rw[yzb]at h ⊢;rw[y4I h.2];refine⟨fun x hx=> ?_,?_⟩
 ·rcases List.mem_append.1 hx with h1 | h1
  ·exact h.1 x (List.mem_filter.1 h1).1
  ·rcases List.mem_cons.1 h1 with rfl | h1
   ·exact he
   ·exact h.1 x (List.mem_filter.1 h1).1
 ·rw[List.pairwise_append,List.pairwise_cons]
  refine⟨h.2.filter _,⟨fun y hy=>zjE.1 (List.mem_filter.1 hy).2,h.2.filter _⟩,fun x hx y hy=> ?_⟩;have h1:=zjE.1 (List.mem_filter.1 hx).2;rcases List.mem_cons.1 hy with rfl | hy
  ·exact h1
  ·exact Int.lt_trans h1 (zjE.1 (List.mem_filter.1 hy).2)
theorem yzc {g:dG} {l:List dW} (h:yat g l=true) (hg:n_spec_GeoOk g=true):l.length≤8:=by
 rw[yzb]at h;have hg:=yg.1 hg
 have:=yXE (l:=l.map (fun e=>e.1)) (lo:=0) (n:=g.2) (by rw[List.pairwise_map]; exact h.2) (fun x hx=>by
  obtain⟨e,he,rfl⟩:=List.mem_map.1 hx
  have:=(h.1 e he).1; omega) (by omega)
 rw[List.length_map]at this;omega
theorem yye {a:dA} (r:dN) (h:Keep a):Keep (yj a r) :=
 yl4 (ymp (P:=Keep) (one:=yaF r) (ymT r) (fun _ _ h hi=>yyd h (zkj hi)) _ a (Nat.le_refl _) h)
theorem y2w {a:dA} (r:dN) (h:yb8 a):yb8 (yj a r) :=
 yzr (ymp (P:=yb8) (one:=yaF r) (ymT r) (fun _ _ h _=>yIs h _ _ _) _ a (Nat.le_refl _) h)
theorem yF7 {a:dA} (s:Int) (d:List Int) (h:Keep a):Keep (yp a s d) :=
 ymp (P:=Keep) (one:=yaH (parityOf a.2.1 s) a.2.1.1 s d) (ysT _ _ _ _) (fun b i h hi=>by
  unfold yaH
  cases yb9 b i s
  ·exact h
  ·exact yyd h (zkj hi)) _ a (Nat.le_refl _) h
theorem yZ8 {a:dA} (s:Int) (d:List Int) (h:yb8 a):yb8 (yp a s d) :=
 ymp (P:=yb8) (one:=yaH (parityOf a.2.1 s) a.2.1.1 s d) (ysT _ _ _ _) (fun b i h hi=>by
  unfold yaH
  cases yb9 b i s
  ·exact h
  ·exact yIs h _ _ _) _ a (Nat.le_refl _) h
theorem y6x {k:Int} {a:dA} (r:dN) (h:Wk k a):Wk k (yj a r):=yB9 (yaT _ _) (yye r h.2.1) (y2w r h.2.2.1) h
theorem y55 {k:Int} {a:dA} (s:Int) (d:List Int) (h:Wk k a):Wk k (yp a s d):=yB9 (ydU _ _ _) (yF7 s d h.2.1) (yZ8 s d h.2.2.1) h
theorem y5C {k:Int} {a:dA} (h:Wk k a) (h1:a.2.2.2.2.2.1<60000) (h2:a.2.2.2.2.2.1-a.2.2.2.2.2.2.1≤3):Wk k (yu a):=by
 obtain⟨⟨c1,c2,c3,c4,c5,c6,c7,c8,c9,c10,c11⟩,g2,g3,g4,g5⟩:=h;have e:IntKind.i64.wrap (a.2.2.2.2.2.1+1)=a.2.2.2.2.2.1+1:=wr (by omega) (by omega);refine⟨⟨c1,c2,c3,c4,c5,c6,c7,⟨?_,?_⟩,?_,c10,c11⟩,g2,g3,g4,g5⟩
 ·show a.2.2.2.2.2.2.1≤IntKind.i64.wrap (a.2.2.2.2.2.1+1); omega
 ·show IntKind.i64.wrap (a.2.2.2.2.2.1+1)≤60000; omega
 ·show IntKind.i64.wrap (a.2.2.2.2.2.1+1)≤a.2.2.2.2.2.2.1+4; omega
theorem yfQ {a b:dA} (h:yl a=yl b):a.2.2.2.2.2.1=b.2.2.2.2.2.1:=congrArg (fun x=>x.2.2.2.2.1) h
theorem yZ0 {a b:dA} (h:yl a=yl b):a.2.2.2.2.2.2.1=b.2.2.2.2.2.2.1:=congrArg (fun x=>x.2.2.2.2.2.1) h
theorem yUe {a:dA} (h:yb8 a):yl (checkA a)=yl (yW (yB a)):=by
 rw[yIk h,yju];have:=yag a;unfold yl at this ⊢;simp only[Prod.mk.injEq]at this;obtain⟨h1,h2,h3,h4,h5,h6,h7,h8,h9⟩:=this;unfold yW yB;simp only[h1,h2,h3,h4,h5,h7,h8,h9]
theorem y6v {k:Int} {a:dA} (h:Wk k a) (hk:k+1≤60000):Wk (k+1) (yk a)∧(yk a).2.2.2.2.2.1=a.2.2.2.2.2.1∧(yk a).2.2.2.2.2.1-(yk a).2.2.2.2.2.2.1≤3:=by
 have c:=h.1;unfold coreOk at c;unfold yk;rw[wr (by omega) (by omega)]
 cases h4:leb 4 (a.2.2.2.2.2.1-a.2.2.2.2.2.2.1)
 ·refine⟨yeI h (by omega),rfl,?_⟩
  have: ¬(4≤a.2.2.2.2.2.1-a.2.2.2.2.2.2.1):=fun g=>by rw[zku g]at h4; cases h4
  show a.2.2.2.2.2.1-a.2.2.2.2.2.2.1≤3; omega
 ·have e1:(checkA a).2.2.2.2.2.1=a.2.2.2.2.2.1:=(yfQ (yUe h.2.2.1)).trans rfl
  have e2:(checkA a).2.2.2.2.2.2.1=a.2.2.2.2.2.1:=(yZ0 (yUe h.2.2.1)).trans rfl;rw[cond_true];exact⟨y23 h hk,e1,by omega⟩
theorem y5F {k:Int} {a:dA} (s:Int) (d:List Int) (h:Wk k a) (hs:a.2.2.2.2.2.1<60000) (hk:k+1≤60000):Wk (k+1) (yv a s d).2∧(yv a s d).1=0:=by
 obtain⟨h1,h2,h3⟩:=y6v h hk;have h4:=y6x ((yk a).2.2.2.2.2.1,s,d) h1;have e1:=yfQ (yaT (yk a) ((yk a).2.2.2.2.2.1,s,d));have e2:=yZ0 (yaT (yk a) ((yk a).2.2.2.2.2.1,s,d));unfold yv;generalize yj (yk a) ((yk a).2.2.2.2.2.1,s,d)=R at h4 e1 e2 ⊢;have h5:=y55 s d (y5C h4 (by omega) (by omega));generalize yp (yu R) s d=Q at h5 ⊢;rw[h1.2.2.1.1,h4.2.2.1.1,h5.2.2.1.1];exact⟨h5,rfl⟩
theorem yP3 {k:Int} {a:dA} {l:List dW} (h:Wk k a) (hd:yat a.2.1 l=true):Wk k (yyA a l):=by
 obtain⟨⟨c1,c2,c3,c4,c5,c6,c7,c8,c9,c10,c11⟩,g2,g3,g4,g5⟩:=h;exact⟨⟨c1,c2,hd,c4,c5,c6,c7,c8,c9,c10,c11⟩,g2,g3,g4,g5⟩
theorem y0q (a:dA) (s:Int) (d:List Int):(yv a s d).2.2.1=a.2.1:=by
 unfold yv;have h2:=(yO (yaT (yk a) ((yk a).2.2.2.2.2.1,s,d))).trans (yXH a);generalize yj (yk a) ((yk a).2.2.2.2.2.1,s,d)=R at h2 ⊢;have h3:=(yO (ydU (yu R) s d)).trans (show(yu R).2.1=a.2.1 from h2);generalize yp (yu R) s d=Q at h3 ⊢
 cases downA (yk a)
 ·cases downA R
  ·exact h3
  ·exact h2
 ·exact yXH a
theorem y24 {k:Int} {a:dA} (s:Int) (h:Wk k a) (hk:k+1≤60000):Wk (k+1) (flushE a s).2:=by
 unfold flushE
 cases ltb (yP a.2.2.2.2.2.2.2.2.1 s) 0
 ·generalize hD:(nth a.2.2.2.2.2.2.2.2.1 (yP a.2.2.2.2.2.2.2.2.1 s) (0,[])).2=D
  cases hc:(yX a s D !=0)
  ·have hz:=yFB (bne_eq_false_iff_eq.1 hc)
   obtain⟨h1,h2⟩:=y5F s D h hz.2.2.2.2.2.2.1 hk;rw[show((yv a s D).1==0)=true from beq_iff_eq.2 h2];exact yP3 h1 (by rw[y0q]; exact yZ2 _ h.1.2.2.1)
  ·exact yeI h (by omega)
 ·exact yeI h (by omega)
theorem y25 {k:Int}: ∀(n i:Nat) (j:Int) (a:dA),Wk j a→j+n≤k→k≤60000→Wk k (goE yn7 (fun b=>((0:Int),b)) n i a).2
 | 0,_,j,a,h,h1,_=>yeI h (by omega)
 | n+1,i,j,a,h,h1,h2=>by
  have h3:=y24 (nth a.2.2.2.2.2.2.2.2.1 0 (0,[])).1 h (by omega);unfold goE yn7
  cases((flushE a (nth a.2.2.2.2.2.2.2.2.1 0 (0,[])).1).1 !=0)
  ·exact y25 n (i+1) (j+1) _ h3 (by omega) h2
  ·exact yeI h3 (by omega)
theorem y6t {k:Int} {a:dA} (h:Wk k a) (hk:k+8≤60000):Wk (k+8) (allE a).2:=by
 have:=yzc h.1.2.2.1 h.1.1;exact y25 _ 0 k a h (by omega) hk
theorem y6y {k:Int} {a:dA} {b n:Int} (h:Wk k a) (hb:blkOk a.2.1 b=true) (hn:isW n=true):Wk k (setOne a b n).2:=by
 unfold setOne
 cases hs:(ybj a (ybM a.2.1 b)).2
 ·exact h
 ·have hstr:=yGA hb
  have hl:=yAm (y6u h) hstr hs;refine yP3 h (yZ3 h.1.2.2.1 ⟨(yG.1 hstr).2,by rw[List.length_set]; exact hl,yZO ?_ hn⟩);unfold ybj
  cases hk:leb 0 (yP a.2.2.2.2.2.2.2.2.1 (ybM a.2.1 b))
  ·rw[h.2.2.2.1]; exact yZ1 _ _
  ·have:=(yqj (d:=((0:Int),([]:List Int))) hk).1
   exact yHY (P:=fun e:dW=>e.2.all isW=true) this (fun e he=>((yzb.1 h.1.2.2.1).1 e he).2.2)
theorem y4V {k:Int} {a b:dA} (h:Wk k a) (ht:Turned a b) (hk:k+8≤60000):Wk (k+8) b:=by
 cases ht with
 | same=>exact yeI h (by omega)
 | put b x hb hx=>exact yeI (y6y h hb hx) (by omega)
 | flush s=>exact yeI (y24 s h (by omega)) (by omega)
 | all=>exact y6t h hk
 | fail m hl hm=>exact yeI (y56 h hl hm (by omega)) (by omega)
 | spare hl _=>exact yeI (y5D h hl (by omega)) (by omega)
 | step hl _ hb=>exact yeI (y57 h hl hb) (by omega)
 | check=>exact yeI (y23 h (by omega)) (by omega)
 | spoil m s _ hm _ _=>exact yeI (y5E h hm) (by omega)
structure Ix (k:Int) (V:Int→Int→Int) (a:dA):Prop where
 xc:coreOk a
 xk:Keep a
 xu:downA a=false
 xb:a.2.2.2.2.2.2.2.2.2.2.2=false
 xg:a.2.2.2.2.2.2.2.1≤k
 xs:a.2.2.2.2.2.1≤k
 xe:EvV a.2.1 V
 xv:View V a
 xn: ∀i,0≤i→i<a.2.1.1→((dsk a i).2.1.length:Int)≤1+(bif i==a.2.2.2.1 then a.2.2.2.2.1 else 0)
theorem y2y {k:Int} {V:Int→Int→Int} {a:dA} (h:Ix k V a):yR a=true:=yHv.2 ⟨h.xc,h.xk⟩
theorem yYm {k j:Int} {V:Int→Int→Int} {a:dA} (h:Ix k V a) (hj:k≤j):Ix j V a:=⟨h.xc,h.xk,h.xu,h.xb,Int.le_trans h.xg hj,Int.le_trans h.xs hj,h.xe,h.xv,h.xn⟩
def yCG (S:Int) (m x:dM):Prop:=(x.2.2.1=false→m.2.2.1=false∧ ∀k,6≤k→k<6+S→yaC x k=false→yaC m k=false∧curS x k=curS m k)
theorem yF8 (S:Int) (m:dM):yCG S m m:=fun h=>⟨h,fun _ _ _ hb=>⟨hb,rfl⟩⟩
theorem yIt {S:Int} {m x y:dM} (h:yCG S m x) (g:yCG S x y):yCG S m y:=fun hy=>by
 obtain⟨h1,h2⟩:=g hy;obtain⟨h3,h4⟩:=h h1;exact⟨h3,fun k k0 k1 hb=>⟨(h4 k k0 k1 (h2 k k0 k1 hb).1).1,(h2 k k0 k1 hb).2.trans (h4 k k0 k1 (h2 k k0 k1 hb).1).2⟩⟩
theorem yB3 {S:Int} {m:dM} (h:memOk m=true):yCG S m (ym m):=fun hf=>by
 rw[(yu4 m).2]at hf;exact⟨hf,fun k k0 k1 hb=>⟨by rw[yLy]at hb; exact hb,y4v h hf (by omega)⟩⟩
theorem yRx {S n:Int} {s:List Int} {m:dM} (hn:n<6):yCG S m (ydZ n s m):=fun hf=>by
 unfold ydZ at hf ⊢
 cases hm:m.2.2.1
 ·refine⟨rfl,fun k k0 k1 hb=> ?_⟩
  rw[cond_false]at hb ⊢
  cases hc:yaR m n s
  ·unfold yE at hb ⊢
   rw[hc]at hb ⊢; exact⟨hb,rfl⟩
  ·rw[yyW hc,show(k !=n)=true from bne_iff_ne.2 (by omega),Bool.and_true]at hb
   rw[yqh hc,show(n==k)=false from beq_eq_false_iff_ne.2 (by omega)];exact⟨hb,rfl⟩
 ·rw[hm]at hf
  rw[cond_true,hm]at hf; cases hf
theorem yF5 (n:Int) (s:List Int) (m:dM):(ydZ n s m).2.2.1=m.2.2.1:=by
 unfold ydZ
 cases hm:m.2.2.1
 ·show(yE m n s).1.2.2.1=false
  rw[(yz5 m n s).2]; exact hm
 ·exact hm
theorem yM9 {V:Int→Int→Int} {a b:dA} (hg:b.2.1=a.2.1) (hl: ∀i s,0≤i→i<a.2.1.1→0≤s→yM b.2.2.2.1 b.2.2.2.2.1 i s (dsk b i)=true→(i !=a.2.2.2.1||ltb s a.2.2.2.2.1)=true∧yCG a.2.1.2 (dsk a i) (dsk b i)) (h:View V a):View V b:=fun i s i0 i1 s0 s1 hh=>by
 rw[hg]at i1 s1;unfold hasW at hh;rw[Bool.and_eq_true,Bool.not_eq_true']at hh;obtain⟨h1,h2⟩:=hl i s i0 i1 s0 hh.1
 have hf:(dsk b i).2.2.1=false:=by
  have:=hh.1;simp only[yM,Bool.and_eq_true,Bool.not_eq_true']at this; exact this.1
 obtain⟨h3,h4⟩:=h2 hf;obtain⟨h5,h6⟩:=h4 (s+6) (by omega) (by omega) hh.2;rw[h6];exact h i s i0 i1 s0 s1 (by unfold hasW yM; rw[h3,h1,h5]; rfl)
theorem y4Q {V:Int→Int→Int} {a b:dA} (hc:yl b=yl a) (hl: ∀i,0≤i→i<a.2.1.1→yCG a.2.1.2 (dsk a i) (dsk b i)) (h:View V a):View V b :=
 yM9 (yO hc) (fun i s i0 i1 s0 hh=>⟨by
  rw[yqg hc,yjr hc]at hh
  simp only[yM,Bool.and_eq_true]at hh; exact hh.2,hl i i0 i1⟩) h
theorem yNi {k:Int} {V:Int→Int→Int} {a b:dA} (hc:yl b=yl a) (hk:Keep b) (hu:downA b=false) (hl: ∀i,0≤i→i<a.2.1.1→yCG a.2.1.2 (dsk a i) (dsk b i)∧(dsk b i).2.1.length≤(dsk a i).2.1.length) (h:Ix k V a):Ix k V b:=by
 refine⟨yB6 hc h.xc,hk,hu,(yug hc).trans h.xb,by rw[yuh hc]; exact h.xg,by rw[yfQ hc]; exact h.xs,by rw[yO hc]; exact h.xe,y4Q hc (fun i i0 i1=>(hl i i0 i1).1) h.xv,fun i i0 i1=> ?_⟩;rw[yO hc]at i1;rw[yqg hc,yjr hc];have:=h.xn i i0 i1;have:=(hl i i0 i1).2;omega
theorem yCI {g:Int→dM→dM} {a r:dA} (h:Adv g a r a.2.2.1.length) (hu:downA r=false) {i:Int} (i0:0≤i) (i1:i<(a.2.2.1.length:Int)):dsk r i=g i (dsk a i):=by
 obtain⟨_,_,k,h1,h2,h3⟩:=h;rw[h2 i i0,h3 hu,zj2 i1]; rfl
theorem yIN {a:dA} (hu:downA (yb a)=false) {i:Int} (i0:0≤i) (i1:i<(a.2.2.1.length:Int)):dsk (yb a) i=ym (dsk a i):=by
 cases hd:downA a
 ·exact yCI (yTq hd) hu i0 i1
 ·rw[yvd hd]at hu; rw[hd]at hu; cases hu
theorem y3N {a:dA} (hu:downA (yb a)=false):downA a=false:=by
 cases hd:downA a
 ·rfl
 ·rw[yvd hd]at hu; rw[hd]at hu; cases hu
theorem yPS {m:dM} (h:memOk m=true):(ym m).2.1.length≤m.2.1.length:=by
 unfold ym;rw[h]
 cases m.2.2.1
 ·exact Nat.zero_le _
 ·exact Nat.le_refl _
theorem y3A {k:Int} {V:Int→Int→Int} {a:dA} (h:Ix k V a) (hu:downA (yb a)=false):Ix k V (yb a) :=
 yNi (yag a) (yl4 h.xk) hu (fun i i0 i1=>by
  obtain⟨d1,_,_⟩:=ycJ h.xk i0 i1;rw[yIN hu i0 (by have:=h.xk.1.2; omega)]
  exact⟨yB3 d1,yPS d1⟩) h
theorem y51 {a:dA} (hu:downA (markA a)=false):downA ((List.range a.2.2.1.length).foldl yH (yW a))=false∧downA a=false:=by
 have h1:=y3N hu;refine⟨h1,?_⟩
 cases hd:downA a
 ·rfl
 ·rw[yl2 (one:=yH) (fun _ _ h=>yqD h _ _ _) _ (yW a) hd]at h1
  exact(hd.symm.trans h1)
theorem y2I {a:dA} (hu:downA (markA a)=false) {i:Int} (i0:0≤i) (i1:i<(a.2.2.1.length:Int)):dsk (markA a) i=ym (y1U (yW a) i (dsk a i)):=by
 obtain⟨h1,h2⟩:=y51 hu;have hl:((List.range a.2.2.1.length).foldl yH (yW a)).2.2.1.length=a.2.2.1.length:=yjP (one:=yH) (fun _ _=>yrJ _ _ _ _) _ (yW a);unfold markA at hu ⊢;rw[yIN hu i0 (by omega)];exact congrArg ym (yCI (a:=yW a) (y2H (a:=yW a) h2) h1 i0 i1)
theorem yrw {n:Int} {s:List Int} {m:dM} (h:memOk m=true):memOk (ydZ n s m)=true:=by
 unfold ydZ
 cases m.2.2.1
 ·exact y26 _ _ h
 ·exact h
theorem yws {n:Int} {s:List Int} {m:dM} (h:memOk m=true):(ym (ydZ n s m)).2.1.length≤m.2.1.length:=by
 cases hf:m.2.2.1
 ·rw[(yBW (yrw h) ((yF5 n s m).trans hf)).1]; exact Nat.zero_le _
 ·have e:ydZ n s m=m:=by unfold ydZ; rw[hf]; rfl
  rw[e]; exact yPS h
theorem ylY {q:Int} (h:0≤q):2≤n_spec_SlotOf q∧n_spec_SlotOf q<6∧n_spec_SlotOf q=2+q % 4:=by
 unfold n_spec_SlotOf;rw[zkv h,cond_false,Int.tmod_eq_emod_of_nonneg h];have:=Int.emod_nonneg q (show(4:Int)≠0 by omega);have:=Int.emod_lt_of_pos q (show(0:Int)<4 by omega);rw[wr (by omega) (by omega)]; omega
theorem yIP {g:Int} (h:0≤g):0≤g.tmod 2∧g.tmod 2<2:=by
 rw[Int.tmod_eq_emod_of_nonneg h]; omega
theorem yXI {a b:dA} (h:yl a=yl b):a.2.2.2.2.2.2.1=b.2.2.2.2.2.2.1:=congrArg (fun x=>x.2.2.2.2.2.1) h
theorem y3z {k:Int} {V:Int→Int→Int} {a:dA} (h:Ix k V a) (hk:k+1≤60000) (hu:downA (markA a)=false):Ix (k+1) V (markA a):=by
 have c:=h.xc;unfold coreOk at c;have hgk:=h.xg;have hsk:=h.xs;have e:IntKind.i64.wrap (a.2.2.2.2.2.2.2.1+1)=a.2.2.2.2.2.2.2.1+1:=wr (by omega) (by omega)
 have hG:Ix (k+1) V (yW a):=by
  obtain⟨⟨c1,c2,c3,c4,c5,c6,c7,c8,c9,c10,c11⟩,g2,g3,g4,g5,g6,g7,g8,g9⟩:=h;refine⟨⟨c1,c2,c3,c4,c5,c6,c7,c8,c9,?_,?_⟩,g2,g3,g4,?_,?_,g7,g8,g9⟩
  ·show 0≤IntKind.i64.wrap (a.2.2.2.2.2.2.2.1+1); omega
  ·show IntKind.i64.wrap (a.2.2.2.2.2.2.2.1+1)≤_; omega
  ·show IntKind.i64.wrap (a.2.2.2.2.2.2.2.1+1)≤_; omega
  ·show a.2.2.2.2.2.1≤k+1; omega
 refine yNi (a:=yW a) (yju a) (yzG h.xk) hu (fun i i0 i1=> ?_) hG;have i1':i<a.2.1.1:=i1;obtain⟨d1,_,_⟩:=ycJ h.xk i0 i1';rw[y2I hu i0 (by have:=h.xk.1.2; omega)]
 have hn:(yW a).2.2.2.2.2.2.2.1.tmod 2<6:=by
  show(IntKind.i64.wrap (a.2.2.2.2.2.2.2.1+1)).tmod 2<6;have:=yIP (g:=IntKind.i64.wrap (a.2.2.2.2.2.2.2.1+1)) (by omega);omega
 exact⟨yIt (yRx hn) (yB3 (yrw d1)),yws d1⟩
theorem y0c {k:Int} {V:Int→Int→Int} {a:dA} (h:Ix k V a):Ix k V (yB a):=by
 obtain⟨⟨c1,c2,c3,c4,c5,c6,c7,c8,c9,c10,c11⟩,g2,g3,g4,g5,g6,g7,g8,g9⟩:=h;refine⟨⟨c1,c2,c3,c4,c5,c6,⟨?_,?_⟩,⟨Int.le_refl _,c8.2⟩,?_,c10,c11⟩,g2,g3,g4,g5,g6,g7,g8,g9⟩
 ·show 0≤a.2.2.2.2.2.1; omega
 ·show a.2.2.2.2.2.1≤60000; omega
 ·show a.2.2.2.2.2.1≤a.2.2.2.2.2.1+4; omega
theorem yIl {a:dA} (hu:downA (checkA a)=false):downA (yb a)=false∧checkA a=markA (yB (yb a)):=by
 unfold checkA at hu ⊢
 cases hd:downA (yb a)
 ·exact⟨rfl,rfl⟩
 ·rw[hd]at hu; exact absurd (hd.symm.trans hu) (by simp)
theorem yRw {k:Int} {V:Int→Int→Int} {a:dA} (h:Ix k V a) (hk:k+1≤60000) (hu:downA (checkA a)=false):Ix (k+1) V (checkA a):=by
 obtain⟨h1,h2⟩:=yIl hu;rw[h2]at hu ⊢;exact y3z (y0c (y3A h h1)) hk hu
theorem y6o {a:dA} {r:dN} (hu:downA (yj a r)=false):downA ((List.range a.2.2.1.length).foldl (yaF r) a)=false∧downA a=false:=by
 have h1:=y3N hu;refine⟨h1,?_⟩
 cases hd:downA a
 ·rfl
 ·rw[yl2 (one:=yaF r) (fun _ _ h=>yqD h _ _ _) _ a hd]at h1
  exact(hd.symm.trans h1)
theorem yNl {a:dA} {r:dN} (hu:downA (yj a r)=false) {i:Int} (i0:0≤i) (i1:i<(a.2.2.1.length:Int)):dsk (yj a r) i=ym (ydZ (n_spec_SlotOf r.1) (putRec r) (dsk a i)):=by
 obtain⟨h1,h2⟩:=y6o hu;have hl:((List.range a.2.2.1.length).foldl (yaF r) a).2.2.1.length=a.2.2.1.length:=yjP (ymT r) _ a;unfold yj at hu ⊢;rw[yIN hu i0 (by omega)];exact congrArg ym (yCI (y3J r h2) h1 i0 i1)
theorem y6h {k:Int} {V:Int→Int→Int} {a:dA} {r:dN} (h:Ix k V a) (hr:0≤r.1) (hu:downA (yj a r)=false):Ix k V (yj a r)∧ ∀i,0≤i→i<a.2.1.1→(dsk (yj a r) i).2.2.1=false→(dsk (yj a r) i).2.1= []:=by
 refine⟨yNi (yaT a r) (yye r h.xk) hu (fun i i0 i1=> ?_) h,fun i i0 i1 hf=> ?_⟩
 ·obtain⟨d1,_,_⟩:=ycJ h.xk i0 i1
  rw[yNl hu i0 (by have:=h.xk.1.2; omega)];exact⟨yIt (yRx (ylY hr).2.1) (yB3 (yrw d1)),yws d1⟩
 ·obtain⟨d1,_,_⟩:=ycJ h.xk i0 i1
  rw[yNl hu i0 (by have:=h.xk.1.2; omega)]at hf ⊢;rw[(yu4 _).2]at hf;exact(yBW (yrw d1) hf).1
theorem y5e {k:Int} {V:Int→Int→Int} {a:dA} (h:Ix k V a) (h1:a.2.2.2.2.2.1<60000) (h2:a.2.2.2.2.2.1-a.2.2.2.2.2.2.1≤3):Ix (k+1) V (yu a):=by
 obtain⟨⟨c1,c2,c3,c4,c5,c6,c7,c8,c9,c10,c11⟩,g2,g3,g4,g5,g6,g7,g8,g9⟩:=h;have e:IntKind.i64.wrap (a.2.2.2.2.2.1+1)=a.2.2.2.2.2.1+1:=wr (by omega) (by omega);refine⟨⟨c1,c2,c3,c4,c5,c6,c7,⟨?_,?_⟩,?_,c10,c11⟩,g2,g3,g4,?_,?_,g7,g8,g9⟩
 ·show a.2.2.2.2.2.2.1≤IntKind.i64.wrap (a.2.2.2.2.2.1+1); omega
 ·show IntKind.i64.wrap (a.2.2.2.2.2.1+1)≤60000; omega
 ·show IntKind.i64.wrap (a.2.2.2.2.2.1+1)≤a.2.2.2.2.2.2.1+4; omega
 ·show a.2.2.2.2.2.2.2.1≤k+1; omega
 ·show IntKind.i64.wrap (a.2.2.2.2.2.1+1)≤k+1; omega
def ym2 (V:Int→Int→Int) (g:dG) (s:Int) (d:List Int):Int→Int→Int:=fun t i=>bif t==s then dataW (parityOf g s) g.1 (xorOf d) d i else V t i
theorem y3W {N p x:Int} {d:List Int} (h:3≤N∧N≤5) (hp:0≤p∧p≤N-1) (hd:(d.length:Int)=N-1):((List.range N.toNat).map (fun(i:Nat)=>dataW p N x d i)).Perm (x::d):=by
 have:N=3∨N=4∨N=5:=by omega
 rcases this with rfl | rfl | rfl
 ·match d,hd with
  | [a,b],_ =>
   have:p=0∨p=1∨p=2:=by omega
   rcases this with rfl | rfl | rfl<;>simp[dataW,nth,List.range_succ,List.perm_iff_count,List.count_cons]<;>(intro z; omega)
  | [],hd=>simp at hd
  | [_],hd=>simp at hd
  | _::_::_::_,hd=>simp only[List.length_cons]at hd; omega
 ·match d,hd with
  | [a,b,c],_ =>
   have:p=0∨p=1∨p=2∨p=3:=by omega
   rcases this with rfl | rfl | rfl | rfl<;>simp[dataW,nth,List.range_succ,List.perm_iff_count,List.count_cons]<;>(intro z; omega)
  | [],hd=>simp at hd
  | [_],hd=>simp at hd
  | [_,_],hd=>simp at hd
  | _::_::_::_::_,hd=>simp only[List.length_cons]at hd; omega
 ·match d,hd with
  | [a,b,c,e],_ =>
   have:p=0∨p=1∨p=2∨p=3∨p=4:=by omega
   rcases this with rfl | rfl | rfl | rfl | rfl<;>simp[dataW,nth,List.range_succ,List.perm_iff_count,List.count_cons]<;>(intro z; omega)
  | [],hd=>simp at hd
  | [_],hd=>simp at hd
  | [_,_],hd=>simp at hd
  | [_,_,_],hd=>simp at hd
  | _::_::_::_::_::_,hd=>simp only[List.length_cons]at hd; omega
theorem yl7 (x:Int) (l:List Int):yfj (x::l)=bv x ^^^ yfj l:=by
 have fo: ∀(l:List Int) (v:BitVec 64),l.foldl (fun v x=>v ^^^ bv x) v=v ^^^ yfj l:=by
  intro l
  induction l with
  | nil=>intro v; show v=v ^^^ 0#64; rw[BitVec.xor_zero]
  | cons y t ih =>
   intro v;unfold yfj;rw[List.foldl_cons,List.foldl_cons,ih,ih (0#64 ^^^ bv y),BitVec.zero_xor,BitVec.xor_assoc]
 show l.foldl _ (0#64 ^^^ bv x)=_;rw[fo,BitVec.zero_xor]
theorem y4Z {l m:List Int} (h:l.Perm m):yfj l=yfj m:=by
 induction h with
 | nil=>rfl
 | cons x _ ih=>rw[yl7,yl7,ih]
 | swap x y l=>rw[yl7,yl7,yl7,yl7,← BitVec.xor_assoc,BitVec.xor_comm (bv y),BitVec.xor_assoc]
 | trans _ _ h1 h2=>exact h1.trans h2
theorem y4Y (d:List Int):yfj (xorOf d::d)=0#64:=by rw[yl7,yqV,yx5,BitVec.xor_self]
theorem y3V {N p:Int} {d:List Int} (h:3≤N∧N≤5) (hp:0≤p∧p≤N-1) (hd:(d.length:Int)=N-1):xorOf ((List.range N.toNat).map (fun(i:Nat)=>dataW p N (xorOf d) d i))=0:=by
 rw[yqV,y4Z (y3W h hp hd),y4Y]; rfl
theorem yLt {N p i:Int} {d:List Int} (hd:d.all isW=true):isW (dataW p N (xorOf d) d i)=true:=by
 unfold dataW
 cases(i==p)
 ·exact yYV hd
 ·exact y0r hd
theorem y3w {V:Int→Int→Int} {g:dG} {s:Int} {d:List Int} (h:EvV g V) (hs:strOk g s=true) (hl:(d.length:Int)=g.1-1) (hd:d.all isW=true):EvV g (ym2 V g s d):=by
 have h1:=yG.1 hs;have hg:=yg.1 h1.1;refine⟨fun t t0 t1=> ?_,fun t i t0 t1 i0 i1=> ?_⟩
 ·unfold vlist ym2
  cases ht:(t==s)
  ·exact h.ev t t0 t1
  ·exact y3V hg.1 (yl5 hs) hl
 ·unfold ym2
  cases ht:(t==s)
  ·exact h.ew t i t0 t1 i0 i1
  ·exact yLt hd
theorem yBZ {L B p N s i:Int} {d:List Int} {S:Int} {m:dM} (k:Int) (hk:k≠dataAt s):(yjt L B p N s d i m).2.2.1=m.2.2.1∧yaC (yjt L B p N s d i m) k=yaC m k∧curS (yjt L B p N s d i m) k=curS m k:=by
 unfold yjt
 cases hl:yM L B i s m
 ·exact⟨rfl,rfl,rfl⟩
 ·refine⟨(yz5 _ _ _).2,?_⟩
  rw[cond_true]
  cases hc:yaR m (dataAt s) [dataW p N (xorOf d) d i]
  ·unfold yE; rw[hc]; exact⟨rfl,rfl⟩
  ·rw[yyW hc,yqh hc,show(k !=dataAt s)=true from bne_iff_ne.2 hk,show(dataAt s==k)=false from beq_eq_false_iff_ne.2 (fun e=>hk e.symm),Bool.and_true]
   exact⟨rfl,rfl⟩
theorem yPT (L B p N s:Int) (d:List Int) (i:Int) (m:dM):(yjt L B p N s d i m).2.1.length≤m.2.1.length+1∧(m.2.2.1=true→yjt L B p N s d i m=m):=by
 unfold yjt
 cases hl:yM L B i s m
 ·exact⟨Nat.le_succ _,fun _=>rfl⟩
 ·simp only[yM,Bool.and_eq_true,Bool.not_eq_true']at hl
  refine⟨?_,fun h=>by rw[hl.1]at h; cases h⟩;rw[cond_true];unfold yE
  cases yaR m (dataAt s) [dataW p N (xorOf d) d i]
  ·exact Nat.le_succ _
  ·show(m.2.1++ [(dataAt s,[dataW p N (xorOf d) d i])]).length≤_; rw[List.length_append]; simp only[List.length_cons,List.length_nil]; omega
theorem y5V {k:Int} {V:Int→Int→Int} {a:dA} {s:Int} {d:List Int} (h:Ix k V a) (hs:strOk a.2.1 s=true) (hl:(d.length:Int)=a.2.1.1-1) (hd:d.all isW=true)
  (hz: ∀i,0≤i→i<a.2.1.1→(dsk a i).2.2.1=false→(dsk a i).2.1= []) (hu:downA (yp a s d)=false):Ix k (ym2 V a.2.1 s d) (yp a s d):=by
 have hc:=ydU a s d;have h1:=yG.1 hs;have hg:=yg.1 h1.1;have hlen:=h.xk.1.2;have hdsk: ∀i,0≤i→i<a.2.1.1→dsk (yp a s d) i=yjt a.2.2.2.1 a.2.2.2.2.1 (parityOf a.2.1 s) a.2.1.1 s d i (dsk a i):=fun i i0 i1=>yCI (yQx s d h.xu) hu i0 (by omega)
 refine⟨yB6 hc h.xc,yF7 s d h.xk,hu,(yug hc).trans h.xb,by rw[yuh hc]; exact h.xg,by rw[yfQ hc]; exact h.xs,by rw[yO hc]; exact y3w h.xe hs hl hd,fun i t i0 i1 t0 t1 hh=> ?_,fun i i0 i1=> ?_⟩
 ·rw[yO hc]at i1 t1
  obtain⟨d1,d2,d3⟩:=ycJ h.xk i0 i1;unfold hasW at hh;rw[yqg hc,yjr hc,hdsk i i0 i1,Bool.and_eq_true,Bool.not_eq_true']at hh;rw[hdsk i i0 i1];have hda:=yjs (s:=s) h1.2.1 (by omega);unfold ym2
  by_cases ht:t=s
  ·subst ht
   rw[beq_self_eq_true,cond_true]
   have hlv:yM a.2.2.2.1 a.2.2.2.2.1 i t (dsk a i)=true:=by
    have:=hh.1;unfold yM at this ⊢;rw[(yBZ (S:=0) (-1) (by omega)).1]at this;exact this
   have hf:(dsk a i).2.2.1=false:=by
    simp only[yM,Bool.and_eq_true,Bool.not_eq_true']at hlv; exact hlv.1
   unfold yjt;rw[hlv,cond_true,yqh (ysR d1 hf (by rw[hda]; exact zjA.2 (by omega)) (yzQ.2 ⟨by simp,fun x hx=> ?_⟩) (by rw[hz i i0 i1 hf]; decide)),hda,beq_self_eq_true]; rfl;rw[List.mem_singleton.1 hx];exact yu7.1 (yLt hd)
  ·rw[show(t==s)=false from beq_eq_false_iff_ne.2 ht]
   obtain⟨e1,e2,e3⟩:=yBZ (L:=a.2.2.2.1) (B:=a.2.2.2.2.1) (p:=parityOf a.2.1 s) (N:=a.2.1.1) (s:=s) (i:=i) (d:=d) (S:=0) (m:=dsk a i) (t+6) (by omega);rw[e3];refine h.xv i t i0 i1 t0 t1 ?_;unfold hasW;rw[e2]at hh;have h2:=hh.1;unfold yM at h2 ⊢;rw[e1]at h2;rw[h2,hh.2]; rfl
 ·rw[yO hc]at i1
  rw[yqg hc,yjr hc,hdsk i i0 i1];obtain⟨g1,g2⟩:=yPT a.2.2.2.1 a.2.2.2.2.1 (parityOf a.2.1 s) a.2.1.1 s d i (dsk a i);have c:=h.xc;unfold coreOk at c
  cases hf:(dsk a i).2.2.1
  ·rw[hz i i0 i1 hf]at g1
   simp only[List.length_nil]at g1
   cases(i==a.2.2.2.1)
   ·simp only[cond_false]; omega
   ·simp only[cond_true]; omega
  ·rw[g2 hf]
   exact h.xn i i0 i1
theorem y4B {k:Int} {V:Int→Int→Int} {a:dA} (h:Ix k V a) (hk:k+1≤60000) (hu:downA (yk a)=false):Ix (k+1) V (yk a)∧(yk a).2.2.2.2.2.1=a.2.2.2.2.2.1∧(yk a).2.2.2.2.2.1-(yk a).2.2.2.2.2.2.1≤3:=by
 have c:=h.xc;unfold coreOk at c
 have e0:yk a=bif leb 4 (a.2.2.2.2.2.1-a.2.2.2.2.2.2.1)then checkA a else a:=by
  unfold yk;rw[wr (by omega) (by omega)]
 rw[e0]at hu ⊢
 cases h4:leb 4 (a.2.2.2.2.2.1-a.2.2.2.2.2.2.1)
 ·refine⟨yYm h (by omega),rfl,?_⟩
  have: ¬(4≤a.2.2.2.2.2.1-a.2.2.2.2.2.2.1):=fun g=>by rw[zku g]at h4; cases h4
  show a.2.2.2.2.2.1-a.2.2.2.2.2.2.1≤3; omega
 ·rw[h4]at hu
  simp only[cond_true]at hu ⊢;have hi:=yRw h hk hu;obtain⟨_,h2⟩:=yIl hu;have e:=yju (yB (yb a));have e1:(checkA a).2.2.2.2.2.1=a.2.2.2.2.2.1:=by rw[h2]; exact(yfQ e).trans (show(yW (yB (yb a))).2.2.2.2.2.1=_ from yfQ (a:=yb a) (b:=a) (yag a))
  have e2:(checkA a).2.2.2.2.2.2.1=a.2.2.2.2.2.1:=by rw[h2]; exact(yXI e).trans (show(yW (yB (yb a))).2.2.2.2.2.2.1=_ from yfQ (a:=yb a) (b:=a) (yag a))
  exact⟨hi,e1,by omega⟩
theorem y5h {k:Int} {V:Int→Int→Int} {a:dA} {s:Int} {d:List Int} (h:Ix k V a) (hs:strOk a.2.1 s=true) (hl:(d.length:Int)=a.2.1.1-1) (hd:d.all isW=true) (hq:a.2.2.2.2.2.1<60000) (hk:k+1≤60000)
  (hu:downA (yv a s d).2=false):Ix (k+2) (ym2 V a.2.1 s d) (yv a s d).2∧(yv a s d).1=0:=by
 unfold yv at hu ⊢
 cases hc:downA (yk a)
 ·obtain⟨h1,h2,h3⟩:=y4B h hk hc
  have eg:(yk a).2.1=a.2.1:=yXH a;rw[hc]at hu;simp only[cond_false]at hu ⊢;have c:=h.xc;unfold coreOk at c
  cases hr:downA (yj (yk a) ((yk a).2.2.2.2.2.1,s,d))
  ·rw[hr]at hu
   simp only[cond_false]at hu ⊢;obtain⟨h4,h5⟩:=y6h (r:=((yk a).2.2.2.2.2.1,s,d)) h1 (by show 0≤(yk a).2.2.2.2.2.1; omega) hr;have e1:=yfQ (yaT (yk a) ((yk a).2.2.2.2.2.1,s,d));have e2:=yXI (yaT (yk a) ((yk a).2.2.2.2.2.1,s,d));have e3:=(yO (yaT (yk a) ((yk a).2.2.2.2.2.1,s,d))).trans eg;rw[eg]at h5;generalize yj (yk a) ((yk a).2.2.2.2.2.1,s,d)=R at h4 h5 e1 e2 e3 hu ⊢;have h6:=y5e h4 (by omega) (by omega);have e4:(yu R).2.1=a.2.1:=e3;have h7:=y5V (s:=s) (d:=d) h6 (by rw[e4]; exact hs) (by rw[e4]; exact hl) hd (fun i i0 i1 hf=>h5 i i0 (by rw[e4]at i1; exact i1) hf) hu;rw[hu,e4]at *;exact⟨yYm h7 (by omega),rfl⟩
  ·rw[hr]at hu
   exact absurd (hr.symm.trans hu) (by simp)
 ·rw[hc]at hu
  exact absurd (hc.symm.trans hu) (by simp)
theorem yPV {k:Int} {V:Int→Int→Int} {a:dA} {l:List dW} (h:Ix k V a) (hd:yat a.2.1 l=true):Ix k V (yyA a l):=by
 obtain⟨⟨c1,c2,c3,c4,c5,c6,c7,c8,c9,c10,c11⟩,g2,g3,g4,g5,g6,g7,g8,g9⟩:=h;exact⟨⟨c1,c2,hd,c4,c5,c6,c7,c8,c9,c10,c11⟩,g2,g3,g4,g5,g6,g7,g8,g9⟩
theorem y3e {a:dA} (s:Int) (h:downA a=true):(flushE a s).2=a:=by
 unfold flushE
 cases ltb (yP a.2.2.2.2.2.2.2.2.1 s) 0
 ·cases hc:(yX a s (nth a.2.2.2.2.2.2.2.2.1 (yP a.2.2.2.2.2.2.2.2.1 s) (0,[])).2 !=0)
  ·have:=(yFB (bne_eq_false_iff_eq.1 hc)).2.2.2.1
   rw[h]at this; cases this
  ·rfl
 ·rfl
theorem yZS: ∀(n i:Nat) {a:dA},downA a=true→(goE yn7 (fun b=>((0:Int),b)) n i a).2=a
 | 0,_,_,_=>rfl
 | n+1,i,a,h=>by
  unfold goE yn7;have e:=y3e (nth a.2.2.2.2.2.2.2.2.1 0 (0,[])).1 h
  cases((flushE a (nth a.2.2.2.2.2.2.2.2.1 0 (0,[])).1).1 !=0)
  ·simp only[cond_false,e]
   exact yZS n (i+1) h
  ·exact e
theorem y6i {k:Int} {V:Int→Int→Int} {a:dA} {b n:Int} (h:Ix k V a) (hb:blkOk a.2.1 b=true) (hn:isW n=true):Ix k V (setOne a b n).2:=by
 unfold setOne
 cases hs:(ybj a (ybM a.2.1 b)).2
 ·exact h
 ·have hstr:=yGA hb
  have hl:=yAm (y2y h) hstr hs;refine yPV h (yZ3 h.xc.2.2.1 ⟨(yG.1 hstr).2,by rw[List.length_set]; exact hl,yZO ?_ hn⟩);unfold ybj
  cases hk:leb 0 (yP a.2.2.2.2.2.2.2.2.1 (ybM a.2.1 b))
  ·rw[h.xb]; exact yZ1 _ _
  ·have:=(yqj (d:=((0:Int),([]:List Int))) hk).1
   exact yHY (P:=fun e:dW=>e.2.all isW=true) this (fun e he=>((yzb.1 h.xc.2.2.1).1 e he).2.2)
theorem yLu {a:dA} {m i:Int} {x:dM} (l:Int) (t:Int×Int×Int×Int×List dW×Int×Bool×Bool) (hm:inb m a.2.2.1.length=true) (hi:0≤i):dsk (a.1,a.2.1,a.2.2.1.set m.toNat x,l,t) i=bif m==i then x else dsk a i:=yDS hm hi
theorem y4t {a:dA} {m:Int} (hl:a.2.2.2.1= -1∨a.2.2.2.1=m) (hm:inb m a.2.2.1.length=true) (i s:Int) (i0:0≤i) (s0:0≤s) (hh:yM m 0 i s (dsk (yY a m) i)=true):(i !=a.2.2.2.1||ltb s a.2.2.2.2.1)=true∧i≠m∧dsk (yY a m) i=dsk a i:=by
 have e:dsk (yY a m) i=bif m==i then yfE (dsk a m)else dsk a i:=yLu m _ hm i0
 by_cases hi:m=i
 ·subst hi
  rw[e,beq_self_eq_true]at hh;simp only[yM,Bool.and_eq_true,Bool.not_eq_true',cond_true]at hh;have:=hh.1
  cases this
 ·rw[show(m==i)=false from beq_eq_false_iff_ne.2 hi]at e
  refine⟨?_,fun e=>hi e.symm,e⟩;rw[show(i !=a.2.2.2.1)=true from bne_iff_ne.2 (by omega)]; rfl
theorem y3h {k m:Int} {V:Int→Int→Int} {a:dA} (h:Ix k V a) (hl:a.2.2.2.1= -1∨a.2.2.2.1=m) (hm:inb m a.2.2.1.length=true):Ix k V (yY a m):=by
 have hmi:=zjA.1 hm
 have hv:View V (yY a m):=yM9 (a:=a) (b:=yY a m) rfl (fun i s i0 i1 s0 hh=>by
  obtain⟨h1,h2,h3⟩:=y4t hl hm i s i0 s0 hh;rw[h3]
  exact⟨h1,yF8 _ _⟩) h.xv
 have hn: ∀i,0≤i→i<a.2.1.1→((dsk (yY a m) i).2.1.length:Int)≤1+(bif i==m then 0 else 0):=fun i i0 i1=>by
  have e:dsk (yY a m) i=bif m==i then yfE (dsk a m)else dsk a i:=yLu m _ hm i0;rw[e]
  by_cases hi:m=i
  ·rw[show(m==i)=true from beq_iff_eq.2 hi]
   show(([]:List dW).length:Int)≤_;rw[List.length_nil]
   cases(i==m)<;>decide
  ·rw[show(m==i)=false from beq_eq_false_iff_ne.2 hi,cond_false]
   have:=h.xn i i0 i1;rw[show(i==a.2.2.2.1)=false from beq_eq_false_iff_ne.2 (by omega)]at this;simp only[cond_false]at this
   cases(i==m)<;>simp only[cond_true,cond_false]<;>omega
 obtain⟨⟨c1,c2,c3,c4,c5,c6,c7,c8,c9,c10,c11⟩,⟨⟨g1,g2⟩,g3⟩,f,b,t,t2,t3,_,_⟩:=h;refine⟨⟨c1,c2,c3,⟨?_,?_⟩,⟨Int.le_refl _,by show(0:Int)≤a.2.1.2; omega⟩,fun e=>rfl,c7,c8,c9,c10,c11⟩,⟨⟨?_,?_⟩,g3⟩,f,b,t,t2,t3,hv,hn⟩
 ·show -1≤m; omega
 ·show m≤a.2.1.1-1; omega
 ·show yF9 m a.2.2.2.2.2.2.2.2.2.2.2 a.2.1.2 (a.2.2.1.set m.toNat (yfE (nth a.2.2.1 m noMem)))
  refine yql (fun i hi=> ?_) (fun hi=> ?_)
  ·obtain⟨e1,e2,e3⟩:=g1 i hi
   refine⟨e1,e2,fun e=> ?_⟩;rcases e3 e with e | e
   ·exact .inl (by omega)
   ·exact .inr e
  ·have:=g1 m.toNat hi
   rw[Int.toNat_of_nonneg hmi.1]at this;exact⟨yYb this.1,this.2.1,fun _=> .inl (Int.toNat_of_nonneg hmi.1)⟩
 ·show((a.2.2.1.set m.toNat (yfE (nth a.2.2.1 m noMem))).length:Int)=a.2.1.1
  rw[List.length_set]; exact g2
theorem y5S {k m:Int} {V:Int→Int→Int} {a:dA} (h:Ix k V a) (hl:a.2.2.2.1= -1∨a.2.2.2.1=m) (hk:k+1≤60000):failOne a m=markA (yY a m):=by
 have:=h.xg;unfold failOne;rw[h.xu,h.xb,zj2 (show a.2.2.2.2.2.2.2.1<60000 by omega)];rcases hl with e | e
 ·rw[show(a.2.2.2.1== -1)=true from beq_iff_eq.2 e]; rfl
 ·rw[show(a.2.2.2.1==m)=true from beq_iff_eq.2 e,Bool.or_true]; rfl
theorem yu8 {S:Int} (h:1≤S∧S≤8):yaD (6+S)=(List.replicate (6+S).toNat [],[],false,[]):=by
 unfold yaD;rw[zku (show 1≤6+S by omega),zku (show 6+S≤20 by omega)]; rfl
theorem y3i {k:Int} {V:Int→Int→Int} {a:dA} (h:Ix k V a) (hm:inb a.2.2.2.1 a.2.2.1.length=true):Ix k V (spareNew a):=by
 have hg:=yg.1 h.xc.1;have e: ∀i,0≤i→dsk (spareNew a) i=bif a.2.2.2.1==i then yaD (6+a.2.1.2)else dsk a i:=fun i i0=>yLu _ _ hm i0
 have hv:View V (spareNew a):=yM9 (a:=a) (b:=spareNew a) rfl (fun i s i0 i1 s0 hh=>by
  have hh:yM a.2.2.2.1 0 i s (dsk (spareNew a) i)=true:=hh;rw[e i i0]at hh ⊢;simp only[yM,Bool.and_eq_true,Bool.or_eq_true,bne_iff_ne,ne_eq,zjE]at hh;have hne:i≠a.2.2.2.1:=hh.2.resolve_right (by omega);rw[show(a.2.2.2.1==i)=false from beq_eq_false_iff_ne.2 (fun e=>hne e.symm),show(i !=a.2.2.2.1)=true from bne_iff_ne.2 hne]
  exact⟨rfl,yF8 _ _⟩) h.xv
 have hn: ∀i,0≤i→i<a.2.1.1→((dsk (spareNew a) i).2.1.length:Int)≤1+(bif i==a.2.2.2.1 then 0 else 0):=fun i i0 i1=>by
  rw[e i i0]
  by_cases hi:a.2.2.2.1=i
  ·rw[show(a.2.2.2.1==i)=true from beq_iff_eq.2 hi,cond_true,yu8 hg.2]
   show(([]:List dW).length:Int)≤_;rw[List.length_nil]
   cases(i==a.2.2.2.1)<;>decide
  ·rw[show(a.2.2.2.1==i)=false from beq_eq_false_iff_ne.2 hi,cond_false]
   have:=h.xn i i0 i1;rw[show(i==a.2.2.2.1)=false from beq_eq_false_iff_ne.2 (fun e=>hi e.symm)]at this ⊢;exact this
 have hmi:=zjA.1 hm;obtain⟨⟨c1,c2,c3,c4,c5,c6,c7,c8,c9,c10,c11⟩,⟨⟨g1,g2⟩,g3⟩,f,b,t,t2,t3,_,_⟩:=h;refine⟨⟨c1,c2,c3,c4,⟨Int.le_refl _,by show(0:Int)≤a.2.1.2; omega⟩,fun e=>rfl,c7,c8,c9,c10,c11⟩,⟨⟨yql g1 (fun hi=>⟨yMd (by omega) (by omega),?_,fun e=> ?_⟩),?_⟩,g3⟩,f,b,t,t2,t3,hv,hn⟩
 ·rw[yu8 hg.2]
  show((List.replicate (6+a.2.1.2).toNat ([]:List Int)).length:Int)=6+a.2.1.2;rw[List.length_replicate]; omega
 ·rw[yu8 hg.2]at e
  cases e
 ·show((a.2.2.1.set a.2.2.2.1.toNat (yaD (6+a.2.1.2))).length:Int)=a.2.1.1
  rw[List.length_set]; exact g2
theorem y4g (S:Int) (m:dM) (n:Int):yCG S m (spoil m n):=by
 unfold spoil
 cases(memOk m&&(inb n m.1.length&& !(m.2.2.2.any (· ==n))))
 ·exact yF8 _ _
 ·refine fun h=>⟨h,fun k k0 k1 hb=>⟨?_,rfl⟩⟩
  have hb:(ywA m.2.2.2 n).any (· ==k)=false:=hb;show m.2.2.2.any (· ==k)=false;rw[List.any_eq_false]at hb ⊢;intro x hx hxk;have hxk':=beq_iff_eq.1 hxk;refine hb x ?_ hxk;unfold ywA;rw[List.mem_append,List.mem_cons,List.mem_filter,List.mem_filter];rcases Int.lt_trichotomy x n with h1 | h1 | h1
  ·exact .inl ⟨hx,zj2 h1⟩
  ·exact .inr (.inl h1)
  ·exact .inr (.inr ⟨hx,zj2 h1⟩)
theorem y3p (m:dM) (n:Int):(spoil m n).2.1=m.2.1:=by
 unfold spoil
 cases(memOk m&&(inb n m.1.length&& !(m.2.2.2.any (· ==n))))<;>rfl
theorem y5f {k m n:Int} {V:Int→Int→Int} {a:dA} (h:Ix k V a) (hm:inb m a.2.2.1.length=true):Ix k V (setMem a m (spoil (nth a.2.2.1 m noMem) n)) :=
 yNi (a:=a) (b:=setMem a m (spoil (nth a.2.2.1 m noMem) n)) rfl (ysY h.xk hm (fun g=>⟨yTp n g.1,by rw[(yqG _ _).1]; exact g.2.1,by rw[(yqG _ _).2]; exact g.2.2⟩)) h.xu (fun i i0 i1=>by
  rw[yNg hm i0]
  by_cases hi:m=i
  ·subst hi
   rw[beq_self_eq_true,cond_true];exact⟨y4g _ _ _,by rw[y3p]; exact Nat.le_refl _⟩
  ·rw[show(m==i)=false from beq_eq_false_iff_ne.2 hi]
   exact⟨yF8 _ _,Nat.le_refl _⟩) h
theorem y5W {k:Int} {V:Int→Int→Int} {a:dA} (h:Ix k V a) (hl:inb a.2.2.2.1 a.2.2.1.length=true) (hf:(nth a.2.2.1 a.2.2.2.1 noMem).2.2.1=false) (hb:a.2.2.2.2.1<a.2.1.2) (hu:downA (stepOne a).2=false):Ix k V (stepOne a).2:=by
 have hmi:=zjA.1 hl;have hlen:=h.xk.1.2;have hg:=yg.1 h.xc.1;have c:=h.xc;unfold coreOk at c;have hb0:0≤a.2.2.2.2.1:=by omega
 have hda:=yjs hb0 (by omega);have e:=yhJ a a.2.2.2.1 (dataAt a.2.2.2.2.1) [nth (yA a a.2.2.2.2.1).1 a.2.2.2.1 0];have hkp:Keep (yaf a):=yyd h.xk hl;have hd:=yB8 (dataAt a.2.2.2.2.1) [nth (yA a a.2.2.2.2.1).1 a.2.2.2.1 0] h.xu hl;have e1:(yaf a).2.2.2.2.1=a.2.2.2.2.1:=yjr e;have e2:(yaf a).2.1=a.2.1:=yO e;have e3:(yaf a).2.2.2.1=a.2.2.2.1:=yqg e;unfold stepOne at hu ⊢
 cases hw:(yA a a.2.2.2.2.1).2
 ·exact h
 ·rw[hw]at hu
  have hwv:=yXn h.xc.1 h.xk h.xe h.xv hb0 hb
  have hw1:(yA a a.2.2.2.2.1).1=vlist V a.2.1.1 a.2.2.2.2.1:=by
   rw[hwv]at hw ⊢
   cases hm:yeL (fun(i:Nat)=>hasW a a.2.2.2.2.1 i) a.2.1.1.toNat
   ·rfl
   ·rw[hm]at hw; cases hw
  have hx:nth (yA a a.2.2.2.2.1).1 a.2.2.2.1 0=V a.2.2.2.2.1 a.2.2.2.1:=by rw[hw1]; exact y22 V (by omega) (by omega)
  rw[hx]at hd e;have hst:yaf a=yaZ a a.2.2.2.1 (dataAt a.2.2.2.2.1) [V a.2.2.2.2.1 a.2.2.2.1]:=by unfold yaf; rw[hx]
  have hcc:yl (yaf a)=yl a:=by rw[hst]; exact e
  rw[← hst]at hd;generalize yaf a=R at *;simp only[cond_true]at hu ⊢
  cases hr:downA R
  ·rw[hr]at hu
   obtain⟨_,_,⟨_,hdd⟩ | ⟨hdd,_⟩⟩:=hd
   ·obtain⟨d1,d2,d3⟩:=ycJ h.xk (i:=a.2.2.2.1) (by omega) (by omega)
    have hf':(dsk a a.2.2.2.1).2.2.1=false:=hf;have hxw:=h.xe.ew a.2.2.2.2.1 a.2.2.2.1 hb0 hb (by omega) (by omega);have hcn:=h.xn a.2.2.2.1 (by omega) (by omega);rw[beq_self_eq_true,cond_true]at hcn;have hcw:yaR (dsk a a.2.2.2.1) (a.2.2.2.2.1+6) [V a.2.2.2.2.1 a.2.2.2.1]=true:=ysR d1 hf' (zjA.2 (by omega)) (yzQ.2 ⟨by simp,fun x hx=>by rw[List.mem_singleton.1 hx]; exact yu7.1 hxw⟩) (by omega);have e4:IntKind.i64.wrap (R.2.2.2.2.1+1)=a.2.2.2.2.1+1:=by rw[e1]; exact wr (by omega) (by omega)
    have hRL:dsk R a.2.2.2.1=(yE (dsk a a.2.2.2.1) (a.2.2.2.2.1+6) [V a.2.2.2.2.1 a.2.2.2.1]).1:=by
     rw[hdd _ (by omega),beq_self_eq_true,cond_true,hda];unfold ydZ;rw[hf']; rfl
    have hRo: ∀i,0≤i→i≠a.2.2.2.1→dsk R i=dsk a i:=fun i i0 hi=>by rw[hdd i i0,show(a.2.2.2.1==i)=false from beq_eq_false_iff_ne.2 (fun e=>hi e.symm)]; rfl
    have hco:=yB6 hcc h.xc;refine⟨?_,hkp,hr,(yug hcc).trans h.xb,by show R.2.2.2.2.2.2.2.1≤k; rw[yuh hcc]; exact h.xg,by show R.2.2.2.2.2.1≤k; rw[yfQ hcc]; exact h.xs,by show EvV R.2.1 V; rw[e2]; exact h.xe,?_,?_⟩
    ·obtain⟨c1,c2,c3,c4,c5,c6,c7,c8,c9,c10,c11⟩:=hco
     refine⟨c1,c2,c3,c4,⟨?_,?_⟩,fun e=> ?_,c7,c8,c9,c10,c11⟩
     ·show 0≤IntKind.i64.wrap (R.2.2.2.2.1+1); omega
     ·show IntKind.i64.wrap (R.2.2.2.2.1+1)≤R.2.1.2; rw[e4,e2]; omega
     ·have:R.2.2.2.1= -1:=e
      omega
    ·intro i t i0 i1 t0 t1 hh
     have i1:i<R.2.1.1:=i1;have t1:t<R.2.1.2:=t1;rw[e2]at i1 t1;unfold hasW at hh;have hh:(yM R.2.2.2.1 (IntKind.i64.wrap (R.2.2.2.2.1+1)) i t (dsk R i)&& !(yaC (dsk R i) (t+6)))=true:=hh;show curS (dsk R i) (t+6)= [V t i];rw[e3,e4]at hh
     by_cases hi:i=a.2.2.2.1
     ·subst hi
      rw[hRL]at hh ⊢;rw[yqh hcw]
      by_cases ht:a.2.2.2.2.1+6=t+6
      ·rw[show(a.2.2.2.2.1+6==t+6)=true from beq_iff_eq.2 ht,show a.2.2.2.2.1=t by omega]; rfl
      ·rw[show(a.2.2.2.2.1+6==t+6)=false from beq_eq_false_iff_ne.2 ht,cond_false]
       refine h.xv _ t i0 i1 t0 t1 ?_;rw[yyW hcw,show(t+6 !=a.2.2.2.2.1+6)=true from bne_iff_ne.2 (fun e=>ht e.symm),Bool.and_true,Bool.and_eq_true]at hh;have h2:=hh.1;simp only[yM,Bool.and_eq_true,Bool.or_eq_true,bne_self_eq_false,Bool.false_eq_true,false_or,zjE]at h2;unfold hasW yM;rw[hf',hh.2,zj2 (show t<a.2.2.2.2.1 by omega),Bool.or_true]; rfl
     ·rw[hRo i i0 hi]at hh ⊢
      refine h.xv i t i0 i1 t0 t1 ?_;rw[Bool.and_eq_true]at hh;have h2:=hh.1;simp only[yM,Bool.and_eq_true]at h2;unfold hasW yM;rw[h2.1,hh.2,show(i !=a.2.2.2.1)=true from bne_iff_ne.2 hi]; rfl
    ·intro i i0 i1
     have i1:i<R.2.1.1:=i1;rw[e2]at i1;show((dsk R i).2.1.length:Int)≤1+(bif i==R.2.2.2.1 then IntKind.i64.wrap (R.2.2.2.2.1+1)else 0);rw[e3,e4]
     by_cases hi:i=a.2.2.2.1
     ·subst hi
      rw[hRL,yIU hcw,beq_self_eq_true,cond_true];show(((dsk a a.2.2.2.1).2.1++ [(a.2.2.2.2.1+6,[V a.2.2.2.2.1 a.2.2.2.1])]).length:Int)≤_;rw[List.length_append];simp only[List.length_cons,List.length_nil];omega
     ·rw[hRo i i0 hi,show(i==a.2.2.2.1)=false from beq_eq_false_iff_ne.2 hi]
      have:=h.xn i i0 i1;rw[show(i==a.2.2.2.1)=false from beq_eq_false_iff_ne.2 hi]at this;exact this
   ·rw[hr]at hdd; cases hdd
  ·rw[hr]at hu
   exact absurd (hr.symm.trans hu) (by simp)
theorem yPY {id i:Int} {g:dG} (hg:n_spec_GeoOk g=true): ∀n:Nat,n≤g.2.toNat→ ∀k:Int,0≤k→nth ((List.range n).foldl yrC (yjF id g i)).1 k []=bif leb 6 k&&ltb k (6+n)then[0]else bif k==0 then n_spec_PutSuper (y2K id g i)else[]:=by
 have hge:=yg.1 hg;intro n
 induction n with
 | zero =>
  intro _ k hk;show nth (yjF id g i).1 k []=_;unfold yjF;rw[yu8 hge.2];have h0:inb 0 (List.replicate (6+g.2).toNat ([]:List Int)).length=true:=by rw[List.length_replicate]; exact zjA.2 (by omega)
  have:=yDS (x:=n_spec_PutSuper (y2K id g i)) (d:=([]:List Int)) h0 hk;rw[show(0:Int).toNat=0 from rfl]at this;rw[this]
  have e1:(leb 6 k&&ltb k (6+((0:Nat):Int)))=false:=by
   cases h:(leb 6 k&&ltb k (6+((0:Nat):Int)))
   ·rfl
   ·rw[Bool.and_eq_true,zjB,zjE]at h; omega
  rw[e1,cond_false]
  by_cases h:k=0
  ·rw[show((0:Int)==k)=true from beq_iff_eq.2 h.symm,show(k==0)=true from beq_iff_eq.2 h]; rfl
  ·rw[show((0:Int)==k)=false from beq_eq_false_iff_ne.2 (fun e=>h e.symm),show(k==0)=false from beq_eq_false_iff_ne.2 h,cond_false,cond_false]
   unfold nth;rw[List.getD_eq_getElem?_getD,List.getElem?_replicate]
   split<;>rfl
 | succ n ih =>
  intro hn k hk;rw[List.range_succ,List.foldl_append,List.foldl_cons,List.foldl_nil]
  have hlen:((List.range n).foldl yrC (yjF id g i)).1.length=(6+g.2).toNat:=by
   rw[yPX];show((yaD (6+g.2)).1.set 0 _).length=_;rw[List.length_set,yu8 hge.2];show(List.replicate (6+g.2).toNat ([]:List Int)).length=_;rw[List.length_replicate]
  have h1:=ih (by omega) k hk;generalize (List.range n).foldl yrC (yjF id g i)=M at h1 hlen ⊢;show nth (M.1.set (n+6) [0]) k []=_;have:=yDS (l:=M.1) (i:=((n+6:Nat):Int)) (x:= [0]) (d:=([]:List Int)) (zkj (by omega)) hk;rw[Int.toNat_natCast]at this;rw[this,h1]
  by_cases h:((n+6:Nat):Int)=k
  ·rw[show(((n+6:Nat):Int)==k)=true from beq_iff_eq.2 h,zku (show 6≤k by omega),zj2 (show k<6+((n+1:Nat):Int)by omega)]; rfl
  ·rw[show(((n+6:Nat):Int)==k)=false from beq_eq_false_iff_ne.2 h,cond_false,show ltb k (6+((n+1:Nat):Int))=ltb k (6+(n:Int))by rw[Bool.eq_iff_iff,zjE,zjE]; omega]
theorem y2v (g:dG):EvV g (fun _ _=>0):=by
 refine⟨fun s _ _=> ?_,fun _ _ _ _ _ _=>rfl⟩;unfold vlist;rw[yqV]
 have: ∀l:List Nat,yfj (l.map (fun(_:Nat)=>(0:Int)))=0#64:=by
  intro l
  induction l with
  | nil=>rfl
  | cons x t ih=>rw[List.map_cons,yl7,ih]; decide
 rw[this]; rfl
theorem y4F {id:Int} {g:dG} (hg:n_spec_GeoOk g=true) (h1:1≤id) (h2:id≤60000) {i:Int} (i0:0≤i) (i1:i<g.1):dsk (yeg id g) i=yx id g i:=by
 rw[yFj hg h1 h2];show nth ((List.range g.1.toNat).map (fun(i:Nat)=>yx id g i)) i noMem=_;unfold nth;rw[zkb (by rw[List.length_map,List.length_range]; omega),List.getElem_map,List.getElem_range,Int.toNat_of_nonneg i0]
theorem y6g {id:Int} {g:dG} (hg:n_spec_GeoOk g=true) (h1:1≤id) (h2:id≤60000):Ix 0 (fun _ _=>0) (yeg id g):=by
 have hw:=y4S hg h1 h2;have hge:=yg.1 hg;have e:=yFj hg h1 h2;have eg:(yeg id g).2.1=g:=by rw[e]
 have ed: ∀i,0≤i→i<g.1→dsk (yeg id g) i=yx id g i:=fun i i0 i1=>y4F hg h1 h2 i0 i1
 refine⟨hw.1,hw.2.1,hw.2.2.1.1,hw.2.2.2.1,hw.2.2.2.2,by rw[e]; exact Int.le_refl _,y2v _,fun i s i0 i1 s0 s1 _=> ?_,fun i i0 i1=> ?_⟩
 ·rw[eg]at i1 s1
  rw[ed i i0 i1];obtain⟨_,_,n3⟩:=yrD id i hg;unfold curS;rw[n3];show nth (yx id g i).1 (s+6) []=_;unfold yx;rw[yPY hg g.2.toNat (Nat.le_refl _) (s+6) (by omega),zku (show 6≤s+6 by omega),zj2 (show s+6<6+(g.2.toNat:Int)by omega)]; rfl
 ·rw[eg]at i1
  rw[ed i i0 i1,(yrD id i hg).2.2,e];show((([]:List dW).length:Nat):Int)≤1+(bif i== -1 then 0 else 0);rw[List.length_nil]
  cases(i== -1)<;>decide
def yd2 (a:dA) (s:Int):Nat:=ypg (fun(i:Nat)=>hasW a s i) a.2.1.1.toNat
theorem y2z {k:Int} {V:Int→Int→Int} {a:dA} {s:Int} (h:Ix k V a) (s0:0≤s) (s1:s<a.2.1.2):yA a s=bif decide (yd2 a s<2)then(vlist V a.2.1.1 s,true)else([],false):=by
 rw[yXn h.xc.1 h.xk h.xe h.xv s0 s1,(yVr _ _).2];show(bif decide (2≤yd2 a s)then([],false)else(vlist V a.2.1.1 s,true))=_
 by_cases h2:yd2 a s<2
 ·rw[decide_eq_true h2,decide_eq_false (by omega)]; rfl
 ·rw[decide_eq_false h2,decide_eq_true (by omega)]; rfl
def yXG (V:Int→Int→Int) (g:dG) (s:Int):List Int:=(List.range (g.1-1).toNat).map (fun(i:Nat)=>nth (vlist V g.1 s) (ybi g s i) 0)
theorem y5g {k:Int} {V:Int→Int→Int} {a:dA} {s:Int} (h:Ix k V a) (s0:0≤s) (s1:s<a.2.1.2):strOk a.2.1 s=true:=yG.2 ⟨h.xc.1,s0,by omega⟩
theorem y33 {k:Int} {V:Int→Int→Int} {a:dA} {s:Int} (h:Ix k V a) (s0:0≤s) (s1:s<a.2.1.2):ydp a s=bif decide (yd2 a s<2)then(yXG V a.2.1 s,true)else([],false):=by
 unfold ydp ytM;rw[y2y h,h.xb,y5g h s0 s1,y2z h s0 s1]
 cases decide (yd2 a s<2)<;>rfl
def supC (id:Int) (g:dG) (G T L B i:Int):dS:=(id,G,i,g.1,g.2,T,L,B)
def SupV (id n:Int) (v:List Int) (s:dS):Prop:=yey v=(s,true)∧s.1=id∧s.2.1.tmod 2=n
def OwnD (id:Int) (f:Int→List Int):Prop:= ∃n s,(n=0∨n=1)∧SupV id n (f n) s
structure Wsup (id:Int) (g:dG) (G T L B Lf Bf:Int) (f:Int→Int→List Int) (fl:Int→Bool):Prop where
 u0: ∀i,0≤i→i<g.1→n_spec_SuperOk (supC id g G T L B i)=true
 u1: ∀i n s,0≤i→i<g.1→fl i=false→(n=0∨n=1)→SupV id n (f i n) s→s.2.2.1=i∧(s.2.1<G∨s=supC id g G T L B i)
 u2: ∀i,0≤i→i<g.1→i≠Lf→fl i=false∧OwnD id (f i)
 u3: ∃i,0≤i∧i<g.1∧fl i=false∧f i (G.tmod 2)=n_spec_PutSuper (supC id g G T L B i)
 u4:(Lf=L∧Bf=B∧(Lf= -1∨(fl Lf=false∧OwnD id (f Lf))))∨(0≤Lf∧Lf<g.1∧ ¬(fl Lf=false∧OwnD id (f Lf))∧(L= -1∨L=Lf)∧Bf=0)
structure Wdat (g:dG) (T Q:Int) (R:Int→Int×List Int) (V:Int→Int→Int) (Lf Bf:Int) (f:Int→Int→List Int) (fl:Int→Bool) (bd:Int→Int→Bool):Prop where
 e:EvV g V
 q:0≤T∧T≤Q∧Q≤T+4∧Q≤60000
 d: ∀i s,0≤i→i<g.1→0≤s→s<g.2→fl i=false→(i≠Lf∨s<Bf)→bd i (s+6)=false→(∀q,T≤q→q<Q→(R q).1≠s)→f i (s+6)= [V s i]
 r: ∀q,T≤q→q<Q→ ∃i,0≤i∧i<g.1∧fl i=false∧f i (n_spec_SlotOf q)=putRec (q,R q)
 h: ∀i n r,0≤i→i<g.1→fl i=false→2≤n→n<6→getRec (f i n)=(r,true)→r.1<Q∧(T≤r.1→r.2=R r.1)
 v: ∀q,T≤q→q<Q→strOk g (R q).1=true∧((R q).2.length:Int)=g.1-1∧(R q).2.all isW=true
 l: ∀q,T≤q→q<Q→(∀p,q<p→p<Q→(R p).1≠(R q).1)→ ∀i,0≤i→i<g.1→V (R q).1 i=dataW (parityOf g (R q).1) g.1 (xorOf (R q).2) (R q).2 i
 b: ∀i n,0≤i→i<g.1→fl i=false→bd i n=true→6≤n
theorem yyB {id:Int} {g:dG} {G T L B i:Int} (h:n_spec_SuperOk (supC id g G T L B i)=true):SupV id (G.tmod 2) (n_spec_PutSuper (supC id g G T L B i)) (supC id g G T L B i):=⟨yJX h,rfl,rfl⟩
theorem yXj {G:Int} (h:0≤G):G.tmod 2=0∨G.tmod 2=1:=by have:=yIP h; omega
theorem yfh {id:Int} {g:dG} {G T L B i:Int} (h:n_spec_SuperOk (supC id g G T L B i)=true):(0≤G∧G≤60000)∧n_spec_GeoOk g=true∧(1≤id∧id≤60000)∧(0≤T∧T≤60000)∧(-1≤L∧L≤g.1-1)∧(0≤B∧B≤g.2)∧(0≤L∨B=0):=by
 obtain⟨h1,h2,h3,h4,h5,h6,h7,h8⟩:=yyM.1 h;exact⟨h3,h1,h2,h5,h6,h7,h8⟩
theorem y2Z {id:Int} {g:dG} {G T L B i:Int} (h1:0≤G∧G≤60000) (h2:n_spec_GeoOk g=true) (h3:1≤id∧id≤60000) (h4:0≤T∧T≤60000) (h5: -1≤L∧L≤g.1-1) (h6:0≤B∧B≤g.2) (h7:0≤L∨B=0) (i0:0≤i) (i1:i<g.1):n_spec_SuperOk (supC id g G T L B i)=true :=
 yyM.2 ⟨h2,h3,h1,⟨i0,by show i≤g.1-1; omega⟩,h4,h5,h6,h7⟩
theorem yGq {r:dN} (h:yC r=true):getRec (putRec r)=(r,true):=by
 have hr:=yu9.1 h;have ha:yIK (putRec r)=r:=by unfold putRec; rw[h]; rfl
 unfold getRec;rw[ha,h];unfold putRec;rw[h];show(bif leb 4 ((21322::r.1::r.2.1::(r.2.2.length:Int)::r.2.2).length:Int)&&((21322:Int)==21322&&((r.2.2.length:Int)==((21322::r.1::r.2.1::(r.2.2.length:Int)::r.2.2).length:Int)-4&&true))then(r,true)else(yNk,false))=(r,true);have e:((21322::r.1::r.2.1::(r.2.2.length:Int)::r.2.2).length:Int)=r.2.2.length+4:=by simp only[List.length_cons]; omega
 rw[e,zku (show(4:Int)≤r.2.2.length+4 by omega),show((r.2.2.length:Int)==(r.2.2.length:Int)+4-4)=true from beq_iff_eq.2 (by omega)]; rfl
theorem yM3 {g:dG} {q s:Int} {d:List Int} (h0:0≤q) (h1:q≤60000) (hs:strOk g s=true) (hl:(d.length:Int)=g.1-1) (hd:d.all isW=true):yC (q,s,d)=true:=by
 have h:=yG.1 hs;have hg:=yg.1 h.1;exact yu9.2 ⟨⟨h0,h1⟩,⟨h.2.1,by show s≤7; omega⟩,⟨by show 2≤(d.length:Int); omega,by show(d.length:Int)≤4; omega⟩,hd⟩
theorem ygD {id:Int} {g:dG} {G T L B Lf Bf:Int} {f f':Int→Int→List Int} {fl:Int→Bool} (h:Wsup id g G T L B Lf Bf f fl) (hf: ∀i n,0≤i→i<g.1→fl i=false→(n=0∨n=1)→f' i n=f i n):Wsup id g G T L B Lf Bf f' fl:=by
 have ow: ∀i,0≤i→i<g.1→fl i=false→(OwnD id (f' i)↔OwnD id (f i)):=fun i i0 i1 hi =>
  ⟨fun⟨n,s,hn,hs⟩=>⟨n,s,hn,by rw[hf i n i0 i1 hi hn]at hs; exact hs⟩,fun⟨n,s,hn,hs⟩=>⟨n,s,hn,by rw[hf i n i0 i1 hi hn]; exact hs⟩⟩
 refine⟨h.u0,fun i n s i0 i1 hi hn hs=>h.u1 i n s i0 i1 hi hn (by rw[hf i n i0 i1 hi hn]at hs; exact hs),fun i i0 i1 hne=> ?_,?_,?_⟩
 ·obtain⟨h1,h2⟩:=h.u2 i i0 i1 hne
  exact⟨h1,(ow i i0 i1 h1).2 h2⟩
 ·obtain⟨i,i0,i1,hi,h2⟩:=h.u3
  exact⟨i,i0,i1,hi,by rw[hf i _ i0 i1 hi (yXj (yfh (h.u0 i i0 i1)).1.1)]; exact h2⟩
 ·rcases h.u4 with⟨h1,h2,h3⟩ | ⟨h1,h2,h3,h4⟩
  ·refine .inl ⟨h1,h2,?_⟩
   rcases h3 with h3 | ⟨h3,h4⟩
   ·exact .inl h3
   ·obtain⟨i,i0,i1,_⟩:=h.u3
    have:=(yfh (h.u0 i i0 i1)).2.2.2.2.1
    by_cases hm:Lf= -1
    ·exact .inl hm
    ·exact .inr ⟨h3,(ow Lf (by omega) (by omega) h3).2 h4⟩
  ·exact .inr ⟨h1,h2,fun⟨h5,h6⟩=>h3 ⟨h5,(ow Lf h1 h2 h5).1 h6⟩,h4⟩
theorem yZQ {g:dG} {T Q:Int} {R:Int→Int×List Int} {V:Int→Int→Int} {Lf Bf B2:Int} {f:Int→Int→List Int} {fl:Int→Bool} {bd:Int→Int→Bool} (h:Wdat g T Q R V Lf Bf f fl bd) (hb:B2≤Bf):Wdat g T Q R V Lf B2 f fl bd :=
 ⟨h.e,h.q,fun i s i0 i1 s0 s1 hi hl hb2 hj=>h.d i s i0 i1 s0 s1 hi (hl.imp id (fun h=>by omega)) hb2 hj,h.r,h.h,h.v,h.l,h.b⟩
theorem ygC {g:dG} {T Q:Int} {R:Int→Int×List Int} {V:Int→Int→Int} {Lf Bf:Int} {f f':Int→Int→List Int} {fl:Int→Bool} {bd bd':Int→Int→Bool} (h:Wdat g T Q R V Lf Bf f fl bd)
  (hf: ∀i n,0≤i→i<g.1→fl i=false→2≤n→(f' i n=f i n∧bd' i n=bd i n)∨(∃q,T≤q∧q<Q∧n=(R q).1+6)∨(i=Lf∧Bf+6≤n∧6≤n)) (hb: ∀i n,0≤i→i<g.1→bd' i n=true→bd i n=true):Wdat g T Q R V Lf Bf f' fl bd':=by
 have sl: ∀i n,0≤i→i<g.1→fl i=false→2≤n→n<6→f' i n=f i n:=fun i n i0 i1 hi h2 h6=>by
  rcases hf i n i0 i1 hi h2 with h1 | ⟨q,q0,q1,e⟩ | h1
  ·exact h1.1
  ·have:=yG.1 (h.v q q0 q1).1; omega
  ·omega
 have hq:=h.q;refine⟨h.e,h.q,fun i s i0 i1 s0 s1 hi hl hb2 hj=> ?_,fun q q0 q1=> ?_,fun i n r i0 i1 hi h2 h6 hr=>h.h i n r i0 i1 hi h2 h6 (by rw[sl i n i0 i1 hi h2 h6]at hr; exact hr),h.v,h.l,fun i n i0 i1 hi hn=>h.b i n i0 i1 hi (hb i n i0 i1 hn)⟩
 ·rcases hf i (s+6) i0 i1 hi (by omega)with⟨h1,h2⟩ | ⟨q,q0,q1,e⟩ | h1
  ·rw[h1]; rw[h2]at hb2; exact h.d i s i0 i1 s0 s1 hi hl hb2 hj
  ·exact absurd (by omega) (hj q q0 q1)
  ·omega
 ·obtain⟨i,i0,i1,hi,e⟩:=h.r q q0 q1
  have:=ylY (q:=q) (by omega);exact⟨i,i0,i1,hi,by rw[sl i _ i0 i1 hi this.1 this.2.1]; exact e⟩
theorem y5A {g:dG} {T Q:Int} {R:Int→Int×List Int} {V:Int→Int→Int} {Lf Bf q:Int} {f f':Int→Int→List Int} {fl:Int→Bool} {bd bd':Int→Int→Bool} (h:Wdat g T Q R V Lf Bf f fl bd) (q0:T≤q) (q1:q<Q)
  (hf: ∀i n,0≤i→i<g.1→fl i=false→2≤n→f' i n=f i n∨(n=n_spec_SlotOf q∧f' i n=putRec (q,R q))) (hb: ∀i n,0≤i→i<g.1→6≤n→bd' i n=bd i n) (hb2: ∀i n,0≤i→i<g.1→bd' i n=true→bd i n=true):Wdat g T Q R V Lf Bf f' fl bd':=by
 have hq:=h.q;have hv:=h.v q q0 q1;have ho:=yM3 (q:=q) (by omega) (by omega) hv.1 hv.2.1 hv.2.2;have hsl:=ylY (q:=q) (by omega);refine⟨h.e,h.q,fun i s i0 i1 s0 s1 hi hl hb3 hj=> ?_,fun p p0 p1=> ?_,fun i n r i0 i1 hi h2 h6 hr=> ?_,h.v,h.l,fun i n i0 i1 hi hn=>h.b i n i0 i1 hi (hb2 i n i0 i1 hn)⟩
 ·rcases hf i (s+6) i0 i1 hi (by omega)with h1 | ⟨h1,_⟩
  ·rw[h1]; rw[hb i (s+6) i0 i1 (by omega)]at hb3; exact h.d i s i0 i1 s0 s1 hi hl hb3 hj
  ·omega
 ·obtain⟨i,i0,i1,hi,e⟩:=h.r p p0 p1
  have hsp:=ylY (q:=p) (by omega);refine⟨i,i0,i1,hi,?_⟩;rcases hf i _ i0 i1 hi hsp.1 with h1 | ⟨h1,h2⟩
  ·rw[h1]; exact e
  ·have:p=q:=by omega
   subst this; exact h2
 ·rcases hf i n i0 i1 hi h2 with h1 | ⟨_,h1⟩
  ·rw[h1]at hr; exact h.h i n r i0 i1 hi h2 h6 hr
  ·rw[h1,yGq ho]at hr
   have:=congrArg (fun x=>x.1) hr;simp only at this;subst this;exact⟨q1,fun _=>rfl⟩
def yZN (R:Int→Int×List Int) (Q s:Int) (d:List Int):Int→Int×List Int:=fun q=>bif q==Q then(s,d)else R q
theorem yyy (R:Int→Int×List Int) (Q s:Int) (d:List Int):yZN R Q s d Q=(s,d):=by unfold yZN; rw[beq_self_eq_true]; rfl
theorem yva {R:Int→Int×List Int} {Q s q:Int} {d:List Int} (h:q<Q):yZN R Q s d q=R q:=by unfold yZN; rw[show(q==Q)=false from beq_eq_false_iff_ne.2 (by omega)]; rfl
theorem y0p {g:dG} {T Q:Int} {R:Int→Int×List Int} {V:Int→Int→Int} {Lf Bf s:Int} {d:List Int} {f f':Int→Int→List Int} {fl:Int→Bool} {bd bd':Int→Int→Bool} (h:Wdat g T Q R V Lf Bf f fl bd) (h3:Q≤T+3) (hQ:Q<60000) (hs:strOk g s=true) (hl:(d.length:Int)=g.1-1) (hd:d.all isW=true)
  (hf: ∀i n,0≤i→i<g.1→fl i=false→2≤n→f' i n=f i n∨(n=n_spec_SlotOf Q∧f' i n=putRec (Q,s,d))) (hb: ∀i n,0≤i→i<g.1→6≤n→bd' i n=bd i n) (hb2: ∀i n,0≤i→i<g.1→bd' i n=true→bd i n=true)
  (hx: ∃i,0≤i∧i<g.1∧fl i=false∧f' i (n_spec_SlotOf Q)=putRec (Q,s,d)):Wdat g T (Q+1) (yZN R Q s d) (ym2 V g s d) Lf Bf f' fl bd':=by
 have hq:=h.q;have ho:=yM3 (q:=Q) (by omega) (by omega) hs hl hd;have hsl:=ylY (q:=Q) (by omega);refine⟨y3w h.e hs hl hd,by omega,fun i t i0 i1 s0 s1 hi hlv hb3 hj=> ?_,fun p p0 p1=> ?_,fun i n r i0 i1 hi h2 h6 hr=> ?_,fun p p0 p1=> ?_,fun p p0 p1 hp i i0 i1=> ?_,fun i n i0 i1 hi hn=>h.b i n i0 i1 hi (hb2 i n i0 i1 hn)⟩
 ·have hts:t≠s:=fun e=>hj Q (by omega) (by omega) (by rw[yyy]; exact e.symm)
  unfold ym2;rw[show(t==s)=false from beq_eq_false_iff_ne.2 hts,cond_false];rcases hf i (t+6) i0 i1 hi (by omega)with h1 | ⟨h1,_⟩
  ·rw[h1]; rw[hb i (t+6) i0 i1 (by omega)]at hb3
   exact h.d i t i0 i1 s0 s1 hi hlv hb3 (fun q q0 q1=>by have:=hj q q0 (by omega); rwa[yva q1]at this)
  ·omega
 ·by_cases hpq:p=Q
  ·subst hpq; rw[yyy]; exact hx
  ·obtain⟨i,i0,i1,hi,e⟩:=h.r p p0 (by omega)
   have hsp:=ylY (q:=p) (by omega);refine⟨i,i0,i1,hi,?_⟩;rw[yva (show p<Q by omega)];rcases hf i _ i0 i1 hi hsp.1 with h1 | ⟨h1,h2⟩
   ·rw[h1]; exact e
   ·omega
 ·rcases hf i n i0 i1 hi h2 with h1 | ⟨_,h1⟩
  ·rw[h1]at hr
   obtain⟨g1,g2⟩:=h.h i n r i0 i1 hi h2 h6 hr;exact⟨by omega,fun ht=>by rw[yva g1]; exact g2 ht⟩
  ·rw[h1,yGq ho]at hr
   have:=congrArg (fun x=>x.1) hr;simp only at this;subst this;exact⟨by show Q<Q+1; omega,fun _=>(yyy R Q s d).symm⟩
 ·by_cases hpq:p=Q
  ·subst hpq; rw[yyy]; exact⟨hs,hl,hd⟩
  ·rw[yva (show p<Q by omega)]; exact h.v p p0 (by omega)
 ·by_cases hpq:p=Q
  ·subst hpq; rw[yyy]; unfold ym2; rw[beq_self_eq_true]; rfl
  ·have hne:s≠(R p).1:=fun e=>hp Q (by omega) (by omega) (by rw[yyy,yva (show p<Q by omega)]; exact e)
   rw[yva (show p<Q by omega)];unfold ym2;rw[show((R p).1==s)=false from beq_eq_false_iff_ne.2 (fun e=>hne e.symm),cond_false];exact h.l p p0 (by omega) (fun p2 h1 h2=>by have:=hp p2 h1 (by omega); rwa[yva (show p2<Q by omega),yva (show p<Q by omega)]at this) i i0 i1
theorem y6s {id:Int} {g:dG} {G T L B Lf Bf T2 L2 B2 Lf2:Int} {f f':Int→Int→List Int} {fl:Int→Bool} (hs:Wsup id g G T L B Lf Bf f fl) (ho: ∀i,0≤i→i<g.1→n_spec_SuperOk (supC id g (G+1) T2 L2 B2 i)=true)
  (hf: ∀i n,0≤i→i<g.1→fl i=false→f' i n=f i n∨(n=(G+1).tmod 2∧f' i n=n_spec_PutSuper (supC id g (G+1) T2 L2 B2 i)))
  (h2: ∀i,0≤i→i<g.1→i≠Lf2→fl i=false∧OwnD id (f i)) (h4:Lf2=L2∨(L2= -1∧0≤Lf2∧Lf2<g.1∧fl Lf2=true)) (hB:0≤B2) :
  Wsup id g G T L B Lf Bf f' fl∨ ∃Bg,Bg≤B2∧Wsup id g (G+1) T2 L2 B2 Lf2 Bg f' fl:=by
 obtain⟨j,j0,j1,jf,_⟩:=hs.u3;have hG:=yfh (hs.u0 j j0 j1);have hL2:=yfh (ho j j0 j1);have hsl:=yXj (G:=G+1) (by omega);have hmod:(G+1).tmod 2≠G.tmod 2:=by rw[Int.tmod_eq_emod_of_nonneg (by omega),Int.tmod_eq_emod_of_nonneg (by omega)]; omega
 by_cases hx: ∃i,0≤i∧i<g.1∧fl i=false∧f' i ((G+1).tmod 2)=n_spec_PutSuper (supC id g (G+1) T2 L2 B2 i)
 ·right
  have ow: ∀i,0≤i→i<g.1→fl i=false→OwnD id (f i)→OwnD id (f' i):=fun i i0 i1 hi ⟨n,s,hn,hsv⟩=>by
   rcases hf i n i0 i1 hi with h | ⟨h,h1⟩
   ·exact⟨n,s,hn,by rw[h]; exact hsv⟩
   ·exact⟨n,_,hn,by rw[h1,h]; exact yyB (ho i i0 i1)⟩
  have a1: ∀i n s,0≤i→i<g.1→fl i=false→(n=0∨n=1)→SupV id n (f' i n) s→s.2.2.1=i∧(s.2.1<G+1∨s=supC id g (G+1) T2 L2 B2 i):=fun i n s i0 i1 hi hn hsv=>by
   rcases hf i n i0 i1 hi with h | ⟨h,h1⟩
   ·rw[h]at hsv
    obtain⟨g1,g2⟩:=hs.u1 i n s i0 i1 hi hn hsv;refine⟨g1,.inl ?_⟩;rcases g2 with g2 | g2
    ·omega
    ·rw[g2]; show G<G+1; omega
   ·rw[h1]at hsv
    have:=(yyB (ho i i0 i1)).1.symm.trans hsv.1;have:=congrArg (fun x=>x.1) this;simp only at this;subst this;exact⟨rfl,.inr rfl⟩
  have a2: ∀i,0≤i→i<g.1→i≠Lf2→fl i=false∧OwnD id (f' i):=fun i i0 i1 hne=>by
   obtain⟨k1,k2⟩:=h2 i i0 i1 hne;exact⟨k1,ow i i0 i1 k1 k2⟩
  rcases h4 with h4 | ⟨h4,h5,h6,h7⟩
  ·by_cases hm:Lf2= -1
   ·exact⟨B2,Int.le_refl _,ho,a1,a2,hx,.inl ⟨h4,rfl,.inl hm⟩⟩
   ·by_cases hown:fl Lf2=false∧OwnD id (f' Lf2)
    ·exact⟨B2,Int.le_refl _,ho,a1,a2,hx,.inl ⟨h4,rfl,.inr hown⟩⟩
    ·exact⟨0,hB,ho,a1,a2,hx,.inr ⟨by omega,by omega,hown,.inr h4.symm,rfl⟩⟩
  ·exact⟨0,hB,ho,a1,a2,hx,.inr ⟨h5,h6,(fun h=>by have:=h.1; rw[h7]at this; cases this),.inl h4,rfl⟩⟩
 ·left
  refine ygD hs (fun i n i0 i1 hi hn=> ?_);rcases hf i n i0 i1 hi with h | ⟨h,h1⟩
  ·exact h
  ·exact absurd ⟨i,i0,i1,hi,by rw[← h]; exact h1⟩ hx
def flA (a:dA) (i:Int):Bool:=(dsk a i).2.2.1
def bdA (a:dA) (i n:Int):Bool:=yaC (dsk a i) n
def Ch (a:dA) (f:Int→Int→List Int):Prop:= ∀i n,0≤i→i<a.2.1.1→0≤n→yqa (dsk a i) n (f i n)
def TrD (n:Int) (v:List Int) (m x:dM):Prop:=(∀k w,0≤k→yqa x k w→yqa m k w∨(k=n∧w=v))∧x.2.2.1=m.2.2.1∧(∀k,k≠n→yaC x k=yaC m k)∧ ∀k,yaC x k=true→yaC m k=true
theorem yyC (n:Int) (v:List Int) (m:dM):TrD n v m m:=⟨fun _ _ _ h=> .inl h,rfl,fun _ _=>rfl,fun _ h=>h⟩
theorem y4N {n:Int} {v:List Int} {m x y:dM} (h:TrD n v m x) (g:TrD n v x y):TrD n v m y :=
 ⟨fun k w k0 hw=>(g.1 k w k0 hw).elim (h.1 k w k0) .inr,g.2.1.trans h.2.1,fun k hk=>(g.2.2.1 k hk).trans (h.2.2.1 k hk),fun k hk=>h.2.2.2 k (g.2.2.2 k hk)⟩
theorem y0l (n:Int) (v:List Int) (m:dM):TrD n v m (yE m n v).1:=by
 refine⟨fun k w _ hw=>y4d hw,(yz5 m n v).2,fun k hk=> ?_,fun k hk=> ?_⟩
 ·cases hc:yaR m n v
  ·unfold yE; rw[hc]; rfl
  ·rw[yyW hc,show(k !=n)=true from bne_iff_ne.2 hk,Bool.and_true]
 ·cases hc:yaR m n v
  ·unfold yE at hk; rw[hc]at hk; exact hk
  ·rw[yyW hc,Bool.and_eq_true]at hk; exact hk.1
theorem y3O (n:Int) (v:List Int) (m:dM):TrD n v m (ydZ n v m):=by
 unfold ydZ
 cases m.2.2.1
 ·exact y0l n v m
 ·exact yyC n v m
theorem y0k (n:Int) (v:List Int) {m:dM} (h:memOk m=true):TrD n v m (ym m):=by
 refine⟨fun k w k0 hw=> .inl ?_,(yu4 m).2,fun k _=>yLy m k,fun k hk=>by rw[yLy]at hk; exact hk⟩
 cases hf:m.2.2.1
 ·rw[ywr h hf k0 hw]; exact yya m k
 ·unfold ym at hw; rw[hf,Bool.not_true,Bool.and_false]at hw; exact hw
structure Trn (n:Int) (v:Int→List Int) (a r:dA):Prop where
 g:r.2.1=a.2.1
 c: ∀f',Ch r f'→ ∃f,Ch a f∧ ∀i m,0≤i→i<a.2.1.1→0≤m→f' i m=f i m∨(m=n∧f' i m=v i)
 f: ∀i,0≤i→i<a.2.1.1→flA r i=flA a i
 b: ∀i m,0≤i→i<a.2.1.1→m≠n→bdA r i m=bdA a i m
 d: ∀i m,0≤i→i<a.2.1.1→bdA r i m=true→bdA a i m=true
theorem y4O {n:Int} {v:Int→List Int} {a r:dA} (hg:r.2.1=a.2.1) (h: ∀i,0≤i→i<a.2.1.1→TrD n (v i) (dsk a i) (dsk r i)):Trn n v a r:=by
 refine⟨hg,fun f' hf'=> ?_,fun i i0 i1=>(h i i0 i1).2.1,fun i m i0 i1 hm=>(h i i0 i1).2.2.1 m hm,fun i m i0 i1 hm=>(h i i0 i1).2.2.2 m hm⟩
 classical
 refine⟨fun i m=>if yqa (dsk a i) m (f' i m)then f' i m else curS (dsk a i) m,fun i m i0 i1 m0=> ?_,fun i m i0 i1 m0=> ?_⟩
 ·show yqa (dsk a i) m (if yqa (dsk a i) m (f' i m)then f' i m else curS (dsk a i) m)
  split
  ·assumption
  ·exact yya _ _
 ·show f' i m=(if yqa (dsk a i) m (f' i m)then f' i m else curS (dsk a i) m)∨_
  rcases(h i i0 i1).1 m (f' i m) m0 (hf' i m i0 (by rw[hg]; exact i1) m0)with h1 | h1
  ·left; rw[if_pos h1]
  ·exact .inr h1
def AllOk (a:dA):Prop:=(a.2.2.1.length:Int)=a.2.1.1∧ ∀i,0≤i→i<a.2.1.1→memOk (dsk a i)=true
theorem ybm {a:dA} (h:Keep a):AllOk a:=⟨h.1.2,fun _ i0 i1=>(ycJ h i0 i1).1⟩
theorem yTs {n:Int} {v:Int→List Int} {a M:dA} (hg:M.2.1=a.2.1) (hl:M.2.2.1.length=a.2.2.1.length) (ha:AllOk a) (h: ∀i,0≤i→i<a.2.1.1→dsk M i=dsk a i∨dsk M i=ydZ n (v i) (dsk a i)):Trn n v a (yb M):=by
 refine y4O ((yO (yag M)).trans hg) fun i i0 i1=> ?_
 have hM:TrD n (v i) (dsk a i) (dsk M i)∧memOk (dsk M i)=true:=by
  rcases h i i0 i1 with e | e
  ·rw[e]; exact⟨yyC _ _ _,ha.2 i i0 i1⟩
  ·rw[e]; exact⟨y3O _ _ _,yrw (ha.2 i i0 i1)⟩
 cases hd:downA M
 ·obtain⟨_,_,k,_,h3,_⟩:=yTq hd
  rw[h3 i i0]
  cases ltb i k
  ·exact hM.1
  ·exact y4N hM.1 (y0k _ _ hM.2)
 ·rw[yvd hd]; exact hM.1
theorem yIR {a:dA} (n:Int) (v:Int→List Int) (h:AllOk a):Trn n v a (yb a):=yTs rfl rfl h (fun _ _ _=> .inl rfl)
theorem yUc {g:Int→dM→dM} {a r:dA} {n:Nat} (h:Adv g a r n) {i:Int} (i0:0≤i):dsk r i=dsk a i∨dsk r i=g i (dsk a i):=by
 obtain⟨_,_,k,_,h3,_⟩:=h;rw[h3 i i0]
 cases ltb i k
 ·exact .inl rfl
 ·exact .inr rfl
theorem yIQ {a:dA} (h:AllOk a):Trn ((IntKind.i64.wrap (a.2.2.2.2.2.2.2.1+1)).tmod 2) (fun i=>n_spec_PutSuper (supC a.1 a.2.1 (IntKind.i64.wrap (a.2.2.2.2.2.2.2.1+1)) a.2.2.2.2.2.2.1 a.2.2.2.1 a.2.2.2.2.1 i)) a (markA a):=by
 unfold markA;have hc:=yqi (one:=yH) (fun _ _=>yhJ _ _ _ _) (List.range a.2.2.1.length) (yW a);have hl:((List.range a.2.2.1.length).foldl yH (yW a)).2.2.1.length=a.2.2.1.length:=yjP (one:=yH) (fun _ _=>yrJ _ _ _ _) _ (yW a);refine yTs (yO (b:=yW a) hc) hl h fun i i0 i1=> ?_
 cases hd:downA a
 ·exact yUc (a:=yW a) (y2H (a:=yW a) hd) i0
 ·rw[yl2 (one:=yH) (fun _ _ h=>yqD h _ _ _) _ (yW a) hd]; exact .inl rfl
theorem yNo {a:dA} (r:dN) (h:AllOk a):Trn (n_spec_SlotOf r.1) (fun _=>putRec r) a (yj a r):=by
 unfold yj;have hc:=yqi (one:=yaF r) (fun _ _=>yhJ _ _ _ _) (List.range a.2.2.1.length) a;refine yTs (yO hc) (yjP (ymT r) _ _) h fun i i0 i1=> ?_
 cases hd:downA a
 ·exact yUc (y3J r hd) i0
 ·rw[yl2 (one:=yaF r) (fun _ _ h=>yqD h _ _ _) _ a hd]; exact .inl rfl
theorem yTr {a:dA} (s:Int) (d:List Int) (h:AllOk a):Trn (dataAt s) (fun i=> [dataW (parityOf a.2.1 s) a.2.1.1 (xorOf d) d i]) a (yp a s d):=by
 refine y4O (yO (ydU a s d)) fun i i0 i1=> ?_
 cases hd:downA a
 ·rcases yUc (yQx s d hd) i0 with e | e
  ·rw[e]; exact yyC _ _ _
  ·rw[e]
   unfold yjt
   cases yM a.2.2.2.1 a.2.2.2.2.1 i s (dsk a i)
   ·exact yyC _ _ _
   ·exact y0l _ _ _
 ·have:yp a s d=a:=yl2 (one:=yaH (parityOf a.2.1 s) a.2.1.1 s d) (fun _ _ h=>yDe _ _ _ _ _ h) _ a hd
  rw[this]; exact yyC _ _ _
def Al (L N:Int) (fl0 fl:Int→Bool) (Lf:Int):Prop:=(Lf=L∧ ∀i,0≤i→i<N→fl i=fl0 i)∨(0≤Lf∧Lf<N∧(L= -1∨L=Lf)∧ ∀i,0≤i→i<N→fl i=(fl0 i||i==Lf))
def Eq0 (a:dA) (fl:Int→Bool) (Lf:Int):Prop:=Lf=a.2.2.2.1∧ ∀i,0≤i→i<a.2.1.1→fl i=flA a i
theorem yCK {L N Lf i:Int} {fl0 fl:Int→Bool} (h:Al L N fl0 fl Lf) (i0:0≤i) (i1:i<N) (hi:fl i=false):fl0 i=false:=by
 rcases h with⟨_,h⟩ | ⟨_,_,_,h⟩
 ·rw[← h i i0 i1]; exact hi
 ·rw[h i i0 i1,Bool.or_eq_false_iff]at hi; exact hi.1
theorem y5I {L N Lf i:Int} {fl0 fl:Int→Bool} (h:Al L N fl0 fl Lf) (hb: ∀i,0≤i→i<N→fl0 i=true→i=L) (i0:0≤i) (i1:i<N) (hi:i≠Lf):fl i=false:=by
 cases hf:fl0 i
 ·rcases h with⟨_,h⟩ | ⟨_,_,_,h⟩
  ·rw[h i i0 i1]; exact hf
  ·rw[h i i0 i1,hf,show(i==Lf)=false from beq_eq_false_iff_ne.2 hi]; rfl
 ·have:=hb i i0 i1 hf
  rcases h with⟨h,_⟩ | ⟨_,_,h,_⟩<;>omega
theorem yyL {L N Lf:Int} {fl0 fl1 fl:Int→Bool} (h:Al L N fl1 fl Lf) (e: ∀i,0≤i→i<N→fl1 i=fl0 i):Al L N fl0 fl Lf :=
 h.imp (fun⟨h1,h2⟩=>⟨h1,fun i i0 i1=>(h2 i i0 i1).trans (e i i0 i1)⟩) (fun⟨h1,h2,h3,h4⟩=>⟨h1,h2,h3,fun i i0 i1=>by rw[h4 i i0 i1,e i i0 i1]⟩)
def WW (K id:Int) (g:dG) (V:Int→Int→Int) (Lf:Int) (f:Int→Int→List Int) (fl:Int→Bool) (bd:Int→Int→Bool):Prop:= ∃(G T L B Q:Int) (R:Int→Int×List Int) (Bf:Int),G≤K∧Q≤K∧Wsup id g G T L B Lf Bf f fl∧Wdat g T Q R V Lf Bf f fl bd
theorem y3Q {K J id:Int} {g:dG} {V:Int→Int→Int} {Lf:Int} {f:Int→Int→List Int} {fl:Int→Bool} {bd:Int→Int→Bool} (h:WW K id g V Lf f fl bd) (hj:K≤J):WW J id g V Lf f fl bd:=by
 obtain⟨G,T,L,B,Q,R,Bf,h1,h2,h3⟩:=h;exact⟨G,T,L,B,Q,R,Bf,Int.le_trans h1 hj,Int.le_trans h2 hj,h3⟩
structure Mk (a:dA):Prop where
 k:AllOk a
 g:n_spec_GeoOk a.2.1=true
 i:1≤a.1∧a.1≤60000
 l: -1≤a.2.2.2.1∧a.2.2.2.1≤a.2.1.1-1
 b:0≤a.2.2.2.2.1∧a.2.2.2.2.1≤a.2.1.2
 z:0≤a.2.2.2.1∨a.2.2.2.2.1=0
 t:0≤a.2.2.2.2.2.2.1∧a.2.2.2.2.2.2.1≤60000
 n:0≤a.2.2.2.2.2.2.2.1∧a.2.2.2.2.2.2.2.1<60000
theorem y3E {a:dA} (h:coreOk a) (hk:Keep a) (hg:a.2.2.2.2.2.2.2.1<60000):Mk a:=by
 obtain⟨c1,c2,c3,c4,c5,c6,c7,c8,c9,c10,c11⟩:=h;refine⟨ybm hk,c1,c2,c4,c5,?_,c7,c10,hg⟩
 by_cases e:a.2.2.2.1= -1
 ·exact .inr (c6 e)
 ·exact .inl (by omega)
theorem yVs {a:dA} (h:Mk a) {i:Int} (i0:0≤i) (i1:i<a.2.1.1):n_spec_SuperOk (supC a.1 a.2.1 (a.2.2.2.2.2.2.2.1+1) a.2.2.2.2.2.2.1 a.2.2.2.1 a.2.2.2.2.1 i)=true:=by
 have:=h.n;exact y2Z (by omega) h.g h.i h.t h.l h.b h.z i0 i1
theorem y0g {a:dA} {T L B Q Lf Lf2:Int} {R:Int→Int×List Int} {V:Int→Int→Int} {f':Int→Int→List Int} {fl:Int→Bool} (hm:Mk a) (hc:Ch (markA a) f') (hfl: ∀i,0≤i→i<a.2.1.1→fl i=false→flA a i=false)
  (old: ∀f,Ch a f→ ∃Bf,Wsup a.1 a.2.1 a.2.2.2.2.2.2.2.1 T L B Lf Bf f fl∧Wdat a.2.1 T Q R V Lf Bf f fl (bdA a))
  (new: ∀f,Ch a f→Wdat a.2.1 a.2.2.2.2.2.2.1 Q R V Lf2 a.2.2.2.2.1 f fl (bdA a))
  (h2: ∀f,Ch a f→ ∀i,0≤i→i<a.2.1.1→i≠Lf2→fl i=false∧OwnD a.1 (f i)) (h4:Lf2=a.2.2.2.1∨(a.2.2.2.1= -1∧0≤Lf2∧Lf2<a.2.1.1∧fl Lf2=true)) :
  (∃Bf,Wsup a.1 a.2.1 a.2.2.2.2.2.2.2.1 T L B Lf Bf f' fl∧Wdat a.2.1 T Q R V Lf Bf f' fl (bdA (markA a))) ∨
   ∃Bf,Wsup a.1 a.2.1 (a.2.2.2.2.2.2.2.1+1) a.2.2.2.2.2.2.1 a.2.2.2.1 a.2.2.2.2.1 Lf2 Bf f' fl∧Wdat a.2.1 a.2.2.2.2.2.2.1 Q R V Lf2 Bf f' fl (bdA (markA a)):=by
 have ht:=yIQ hm.k;have hn:=hm.n;rw[wr (show -9223372036854775808≤a.2.2.2.2.2.2.2.1+1 by omega) (by omega)]at ht;obtain⟨f,hf,hff⟩:=ht.c f' hc;obtain⟨Bf,o1,o2⟩:=old f hf;have hsl:=yIP (g:=a.2.2.2.2.2.2.2.1+1) (by omega)
 have hf0: ∀i n,0≤i→i<a.2.1.1→fl i=false→2≤n→f' i n=f i n∧bdA (markA a) i n=bdA a i n:=fun i n i0 i1 hi h2=>by
  rcases hff i n i0 i1 (by omega)with h | ⟨h,_⟩
  ·exact⟨h,ht.b i n i0 i1 (by omega)⟩
  ·omega
 have dat: ∀{T Q Lf Bf:Int},Wdat a.2.1 T Q R V Lf Bf f fl (bdA a)→Wdat a.2.1 T Q R V Lf Bf f' fl (bdA (markA a)):=fun h =>
  ygC h (fun i n i0 i1 hi h2=> .inl (hf0 i n i0 i1 hi h2)) (fun i n i0 i1 hb=>ht.d i n i0 i1 hb)
 have hff2: ∀i n,0≤i→i<a.2.1.1→fl i=false→0≤n→f' i n=f i n∨(n=(a.2.2.2.2.2.2.2.1+1).tmod 2∧f' i n=n_spec_PutSuper (supC a.1 a.2.1 (a.2.2.2.2.2.2.2.1+1) a.2.2.2.2.2.2.1 a.2.2.2.1 a.2.2.2.2.1 i)):=fun i n i0 i1 _ n0=>hff i n i0 i1 n0
 obtain⟨F,hF⟩: ∃F:Int→Int→List Int,F=fun i n=>if 0≤n then f' i n else f i n:=⟨_,rfl⟩
 have hFe: ∀i n,0≤n→F i n=f' i n:=fun i n n0=>by rw[hF]; exact if_pos n0
 have hw:=y6s (T2:=a.2.2.2.2.2.2.1) (L2:=a.2.2.2.1) (B2:=a.2.2.2.2.1) (f':=F) o1 (fun i i0 i1=>yVs hm i0 i1) (fun i n i0 i1 hi=>by
  by_cases n0:0≤n
  ·rw[hFe i n n0]; exact hff2 i n i0 i1 hi n0
  ·left; rw[hF]; exact if_neg n0) (h2 f hf) h4 hm.b.1
 have back: ∀{G T L B Lf Bf:Int},Wsup a.1 a.2.1 G T L B Lf Bf F fl→Wsup a.1 a.2.1 G T L B Lf Bf f' fl:=fun h=>ygD h (fun i n i0 i1 _ hn=>(hFe i n (by omega)).symm)
 rcases hw with hw | ⟨Bg,hg,hw⟩
 ·exact .inl ⟨Bf,back hw,dat o2⟩
 ·exact .inr ⟨Bg,back hw,dat (yZQ (new f hf) hg)⟩
theorem y0f {a:dA} {Q Lf:Int} {R:Int→Int×List Int} {V:Int→Int→Int} {f':Int→Int→List Int} {fl:Int→Bool} (hm:Mk a) (hu:downA (markA a)=false) (hx: ∀i,0≤i→i<a.2.1.1→2≤(dsk a i).1.length∧(dsk a i).2.1.length<60) (hb: ∀i,0≤i→i<a.2.1.1→flA a i=true→i=a.2.2.2.1)
  (hc:Ch (markA a) f') (hal:Al a.2.2.2.1 a.2.1.1 (flA a) fl Lf)
  (base: ∀f,Ch a f→ ∀i n s,0≤i→i<a.2.1.1→flA a i=false→(n=0∨n=1)→SupV a.1 n (f i n) s→s.2.2.1=i∧s.2.1≤a.2.2.2.2.2.2.2.1)
  (new: ∀f,Ch a f→Wdat a.2.1 a.2.2.2.2.2.2.1 Q R V Lf a.2.2.2.2.1 f fl (bdA a)) (hz:a.2.2.2.1≠ -1→flA a a.2.2.2.1=true→a.2.2.2.2.1=0) :
  ∃Bf,((Eq0 a fl Lf→Bf=a.2.2.2.2.1)∧(Eq0 a fl Lf→Lf≠ -1→fl Lf=false→OwnD a.1 (f' Lf)))∧Wsup a.1 a.2.1 (a.2.2.2.2.2.2.2.1+1) a.2.2.2.2.2.2.1 a.2.2.2.1 a.2.2.2.2.1 Lf Bf f' fl∧Wdat a.2.1 a.2.2.2.2.2.2.1 Q R V Lf Bf f' fl (bdA (markA a)):=by
 have ht:=yIQ hm.k;have hn:=hm.n;have hlen:=hm.k.1;have hg3:=yg.1 hm.g;have hw:IntKind.i64.wrap (a.2.2.2.2.2.2.2.1+1)=a.2.2.2.2.2.2.2.1+1:=wr (by omega) (by omega);have hsl:=yIP (g:=a.2.2.2.2.2.2.2.1+1) (by omega)
 have top: ∀i,0≤i→i<a.2.1.1→flA a i=false→f' i ((a.2.2.2.2.2.2.2.1+1).tmod 2)=n_spec_PutSuper (supC a.1 a.2.1 (a.2.2.2.2.2.2.2.1+1) a.2.2.2.2.2.2.1 a.2.2.2.1 a.2.2.2.2.1 i):=fun i i0 i1 hi=>by
  have h1:=hc i ((a.2.2.2.2.2.2.2.1+1).tmod 2) i0 (by rw[ht.g]; exact i1) hsl.1;have hmem:=hm.k.2 i i0 i1;obtain⟨x1,x2⟩:=hx i i0 i1;have hi':(dsk a i).2.2.1=false:=hi
  have e:dsk (markA a) i=ym (ydZ ((a.2.2.2.2.2.2.2.1+1).tmod 2) (n_spec_PutSuper (supC a.1 a.2.1 (a.2.2.2.2.2.2.2.1+1) a.2.2.2.2.2.2.1 a.2.2.2.1 a.2.2.2.2.1 i)) (dsk a i)):=by
   rw[y2I hu i0 (by omega)];show ym (ydZ ((IntKind.i64.wrap (a.2.2.2.2.2.2.2.1+1)).tmod 2) (n_spec_PutSuper (supC a.1 a.2.1 (IntKind.i64.wrap (a.2.2.2.2.2.2.2.1+1)) a.2.2.2.2.2.2.1 a.2.2.2.1 a.2.2.2.2.1 i)) (dsk a i))=_;rw[hw]
  rw[e]at h1;rw[ywr (yrw hmem) ((yF5 _ _ _).trans hi') hsl.1 h1];have hcw:=ysR (n:=(a.2.2.2.2.2.2.2.1+1).tmod 2) hmem hi' (zjA.2 (by omega)) (yMT (supC a.1 a.2.1 (a.2.2.2.2.2.2.2.1+1) a.2.2.2.2.2.2.1 a.2.2.2.1 a.2.2.2.2.1 i)) x2;unfold ydZ;rw[hi',cond_false,yqh hcw,beq_self_eq_true]; rfl
 rw[hw]at ht;obtain⟨f,hf,hff⟩:=ht.c f' hc
 have own: ∀i,0≤i→i<a.2.1.1→fl i=false→OwnD a.1 (f' i):=fun i i0 i1 hi =>
  ⟨(a.2.2.2.2.2.2.2.1+1).tmod 2,_,yXj (by omega),by rw[top i i0 i1 (yCK hal i0 i1 hi)]; exact yyB (yVs hm i0 i1)⟩
 have nef: ∀i,0≤i→i<a.2.1.1→i≠Lf→fl i=false:=fun i i0 i1 hne=>y5I hal hb i0 i1 hne
 have two: ∃i,0≤i∧i<a.2.1.1∧i≠Lf:=by
  by_cases h:Lf=0
  ·exact⟨1,by omega,by omega,by omega⟩
  ·exact⟨0,by omega,by omega,fun e=>h e.symm⟩
 have dat:Wdat a.2.1 a.2.2.2.2.2.2.1 Q R V Lf a.2.2.2.2.1 f' fl (bdA (markA a)) :=
  ygC (new f hf) (fun i n i0 i1 hi h2=> .inl (by
   rcases hff i n i0 i1 (by omega)with h | ⟨h,_⟩
   ·exact⟨h,ht.b i n i0 i1 (by omega)⟩
   ·omega)) (fun i n i0 i1 hb=>ht.d i n i0 i1 hb)
 have mk: ∀Bf,((Lf=a.2.2.2.1∧Bf=a.2.2.2.2.1∧(Lf= -1∨(fl Lf=false∧OwnD a.1 (f' Lf))))∨(0≤Lf∧Lf<a.2.1.1∧ ¬(fl Lf=false∧OwnD a.1 (f' Lf))∧(a.2.2.2.1= -1∨a.2.2.2.1=Lf)∧Bf=0))→Wsup a.1 a.2.1 (a.2.2.2.2.2.2.2.1+1) a.2.2.2.2.2.2.1 a.2.2.2.1 a.2.2.2.2.1 Lf Bf f' fl:=fun Bf h4=>by
  refine⟨fun i i0 i1=>yVs hm i0 i1,fun i n s i0 i1 hi hn2 hsv=> ?_,fun i i0 i1 hne=>⟨nef i i0 i1 hne,own i i0 i1 (nef i i0 i1 hne)⟩,?_,h4⟩
  ·have hi':=yCK hal i0 i1 hi
   by_cases hns:n=(a.2.2.2.2.2.2.2.1+1).tmod 2
   ·subst hns
    rw[top i i0 i1 hi']at hsv;have:=congrArg (fun x=>x.1) ((yyB (yVs hm i0 i1)).1.symm.trans hsv.1);simp only at this;subst this;exact⟨rfl,.inr rfl⟩
   ·rcases hff i n i0 i1 (by omega)with h | ⟨h,_⟩
    ·rw[h]at hsv
     obtain⟨b1,b2⟩:=base f hf i n s i0 i1 hi' hn2 hsv;exact⟨b1,.inl (by omega)⟩
    ·exact absurd h hns
  ·obtain⟨i,i0,i1,hne⟩:=two
   exact⟨i,i0,i1,nef i i0 i1 hne,top i i0 i1 (yCK hal i0 i1 (nef i i0 i1 hne))⟩
 have hl:=hm.l;have ow2:Eq0 a fl Lf→Lf≠ -1→fl Lf=false→OwnD a.1 (f' Lf):=fun h h5 h6=>own Lf (by have:=h.1; omega) (by have:=h.1; omega) h6
 rcases hal with⟨h1,h2⟩ | ⟨h1,h2,h3,h4⟩
 ·by_cases hne:Lf= -1
  ·exact⟨_,⟨fun _=>rfl,ow2⟩,mk _ (.inl ⟨h1,rfl,.inl hne⟩),dat⟩
  ·rcases Bool.eq_false_or_eq_true (fl Lf)with hf0 | hf0
   ·refine⟨0,⟨fun h=> ?_,ow2⟩,mk 0 (.inr ⟨by omega,by omega,(fun h=>by have:=h.1; rw[hf0]at this; cases this),.inr h1.symm,rfl⟩),yZQ dat hm.b.1⟩
    rw[h.2 Lf (by omega) (by omega),h1]at hf0;exact(hz (by omega) hf0).symm
   ·exact⟨_,⟨fun _=>rfl,ow2⟩,mk _ (.inl ⟨h1,rfl,.inr ⟨hf0,own Lf (by omega) (by omega) hf0⟩⟩),dat⟩
 ·have ht:fl Lf=true:=by rw[h4 Lf h1 h2,beq_self_eq_true,Bool.or_true]
  refine⟨0,⟨fun h=> ?_,ow2⟩,mk 0 (.inr ⟨h1,h2,fun h=> ?_,h3,rfl⟩),yZQ dat hm.b.1⟩
  ·rw[h.2 Lf h1 h2,h.1]at ht
   exact(hz (by have:=h.1; omega) ht).symm
  ·have:=h.1
   rw[ht]at this; cases this
def yQi (R:Int→Int×List Int) (B0:Int) (V:Int→Int→Int) (a:dA):Prop:=B0≤a.2.2.2.2.1∧ ∀f fl Lf,Ch a f→Al a.2.2.2.1 a.2.1.1 (flA a) fl Lf→ ∃Bf,((Eq0 a fl Lf→Bf=B0)∧(Eq0 a fl Lf→Lf≠ -1→fl Lf=false→OwnD a.1 (f Lf)))∧Wsup a.1 a.2.1 a.2.2.2.2.2.2.2.1 a.2.2.2.2.2.2.1 a.2.2.2.1 B0 Lf Bf f fl∧Wdat a.2.1 a.2.2.2.2.2.2.1 a.2.2.2.2.2.1 R V Lf Bf f fl (bdA a)
def Rob (B0:Int) (V:Int→Int→Int) (a:dA):Prop:= ∃R,yQi R B0 V a
def Dd (K:Int) (VS:(Int→Int→Int)→Prop) (r:dA):Prop:= ∀f fl Lf,Ch r f→Al r.2.2.2.1 r.2.1.1 (flA r) fl Lf→ ∃V,VS V∧WW K r.1 r.2.1 V Lf f fl (bdA r)
theorem yu1 {K J:Int} {VS WS:(Int→Int→Int)→Prop} {r:dA} (h:Dd K VS r) (hj:K≤J) (hv: ∀V,VS V→WS V):Dd J WS r:=fun f fl Lf hf hal=>by
 obtain⟨V,h1,h2⟩:=h f fl Lf hf hal;exact⟨V,hv V h1,y3Q h2 hj⟩
structure Nb (a:dA):Prop where
 n:a.2.2.2.1≠ -1→ ∀i s,0≤i→i<a.2.1.1→i≠a.2.2.2.1→0≤s→s<a.2.2.2.2.1→bdA a i (s+6)=false
 z:a.2.2.2.1≠ -1→flA a a.2.2.2.1=true→a.2.2.2.2.1=0
structure Lv (K:Int) (V:Int→Int→Int) (a:dA):Prop where
 x:Ix K V a
 r: ∃B0,Rob B0 V a
 n:Nb a
theorem yyf {K J:Int} {V:Int→Int→Int} {a:dA} (h:Lv K V a) (hj:K≤J):Lv J V a:=⟨yYm h.x hj,h.r,h.n⟩
theorem y5K {K:Int} {V:Int→Int→Int} {a:dA} (h:Ix K V a) {i:Int} (i0:0≤i) (i1:i<a.2.1.1) (hf:flA a i=true):i=a.2.2.2.1:=by
 rcases(ycJ h.xk i0 i1).2.2 hf with e | e
 ·exact e
 ·rw[h.xb]at e; cases e
theorem y34 {K:Int} {V:Int→Int→Int} {a:dA} (h:Ix K V a) {i:Int} (i0:0≤i) (i1:i<a.2.1.1):2≤(dsk a i).1.length∧(dsk a i).2.1.length<60:=by
 have hg:=yg.1 h.xc.1;have h1:=(ycJ h.xk i0 i1).2.1;have h2:=h.xn i i0 i1;have c:=h.xc;unfold coreOk at c;have h3:(bif i==a.2.2.2.1 then a.2.2.2.2.1 else 0)≤8:=by cases(i==a.2.2.2.1)<;>simp only[cond_true,cond_false]<;>omega
 omega
theorem yNd {a:dA} {f:Int→Int→List Int} (h:AllOk a) (hf:Ch (yb a) f):Ch a f:=fun i n i0 i1 n0=>by
 have hg:(yb a).2.1=a.2.1:=yO (yag a);have h1:=hf i n i0 (by rw[hg]; exact i1) n0
 cases hd:downA a
 ·rcases yUc (yTq hd) i0 with e | e
  ·rw[e]at h1; exact h1
  ·rw[e]at h1
   rcases(y0k (-1) [] (h.2 i i0 i1)).1 n _ n0 h1 with h2 | h2
   ·exact h2
   ·omega
 ·rw[yvd hd]at h1; exact h1
theorem yXm {K T Lf Bf:Int} {R:Int→Int×List Int} {V:Int→Int→Int} {b:dA} {f:Int→Int→List Int} {fl:Int→Bool} (hix:Ix K V b) (hu:downA (yb b)=false) (hf:Ch (yb b) f) (hfl: ∀i,0≤i→i<b.2.1.1→fl i=false→flA b i=false) (hL:Lf=b.2.2.2.1∨b.2.2.2.1= -1)
  (old:Wdat b.2.1 T b.2.2.2.2.2.1 R V Lf Bf f fl (bdA b)):Wdat b.2.1 b.2.2.2.2.2.1 b.2.2.2.2.2.1 R V Lf b.2.2.2.2.1 f fl (bdA (yb b)):=by
 have ok:=ybm hix.xk;have ts:=yIR (-1) (fun _=> []) ok;have hlen:=ok.1;have q:=old.q;refine⟨old.e,by omega,fun i s i0 i1 s0 s1 hi hl hb _=> ?_,fun q q0 q1=>by omega,fun i n r i0 i1 hi h2 h6 hr=> ?_,fun q q0 q1=>by omega,fun q q0 q1=>by omega,fun i n i0 i1 hi hn=>old.b i n i0 i1 hi (ts.d i n i0 i1 hn)⟩
 ·have hfi:(dsk b i).2.2.1=false:=hfl i i0 i1 hi
  have hp:=hf i (s+6) i0 (by rw[ts.g]; exact i1) (by omega);rw[yIN hu i0 (by omega)]at hp;rw[ywr (ok.2 i i0 i1) hfi (by omega) hp];refine hix.xv i s i0 i1 s0 s1 ?_;have hb2:yaC (dsk b i) (s+6)=false:=by rw[← hb]; exact(ts.b i (s+6) i0 i1 (by omega)).symm
  unfold hasW yM;rw[hfi,hb2]
  have:(i !=b.2.2.2.1||ltb s b.2.2.2.2.1)=true:=by
   rw[Bool.or_eq_true,bne_iff_ne,zjE];rcases hL with e | e<;>omega
  rw[this]; rfl
 ·obtain⟨h1,h3⟩:=old.h i n r i0 i1 hi h2 h6 hr
  exact⟨h1,fun h=>by omega⟩
theorem y3F {K:Int} {V:Int→Int→Int} {b:dA} (h:Ix K V b) (hk:K<60000):Mk (yB (yb b)):=by
 have hc:=yag b;have hk2:=yl4 h.xk;have:=h.xg;have e:=yuh hc
 have hx:coreOk (yB (yb b)):=by
  have c:=yB6 hc h.xc;obtain⟨c1,c2,c3,c4,c5,c6,c7,c8,c9,c10,c11⟩:=c;refine⟨c1,c2,c3,c4,c5,c6,⟨?_,?_⟩,⟨Int.le_refl _,c8.2⟩,?_,c10,c11⟩
  ·show 0≤(yb b).2.2.2.2.2.1; omega
  ·show(yb b).2.2.2.2.2.1≤60000; omega
  ·show(yb b).2.2.2.2.2.1≤(yb b).2.2.2.2.2.1+4; omega
 exact y3E hx hk2 (by show(yb b).2.2.2.2.2.2.2.1<60000; omega)
structure CoreEq (a b:dA):Prop where
 i:a.1=b.1
 g:a.2.1=b.2.1
 l:a.2.2.2.1=b.2.2.2.1
 u:a.2.2.2.2.1=b.2.2.2.2.1
 s:a.2.2.2.2.2.1=b.2.2.2.2.2.1
 t:a.2.2.2.2.2.2.1=b.2.2.2.2.2.2.1
 e:a.2.2.2.2.2.2.2.1=b.2.2.2.2.2.2.2.1
theorem yaS {a b:dA} (h:yl a=yl b):CoreEq a b:=⟨y5O h,yO h,yqg h,yjr h,yfQ h,yXI h,yuh h⟩
theorem yUf {K T L B Lf:Int} {R:Int→Int×List Int} {V:Int→Int→Int} {b:dA} {f':Int→Int→List Int} {fl:Int→Bool} (hix:Ix K V b) (hk:K<60000) (hc:Ch (checkA b) f') (hfl: ∀i,0≤i→i<b.2.1.1→fl i=false→flA b i=false) (hL:Lf=b.2.2.2.1∨(b.2.2.2.1= -1∧0≤Lf∧Lf<b.2.1.1∧fl Lf=true))
  (old: ∀f,Ch b f→ ∃Bf,Wsup b.1 b.2.1 b.2.2.2.2.2.2.2.1 T L B Lf Bf f fl∧Wdat b.2.1 T b.2.2.2.2.2.1 R V Lf Bf f fl (bdA b)):WW (K+1) b.1 b.2.1 V Lf f' fl (bdA (checkA b)):=by
 have ok:=ybm hix.xk;have hg:=hix.xg;have hs:=hix.xs;have ts:=yIR (-1) (fun _=> []) ok
 have sy: ∀f,Ch (yb b) f→ ∃Bf,Wsup b.1 b.2.1 b.2.2.2.2.2.2.2.1 T L B Lf Bf f fl∧Wdat b.2.1 T b.2.2.2.2.2.1 R V Lf Bf f fl (bdA (yb b)):=fun f hf=>by
  obtain⟨Bf,h1,h2⟩:=old f (yNd ok hf);exact⟨Bf,h1,ygC h2 (fun i n i0 i1 hi hn=> .inl ⟨rfl,ts.b i n i0 i1 (by omega)⟩) (fun i n i0 i1 h=>ts.d i n i0 i1 h)⟩
 have ce:=yaS (yag b)
 cases hu:downA (yb b)
 ·have e:checkA b=markA (yB (yb b)):=by unfold checkA; rw[hu]; rfl
  rw[e]at hc ⊢;have hm:=y3F hix hk;obtain⟨c1,c2,c3,c4,c5,c6,c7⟩:=ce;have hC: ∀f,Ch (yB (yb b)) f→Ch (yb b) f:=fun f hf=>hf
  have d0: ∀f,Ch (yb b) f→Wdat b.2.1 b.2.2.2.2.2.1 b.2.2.2.2.2.1 R V Lf b.2.2.2.2.1 f fl (bdA (yb b)):=fun f hf=>by
   obtain⟨Bf,h1,h2⟩:=old f (yNd ok hf);exact yXm hix hu hf hfl (hL.imp id (fun h=>h.1)) h2
  have hT:=y0g (a:=yB (yb b)) (T:=T) (L:=L) (B:=B) (Q:=b.2.2.2.2.2.1) (Lf:=Lf) (Lf2:=Lf) (R:=R) (V:=V) (fl:=fl) hm hc (fun i i0 i1 hi=>by
    have i1':i<b.2.1.1:=by rw[← c2]; exact i1
    exact(ts.f i i0 i1').trans (hfl i i0 i1' hi)) (fun f hf=>by
    show ∃Bf,Wsup (yb b).1 (yb b).2.1 (yb b).2.2.2.2.2.2.2.1 T L B Lf Bf f fl∧Wdat (yb b).2.1 T b.2.2.2.2.2.1 R V Lf Bf f fl (bdA (yb b))
    rw[c1,c2,c7]; exact sy f hf) (fun f hf=>by
    show Wdat (yb b).2.1 (yb b).2.2.2.2.2.1 b.2.2.2.2.2.1 R V Lf (yb b).2.2.2.2.1 f fl (bdA (yb b))
    rw[c2,c4,c5]; exact d0 f hf) (fun f hf i i0 i1 hne=>by
    obtain⟨Bf,h1,_⟩:=sy f hf;have i1':i<b.2.1.1:=by rw[← c2]; exact i1
    show fl i=false∧OwnD (yb b).1 (f i)
    rw[c1]; exact h1.u2 i i0 i1' hne) (by
    show Lf=(yb b).2.2.2.1∨((yb b).2.2.2.1= -1∧0≤Lf∧Lf<(yb b).2.1.1∧fl Lf=true)
    rw[c2,c3]; exact hL)
  have hT:(∃Bf,Wsup (yb b).1 (yb b).2.1 (yb b).2.2.2.2.2.2.2.1 T L B Lf Bf f' fl∧Wdat (yb b).2.1 T b.2.2.2.2.2.1 R V Lf Bf f' fl (bdA (markA (yB (yb b))))) ∨
   ∃Bf,Wsup (yb b).1 (yb b).2.1 ((yb b).2.2.2.2.2.2.2.1+1) (yb b).2.2.2.2.2.1 (yb b).2.2.2.1 (yb b).2.2.2.2.1 Lf Bf f' fl∧Wdat (yb b).2.1 (yb b).2.2.2.2.2.1 b.2.2.2.2.2.1 R V Lf Bf f' fl (bdA (markA (yB (yb b)))):=hT
  rw[c1,c2,c7]at hT;rcases hT with⟨Bf,h1,h2⟩ | ⟨Bf,h1,h2⟩
  ·exact⟨_,_,_,_,_,_,Bf,by omega,by omega,h1,h2⟩
  ·exact⟨_,_,_,_,_,_,Bf,by omega,by omega,h1,h2⟩
 ·have e:checkA b=yb b:=by unfold checkA; rw[hu]; rfl
  rw[e]at hc ⊢;obtain⟨Bf,h1,h2⟩:=sy f' hc;exact⟨_,_,_,_,_,_,Bf,by omega,by omega,h1,h2⟩
theorem yy6 {b:dA} (hk:Keep b) {i m:Int} (i0:0≤i) (i1:i<b.2.1.1) (m0:2≤m):bdA (checkA b) i m=bdA b i m∧flA (checkA b) i=flA b i:=by
 have ts:=yIR (-1) (fun _=> []) (ybm hk);have hc:=yO (yag b);have h1:bdA (yb b) i m=bdA b i m:=ts.b i m i0 i1 (by omega);have h2:=ts.f i i0 i1;unfold checkA
 cases downA (yb b)
 ·have ok2:AllOk (yB (yb b)):=ybm (a:=yB (yb b)) (yl4 hk)
  have tm:=yIQ ok2;have i1':i<(yB (yb b)).2.1.1:=by show i<(yb b).2.1.1; rw[hc]; exact i1
  have hg:0≤(IntKind.i64.wrap ((yB (yb b)).2.2.2.2.2.2.2.1+1)).tmod 2∨(IntKind.i64.wrap ((yB (yb b)).2.2.2.2.2.2.2.1+1)).tmod 2<2:=by omega
  have hlt:(IntKind.i64.wrap ((yB (yb b)).2.2.2.2.2.2.2.1+1)).tmod 2<2:=by
   have:=Int.tmod_lt_of_pos (IntKind.i64.wrap ((yB (yb b)).2.2.2.2.2.2.2.1+1)) (show(0:Int)<2 by omega);exact this
  exact⟨(tm.b i m i0 i1' (by omega)).trans h1,(tm.f i i0 i1').trans h2⟩
 ·exact⟨h1,h2⟩
theorem y3T {K T L B Lf:Int} {R:Int→Int×List Int} {V:Int→Int→Int} {b:dA} {f':Int→Int→List Int} {fl:Int→Bool} (hix:Ix K V b) (hz:b.2.2.2.1≠ -1→flA b b.2.2.2.1=true→b.2.2.2.2.1=0) (hk:K<60000) (hu:downA (checkA b)=false) (hc:Ch (checkA b) f') (hal:Al b.2.2.2.1 b.2.1.1 (flA b) fl Lf)
  (old: ∀f,Ch b f→ ∃Bf,Wsup b.1 b.2.1 b.2.2.2.2.2.2.2.1 T L B b.2.2.2.1 Bf f (flA b)∧Wdat b.2.1 T b.2.2.2.2.2.1 R V b.2.2.2.1 Bf f (flA b) (bdA b)) :
  ∃Bf,((Eq0 b fl Lf→Bf=b.2.2.2.2.1)∧(Eq0 b fl Lf→Lf≠ -1→fl Lf=false→OwnD b.1 (f' Lf)))∧Wsup b.1 b.2.1 (b.2.2.2.2.2.2.2.1+1) b.2.2.2.2.2.1 b.2.2.2.1 b.2.2.2.2.1 Lf Bf f' fl∧Wdat b.2.1 b.2.2.2.2.2.1 b.2.2.2.2.2.1 R V Lf Bf f' fl (bdA (checkA b)):=by
 have ok:=ybm hix.xk;have ts:=yIR (-1) (fun _=> []) ok;have ce:=yaS (yag b);obtain⟨hs,e⟩:=yIl hu;rw[e]at hu hc ⊢;have hm:=y3F hix hk;have six:=y0c (y3A hix hs);obtain⟨c1,c2,c3,c4,c5,c6,c7⟩:=ce;have hfe: ∀i,0≤i→i<b.2.1.1→flA (yb b) i=flA b i:=ts.f
 have d0: ∀f,Ch (yb b) f→Wdat b.2.1 b.2.2.2.2.2.1 b.2.2.2.2.2.1 R V Lf b.2.2.2.2.1 f fl (bdA (yb b)):=fun f hf=>by
  obtain⟨Bf,_,h2⟩:=old f (yNd ok hf);have hLf:Lf=b.2.2.2.1∨b.2.2.2.1= -1:=by rcases hal with⟨h,_⟩ | ⟨_,_,h,_⟩<;>omega
  have sub:=fun i i0 i1 hi=>yCK hal (i:=i) i0 i1 hi
  have w0:=yXm (fl:=flA b) (Lf:=b.2.2.2.1) hix hs hf (fun i _ _ h=>h) (.inl rfl) h2;have q:=w0.q;refine⟨w0.e,w0.q,fun i s i0 i1 s0 s1 hi hl hb hj=> ?_,fun q q0 q1=>by omega,fun i n r i0 i1 hi h2 h6 hr=>w0.h i n r i0 i1 (sub i i0 i1 hi) h2 h6 hr,fun q q0 q1=>by omega,fun q q0 q1=>by omega,fun i n i0 i1 hi hn=>w0.b i n i0 i1 (sub i i0 i1 hi) hn⟩;exact w0.d i s i0 i1 s0 s1 (sub i i0 i1 hi) (by omega) hb hj
 have hD:=y0f (a:=yB (yb b)) (Q:=b.2.2.2.2.2.1) (Lf:=Lf) (R:=R) (V:=V) (fl:=fl) hm hu (fun i i0 i1=>y34 six i0 i1) (fun i i0 i1 hf=>y5K six i0 i1 hf) hc (by
   show Al (yb b).2.2.2.1 (yb b).2.1.1 (flA (yb b)) fl Lf
   rw[c2,c3]; exact yyL hal (fun i i0 i1=>(hfe i i0 i1).symm)) (fun f hf i n s i0 i1 hi hn2 hsv=>by
   have i1':i<b.2.1.1:=by rw[← c2]; exact i1
   obtain⟨Bf,h1,_⟩:=old f (yNd ok hf);have hsv:SupV (yb b).1 n (f i n) s:=hsv;rw[c1]at hsv;obtain⟨g1,g2⟩:=h1.u1 i n s i0 i1' ((hfe i i0 i1').symm.trans hi) hn2 hsv;refine⟨g1,?_⟩;show s.2.1≤(yb b).2.2.2.2.2.2.2.1;rw[c7];rcases g2 with g2 | g2
   ·omega
   ·rw[g2]; exact Int.le_refl _) (fun f hf=>by
   show Wdat (yb b).2.1 (yb b).2.2.2.2.2.1 b.2.2.2.2.2.1 R V Lf (yb b).2.2.2.2.1 f fl (bdA (yb b))
   rw[c2,c4,c5]; exact d0 f hf) (by
   show(yb b).2.2.2.1≠ -1→flA (yb b) (yb b).2.2.2.1=true→(yb b).2.2.2.2.1=0;rw[c3,c4];intro h1 h2;have hl:=hix.xc.2.2.2.1;rw[hfe _ (by omega) (by omega)]at h2
   exact hz h1 h2)
 have hD: ∃Bf,((Eq0 (yb b) fl Lf→Bf=(yb b).2.2.2.2.1)∧(Eq0 (yb b) fl Lf→Lf≠ -1→fl Lf=false→OwnD (yb b).1 (f' Lf)))∧Wsup (yb b).1 (yb b).2.1 ((yb b).2.2.2.2.2.2.2.1+1) (yb b).2.2.2.2.2.1 (yb b).2.2.2.1 (yb b).2.2.2.2.1 Lf Bf f' fl∧Wdat (yb b).2.1 (yb b).2.2.2.2.2.1 b.2.2.2.2.2.1 R V Lf Bf f' fl (bdA (markA (yB (yb b)))):=hD;have he:Eq0 b fl Lf→Eq0 (yb b) fl Lf:=fun h=>⟨by rw[c3]; exact h.1,fun i i0 i1=>by rw[c2]at i1; exact(h.2 i i0 i1).trans (hfe i i0 i1).symm⟩
 rw[c1,c2,c3,c4,c5,c7]at hD;obtain⟨Bf,⟨h1,h2⟩,h3⟩:=hD;exact⟨Bf,⟨fun h=>h1 (he h),fun h=>h2 (he h)⟩,h3⟩
theorem y3K {B0:Int} {V:Int→Int→Int} {a:dA} {R:Int→Int×List Int} (h:yQi R B0 V a) {fl:Int→Bool} {Lf:Int} (hal:Al a.2.2.2.1 a.2.1.1 (flA a) fl Lf) :
  ∀f,Ch a f→ ∃Bf,Wsup a.1 a.2.1 a.2.2.2.2.2.2.2.1 a.2.2.2.2.2.2.1 a.2.2.2.1 B0 Lf Bf f fl∧Wdat a.2.1 a.2.2.2.2.2.2.1 a.2.2.2.2.2.1 R V Lf Bf f fl (bdA a):=fun f hf=>by
 obtain⟨Bf,_,h1,h2⟩:=h.2 f fl Lf hf hal;exact⟨Bf,h1,h2⟩
theorem yHt (a:dA):Al a.2.2.2.1 a.2.1.1 (flA a) (flA a) a.2.2.2.1:= .inl ⟨rfl,fun _ _ _=>rfl⟩
theorem y6a {L N Lf:Int} {fl0 fl:Int→Bool} (h:Al L N fl0 fl Lf):Lf=L∨(L= -1∧0≤Lf∧Lf<N∧fl Lf=true):=by
 rcases h with⟨h,_⟩ | ⟨h1,h2,h3,h4⟩
 ·exact .inl h
 ·rcases h3 with h3 | h3
  ·exact .inr ⟨h3,h1,h2,by rw[h4 Lf h1 h2,beq_self_eq_true,Bool.or_true]⟩
  ·exact .inl h3.symm
theorem yBV (b:dA):(checkA b).1=b.1∧(checkA b).2.1=b.2.1∧(checkA b).2.2.2.1=b.2.2.2.1∧(checkA b).2.2.2.2.1=b.2.2.2.2.1∧(checkA b).2.2.2.2.2.1=b.2.2.2.2.2.1:=by
 obtain⟨c1,c2,c3,c4,c5,_,_⟩:=yaS (yag b);unfold checkA
 cases downA (yb b)
 ·obtain⟨d1,d2,d3,d4,d5,_,_⟩:=yaS (yju (yB (yb b)))
  exact⟨d1.trans c1,d2.trans c2,d3.trans c3,d4.trans c4,d5.trans c5⟩
 ·exact⟨c1,c2,c3,c4,c5⟩
theorem yZX {b:dA} (hg:0≤b.2.2.2.2.2.2.2.1∧b.2.2.2.2.2.2.2.1<60000) (hu:downA (checkA b)=false):(checkA b).2.2.2.2.2.2.1=b.2.2.2.2.2.1∧(checkA b).2.2.2.2.2.2.2.1=b.2.2.2.2.2.2.2.1+1:=by
 obtain⟨c1,c2,c3,c4,c5,c6,c7⟩:=yaS (yag b);obtain⟨_,e⟩:=yIl hu;obtain⟨d1,d2,d3,d4,d5,d6,d7⟩:=yaS (yju (yB (yb b)));rw[e];refine⟨d6.trans c5,d7.trans ?_⟩;show IntKind.i64.wrap ((yb b).2.2.2.2.2.2.2.1+1)=_;rw[c7]; exact wr (by omega) (by omega)
theorem y4b {a r:dA} (h:Nb a) (hg:r.2.1=a.2.1) (hl:r.2.2.2.1=a.2.2.2.1) (hb:r.2.2.2.2.1=a.2.2.2.2.1) (hlr: -1≤a.2.2.2.1∧a.2.2.2.1≤a.2.1.1-1) (hd: ∀i m,0≤i→i<a.2.1.1→6≤m→bdA r i m=true→bdA a i m=true) (hf: ∀i,0≤i→i<a.2.1.1→flA r i=flA a i):Nb r:=by
 refine⟨fun h1 i s i0 i1 hi s0 s1=> ?_,fun h1 h2=> ?_⟩
 ·rw[hl]at h1 hi
  rw[hg]at i1;rw[hb]at s1
  cases hx:bdA r i (s+6)
  ·rfl
  ·rw[← h.n h1 i s i0 i1 hi s0 s1]; exact(hd i (s+6) i0 i1 (by omega) hx).symm
 ·rw[hl]at h1 h2
  rw[hb];rw[hf _ (by omega) (by omega)]at h2;exact h.z h1 h2
theorem yZW {K T L B:Int} {R:Int→Int×List Int} {V:Int→Int→Int} {b:dA} (hix:Ix K V b) (hz:b.2.2.2.1≠ -1→flA b b.2.2.2.1=true→b.2.2.2.2.1=0) (hk:K+1≤60000) (hu:downA (checkA b)=false)
  (old: ∀f,Ch b f→ ∃Bf,Wsup b.1 b.2.1 b.2.2.2.2.2.2.2.1 T L B b.2.2.2.1 Bf f (flA b)∧Wdat b.2.1 T b.2.2.2.2.2.1 R V b.2.2.2.1 Bf f (flA b) (bdA b)):yQi R (checkA b).2.2.2.2.1 V (checkA b):=by
 have c:=hix.xc;unfold coreOk at c;obtain⟨s1,s2,s3,s4,s5⟩:=yBV b;have hg:=hix.xg;have hfl: ∀i,0≤i→i<b.2.1.1→flA (checkA b) i=flA b i:=fun i i0 i1=>(yy6 (m:=2) hix.xk i0 i1 (by omega)).2
 obtain⟨t1,t2⟩:=yZX (b:=b) (by omega) hu;refine⟨Int.le_refl _,fun f fl Lf hf hal=> ?_⟩;rw[s2,s3]at hal;have hal2:=yyL hal hfl;obtain⟨Bf,⟨h1,h2⟩,h3⟩:=y3T hix hz (by omega) hu hf hal2 old;have he:Eq0 (checkA b) fl Lf→Eq0 b fl Lf:=fun e=>⟨e.1.trans s3,fun i i0 i1=>(e.2 i i0 (by rw[s2]; exact i1)).trans (hfl i i0 i1)⟩
 rw[s1,s2,s3,s4,s5,t1,t2];exact⟨Bf,⟨fun e=>h1 (he e),fun e=>h2 (he e)⟩,h3⟩
theorem y2D {K:Int} {V:Int→Int→Int} {a:dA} (h:Lv K V a) (hk:K+1≤60000) :
  (downA (checkA a)=false→Lv (K+1) V (checkA a))∧(downA (checkA a)=true→Dd (K+1) (· =V) (checkA a)):=by
 obtain⟨B0,R,hr⟩:=h.r;have c:=h.x.xc;unfold coreOk at c;obtain⟨s1,s2,s3,s4,s5⟩:=yBV a;have hfl: ∀i,0≤i→i<a.2.1.1→flA (checkA a) i=flA a i:=fun i i0 i1=>(yy6 (m:=2) h.x.xk i0 i1 (by omega)).2
 have hg:=h.x.xg;refine⟨fun hu=>⟨yRw h.x hk hu,⟨_,R,yZW h.x h.n.z hk hu (y3K hr (yHt a))⟩,?_⟩,fun hd f fl Lf hf hal=>⟨V,rfl,?_⟩⟩
 ·exact y4b h.n s2 s3 s4 (by omega) (fun i m i0 i1 m0 hb=>by rw[(yy6 h.x.xk i0 i1 (by omega)).1]at hb; exact hb) hfl
 ·rw[s2,s3]at hal
  have hal2:=yyL hal hfl;have:=yUf h.x (by omega) hf (fun i i0 i1 hi=>yCK hal2 i0 i1 hi) (y6a hal2) (y3K hr hal2);rw[s1,s2]; exact this
theorem y5j {K:Int} {V:Int→Int→Int} {a:dA} {l:List dW} (h:Lv K V a) (hd:yat a.2.1 l=true):Lv K V (yyA a l):=⟨yPV h.x hd,h.r,⟨h.n.n,h.n.z⟩⟩
theorem y6m {K:Int} {V:Int→Int→Int} {a:dA} {b n:Int} (h:Lv K V a) (hb:blkOk a.2.1 b=true) (hn:isW n=true):Lv K V (setOne a b n).2:=by
 have hi:=y6i h.x hb hn;unfold setOne at hi ⊢
 cases hs:(ybj a (ybM a.2.1 b)).2
 ·exact h
 ·rw[hs]at hi
  exact⟨hi,h.r,⟨h.n.n,h.n.z⟩⟩
theorem y4J (r:dN):yaa (putRec r)=true:=by
 unfold putRec
 cases h:yC r
 ·rfl
 ·have hr:=yu9.1 h
  refine yzQ.2 ⟨?_,fun x hx=> ?_⟩
  ·show(21322::r.1::r.2.1::(r.2.2.length:Int)::r.2.2).length≤12
   simp only[List.length_cons]; omega
  ·have hx:x∈21322::r.1::r.2.1::(r.2.2.length:Int)::r.2.2:=hx
   simp only[List.mem_cons]at hx;rcases hx with hx | hx | hx | hx | hx
   ·omega
   ·omega
   ·omega
   ·omega
   ·exact yu7.1 (yHu.1 hr.2.2.2 x hx)
def Two (V W X:Int→Int→Int):Prop:=X=V∨X=W
theorem yQv (a:dA):(yk a).1=a.1∧(yk a).2.1=a.2.1∧(yk a).2.2.2.1=a.2.2.2.1∧(yk a).2.2.2.2.1=a.2.2.2.2.1∧(yk a).2.2.2.2.2.1=a.2.2.2.2.2.1:=by
 unfold yk
 cases leb 4 (IntKind.i64.wrap (a.2.2.2.2.2.1-a.2.2.2.2.2.2.1))
 ·exact⟨rfl,rfl,rfl,rfl,rfl⟩
 ·exact yBV a
theorem y6k {K:Int} {V:Int→Int→Int} {a:dA} (h:Lv K V a) (hk:K+1≤60000) :
  (downA (yk a)=false→Lv (K+1) V (yk a))∧(downA (yk a)=true→Dd (K+1) (· =V) (yk a)):=by
 unfold yk
 cases leb 4 (IntKind.i64.wrap (a.2.2.2.2.2.1-a.2.2.2.2.2.2.1))
 ·exact⟨fun _=>yyf h (by omega),fun hd=>by rw[cond_false,h.x.xu]at hd; cases hd⟩
 ·exact y2D h hk
theorem y5N {b:dA} (hk:Keep b) {i m:Int} (i0:0≤i) (i1:i<b.2.1.1) (m0:2≤m):bdA (yk b) i m=bdA b i m∧flA (yk b) i=flA b i:=by
 unfold yk
 cases leb 4 (IntKind.i64.wrap (b.2.2.2.2.2.1-b.2.2.2.2.2.2.1))
 ·exact⟨rfl,rfl⟩
 ·exact yy6 hk i0 i1 m0
theorem y5q {K s:Int} {d:List Int} {V:Int→Int→Int} {a:dA} (h:Lv K V a) (h3:a.2.2.2.2.2.1-a.2.2.2.2.2.2.1≤3) (hq:a.2.2.2.2.2.1<60000) (hs:strOk a.2.1 s=true) (hl:(d.length:Int)=a.2.1.1-1) (hd:d.all isW=true):Dd (K+1) (Two V (ym2 V a.2.1 s d)) (yj a (a.2.2.2.2.2.1,s,d)):=by
 obtain⟨B0,R,hB,hr⟩:=h.r;have ok:=ybm h.x.xk;have hg:=h.x.xg;have hs2:=h.x.xs;have ht:=yNo (a.2.2.2.2.2.1,s,d) ok;have c:=h.x.xc;unfold coreOk at c;have hsl:=ylY (q:=a.2.2.2.2.2.1) (by omega);obtain⟨c1,c2,c3,c4,c5,c6,c7⟩:=yaS (yaT a (a.2.2.2.2.2.1,s,d));intro f' fl Lf hf hal;rw[c1,c2];rw[c2,c3]at hal;have hal2:=yyL hal ht.f;obtain⟨f,hf0,hff⟩:=ht.c f' hf;obtain⟨Bf,_,h1,h2⟩:=hr f fl Lf hf0 hal2
 have sup:Wsup a.1 a.2.1 a.2.2.2.2.2.2.2.1 a.2.2.2.2.2.2.1 a.2.2.2.1 B0 Lf Bf f' fl:=ygD h1 (fun i n i0 i1 _ hn=>by
  rcases hff i n i0 i1 (by omega)with e | ⟨e,_⟩
  ·exact e
  ·have:n=n_spec_SlotOf a.2.2.2.2.2.1:=e
   omega)
 have hb6: ∀i n,0≤i→i<a.2.1.1→6≤n→bdA (yj a (a.2.2.2.2.2.1,s,d)) i n=bdA a i n:=fun i n i0 i1 h6=>ht.b i n i0 i1 (fun e=>by have:n=n_spec_SlotOf a.2.2.2.2.2.1:=e; omega)
 have hf2: ∀i n,0≤i→i<a.2.1.1→fl i=false→2≤n→f' i n=f i n∨(n=n_spec_SlotOf a.2.2.2.2.2.1∧f' i n=putRec (a.2.2.2.2.2.1,s,d)):=fun i n i0 i1 _ hn=>hff i n i0 i1 (by omega)
 by_cases hx: ∃i,0≤i∧i<a.2.1.1∧fl i=false∧f' i (n_spec_SlotOf a.2.2.2.2.2.1)=putRec (a.2.2.2.2.2.1,s,d)
 ·exact⟨ym2 V a.2.1 s d,.inr rfl,_,_,_,_,_,_,Bf,by omega,by omega,sup,y0p h2 (by omega) hq hs hl hd hf2 hb6 (fun i n i0 i1 hn=>ht.d i n i0 i1 hn) hx⟩
 ·refine⟨V,.inl rfl,_,_,_,_,_,_,Bf,by omega,by omega,sup,ygC h2 (fun i n i0 i1 hi hn=> .inl ?_) (fun i n i0 i1 hn=>ht.d i n i0 i1 hn)⟩
  have hb: ∀k,0≤k→k<6→bdA (yj a (a.2.2.2.2.2.1,s,d)) i k=bdA a i k:=fun k k0 k6=>by
   have g2:bdA a i k=false:=by
    cases hb:bdA a i k
    ·rfl
    ·have:=h2.b i k i0 i1 hi hb; omega
   cases hb:bdA (yj a (a.2.2.2.2.2.1,s,d)) i k
   ·exact g2.symm
   ·rw[ht.d i k i0 i1 hb]at g2; cases g2
  refine⟨?_,?_⟩
  ·rcases hf2 i n i0 i1 hi hn with e | ⟨e,e2⟩
   ·exact e
   ·exact absurd ⟨i,i0,i1,hi,by rw[← e]; exact e2⟩ hx
  ·by_cases h6:6≤n
   ·exact hb6 i n i0 i1 h6
   ·exact hb n (by omega) (by omega)
theorem y5p {K B0 s:Int} {d:List Int} {V:Int→Int→Int} {R:Int→Int×List Int} {a:dA} (h:Ix K V a) (hB:yQi R B0 V a) (h3:a.2.2.2.2.2.1-a.2.2.2.2.2.2.1≤3) (hq:a.2.2.2.2.2.1<60000) (hs:strOk a.2.1 s=true) (hl:(d.length:Int)=a.2.1.1-1) (hd:d.all isW=true) (hu:downA (yj a (a.2.2.2.2.2.1,s,d))=false):yQi (yZN R a.2.2.2.2.2.1 s d) B0 (ym2 V a.2.1 s d) (yu (yj a (a.2.2.2.2.2.1,s,d))):=by
 obtain⟨hB,hr⟩:=hB;have ok:=ybm h.xk;have ht:=yNo (a.2.2.2.2.2.1,s,d) ok;have c:=h.xc;unfold coreOk at c;have hsl:=ylY (q:=a.2.2.2.2.2.1) (by omega);obtain⟨c1,c2,c3,c4,c5,c6,c7⟩:=yaS (yaT a (a.2.2.2.2.2.1,s,d))
 have hsq:(yu (yj a (a.2.2.2.2.2.1,s,d))).2.2.2.2.2.1=a.2.2.2.2.2.1+1:=by
  show IntKind.i64.wrap ((yj a (a.2.2.2.2.2.1,s,d)).2.2.2.2.2.1+1)=_;rw[c5]; exact wr (by omega) (by omega)
 refine⟨by show B0≤(yj a (a.2.2.2.2.2.1,s,d)).2.2.2.2.1; rw[c4]; exact hB,fun f' fl Lf hf hal=> ?_⟩;have hf:Ch (yj a (a.2.2.2.2.2.1,s,d)) f':=hf;have hal:Al (yj a (a.2.2.2.2.2.1,s,d)).2.2.2.1 (yj a (a.2.2.2.2.2.1,s,d)).2.1.1 (flA (yj a (a.2.2.2.2.2.1,s,d))) fl Lf:=hal;rw[c2,c3]at hal;have hal2:=yyL hal ht.f;obtain⟨f,hf0,hff⟩:=ht.c f' hf;obtain⟨Bf,⟨p1,p2⟩,h1,h2⟩:=hr f fl Lf hf0 hal2
 have hn01: ∀i n,0≤i→i<a.2.1.1→(n=0∨n=1)→f' i n=f i n:=fun i n i0 i1 hn=>by
  rcases hff i n i0 i1 (by omega)with e | ⟨e,_⟩
  ·exact e
  ·have:n=n_spec_SlotOf a.2.2.2.2.2.1:=e
   omega
 have sup:Wsup a.1 a.2.1 a.2.2.2.2.2.2.2.1 a.2.2.2.2.2.2.1 a.2.2.2.1 B0 Lf Bf f' fl:=ygD h1 (fun i n i0 i1 _ hn=>hn01 i n i0 i1 hn)
 have he:Eq0 (yu (yj a (a.2.2.2.2.2.1,s,d))) fl Lf→Eq0 a fl Lf:=fun e=>by
  have e1:Lf=(yj a (a.2.2.2.2.2.1,s,d)).2.2.2.1:=e.1;refine⟨e1.trans c3,fun i i0 i1=> ?_⟩;have:=e.2 i i0 (by show i<(yj a (a.2.2.2.2.2.1,s,d)).2.1.1; rw[c2]; exact i1);exact this.trans (ht.f i i0 i1)
 have hlen:=h.xk.1.2
 have two: ∃i,0≤i∧i<a.2.1.1∧i≠Lf:=by
  have hg3:=yg.1 h.xc.1
  by_cases h:Lf=0
  ·exact⟨1,by omega,by omega,by omega⟩
  ·exact⟨0,by omega,by omega,fun e=>h e.symm⟩
 obtain⟨j,j0,j1,hj⟩:=two;have hjf:=(h1.u2 j j0 j1 hj).1
 have hx:f' j (n_spec_SlotOf a.2.2.2.2.2.1)=putRec (a.2.2.2.2.2.1,s,d):=by
  have hp:=hf j (n_spec_SlotOf a.2.2.2.2.2.1) j0 (by rw[c2]; exact j1) (by omega);have hjd:(dsk a j).2.2.1=false:=yCK hal2 j0 j1 hjf;rw[yNl hu j0 (by omega)]at hp;obtain⟨x1,x2⟩:=y34 h j0 j1;have dk:=ycJ h.xk j0 j1;have hg3:=yg.1 h.xc.1;have hcw:=ysR (n:=n_spec_SlotOf a.2.2.2.2.2.1) (s:=putRec (a.2.2.2.2.2.1,s,d)) dk.1 hjd (zjA.2 (by omega)) (y4J _) x2;rw[ywr (yrw dk.1) ((yF5 _ _ _).trans hjd) (by show 0≤n_spec_SlotOf a.2.2.2.2.2.1; omega) hp];unfold ydZ;rw[hjd,cond_false];show curS (yE (dsk a j) (n_spec_SlotOf a.2.2.2.2.2.1) (putRec (a.2.2.2.2.2.1,s,d))).1 _=_;rw[yqh hcw,beq_self_eq_true]; rfl
 have dat:=y0p h2 (by omega) hq hs hl hd (fun i n i0 i1 _ hn=>hff i n i0 i1 (by omega)) (fun i n i0 i1 h6=>ht.b i n i0 i1 (fun e=>by have:n=n_spec_SlotOf a.2.2.2.2.2.1:=e; omega)) (fun i n i0 i1 hn=>ht.d i n i0 i1 hn) ⟨j,j0,j1,hjf,hx⟩;refine⟨Bf,⟨fun e=>p1 (he e),fun e e1 e2=> ?_⟩,?_,?_⟩
 ·have hown:=p2 (he e) e1 e2
  show OwnD (yj a (a.2.2.2.2.2.1,s,d)).1 (f' Lf);rw[c1];obtain⟨n,s',hn,hsv⟩:=hown;have hr2:0≤Lf∧Lf<a.2.1.1:=by have:=(he e).1; omega
  exact⟨n,s',hn,by rw[hn01 Lf n hr2.1 hr2.2 hn]; exact hsv⟩
 ·show Wsup (yj a (a.2.2.2.2.2.1,s,d)).1 (yj a (a.2.2.2.2.2.1,s,d)).2.1 (yj a (a.2.2.2.2.2.1,s,d)).2.2.2.2.2.2.2.1 (yj a (a.2.2.2.2.2.1,s,d)).2.2.2.2.2.2.1 (yj a (a.2.2.2.2.2.1,s,d)).2.2.2.1 B0 Lf Bf f' fl
  rw[c1,c2,c3,c6,c7]; exact sup
 ·rw[hsq]
  show Wdat (yj a (a.2.2.2.2.2.1,s,d)).2.1 (yj a (a.2.2.2.2.2.1,s,d)).2.2.2.2.2.2.1 _ _ _ _ _ _ _ _;rw[c2,c6]; exact dat
theorem y5r {B0 q s:Int} {d:List Int} {V:Int→Int→Int} {R:Int→Int×List Int} {a:dA} (hk:AllOk a) (hs:strOk a.2.1 s=true) (h:yQi R B0 V a) (q0:a.2.2.2.2.2.2.1≤q) (q1:q<a.2.2.2.2.2.1) (hq:(R q).1=s):yQi R B0 V (yp a s d):=by
 obtain⟨hB,hr⟩:=h;have ht:=yTr s d hk;have h1:=yG.1 hs;have hg:=yg.1 h1.1;have hda:=yjs (s:=s) h1.2.1 (by omega);obtain⟨c1,c2,c3,c4,c5,c6,c7⟩:=yaS (ydU a s d);refine⟨by rw[c4]; exact hB,fun f' fl Lf hf hal=> ?_⟩;rw[c2,c3]at hal;have hal2:=yyL hal ht.f;obtain⟨f,hf0,hff⟩:=ht.c f' hf;obtain⟨Bf,⟨p1,p2⟩,h1,h2⟩:=hr f fl Lf hf0 hal2
 have hn01: ∀i n,0≤i→i<a.2.1.1→(n=0∨n=1)→f' i n=f i n:=fun i n i0 i1 hn=>by
  rcases hff i n i0 i1 (by omega)with e | ⟨e,_⟩
  ·exact e
  ·omega
 have he:Eq0 (yp a s d) fl Lf→Eq0 a fl Lf:=fun e=>⟨e.1.trans c3,fun i i0 i1=>(e.2 i i0 (by rw[c2]; exact i1)).trans (ht.f i i0 i1)⟩
 rw[c1,c2,c3,c5,c6,c7];refine⟨Bf,⟨fun e=>p1 (he e),fun e e1 e2=> ?_⟩,ygD h1 (fun i n i0 i1 _ hn=>hn01 i n i0 i1 hn),ygC h2 (fun i n i0 i1 hi hn=> ?_) (fun i n i0 i1 hn=>ht.d i n i0 i1 hn)⟩
 ·obtain⟨j,j0,j1,_⟩:=h1.u3
  have hL:=yfh (h1.u0 j j0 j1);have:=(he e).1;obtain⟨n,s',hn,hsv⟩:=p2 (he e) e1 e2;exact⟨n,s',hn,by rw[hn01 Lf n (by omega) (by omega) hn]; exact hsv⟩
 ·by_cases hx:n=dataAt s
  ·exact .inr (.inl ⟨q,q0,q1,by omega⟩)
  ·rcases hff i n i0 i1 (by omega)with e | ⟨e,_⟩
   ·exact .inl ⟨e,ht.b i n i0 i1 hx⟩
   ·exact absurd e hx
theorem y2V {K B0:Int} {V:Int→Int→Int} {a:dA} (h:Rob B0 V a) (h1:a.2.2.2.2.2.2.2.1≤K) (h2:a.2.2.2.2.2.1≤K):Dd K (· =V) a:=fun f fl Lf hf hal=>by
 obtain⟨R,_,hr⟩:=h;obtain⟨Bf,_,g1,g2⟩:=hr f fl Lf hf hal;exact⟨V,rfl,_,_,_,_,_,R,Bf,h1,h2,g1,g2⟩
theorem y3r (a:dA) (s:Int) (d:List Int):(yv a s d).2.1=a.1∧(yv a s d).2.2.1=a.2.1∧(yv a s d).2.2.2.2.1=a.2.2.2.1∧(yv a s d).2.2.2.2.2.1=a.2.2.2.2.1:=by
 obtain⟨e1,e2,e3,e4,_⟩:=yQv a;obtain⟨c1,c2,c3,c4,_,_,_⟩:=yaS (yaT (yk a) ((yk a).2.2.2.2.2.1,s,d));unfold yv;generalize yj (yk a) ((yk a).2.2.2.2.2.1,s,d)=R at c1 c2 c3 c4 ⊢;obtain⟨g1,g2,g3,g4,_,_,_⟩:=yaS (ydU (yu R) s d);generalize yp (yu R) s d=Q at g1 g2 g3 g4 ⊢
 cases downA (yk a)
 ·cases downA R
  ·exact⟨(g1.trans c1).trans e1,(g2.trans c2).trans e2,(g3.trans c3).trans e3,(g4.trans c4).trans e4⟩
  ·exact⟨c1.trans e1,c2.trans e2,c3.trans e3,c4.trans e4⟩
 ·exact⟨e1,e2,e3,e4⟩
theorem y4X {a:dA} {s:Int} {d:List Int} (hk:Keep a) (hs:strOk a.2.1 s=true) (hq:0≤a.2.2.2.2.2.1) {i m:Int} (i0:0≤i) (i1:i<a.2.1.1) (m0:6≤m):(bdA (yv a s d).2 i m=true→bdA a i m=true)∧flA (yv a s d).2 i=flA a i:=by
 have hkc:Keep (yk a):=by
  unfold yk
  cases leb 4 (IntKind.i64.wrap (a.2.2.2.2.2.1-a.2.2.2.2.2.2.1))
  ·exact hk
  ·exact yB1 hk
 obtain⟨e1,e2,e3,e4,e5⟩:=yQv a;have hc:=y5N (m:=m) hk i0 i1 (by omega);have i1c:i<(yk a).2.1.1:=by rw[e2]; exact i1
 have hr:=yNo ((yk a).2.2.2.2.2.1,s,d) (ybm hkc);have hkr:=yye ((yk a).2.2.2.2.2.1,s,d) hkc;have hrb:=hr.d i m i0 i1c;have hrf:=hr.f i i0 i1c;unfold yv;generalize yj (yk a) ((yk a).2.2.2.2.2.1,s,d)=R at hr hkr hrb hrf ⊢;have hd:=yTr (a:=yu R) s d (ybm (a:=yu R) hkr);have i1r:i<(yu R).2.1.1:=by show i<R.2.1.1; rw[hr.g]; exact i1c
 have hdb:=hd.d i m i0 i1r;have hdf:=hd.f i i0 i1r;generalize yp (yu R) s d=Q at hdb hdf ⊢
 cases downA (yk a)
 ·cases downA R
  ·exact⟨fun h=>by have:=hrb (hdb h); rw[hc.1]at this; exact this,(hdf.trans hrf).trans hc.2⟩
  ·exact⟨fun h=>by have:=hrb h; rw[hc.1]at this; exact this,hrf.trans hc.2⟩
 ·exact⟨fun h=>by have:bdA (yk a) i m=true:=h; rw[hc.1]at this; exact this,hc.2⟩
theorem y5s {K s:Int} {d:List Int} {V:Int→Int→Int} {C:dA} (lc:Lv K V C) (h3:C.2.2.2.2.2.1-C.2.2.2.2.2.2.1≤3) (hq:C.2.2.2.2.2.1<60000) (hs:strOk C.2.1 s=true) (hl:(d.length:Int)=C.2.1.1-1) (hd:d.all isW=true) (hr:downA (yj C (C.2.2.2.2.2.1,s,d))=false) :
  (∃B0,Rob B0 (ym2 V C.2.1 s d) (yp (yu (yj C (C.2.2.2.2.2.1,s,d))) s d))∧Dd (K+1) (· =ym2 V C.2.1 s d) (yp (yu (yj C (C.2.2.2.2.2.1,s,d))) s d):=by
 obtain⟨B0,R,hR⟩:=lc.r;have rd:=y5p lc.x hR h3 hq hs hl hd hr;have c:=yaS (yaT C (C.2.2.2.2.2.1,s,d));have kp:=yye (C.2.2.2.2.2.1,s,d) lc.x.xk;have lcx:=lc.x.xc;unfold coreOk at lcx;have hg:=lc.x.xg;have hx:=lc.x.xs;generalize yj C (C.2.2.2.2.2.1,s,d)=P at rd c kp;have e5:=c.s
 have hsq:(yu P).2.2.2.2.2.1=C.2.2.2.2.2.1+1:=by
  show IntKind.i64.wrap (P.2.2.2.2.2.1+1)=_;rw[e5]; exact wr (by omega) (by omega)
 have hsg:(yu P).2.1=C.2.1:=c.g;have hst:(yu P).2.2.2.2.2.2.1=C.2.2.2.2.2.2.1:=c.t;have hse:(yu P).2.2.2.2.2.2.2.1=C.2.2.2.2.2.2.2.1:=c.e;have kp2:Keep (yu P):=kp;generalize yu P=U at rd hsq hsg hst hse kp2;have rr:=y5r (d:=d) (q:=C.2.2.2.2.2.1) (ybm kp2) (by rw[hsg]; exact hs) rd (by omega) (by omega) (by rw[yyy]);have g:=yaS (ydU U s d);have g5:=g.s;have g7:=g.e;exact⟨⟨B0,_,rr⟩,y2V ⟨_,rr⟩ (by omega) (by omega)⟩
theorem y5m {K s:Int} {d:List Int} {V:Int→Int→Int} {a:dA} (h:Lv K V a) (hs:strOk a.2.1 s=true) (hl:(d.length:Int)=a.2.1.1-1) (hd:d.all isW=true) (hq:a.2.2.2.2.2.1<60000) (hk:K+1≤60000) :
  (downA (yv a s d).2=false→Lv (K+2) (ym2 V a.2.1 s d) (yv a s d).2∧(yv a s d).1=0)∧(downA (yv a s d).2=true→Dd (K+2) (Two V (ym2 V a.2.1 s d)) (yv a s d).2∧(yv a s d).1≠0):=by
 have c:=h.x.xc;unfold coreOk at c;obtain⟨w1,w2,w3,w4⟩:=y3r a s d;have hb:=fun i m i0 i1 m0=>y4X (s:=s) (d:=d) h.x.xk hs (by omega) (i:=i) (m:=m) i0 i1 m0
 have up:=fun hu=>y5h h.x hs hl hd hq hk hu
 have key:(downA (yv a s d).2=false→ ∃B0,Rob B0 (ym2 V a.2.1 s d) (yv a s d).2)∧(downA (yv a s d).2=true→Dd (K+2) (Two V (ym2 V a.2.1 s d)) (yv a s d).2∧(yv a s d).1≠0):=by
  obtain⟨e1,e2,e3,e4,e5⟩:=yQv a;have l1:=y6k h hk;have l3:=fun hc=>(y4B h.x hk hc).2.2
  unfold yv;generalize yk a=C at e1 e2 e3 e4 e5 l1 l3
  cases hc:downA C
  ·have lc:=l1.1 hc
   have h3:=l3 hc;have rr:=y5s (s:=s) (d:=d) lc h3 (by omega) (by rw[e2]; exact hs) (by rw[e2]; exact hl) hd;have rt:=y5q lc h3 (by omega) (by rw[e2]; exact hs) (by rw[e2]; exact hl) hd;rw[e2]at rr rt;generalize yj C (C.2.2.2.2.2.1,s,d)=P at rr rt
   cases hr:downA P
   ·obtain⟨r1,r2⟩:=rr hr
    generalize yp (yu P) s d=Q at r1 r2;refine⟨fun _=>r1,fun hu=>⟨yu1 r2 (by omega) (fun X hX=> .inr hX),?_⟩⟩;have hu:downA Q=true:=hu;show(bif downA Q then(6:Int)else 0)≠0;rw[hu]; decide
   ·exact⟨(fun hu=>by have hu:downA P=false:=hu; rw[hr]at hu; cases hu),fun _=>⟨yu1 rt (by omega) (fun X hX=>hX),by show(6:Int)≠0; decide⟩⟩
  ·exact⟨(fun hu=>by have hu:downA C=false:=hu; rw[hc]at hu; cases hu),fun _=>⟨yu1 (l1.2 hc) (by omega) (fun X hX=> .inl hX),by show(6:Int)≠0; decide⟩⟩
 generalize yv a s d=W at w1 w2 w3 w4 hb up key;refine⟨fun hu=>⟨⟨(up hu).1,key.1 hu,?_⟩,(up hu).2⟩,key.2⟩;exact y4b h.n w2 w3 w4 (by omega) (fun i m i0 i1 m0=>(hb i m i0 i1 m0).1) (fun i i0 i1=>(hb i 6 i0 i1 (by omega)).2)
theorem y3D {K T L B:Int} {R:Int→Int×List Int} {V:Int→Int→Int} {A:dA} (hx:Ix K V A) (hn:Nb A) (hk:K+1≤60000)
  (old: ∀f fl Lf,Ch A f→Al A.2.2.2.1 A.2.1.1 (flA A) fl Lf→ ∃Bf,Wsup A.1 A.2.1 A.2.2.2.2.2.2.2.1 T L B Lf Bf f fl∧Wdat A.2.1 T A.2.2.2.2.2.1 R V Lf Bf f fl (bdA A))
  (new: ∀f fl Lf,Ch A f→Al A.2.2.2.1 A.2.1.1 (flA A) fl Lf→Wdat A.2.1 A.2.2.2.2.2.2.1 A.2.2.2.2.2.1 R V Lf A.2.2.2.2.1 f fl (bdA A)) :
  (downA (markA A)=false→Lv (K+1) V (markA A))∧(downA (markA A)=true→Dd (K+1) (· =V) (markA A)):=by
 have hxg:=hx.xg;have hxs:=hx.xs;have hm:Mk A:=y3E hx.xc hx.xk (by omega);have hmn:=hm.n;have hml:=hm.l;have ht:=yIQ hm.k;obtain⟨c1,c2,c3,c4,c5,c6,c7⟩:=yaS (yju A);have d1:(yW A).1=A.1:=rfl;have c7':(markA A).2.2.2.2.2.2.2.1=A.2.2.2.2.2.2.2.1+1:=by rw[c7]; exact wr (by omega) (by omega)
 have c1:(markA A).1=A.1:=c1;have c2:(markA A).2.1=A.2.1:=c2;have c3:(markA A).2.2.2.1=A.2.2.2.1:=c3;have c4:(markA A).2.2.2.2.1=A.2.2.2.2.1:=c4;have c5:(markA A).2.2.2.2.2.1=A.2.2.2.2.2.1:=c5;have c6:(markA A).2.2.2.2.2.2.1=A.2.2.2.2.2.2.1:=c6;have hmod:(IntKind.i64.wrap (A.2.2.2.2.2.2.2.1+1)).tmod 2<2:=Int.tmod_lt_of_pos _ (by omega);have hb: ∀i m,0≤i→i<A.2.1.1→6≤m→bdA (markA A) i m=true→bdA A i m=true:=fun i m i0 i1 _=>ht.d i m i0 i1
 refine⟨fun hu=>⟨y3z hx hk hu,⟨A.2.2.2.2.1,R,by rw[c4]; exact Int.le_refl _,fun f fl Lf hf hal=> ?_⟩,y4b hn c2 c3 c4 hml hb ht.f⟩,fun _ f fl Lf hf hal=>⟨V,rfl,?_⟩⟩
 ·rw[c2,c3]at hal
  have hal2:=yyL hal ht.f
  obtain⟨Bf,⟨h1,h2⟩,h3⟩:=y0f hm hu (fun i i0 i1=>y34 hx i0 i1) (fun i i0 i1 h=>y5K hx i0 i1 h) hf hal2 (fun f hf i n s i0 i1 hi hn2 hsv=>by
   obtain⟨Bf,g1,_⟩:=old f (flA A) A.2.2.2.1 hf (yHt A);obtain⟨k1,k2⟩:=g1.u1 i n s i0 i1 hi hn2 hsv;refine⟨k1,?_⟩;rcases k2 with k2 | k2
   ·omega
   ·rw[k2]; exact Int.le_refl _) (fun f hf=>new f fl Lf hf hal2) hn.z
  have he:Eq0 (markA A) fl Lf→Eq0 A fl Lf:=fun e=>⟨e.1.trans c3,fun i i0 i1=>(e.2 i i0 (by rw[c2]; exact i1)).trans (ht.f i i0 i1)⟩
  rw[c1,c2,c3,c5,c6,c7'];exact⟨Bf,⟨fun e=>h1 (he e),fun e=>h2 (he e)⟩,h3⟩
 ·rw[c2,c3]at hal
  have hal2:=yyL hal ht.f
  have hT:=y0g (T:=T) (L:=L) (B:=B) (Q:=A.2.2.2.2.2.1) (Lf:=Lf) (Lf2:=Lf) (R:=R) (V:=V) hm hf (fun i i0 i1 hi=>yCK hal2 i0 i1 hi) (fun f hf=>old f fl Lf hf hal2) (fun f hf=>new f fl Lf hf hal2) (fun f hf i i0 i1 hne=>by
   obtain⟨Bf,g1,_⟩:=old f fl Lf hf hal2
   exact g1.u2 i i0 i1 hne) (y6a hal2)
  rw[c1,c2];rcases hT with⟨Bf,h1,h2⟩ | ⟨Bf,h1,h2⟩
  ·exact⟨_,_,_,_,_,R,Bf,by omega,by omega,h1,h2⟩
  ·exact⟨_,_,_,_,_,R,Bf,by omega,by omega,h1,h2⟩
theorem y4H {m:dM} {k:Int} {v:List Int} (h:yqa (yfE m) k v):yqa m k v:=by
 rcases h with h | ⟨w,hw,_⟩
 ·exact .inl h
 ·cases hw
theorem y5Y {K m:Int} {V:Int→Int→Int} {a:dA} (h:Lv K V a) (hl:a.2.2.2.1= -1) (hm:inb m a.2.2.1.length=true) (hk:K+1≤60000) :
  (downA (failOne a m)=false→Lv (K+1) V (failOne a m))∧(downA (failOne a m)=true→Dd (K+1) (· =V) (failOne a m)):=by
 rw[y5S h.x (.inl hl) hk];have hmi:=zjA.1 hm;have hlen:=h.x.xk.1.2;have hx:=y3h h.x (.inl hl) hm;have hd: ∀i,0≤i→dsk (yY a m) i=bif m==i then yfE (dsk a m)else dsk a i:=fun i i0=>yLu m _ hm i0
 have hfl: ∀i,0≤i→flA (yY a m) i=(flA a i||i==m):=fun i i0=>by
  unfold flA;rw[hd i i0]
  by_cases e:m=i
  ·subst e; rw[beq_self_eq_true,Bool.or_true]; rfl
  ·rw[show(m==i)=false from beq_eq_false_iff_ne.2 e,show(i==m)=false from beq_eq_false_iff_ne.2 (fun e2=>e e2.symm),Bool.or_false]; rfl
 have hbd: ∀i n,0≤i→bdA (yY a m) i n=bdA a i n:=fun i n i0=>by
  unfold bdA;rw[hd i i0]
  by_cases e:m=i
  ·subst e; rw[beq_self_eq_true]; rfl
  ·rw[show(m==i)=false from beq_eq_false_iff_ne.2 e]; rfl
 have hch: ∀f,Ch (yY a m) f→Ch a f:=fun f hf i n i0 i1 n0=>by
  have:=hf i n i0 i1 n0;rw[hd i i0]at this
  by_cases e:m=i
  ·subst e; rw[beq_self_eq_true]at this; exact y4H this
  ·rw[show(m==i)=false from beq_eq_false_iff_ne.2 e]at this; exact this
 obtain⟨B0,R,hB,hr⟩:=h.r
 have key: ∀f fl Lf,Ch (yY a m) f→Al m a.2.1.1 (flA (yY a m)) fl Lf→Wsup a.1 a.2.1 a.2.2.2.2.2.2.2.1 a.2.2.2.2.2.2.1 a.2.2.2.1 B0 Lf 0 f fl∧Wdat a.2.1 a.2.2.2.2.2.2.1 a.2.2.2.2.2.1 R V Lf 0 f fl (bdA (yY a m)):=fun f fl Lf hf hal=>by
  have hal2:Al a.2.2.2.1 a.2.1.1 (flA a) fl Lf:=by
   rcases hal with⟨h1,h2⟩ | ⟨h1,h2,h3,h4⟩
   ·exact .inr ⟨by omega,by omega,.inl hl,fun i i0 i1=>by rw[h2 i i0 i1,hfl i i0,h1]⟩
   ·have:m=Lf:=by omega
    refine .inr ⟨h1,h2,.inl hl,fun i i0 i1=> ?_⟩;rw[h4 i i0 i1,hfl i i0,this]
    cases flA a i<;>cases(i==Lf)<;>rfl
  have hLf:Lf=m:=by rcases hal with⟨h1,_⟩ | ⟨_,_,h3,_⟩<;>omega
  obtain⟨Bf,_,h1,h2⟩:=hr f fl Lf (hch f hf) hal2;have hB0:Bf=0:=by rcases h1.u4 with⟨h3,_⟩ | ⟨_,_,_,_,h3⟩<;>omega
  subst hB0;exact⟨h1,ygC h2 (fun i n i0 i1 _ _=> .inl ⟨rfl,hbd i n i0⟩) (fun i n i0 i1 hb=>by rw[hbd i n i0]at hb; exact hb)⟩
 exact y3D (T:=a.2.2.2.2.2.2.1) (L:=a.2.2.2.1) (B:=B0) (R:=R) hx ⟨fun _ i s _ _ _ s0 s1=>absurd s1 (by show ¬s<0; omega),fun _ _=>rfl⟩ hk (fun f fl Lf hf hal=>⟨0,key f fl Lf hf hal⟩) (fun f fl Lf hf hal=>(key f fl Lf hf hal).2)
theorem yHU:(yey []).2=false∧(getRec []).2=false:=⟨by unfold yey; rfl,by unfold getRec; rfl⟩
theorem y5o (n:Nat) (k:Int):nth (List.replicate n ([]:List Int)) k []= []:=by
 unfold nth;rw[List.getD_eq_getElem?_getD,List.getElem?_replicate]
 split<;>rfl
theorem y5k {K:Int} {V:Int→Int→Int} {a:dA} (h:Lv K V a) (hm:inb a.2.2.2.1 a.2.2.1.length=true) (hf0:(nth a.2.2.1 a.2.2.2.1 noMem).2.2.1=true) (hk:K+1≤60000) :
  (downA (markA (spareNew a))=false→Lv (K+1) V (markA (spareNew a)))∧(downA (markA (spareNew a))=true→Dd (K+1) (· =V) (markA (spareNew a))):=by
 have hmi:=zjA.1 hm;have hlen:=h.x.xk.1.2;have hg:=yg.1 h.x.xc.1;have hx:=y3i h.x hm;have hLt:flA a a.2.2.2.1=true:=hf0;have hd: ∀i,0≤i→dsk (spareNew a) i=bif a.2.2.2.1==i then yaD (6+a.2.1.2)else dsk a i:=fun i i0=>yLu a.2.2.2.1 _ hm i0
 have hdo: ∀i,0≤i→i≠a.2.2.2.1→dsk (spareNew a) i=dsk a i:=fun i i0 hi=>by rw[hd i i0,show(a.2.2.2.1==i)=false from beq_eq_false_iff_ne.2 (fun e=>hi e.symm)]; rfl
 have hdl:dsk (spareNew a) a.2.2.2.1=(List.replicate (6+a.2.1.2).toNat [],[],false,[]):=by rw[hd _ hmi.1,beq_self_eq_true,cond_true,yu8 hg.2]
 have hlf:flA (spareNew a) a.2.2.2.1=false:=by unfold flA; rw[hdl]
 have hlb: ∀n,bdA (spareNew a) a.2.2.2.1 n=false:=fun n=>by unfold bdA; rw[hdl]; rfl
 obtain⟨B0,R,hB,hr⟩:=h.r
 have key: ∀f fl Lf,Ch (spareNew a) f→Al a.2.2.2.1 a.2.1.1 (flA (spareNew a)) fl Lf→Wsup a.1 a.2.1 a.2.2.2.2.2.2.2.1 a.2.2.2.2.2.2.1 a.2.2.2.1 B0 Lf 0 f fl∧Wdat a.2.1 a.2.2.2.2.2.2.1 a.2.2.2.2.2.1 R V Lf 0 f fl (bdA (spareNew a)):=fun f fl Lf hf hal=>by
  have hLf:Lf=a.2.2.2.1:=by rcases hal with⟨h1,_⟩ | ⟨_,_,h3,_⟩<;>omega
  subst hLf
  have hfn: ∀n,0≤n→f a.2.2.2.1 n= []:=fun n n0=>by
   rcases hf a.2.2.2.1 n hmi.1 (by show a.2.2.2.1<a.2.1.1; omega) n0 with h1 | ⟨w,hw,_⟩
   ·rw[h1,hdl]; exact y5o _ _
   ·rw[hdl]at hw; cases hw
  have hfe: ∀i,0≤i→i<a.2.1.1→i≠a.2.2.2.1→fl i=flA a i:=fun i i0 i1 hi=>by
   have e:flA (spareNew a) i=flA a i:=by unfold flA; rw[hdo i i0 hi]
   rcases hal with⟨_,h2⟩ | ⟨_,_,_,h2⟩
   ·rw[h2 i i0 i1,e]
   ·rw[h2 i i0 i1,e,show(i==a.2.2.2.1)=false from beq_eq_false_iff_ne.2 hi,Bool.or_false]
  obtain⟨f0,hf0d⟩: ∃f0:Int→Int→List Int,f0=fun i n=>if i=a.2.2.2.1 then curS (dsk a a.2.2.2.1) n else f i n:=⟨_,rfl⟩
  have hf0e: ∀i n,i≠a.2.2.2.1→f0 i n=f i n:=fun i n hi=>by rw[hf0d]; exact if_neg hi
  have hch:Ch a f0:=fun i n i0 i1 n0=>by
   by_cases e:i=a.2.2.2.1
   ·rw[hf0d]; simp only[if_pos e]; rw[e]; exact yya _ _
   ·rw[hf0e i n e]
    have:=hf i n i0 i1 n0;rw[hdo i i0 e]at this; exact this
  obtain⟨Bf,_,h1,h2⟩:=hr f0 (flA a) a.2.2.2.1 hch (yHt a)
  have hB0:Bf=0:=by
   rcases h1.u4 with⟨_,_,h3⟩ | ⟨_,_,_,_,h3⟩
   ·rcases h3 with h3 | ⟨h3,_⟩
    ·omega
    ·rw[hLt]at h3; cases h3
   ·exact h3
  subst hB0;have nf: ∀i,0≤i→i<a.2.1.1→flA a i=false→i≠a.2.2.2.1:=fun i _ _ hi e=>by rw[e,hLt]at hi; cases hi
  have nown: ¬(fl a.2.2.2.1=false∧OwnD a.1 (f a.2.2.2.1)):=fun⟨_,n,s,hn,hs⟩=>by
   have:=hs.1;rw[hfn n (by omega)]at this;have h2:=yHU.1;rw[this]at h2; cases h2
  refine⟨⟨h1.u0,fun i n s i0 i1 hi hn hs=> ?_,fun i i0 i1 hne=> ?_,?_,.inr ⟨hmi.1,by omega,nown,.inr rfl,rfl⟩⟩,⟨h2.e,h2.q,fun i s i0 i1 s0 s1 hi hlv hb hj=> ?_,fun q q0 q1=> ?_,fun i n r i0 i1 hi h3 h6 hgr=> ?_,h2.v,h2.l,fun i n i0 i1 hi hb=> ?_⟩⟩
  ·by_cases e:i=a.2.2.2.1
   ·subst e
    have:=hs.1;rw[hfn n (by omega)]at this;have h2:=yHU.1;rw[this]at h2; cases h2
   ·exact h1.u1 i n s i0 i1 ((hfe i i0 i1 e).symm.trans hi) hn (by rw[hf0e i n e]; exact hs)
  ·obtain⟨k1,n,s,hn,hs⟩:=h1.u2 i i0 i1 hne
   exact⟨(hfe i i0 i1 hne).trans k1,n,s,hn,by rw[← hf0e i n hne]; exact hs⟩
  ·obtain⟨i,i0,i1,hi,e⟩:=h1.u3
   have hne:=nf i i0 i1 hi;exact⟨i,i0,i1,(hfe i i0 i1 hne).trans hi,by rw[← hf0e i _ hne]; exact e⟩
  ·have hne:i≠a.2.2.2.1:=by omega
   rw[← hf0e i _ hne];refine h2.d i s i0 i1 s0 s1 ((hfe i i0 i1 hne).symm.trans hi) hlv ?_ hj;unfold bdA at hb ⊢;rw[hdo i i0 hne]at hb; exact hb
  ·obtain⟨i,i0,i1,hi,e⟩:=h2.r q q0 q1
   have hne:=nf i i0 i1 hi;exact⟨i,i0,i1,(hfe i i0 i1 hne).trans hi,by rw[← hf0e i _ hne]; exact e⟩
  ·by_cases e:i=a.2.2.2.1
   ·subst e
    rw[hfn n (by omega)]at hgr;have h2:=yHU.2;rw[hgr]at h2; cases h2
   ·exact h2.h i n r i0 i1 ((hfe i i0 i1 e).symm.trans hi) h3 h6 (by rw[hf0e i n e]; exact hgr)
  ·by_cases e:i=a.2.2.2.1
   ·subst e; rw[hlb n]at hb; cases hb
   ·refine h2.b i n i0 i1 ((hfe i i0 i1 e).symm.trans hi) ?_
    unfold bdA at hb ⊢;rw[hdo i i0 e]at hb; exact hb
 exact y3D (T:=a.2.2.2.2.2.2.1) (L:=a.2.2.2.1) (B:=B0) (R:=R) hx ⟨fun _ i s _ _ _ s0 s1=>absurd s1 (by show ¬s<0; omega),fun _ _=>rfl⟩ hk (fun f fl Lf hf hal=>⟨0,key f fl Lf hf hal⟩) (fun f fl Lf hf hal=>(key f fl Lf hf hal).2)
theorem y6l {id:Int} {g:dG} (hg:n_spec_GeoOk g=true) (h1:1≤id) (h2:id≤60000):Lv 0 (fun _ _=>0) (yeg id g):=by
 have hge:=yg.1 hg;have hd: ∀i,0≤i→i<g.1→dsk (yeg id g) i=yx id g i:=fun i i0 i1=>y4F hg h1 h2 i0 i1
 have e:=yFj hg h1 h2;have hx:=y6g hg h1 h2;have hfl: ∀i,0≤i→i<g.1→flA (yeg id g) i=false:=fun i i0 i1=>by unfold flA; rw[hd i i0 i1,(yrD id i hg).2.2]
 have hbd: ∀i n,0≤i→i<g.1→bdA (yeg id g) i n=false:=fun i n i0 i1=>by unfold bdA yaC; rw[hd i i0 i1,(yrD id i hg).2.2]; rfl
 have hpo: ∀i n v,0≤i→i<g.1→0≤n→yqa (dsk (yeg id g) i) n v→v=bif leb 6 n&&ltb n (6+g.2)then[0]else bif n==0 then n_spec_PutSuper (supC id g 0 0 (-1) 0 i)else[]:=fun i n v i0 i1 n0 h=>by
  have hn:=yPY (id:=id) (i:=i) hg g.2.toNat (Nat.le_refl _) n n0;rw[hd i i0 i1]at h;rcases h with h | ⟨w,hw,_⟩
  ·have h:v=nth ((List.range g.2.toNat).foldl yrC (yjF id g i)).1 n []:=h
   rw[h,hn,show((g.2.toNat:Nat):Int)=g.2 by omega]; rfl
  ·rw[(yrD id i hg).2.2]at hw; cases hw
 refine⟨hx,⟨0,fun _=>(0,[]),by rw[e]; exact Int.le_refl _,fun f fl Lf hf hal=> ?_⟩,⟨fun hn=>absurd (by rw[e]) hn,fun hn=>absurd (by rw[e]) hn⟩⟩;generalize hA:yeg id g=A at *;have a1:A.1=id:=by rw[e]
 have a2:A.2.1=g:=by rw[e]
 have a3:A.2.2.2.1= -1:=by rw[e]
 have a5:A.2.2.2.2.2.1=0:=by rw[e]
 have a6:A.2.2.2.2.2.2.1=0:=by rw[e]
 have a7:A.2.2.2.2.2.2.2.1=0:=by rw[e]
 have a4:A.2.2.2.2.1=0:=by rw[e]
 rw[a2,a3]at hal;have hf2: ∀i n,0≤i→i<g.1→0≤n→f i n=bif leb 6 n&&ltb n (6+g.2)then[0]else bif n==0 then n_spec_PutSuper (supC id g 0 0 (-1) 0 i)else[]:=fun i n i0 i1 n0=>hpo i n _ i0 i1 n0 (hf i n i0 (by rw[a2]; exact i1) n0)
 have f0: ∀i,0≤i→i<g.1→f i 0=n_spec_PutSuper (supC id g 0 0 (-1) 0 i):=fun i i0 i1=>by rw[hf2 i 0 i0 i1 (Int.le_refl _)]; rfl
 have fn: ∀i n,0≤i→i<g.1→1≤n→n<6→f i n= []:=fun i n i0 i1 h1 h6=>by
  rw[hf2 i n i0 i1 (by omega),zkt (show n<6 by omega),show(n==0)=false from beq_eq_false_iff_ne.2 (by omega)]; rfl
 have hok: ∀i,0≤i→i<g.1→n_spec_SuperOk (supC id g 0 0 (-1) 0 i)=true:=fun i i0 i1=>y2Z (by omega) hg ⟨h1,h2⟩ (by omega) (by omega) (by omega) (.inr rfl) i0 i1
 have nf: ∀i,0≤i→i<g.1→i≠Lf→fl i=false:=fun i i0 i1 hne=>y5I hal (fun i i0 i1 h=>by rw[hfl i i0 i1]at h; cases h) i0 i1 hne
 have own: ∀i,0≤i→i<g.1→OwnD id (f i):=fun i i0 i1=>⟨0,_,.inl rfl,by rw[f0 i i0 i1]; exact yyB (hok i i0 i1)⟩
 rw[a1,a2,a3,a5,a6,a7];refine⟨0,⟨fun _=>rfl,fun e1 e2=>absurd (e1.1.trans a3) e2⟩,⟨hok,fun i n s i0 i1 hi hn hs=> ?_,fun i i0 i1 hne=>⟨nf i i0 i1 hne,own i i0 i1⟩,?_,?_⟩,⟨y2v g,by omega,fun i s i0 i1 s0 s1 hi hlv hb hj=> ?_,fun q q0 q1=>by omega,fun i n r i0 i1 hi n2 n6 hr=> ?_,fun q q0 q1=>by omega,fun q q0 q1=>by omega,fun i n i0 i1 hi hb=>by rw[hbd i n i0 i1]at hb; cases hb⟩⟩
 ·rcases hn with rfl | rfl
  ·have hs1:=hs.1
   rw[f0 i i0 i1,yJX (hok i i0 i1)]at hs1;have:=congrArg (fun x=>x.1) hs1;simp only at this;subst this;exact⟨rfl,.inr rfl⟩
  ·have hs1:=hs.1
   rw[fn i 1 i0 i1 (by omega) (by omega)]at hs1;have h3:=yHU.1;rw[hs1]at h3; cases h3
 ·by_cases h:Lf=0
  ·exact⟨1,by omega,by omega,nf 1 (by omega) (by omega) (by omega),f0 1 (by omega) (by omega)⟩
  ·exact⟨0,by omega,by omega,nf 0 (by omega) (by omega) (fun e=>h e.symm),f0 0 (by omega) (by omega)⟩
 ·rcases hal with⟨h3,_⟩ | ⟨h3,h4,h5,h6⟩
  ·exact .inl ⟨h3,rfl,.inl h3⟩
  ·refine .inr ⟨h3,h4,fun h=> ?_,.inl rfl,rfl⟩
   have:=h.1;rw[h6 Lf h3 h4,beq_self_eq_true,Bool.or_true]at this; cases this
 ·rw[hf2 i (s+6) i0 i1 (by omega),zku (show 6≤s+6 by omega),zj2 (show s+6<6+g.2 by omega)]; rfl
 ·rw[fn i n i0 i1 (by omega) n6]at hr
  have h3:=yHU.2;rw[hr]at h3; cases h3
theorem yGn (ok:Nat→Bool) (c:Nat→dS): ∀n,let r:=(List.range n).foldl (fun s (i:Nat)=>ynz s (ok i) (c i)) (yeB,false)
  (r.2=true→ ∃i,i<n∧ok i=true∧r.1=c i)∧ ∀i,i<n→ok i=true→r.2=true∧(c i).2.1≤r.1.2.1
 | 0=>⟨fun h=>(by cases h),fun i hi=>absurd hi (Nat.not_lt_zero _)⟩
 | n+1=>by
  have ih:=yGn ok c n;simp only at ih ⊢;rw[List.range_succ,List.foldl_append,List.foldl_cons,List.foldl_nil];generalize (List.range n).foldl (fun s (i:Nat)=>ynz s (ok i) (c i)) (yeB,false)=r at ih ⊢;obtain⟨h1,h2⟩:=ih;unfold ynz
  cases hk:ok n
  ·refine⟨fun h=> ?_,fun i hi ho=> ?_⟩
   ·obtain⟨i,hi,ho,e⟩:=h1 h
    exact⟨i,by omega,ho,e⟩
   ·rcases Nat.lt_succ_iff_lt_or_eq.1 hi with h | h
    ·exact h2 i h ho
    ·subst h; rw[hk]at ho; cases ho
  ·cases hb:(!r.2||ltb r.1.2.1 (c n).2.1)
   ·rw[Bool.or_eq_false_iff,Bool.not_eq_false']at hb
    have hle:=zko hb.2;refine⟨fun h=> ?_,fun i hi ho=> ?_⟩
    ·obtain⟨i,hi,ho,e⟩:=h1 h
     exact⟨i,by omega,ho,e⟩
    ·rcases Nat.lt_succ_iff_lt_or_eq.1 hi with h | h
     ·exact h2 i h ho
     ·subst h; exact⟨hb.1,hle⟩
   ·refine⟨fun _=>⟨n,by omega,hk,rfl⟩,fun i hi ho=>⟨rfl,?_⟩⟩
    show(c i).2.1≤(c n).2.1;rcases Nat.lt_succ_iff_lt_or_eq.1 hi with h | h
    ·obtain⟨g1,g2⟩:=h2 i h ho
     rw[g1,Bool.not_true,Bool.false_or,zjE]at hb;omega
    ·subst h; exact Int.le_refl _
structure Fell (S:Int) (m:dM):Prop where
 ok:memOk m=true
 len:(m.1.length:Int)=6+S
 cac:m.2.1= []
theorem y4u {S:Int} {m:dM} (h:Fell S m) (hS:1≤S) (hf:m.2.2.1=false) {n:Int} (n0:0≤n) (n6:n<6) (hb:yaC m n=false):yy m n=(nth m.1 n [],true):=by
 rw[yTo h.ok hf (zjA.2 (by have:=h.len; omega)),hb,cond_false];unfold curS;rw[h.cac]; rfl
theorem y1Y {S id:Int} {m:dM} (h:Fell S m) (hS:1≤S) (hf:m.2.2.1=false) {n:Int} (n0:0≤n) (n6:n<6) (hb:yaC m n=false):(ysS m id n=true→SupV id n (nth m.1 n []) (yGo m n))∧ ∀s,SupV id n (nth m.1 n []) s→ysS m id n=true∧yGo m n=s:=by
 have hr:=y4u h hS hf n0 n6 hb;unfold ysS SupV yGo;rw[hr];refine⟨fun hc=> ?_,fun s ⟨h1,h2,h3⟩=> ?_⟩
 ·simp only[Bool.true_and,Bool.and_eq_true,beq_iff_eq]at hc
  exact⟨Prod.ext rfl hc.1,hc.2.1,hc.2.2⟩
 ·rw[h1]
  refine⟨?_,rfl⟩;show(true&&(true&&(s.1==id&&s.2.1.tmod 2==n)))=true;rw[h2,h3,beq_self_eq_true,beq_self_eq_true]; rfl
theorem yLq {S id:Int} {m:dM} (h:Fell S m) (hS:1≤S) (hf:m.2.2.1=false) (hb: ∀n,0≤n→n<6→yaC m n=false) :
  ((yT m id).2=true→ ∃n,(n=0∨n=1)∧SupV id n (nth m.1 n []) (yT m id).1)∧ ∀n s,(n=0∨n=1)→SupV id n (nth m.1 n []) s→(yT m id).2=true∧s.2.1≤(yT m id).1.2.1:=by
 obtain⟨b1,b2⟩:=yGn (fun(i:Nat)=>ysS m id i) (fun(i:Nat)=>yGo m i) 2;have e:yT m id=(List.range 2).foldl (fun s (i:Nat)=>ynz s (ysS m id i) (yGo m i)) (yeB,false):=rfl;rw[← e]at b1 b2;refine⟨fun h2=> ?_,fun n s hn hs=> ?_⟩
 ·obtain⟨i,hi,ho,e1⟩:=b1 h2
  have hc:=(y1Y (id:=id) h hS hf (n:=i) (by omega) (by omega) (hb i (by omega) (by omega))).1 ho;exact⟨i,by omega,by rw[e1]; exact hc⟩
 ·obtain⟨k,rfl⟩: ∃k:Nat,n=k:=⟨n.toNat,by omega⟩
  obtain⟨h1,h2⟩:=(y1Y (id:=id) h hS hf (n:=k) (by omega) (by omega) (hb k (by omega) (by omega))).2 s hs;have:=b2 k (by omega) h1;rw[h2]at this; exact this
structure FellAll (g:dG) (l:List dM):Prop where
 n:(l.length:Int)=g.1
 f: ∀i,0≤i→i<g.1→Fell g.2 (nth l i noMem)
def yyz (l:List dM) (i n:Int):List Int:=nth (nth l i noMem).1 n []
def flF (l:List dM) (i:Int):Bool:=(nth l i noMem).2.2.1
def bdF (l:List dM) (i n:Int):Bool:=yaC (nth l i noMem) n
theorem yTc {id:Int} {g:dG} {G T L B Lf Bf:Int} {l:List dM} (hl:FellAll g l) (hS:1≤g.2) (hs:Wsup id g G T L B Lf Bf (yyz l) (flF l)) (hb: ∀i n,0≤i→i<g.1→flF l i=false→bdF l i n=true→6≤n) {i:Int} (i0:0≤i) (i1:i<g.1) :
  (yhS (nth l i noMem) i id=true→flF l i=false∧OwnD id (yyz l i)∧ ∃n,(n=0∨n=1)∧SupV id n (yyz l i n) (yT (nth l i noMem) id).1)∧(flF l i=false→OwnD id (yyz l i)→yhS (nth l i noMem) i id=true):=by
 have hb2:flF l i=false→ ∀n,0≤n→n<6→yaC (nth l i noMem) n=false:=fun hf n n0 n6=>by
  cases hx:yaC (nth l i noMem) n
  ·rfl
  ·have:=hb i n i0 i1 hf hx; omega
 unfold yhS;constructor
 ·intro h
  simp only[Bool.and_eq_true,Bool.not_eq_true',beq_iff_eq]at h;obtain⟨n,hn,hsv⟩:=(yLq (id:=id) (hl.f i i0 i1) hS h.1 (hb2 h.1)).1 h.2.1;exact⟨h.1,⟨n,_,hn,hsv⟩,n,hn,hsv⟩
 ·intro hf ⟨n,s,hn,hsv⟩
  obtain⟨b1,b2⟩:=yLq (id:=id) (hl.f i i0 i1) hS hf (hb2 hf);obtain⟨g1,_⟩:=b2 n s hn hsv;obtain⟨k,hk,hkv⟩:=b1 g1;have hr:=(hs.u1 i k _ i0 i1 hf hk hkv).1;have hf':(nth l i noMem).2.2.1=false:=hf;rw[hf',g1,hr,beq_self_eq_true]; rfl
theorem y3S {id:Int} {g:dG} {G T L B Lf Bf:Int} {l:List dM} (hl:FellAll g l) (hS:1≤g.2) (hs:Wsup id g G T L B Lf Bf (yyz l) (flF l)) (hb: ∀i n,0≤i→i<g.1→flF l i=false→bdF l i n=true→6≤n): ∃i,(0≤i∧i<g.1)∧ydo l id=(supC id g G T L B i,true):=by
 obtain⟨b1,b2⟩:=yGn (fun(i:Nat)=>yhS (nth l i noMem) i id) (fun(i:Nat)=>(yT (nth l i noMem) id).1) l.length;have e:ydo l id=(List.range l.length).foldl (fun s (i:Nat)=>ynz s (yhS (nth l i noMem) i id) (yT (nth l i noMem) id).1) (yeB,false):=rfl;rw[← e]at b1 b2;have hn:=hl.n;obtain⟨j,j0,j1,jf,je⟩:=hs.u3;obtain⟨k,rfl⟩: ∃k:Nat,j=k:=⟨j.toNat,by omega⟩;have hsl:=yXj (yfh (hs.u0 k j0 j1)).1.1;have hsv:SupV id (G.tmod 2) (yyz l k (G.tmod 2)) (supC id g G T L B k):=by rw[je]; exact yyB (hs.u0 k j0 j1)
 have hown:=(yTc hl hS hs hb j0 j1).2 jf ⟨_,_,hsl,hsv⟩;obtain⟨g1,g2⟩:=b2 k (by omega) hown
 have hb2: ∀n,0≤n→n<6→yaC (nth l k noMem) n=false:=fun n n0 n6=>by
  cases hx:yaC (nth l k noMem) n
  ·rfl
  ·have:=hb k n j0 j1 jf hx; omega
 have g3:=((yLq (id:=id) (hl.f k j0 j1) hS jf hb2).2 _ _ hsl hsv).2;obtain⟨i,hi,ho,e1⟩:=b1 g1;obtain⟨if0,_,n,hn2,hsv2⟩:=(yTc hl hS hs hb (i:=i) (by omega) (by omega)).1 ho;have h3:=(hs.u1 i n _ (by omega) (by omega) if0 hn2 hsv2).2
 have hge:G≤(yT (nth l i noMem) id).1.2.1:=by
  have e2:(ydo l id).1.2.1=(yT (nth l i noMem) id).1.2.1:=by rw[e1]
  have e3:(supC id g G T L B k).2.1=G:=rfl;omega
 rcases h3 with h3 | h3
 ·omega
 ·exact⟨i,by omega,Prod.ext (e1.trans h3) g1⟩
theorem y1X {l:List dM} {id L B Lf:Int} (h1: ∀i:Nat,i<l.length→(i:Int)≠Lf→yhS (nth l i noMem) i id=true) (h2: ∀i:Nat,i<l.length→(i:Int)=Lf→yhS (nth l i noMem) i id=false→L= -1∨L=Lf) :
  ∀n,n≤l.length→(List.range n).foldl (ylt l id) (L,B,false)=bif leb 0 Lf&&(ltb Lf n&& !(yhS (nth l Lf noMem) Lf id))then(Lf,0,false)else(L,B,false)
 | 0,_=>by
  cases h0:leb 0 Lf
  ·rfl
  ·rw[zkv (show((0:Nat):Int)≤Lf from zjB.1 h0)]; rfl
 | n+1,hn=>by
  rw[List.range_succ,List.foldl_append,List.foldl_cons,List.foldl_nil,y1X h1 h2 n (by omega)]
  by_cases hnL:(n:Int)=Lf
  ·subst hnL
   rw[zku (show(0:Int)≤n by omega),zkv (Int.le_refl _),zj2 (show(n:Int)<((n+1:Nat):Int)by omega)];simp only[Bool.true_and,Bool.false_and,cond_false];unfold ylt
   cases ho:yhS (nth l n noMem) n id
   ·rcases h2 n (by omega) rfl ho with h3 | h3
    ·subst h3; rfl
    ·subst h3; rw[cond_false,beq_self_eq_true,Bool.or_true]; rfl
   ·rfl
  ·have ho:=h1 n (by omega) hnL
   have e:ltb Lf ((n+1:Nat):Int)=ltb Lf (n:Int):=by rw[Bool.eq_iff_iff,zjE,zjE]; omega
   rw[e];unfold ylt;rw[ho]; rfl
def yo8 (id:Int) (g:dG) (G T Lf Bf:Int) (l:List dM):dA:=(id,g,l,Lf,Bf,T,T,G,[],-1,false,false)
theorem y43 {id:Int} {g:dG} {G T L B Lf Bf:Int} {l:List dM} (hl:FellAll g l) (hs:Wsup id g G T L B Lf Bf (yyz l) (flF l)) (hb: ∀i n,0≤i→i<g.1→flF l i=false→bdF l i n=true→6≤n) :
  yfP l id=(yo8 id g G T Lf Bf l,true)∧coreOk (yo8 id g G T Lf Bf l)∧Keep (yo8 id g G T Lf Bf l):=by
 obtain⟨j,j0,j1,jf,_⟩:=hs.u3;obtain⟨s1,s2,s3,s4,s5,s6,s7⟩:=yfh (hs.u0 j j0 j1);have hg:=yg.1 s2;have hS:1≤g.2:=by omega
 have hn:=hl.n;obtain⟨i,⟨i0,i1⟩,hbest⟩:=y3S hl hS hs hb;have ow:=fun i i0 i1=>yTc hl hS hs hb (i:=i) i0 i1
 have hfold:(List.range l.length).foldl (ylt l id) (L,B,false)=(Lf,Bf,false):=by
  rw[y1X (Lf:=Lf) (fun i hi hne=>by
   obtain⟨k1,k2⟩:=hs.u2 i (by omega) (by omega) hne
   exact(ow i (by omega) (by omega)).2 k1 k2) (fun i hi he ho=>by
   rcases hs.u4 with⟨h1,_,h2⟩ | ⟨_,_,_,h4,_⟩
   ·exact .inr h1.symm
   ·exact h4) _ (Nat.le_refl _)]
  rcases hs.u4 with⟨h1,h2,h3⟩ | ⟨h1,h2,h3,h4,h5⟩
  ·rcases h3 with h3 | ⟨h3,h4⟩
   ·rw[zkt (show Lf<0 by omega),Bool.false_and,cond_false,h1,h2]
   ·cases h0:leb 0 Lf
    ·rw[Bool.false_and,cond_false,h1,h2]
    ·have h0:=zjB.1 h0
     rw[(ow Lf h0 (by omega)).2 h3 h4,Bool.not_true,Bool.and_false,Bool.and_false,cond_false,h1,h2]
  ·have ho:yhS (nth l Lf noMem) Lf id=false:=by
    cases hx:yhS (nth l Lf noMem) Lf id
    ·rfl
    ·obtain⟨k1,k2,_⟩:=(ow Lf h1 h2).1 hx
     exact absurd ⟨k1,k2⟩ h3
   rw[zku h1,zj2 (show Lf<((l.length:Nat):Int)by omega),ho,Bool.not_false,h5]; rfl
 have hall:yHw l id=yo8 id g G T Lf Bf l:=by
  unfold yHw;rw[hbest];show yv5 (supC id g G T L B i) l id ((List.range l.length).foldl (ylt l id) (L,B,false))=_;rw[hfold]; rfl
 have hL:(-1≤Lf∧Lf≤g.1-1)∧(0≤Bf∧Bf≤g.2)∧(Lf= -1→Bf=0):=by
  rcases hs.u4 with⟨h1,h2,_⟩ | ⟨h1,h2,_,_,h5⟩
  ·subst h1 h2; exact⟨s5,s6,fun h=>by omega⟩
  ·exact⟨by omega,by omega,fun h=>by omega⟩
 have hcore:coreOk (yo8 id g G T Lf Bf l):=⟨s2,s3,rfl,hL.1,hL.2.1,hL.2.2,s4,⟨Int.le_refl _,s4.2⟩,by show T≤T+4; omega,s1.1,s1.2⟩
 have hkeep:Keep (yo8 id g G T Lf Bf l):=by
  refine⟨⟨fun k hk=> ?_,hn⟩,by show -1≤(-1:Int); omega,by show(-1:Int)≤1000; omega⟩;have hk:k<l.length:=hk;have hf:=hl.f k (by omega) (by omega);refine⟨hf.ok,hf.len,fun h=> .inl ?_⟩;show(k:Int)=Lf
  by_cases e:(k:Int)=Lf
  ·exact e
  ·have:=(hs.u2 k (by omega) (by omega) e).1
   have h:flF l k=true:=h;rw[h]at this; cases this
 refine⟨?_,hcore,hkeep⟩;unfold yfP;rw[hall,hbest];show(bif true&&(((l.length:Int)==g.1)&&yR (yo8 id g G T Lf Bf l))then(yo8 id g G T Lf Bf l,true)else(yae,false))=_;rw[yHv.2 ⟨hcore,hkeep⟩,hn,beq_self_eq_true]; rfl
theorem y4A {α:Type} (p:α→Bool) (l:List α):leb 0 (yL p l)=l.any p:=by
 unfold yL
 cases l.any p
 ·rfl
 ·exact zku (show(0:Int)≤((l.takeWhile (fun x=> !p x)).length:Int)by omega)
theorem yIg {id:Int} {g:dG} {G T L B Lf Bf:Int} {f:Int→Int→List Int} {fl fl':Int→Bool} (h:Wsup id g G T L B Lf Bf f fl) (e: ∀i,0≤i→i<g.1→fl' i=fl i):Wsup id g G T L B Lf Bf f fl':=by
 refine⟨h.u0,fun i n s i0 i1 hi=>h.u1 i n s i0 i1 ((e i i0 i1).symm.trans hi),fun i i0 i1 hne=> ?_,?_,?_⟩
 ·rw[e i i0 i1]; exact h.u2 i i0 i1 hne
 ·obtain⟨i,i0,i1,h3⟩:=h.u3
  exact⟨i,i0,i1,by rw[e i i0 i1]; exact h3⟩
 ·rcases h.u4 with⟨h1,h2,h3⟩ | ⟨h1,h2,h3⟩
  ·refine .inl ⟨h1,h2,?_⟩
   obtain⟨i,i0,i1,_⟩:=h.u3;have:=(yfh (h.u0 i i0 i1)).2.2.2.2.1
   by_cases hm:Lf= -1
   ·exact .inl hm
   ·rw[e Lf (by omega) (by omega)]; exact h3
  ·refine .inr ⟨h1,h2,?_⟩
   rw[e Lf h1 h2]; exact h3
theorem yNp {g:dG} {T Q:Int} {R:Int→Int×List Int} {V:Int→Int→Int} {Lf Bf:Int} {f:Int→Int→List Int} {fl fl':Int→Bool} {bd:Int→Int→Bool} (h:Wdat g T Q R V Lf Bf f fl bd) (e: ∀i,0≤i→i<g.1→fl' i=fl i):Wdat g T Q R V Lf Bf f fl' bd :=
 ⟨h.e,h.q,fun i s i0 i1 s0 s1 hi=>h.d i s i0 i1 s0 s1 ((e i i0 i1).symm.trans hi),fun q q0 q1=>by
  obtain⟨i,i0,i1,h3⟩:=h.r q q0 q1
  exact⟨i,i0,i1,by rw[e i i0 i1]; exact h3⟩,fun i n r i0 i1 hi=>h.h i n r i0 i1 ((e i i0 i1).symm.trans hi),h.v,h.l,fun i n i0 i1 hi=>h.b i n i0 i1 ((e i i0 i1).symm.trans hi)⟩
theorem yZZ {a b:dA} (h:yl b=yl a):b.2.2.2.2.2.2.2.2.1=a.2.2.2.2.2.2.2.2.1:=congrArg (fun x=>x.2.2.2.2.2.2.2.1) h
theorem y4f (a:dA) (r:dN):(yj a r).2.2.2.2.2.2.2.2.1=a.2.2.2.2.2.2.2.2.1:=yZZ (yaT a r)
theorem y27 (a:dA) (s:Int) (d:List Int):(yp a s d).2.2.2.2.2.2.2.2.1=a.2.2.2.2.2.2.2.2.1:=yZZ (ydU a s d)
structure Way (id:Int) (g:dG) (G T L B Q:Int) (R:Int→Int×List Int) (V:Int→Int→Int) (Lf Bf:Int) (l0:List dM) (a:dA):Prop where
 e1:a.1=id
 e2:a.2.1=g
 e3:a.2.2.2.1=Lf
 e4:a.2.2.2.2.1=Bf
 e6:a.2.2.2.2.2.2.1=T
 e7:a.2.2.2.2.2.2.2.1=G
 e8:a.2.2.2.2.2.2.2.2.1= []
 e9:a.2.2.2.2.2.2.2.2.2.2.2=false
 kp:Keep a
 st: ∀f,Ch a f→Wsup id g G T L B Lf Bf f (flA a)∧Wdat g T Q R V Lf Bf f (flA a) (bdA a)
 fl: ∀i,0≤i→i<g.1→flA a i=flF l0 i
 bd: ∀i m,0≤i→i<g.1→6≤m→(bdA a i m=true→bdF l0 i m=true)∧(T=Q→bdA a i m=bdF l0 i m)
structure Rp (id:Int) (g:dG) (G T L B Q:Int) (R:Int→Int×List Int) (V:Int→Int→Int) (Lf Bf:Int) (l0:List dM) (q:Int) (a:dA):Prop where
 w:Way id g G T L B Q R V Lf Bf l0 a
 q0:T≤q
 q1:q≤Q
 s:a.2.2.2.2.2.1=q
 u:downA a=false
 c: ∀i,0≤i→i<g.1→(dsk a i).2.1.length≤1
 v: ∀i s,0≤i→i<g.1→0≤s→s<g.2→hasW a s i=true→(∀p,q≤p→p<Q→(R p).1≠s)→curS (dsk a i) (s+6)= [V s i]
section
variable {id:Int} {g:dG} {G T L B Q:Int} {R:Int→Int×List Int} {V:Int→Int→Int} {Lf Bf:Int} {l0:List dM}
theorem yHN (a:dA):Ch a (fun i n=>curS (dsk a i) n):=fun i n _ _ _=>yya _ _
theorem y3L {q:Int} {a:dA} (h:Rp id g G T L B Q R V Lf Bf l0 q a):(q<Q→yac a q=((q,R q),true))∧(q=Q→(yac a q).2=false):=by
 have hst:=h.w.st _ (yHN a);obtain⟨hs,hd⟩:=hst;have hq:=hd.q;have hq0:=h.q0;have hlen:=h.w.kp.1.2;rw[h.w.e2]at hlen;have hsl:=ylY (q:=q) (by omega);obtain⟨j,j0,j1,_⟩:=hs.u3;have hgo:=(yfh (hs.u0 j j0 j1)).2.1;have hg:=yg.1 hgo
 have rd: ∀i:Nat,i<a.2.2.1.length→yId a q i=bif flA a i then([],false)else(curS (dsk a i) (n_spec_SlotOf q),true):=fun i hi=>by
  have dk:=ycJ h.w.kp (i:=i) (by omega) (by rw[h.w.e2]; omega);rw[h.w.e2]at dk;unfold yId
  cases hf:flA a i
  ·have hbf:yaC (dsk a i) (n_spec_SlotOf q)=false:=by
    cases hx:yaC (dsk a i) (n_spec_SlotOf q)
    ·rfl
    ·have:=hd.b i _ (by omega) (by omega) hf hx; omega
   have:=yTo dk.1 hf (n:=n_spec_SlotOf q) (zjA.2 (by omega));rw[hbf]at this; exact this
  ·have hf:(nth a.2.2.1 i noMem).2.2.1=true:=hf
   unfold yy yu0;rw[hf,Bool.not_true,Bool.false_and,Bool.and_false]; rfl
 have hit: ∀i:Nat,i<a.2.2.1.length→ylW a q i=true→q<Q∧ytX a q i=(q,R q):=fun i hi hh=>by
  have r:=rd i hi;unfold ylW ytX at hh;unfold ytX;rw[r]at hh ⊢
  cases hf:flA a i
  ·rw[hf]at hh
   simp only[cond_false,Bool.true_and,Bool.and_eq_true,beq_iff_eq]at hh ⊢;have e:getRec (curS (dsk a i) (n_spec_SlotOf q))=((getRec (curS (dsk a i) (n_spec_SlotOf q))).1,true):=Prod.ext rfl hh.1;obtain⟨k1,k2⟩:=hd.h i (n_spec_SlotOf q) _ (by omega) (by omega) hf hsl.1 hsl.2.1 e;have hse:=hh.2.1;rw[hse]at k1 k2;exact⟨k1,Prod.ext hse (k2 hq0)⟩
  ·rw[hf]at hh
   simp only[cond_true,Bool.false_and]at hh
   cases hh
 refine⟨fun hlt=> ?_,fun he=> ?_⟩
 ·obtain⟨i,i0,i1,hi,e⟩:=hd.r q hq0 hlt
  obtain⟨k,rfl⟩: ∃k:Nat,i=k:=⟨i.toNat,by omega⟩;have hv:=hd.v q hq0 hlt;have hrk:=yM3 (q:=q) (by omega) (by omega) hv.1 hv.2.1 hv.2.2;have hstr:=yG.1 hv.1
  have hh:ylW a q k=true:=by
   unfold ylW ytX;rw[rd k (by omega),hi];have e:curS (dsk a k) (n_spec_SlotOf q)=putRec (q,R q):=e;rw[cond_false,e];show(true&&((getRec (putRec (q,R q))).2&&((getRec (putRec (q,R q))).1.1==q&&((leb 0 (getRec (putRec (q,R q))).1.2.1&&leb (getRec (putRec (q,R q))).1.2.1 (a.2.1.2-1))&&((getRec (putRec (q,R q))).1.2.2.length:Int)==a.2.1.1-1))))=true;rw[yGq hrk,h.w.e2];show(true&&(true&&(q==q&&((leb 0 (R q).1&&leb (R q).1 (g.2-1))&&((R q).2.length:Int)==g.1-1))))=true;rw[zku hstr.2.1,zku hstr.2.2,hv.2.1,beq_self_eq_true,beq_self_eq_true]; rfl
  have hsome:(yac a q).2=true:=by
   unfold yac;rw[y4A,List.any_eq_true.2 ⟨k,List.mem_range.2 (by omega),hh⟩]; rfl
  obtain⟨m,hm,h1,h2⟩:=yQF hsome;exact Prod.ext (h2.trans (hit m hm h1).2) hsome
 ·cases hx:(yac a q).2
  ·rfl
  ·obtain⟨m,hm,h1,_⟩:=yQF hx
   have:=(hit m hm h1).1; omega
theorem y54 {q:Int} {a:dA} (h:Way id g G T L B Q R V Lf Bf l0 a) (q0:T≤q) (q1:q<Q):Way id g G T L B Q R V Lf Bf l0 (yj a (q,R q)):=by
 have ok:=ybm h.kp;have ht:=yNo (q,R q) ok;have hc:=yaT a (q,R q);obtain⟨c1,c2,c3,c4,c5,c6,c7⟩:=yaS hc;have hq:=(h.st _ (yHN a)).2.q;have hsl:=ylY (q:=q) (by omega);have htf: ∀i,0≤i→i<g.1→flA (yj a (q,R q)) i=flA a i:=fun i i0 i1=>ht.f i i0 (by rw[h.e2]; exact i1)
 have htb: ∀i m,0≤i→i<g.1→6≤m→bdA (yj a (q,R q)) i m=bdA a i m:=fun i m i0 i1 m0=>ht.b i m i0 (by rw[h.e2]; exact i1) (fun e=>by have:m=n_spec_SlotOf q:=e; omega)
 refine⟨c1.trans h.e1,c2.trans h.e2,c3.trans h.e3,c4.trans h.e4,c6.trans h.e6,c7.trans h.e7,(y4f a (q,R q)).trans h.e8,(yug hc).trans h.e9,yye _ h.kp,fun f' hf=> ?_,fun i i0 i1=>(htf i i0 i1).trans (h.fl i i0 i1),fun i m i0 i1 m0=>by rw[htb i m i0 i1 m0]; exact h.bd i m i0 i1 m0⟩;obtain⟨f,hf0,hff⟩:=ht.c f' hf;rw[h.e2]at hff;obtain⟨h1,h2⟩:=h.st f hf0;have hfl: ∀i,0≤i→i<g.1→flA (yj a (q,R q)) i=false→flA a i=false:=fun i i0 i1 hi=>(htf i i0 i1).symm.trans hi
 refine⟨yIg (ygD h1 (fun i n i0 i1 _ hn=> ?_)) htf,yNp (y5A h2 q0 q1 (fun i n i0 i1 _ hn=>hff i n i0 i1 (by omega)) htb (fun i n i0 i1 hb=>ht.d i n i0 (by rw[h.e2]; exact i1) hb)) htf⟩;rcases hff i n i0 i1 (by omega)with e | ⟨e,_⟩
 ·exact e
 ·have:n=n_spec_SlotOf q:=e
  omega
theorem y5z {q:Int} {a:dA} (h:Way id g G T L B Q R V Lf Bf l0 a) (q0:T≤q) (q1:q<Q):Way id g G T L B Q R V Lf Bf l0 (yp a (R q).1 (R q).2):=by
 have ok:=ybm h.kp;have ht:=yTr (R q).1 (R q).2 ok;have hc:=ydU a (R q).1 (R q).2;obtain⟨c1,c2,c3,c4,c5,c6,c7⟩:=yaS hc;have hst:=(h.st _ (yHN a)).2;have hs1:=yG.1 (hst.v q q0 q1).1;have hg:=yg.1 hs1.1;have hda:=yjs (s:=(R q).1) hs1.2.1 (by omega);have htf: ∀i,0≤i→i<g.1→flA (yp a (R q).1 (R q).2) i=flA a i:=fun i i0 i1=>ht.f i i0 (by rw[h.e2]; exact i1)
 refine⟨c1.trans h.e1,c2.trans h.e2,c3.trans h.e3,c4.trans h.e4,c6.trans h.e6,c7.trans h.e7,(y27 a _ _).trans h.e8,(yug hc).trans h.e9,yF7 _ _ h.kp,fun f' hf=> ?_,fun i i0 i1=>(htf i i0 i1).trans (h.fl i i0 i1),fun i m i0 i1 m0=>⟨fun hb=>(h.bd i m i0 i1 m0).1 (ht.d i m i0 (by rw[h.e2]; exact i1) hb),fun e=>by omega⟩⟩;obtain⟨f,hf0,hff⟩:=ht.c f' hf;rw[h.e2]at hff;obtain⟨h1,h2⟩:=h.st f hf0;refine⟨yIg (ygD h1 (fun i n i0 i1 _ hn=> ?_)) htf,yNp (ygC h2 (fun i n i0 i1 hi hn=> ?_) (fun i n i0 i1 hb=>ht.d i n i0 (by rw[h.e2]; exact i1) hb)) htf⟩
 ·rcases hff i n i0 i1 (by omega)with e | ⟨e,_⟩
  ·exact e
  ·omega
 ·by_cases e:n=dataAt (R q).1
  ·exact .inr (.inl ⟨q,q0,q1,by omega⟩)
  ·rcases hff i n i0 i1 (by omega)with e2 | ⟨e2,_⟩
   ·exact .inl ⟨e2,ht.b i n i0 (by rw[h.e2]; exact i1) e⟩
   ·exact absurd e2 e
theorem y52 {q:Int} {a:dA} (h:Rp id g G T L B Q R V Lf Bf l0 q a) (hq:q<Q):Way id g G T L B Q R V Lf Bf l0 (yhU a)∧(downA (yhU a)=false→Way id g G T L B Q R V Lf Bf l0 (ylX a)∧(downA (ylX a)=false→Rp id g G T L B Q R V Lf Bf l0 (q+1) (ylX a))):=by
 have hfd:=(y3L h).1 hq;have e1:yhU a=yj a (q,R q):=by unfold yhU; rw[h.s,hfd]
 have e2:ylX a=yp (yu (yj a (q,R q))) (R q).1 (R q).2:=by unfold ylX; rw[e1,h.s,hfd]
 rw[e1,e2];have w1:=y54 h.w h.q0 hq;refine⟨w1,fun hu1=> ?_⟩;have w2:Way id g G T L B Q R V Lf Bf l0 (yu (yj a (q,R q))):=⟨w1.e1,w1.e2,w1.e3,w1.e4,w1.e6,w1.e7,w1.e8,w1.e9,w1.kp,w1.st,w1.fl,w1.bd⟩;have w3:=y5z w2 h.q0 hq;refine⟨w3,fun hu2=> ?_⟩;have hst:=(h.w.st _ (yHN a)).2;have hv:=hst.v q h.q0 hq;have hs1:=yG.1 hv.1;have hg:=yg.1 hs1.1;have hqq:=hst.q;have hq0:=h.q0;have hlen:=h.w.kp.1.2;rw[h.w.e2]at hlen;have hl1:(yj a (q,R q)).2.2.1.length=a.2.2.1.length:=yNm a _;have hd1: ∀i,0≤i→i<g.1→dsk (yj a (q,R q)) i=ym (ydZ (n_spec_SlotOf q) (putRec (q,R q)) (dsk a i)):=fun i i0 i1=>yNl hu1 i0 (by omega)
 have dk: ∀i,0≤i→i<g.1→memOk (dsk a i)=true∧((dsk a i).1.length:Int)=6+g.2:=fun i i0 i1=>by
  have:=ycJ h.w.kp i0 (by rw[h.w.e2]; exact i1);rw[h.w.e2]at this; exact⟨this.1,this.2.1⟩
 have hsq:(yu (yj a (q,R q))).2.2.2.2.2.1=q+1:=by
  show IntKind.i64.wrap ((yj a (q,R q)).2.2.2.2.2.1+1)=_;rw[yfQ (yaT a (q,R q)),h.s]; exact wr (by omega) (by omega)
 have less1: ∀i,0≤i→i<g.1→yCG g.2 (dsk a i) (dsk (yj a (q,R q)) i):=fun i i0 i1=>by
  rw[hd1 i i0 i1];exact yIt (yRx (ylY (q:=q) (by omega)).2.1) (yB3 (yrw (dk i i0 i1).1))
 have cac1: ∀i,0≤i→i<g.1→(dsk (yj a (q,R q)) i).2.2.1=false→(dsk (yj a (q,R q)) i).2.1= []:=fun i i0 i1 hf=>by
  rw[hd1 i i0 i1]at hf ⊢;rw[(yu4 _).2]at hf;exact(yBW (yrw (dk i i0 i1).1) hf).1
 have cac2: ∀i,0≤i→i<g.1→(dsk (yj a (q,R q)) i).2.1.length≤1:=fun i i0 i1=>by
  rw[hd1 i i0 i1];exact Nat.le_trans (yws (dk i i0 i1).1) (h.c i i0 i1)
 have hlq: ∀i,yM (yj a (q,R q)).2.2.2.1 (yj a (q,R q)).2.2.2.2.1 i=yM Lf Bf i:=fun i=>by rw[w1.e3,w1.e4]
 have hv1: ∀i s,0≤i→i<g.1→0≤s→s<g.2→hasW (yj a (q,R q)) s i=true→(∀p,q≤p→p<Q→(R p).1≠s)→curS (dsk (yj a (q,R q)) i) (s+6)= [V s i]:=fun i s i0 i1 s0 s1 hh hj=>by
  unfold hasW at hh;rw[hlq,Bool.and_eq_true,Bool.not_eq_true']at hh
  have hf:(dsk (yj a (q,R q)) i).2.2.1=false:=by
   have:=hh.1;simp only[yM,Bool.and_eq_true,Bool.not_eq_true']at this; exact this.1
  obtain⟨g1,g2⟩:=less1 i i0 i1 hf;obtain⟨g3,g4⟩:=g2 (s+6) (by omega) (by omega) hh.2;rw[g4];refine h.v i s i0 i1 s0 s1 ?_ hj;unfold hasW;rw[h.w.e3,h.w.e4,g3];have:=hh.1;unfold yM at this ⊢;rw[hf]at this;rw[g1,this]; rfl
 have kd:Keep (yu (yj a (q,R q))):=w2.kp
 have hd2: ∀i,0≤i→i<g.1→dsk (yp (yu (yj a (q,R q))) (R q).1 (R q).2) i=yjt Lf Bf (parityOf g (R q).1) g.1 (R q).1 (R q).2 i (dsk (yj a (q,R q)) i):=fun i i0 i1=>by
  have:=yCI (yQx (a:=yu (yj a (q,R q))) (R q).1 (R q).2 hu1) hu2 i0 (by show i<((yj a (q,R q)).2.2.1.length:Int); omega);rw[w2.e2,w2.e3,w2.e4]at this; exact this
 have hda:=yjs (s:=(R q).1) hs1.2.1 (by omega);refine⟨w3,by omega,by omega,(yfQ (ydU _ _ _)).trans hsq,hu2,fun i i0 i1=> ?_,fun i s i0 i1 s0 s1 hh hj=> ?_⟩
 ·rw[hd2 i i0 i1]
  obtain⟨c1,c2⟩:=yPT Lf Bf (parityOf g (R q).1) g.1 (R q).1 (R q).2 i (dsk (yj a (q,R q)) i)
  cases hf:(dsk (yj a (q,R q)) i).2.2.1
  ·rw[cac1 i i0 i1 hf]at c1; exact c1
  ·rw[c2 hf]; exact cac2 i i0 i1
 ·unfold hasW at hh
  rw[w3.e3,w3.e4,hd2 i i0 i1,Bool.and_eq_true,Bool.not_eq_true']at hh;rw[hd2 i i0 i1]
  by_cases hs:s=(R q).1
  ·subst hs
   have hlv:yM Lf Bf i (R q).1 (dsk (yj a (q,R q)) i)=true:=by
    have:=hh.1;unfold yM at this ⊢;rw[(yBZ (S:=0) (-1) (by omega)).1]at this;exact this
   have hf:(dsk (yj a (q,R q)) i).2.2.1=false:=by
    simp only[yM,Bool.and_eq_true,Bool.not_eq_true']at hlv; exact hlv.1
   have dk2:=ycJ w1.kp i0 (by rw[w1.e2]; exact i1);rw[w1.e2]at dk2;unfold yjt;rw[hlv,cond_true,yqh (ysR dk2.1 hf (by rw[hda]; exact zjA.2 (by omega)) (yzQ.2 ⟨by simp,fun x hx=> ?_⟩) (by rw[cac1 i i0 i1 hf]; decide)),hda,beq_self_eq_true,cond_true,hst.l q hq0 hq (fun p p0 p1=>hj p (by omega) p1) i i0 i1];rw[List.mem_singleton.1 hx];exact yu7.1 (yLt hv.2.2)
  ·obtain⟨e1,e2,e3⟩:=yBZ (L:=Lf) (B:=Bf) (p:=parityOf g (R q).1) (N:=g.1) (s:=(R q).1) (i:=i) (d:=(R q).2) (S:=0) (m:=dsk (yj a (q,R q)) i) (s+6) (by omega)
   rw[e3];refine hv1 i s i0 i1 s0 s1 ?_ (fun p p0 p1=> ?_)
   ·unfold hasW
    rw[hlq];rw[e2]at hh;have h2:=hh.1;unfold yM at h2 ⊢;rw[e1]at h2;rw[h2,hh.2]; rfl
   ·by_cases e:p=q
    ·subst e; exact fun e=>hs e.symm
    ·exact hj p (by omega) p1
theorem y5L: ∀(k i:Nat) (q:Int) (a:dA),Rp id g G T L B Q R V Lf Bf l0 q a→Q≤q+k→(∀b,goE ysB .inl k i a= .inl b→Rp id g G T L B Q R V Lf Bf l0 Q b)∧ ∀b,goE ysB .inl k i a= .inr b→downA b=true∧Way id g G T L B Q R V Lf Bf l0 b
 | 0,i,q,a,h,hk=>by
  have hq:q=Q:=by have:=h.q1; omega
  refine⟨fun b hb=> ?_,fun b hb=> ?_⟩
  ·cases hb; subst hq; exact h
  ·cases hb
 | k+1,i,q,a,h,hk=>by
  have hf:=y3L h;have hq1:=h.q1;have hst:=(h.w.st _ (yHN a)).2.q;unfold goE ysB
  by_cases hq:q=Q
  ·have h2:=hf.2 hq
   rw[h.s,h2];refine⟨fun b hb=> ?_,fun b hb=> ?_⟩
   ·cases hb; subst hq; exact h
   ·cases hb
  ·have h2:=hf.1 (by omega)
   obtain⟨w1,w2⟩:=y52 h (by omega);rw[h.s,h2,zkt (show q<60000 by omega)]
   cases hu1:downA (yhU a)
   ·obtain⟨w3,w4⟩:=w2 hu1
    cases hu2:downA (ylX a)
    ·exact y5L k (i+1) (q+1) (ylX a) (w4 hu2) (by omega)
    ·refine⟨(fun b hb=>by cases hb),fun b hb=> ?_⟩
     cases hb; exact⟨hu2,w3⟩
   ·refine⟨(fun b hb=>by cases hb),fun b hb=> ?_⟩
    cases hb; exact⟨hu1,w1⟩
end
structure Back (K id:Int) (g:dG) (V:Int→Int→Int) (Lf:Int) (l:List dM) (x:dA):Prop where
 bi:x.1=id
 bg:x.2.1=g
 bl:x.2.2.2.1=Lf
 bc:x.2.2.2.2.2.2.2.2.1= []
 bb:x.2.2.2.2.2.2.2.2.2.2.2=false
 bk:Keep x
 bf: ∀i,0≤i→i<g.1→flA x i=flF l i
 be: ∀i m,0≤i→i<g.1→6≤m→bdA x i m=true→bdF l i m=true
 dn:downA x=true→ ∀f,Ch x f→WW K id g V Lf f (flA x) (bdA x)
 up:downA x=false→Ix K V x∧Rob x.2.2.2.2.1 V x∧x.2.2.2.2.2.2.1=x.2.2.2.2.2.1∧(x.2.2.2.1≠ -1→flA x x.2.2.2.1=true→x.2.2.2.2.1=0)
theorem yZ5 {l:List dM} (ks:List Int) {i:Int} (i0:0≤i) (i1:i<(l.length:Int)):nth (yJ l ks) i noMem=ydA (nth l i noMem) (yMb ks i.toNat):=by
 obtain⟨k,rfl⟩: ∃k:Nat,i=k:=⟨i.toNat,by omega⟩;unfold yJ;rw[zkk,zkb (by rw[List.length_map,List.length_range]; omega),List.getElem_map,List.getElem_range]; rfl
theorem y4o (b:dA):(checkA b).2.2.2.2.2.2.2.2.2.2.2=b.2.2.2.2.2.2.2.2.2.2.2:=by
 have h1:=yug (yag b);unfold checkA
 cases downA (yb b)
 ·exact(yug (yju (yB (yb b)))).trans h1
 ·exact h1
theorem yM4 {K id:Int} {g:dG} {G T L B Q:Int} {R:Int→Int×List Int} {V:Int→Int→Int} {Lf Bf:Int} {l:List dM} {ks:List Int} {fuse:Int} (hn:(l.length:Int)=g.1) (hm: ∀i,0≤i→i<g.1→memOk (nth l i noMem)=true∧((nth l i noMem).1.length:Int)=6+g.2) (hG:G≤K) (hQ:Q≤K) (hK:K+1≤60000) (hfu: -1≤fuse∧fuse≤1000)
  (hs:Wsup id g G T L B Lf Bf (yyz (yJ l ks)) (flF l)) (hd:Wdat g T Q R V Lf Bf (yyz (yJ l ks)) (flF l) (bdF l)) :
  ∃x,ymU l ks id fuse=(x,true)∧Back (K+1) id g V Lf l x∧x.2.2.2.2.1=Bf∧(T=Q→ ∀i m,0≤i→i<g.1→6≤m→bdA x i m=bdF l i m):=by
 have hfn:=fun i i0 i1=>yZ5 (l:=l) ks (i:=i) i0 i1
 have hfr: ∀i,0≤i→i<g.1→(nth (yJ l ks) i noMem).2.1= []∧(nth (yJ l ks) i noMem).2.2=(nth l i noMem).2.2∧(nth (yJ l ks) i noMem).1.length=(nth l i noMem).1.length:=fun i i0 i1=>by
  rw[hfn i i0 (by omega)]; exact yZ6 (hm i i0 i1).1 _
 have hFA:FellAll g (yJ l ks):=⟨by unfold yJ; rw[List.length_map,List.length_range]; exact hn,fun i i0 i1=>⟨by rw[hfn i i0 (by omega)]; exact y5T (hm i i0 i1).1 _,by rw[(hfr i i0 i1).2.2]; exact(hm i i0 i1).2,(hfr i i0 i1).1⟩⟩;have hfl: ∀i,0≤i→i<g.1→flF (yJ l ks) i=flF l i:=fun i i0 i1=>by unfold flF; rw[(hfr i i0 i1).2.1]
 have hbd: ∀i m,0≤i→i<g.1→bdF (yJ l ks) i m=bdF l i m:=fun i m i0 i1=>by unfold bdF yaC; rw[(hfr i i0 i1).2.1]
 have hs2:=yIg hs hfl;obtain⟨hasm,hcore,hkeep⟩:=y43 hFA hs2 (fun i n i0 i1 hf hb=>hd.b i n i0 i1 ((hfl i i0 i1).symm.trans hf) (by rw[← hbd i n i0 i1]; exact hb));have hcoreq:yl (ymV (yo8 id g G T Lf Bf (yJ l ks)) fuse false)=yl (yo8 id g G T Lf Bf (yJ l ks)):=rfl;obtain⟨a0,ha0⟩: ∃a0,a0=ymV (yo8 id g G T Lf Bf (yJ l ks)) fuse false:=⟨_,rfl⟩;have hk0:Keep a0:=by rw[ha0]; exact⟨hkeep.1,hfu⟩
 have hc0:coreOk a0:=by rw[ha0]; exact yB6 hcoreq hcore
 have hdk: ∀i,dsk a0 i=nth (yJ l ks) i noMem:=fun i=>by rw[ha0]; rfl
 have hrec:ymU l ks id fuse=(yM5 a0,true):=by
  unfold ymU;rw[hasm];show(ynV (bif leb (-1) fuse&&leb fuse 1000 then ymV (yo8 id g G T Lf Bf (yJ l ks)) fuse false else yo8 id g G T Lf Bf (yJ l ks)),true)=_;rw[zku hfu.1,zku hfu.2];show(ynV (ymV (yo8 id g G T Lf Bf (yJ l ks)) fuse false),true)=_;rw[← ha0];unfold ynV;rw[yHv.2 ⟨hc0,hk0⟩];have e1:downA a0=false:=by rw[ha0]; rfl
  have e2:a0.2.2.2.2.2.2.2.2.2.2.2=false:=by rw[ha0]; rfl
  have e3:a0.2.2.2.2.2.2.2.1=G:=by rw[ha0]; rfl
  rw[e1,e2,e3,zj2 (show G<60000 by omega)]; rfl
 have hst: ∀f,Ch a0 f→ ∀i n,0≤i→i<g.1→0≤n→f i n=yyz (yJ l ks) i n:=fun f hf i n i0 i1 n0=>by
  rcases hf i n i0 (by rw[ha0]; exact i1) n0 with h | ⟨w,hw,_⟩
  ·rw[h,hdk]; rfl
  ·rw[hdk,(hfr i i0 i1).1]at hw; cases hw
 have hflA: ∀i,0≤i→i<g.1→flA a0 i=flF l i:=fun i i0 i1=>by unfold flA; rw[hdk]; exact hfl i i0 i1
 have hbdA: ∀i m,0≤i→i<g.1→bdA a0 i m=bdF l i m:=fun i m i0 i1=>by unfold bdA; rw[hdk]; exact hbd i m i0 i1
 have way:Way id g G T L B Q R V Lf Bf l a0:=by
  refine⟨by rw[ha0]; rfl,by rw[ha0]; rfl,by rw[ha0]; rfl,by rw[ha0]; rfl,by rw[ha0]; rfl,by rw[ha0]; rfl,by rw[ha0]; rfl,by rw[ha0]; rfl,hk0,fun f hf=>⟨?_,?_⟩,hflA,fun i m i0 i1 _=>⟨fun h=>by rw[← hbdA i m i0 i1]; exact h,fun _=>hbdA i m i0 i1⟩⟩
  ·exact yIg (ygD hs (fun i n i0 i1 _ hn=>hst f hf i n i0 i1 (by omega))) hflA
  ·exact yNp (ygC hd (fun i n i0 i1 _ hn=> .inl ⟨hst f hf i n i0 i1 (by omega),hbdA i n i0 i1⟩) (fun i n i0 i1 h=>by rw[← hbdA i n i0 i1]; exact h)) hflA
 have hq:=hd.q
 have rp:Rp id g G T L B Q R V Lf Bf l T a0:=by
  refine⟨way,Int.le_refl _,hq.2.1,by rw[ha0]; rfl,by rw[ha0]; rfl,fun i i0 i1=>by rw[hdk,(hfr i i0 i1).1]; exact Nat.zero_le _,fun i s i0 i1 s0 s1 hh hj=> ?_⟩;unfold hasW at hh;rw[way.e3,way.e4,Bool.and_eq_true,Bool.not_eq_true']at hh;have h1:=hh.1;simp only[yM,Bool.and_eq_true,Bool.not_eq_true',Bool.or_eq_true,bne_iff_ne,ne_eq,zjE]at h1
  have hc:curS (dsk a0 i) (s+6)=yyz (yJ l ks) i (s+6):=by
   unfold curS;rw[hdk,(hfr i i0 i1).1]; rfl
  rw[hc];exact hd.d i s i0 i1 s0 s1 ((hflA i i0 i1).symm.trans h1.1) h1.2 ((hbdA i (s+6) i0 i1).symm.trans hh.2) hj
 obtain⟨g1,g2⟩:=y5L 4 0 T a0 rp (by omega);refine⟨yM5 a0,hrec,?_⟩;unfold yM5
 cases hgo:goE ysB .inl 4 0 a0 with
 | inr b =>
  obtain⟨hdn,w⟩:=g2 b hgo
  exact⟨⟨w.e1,w.e2,w.e3,w.e8,w.e9,w.kp,w.fl,fun i m i0 i1 m0=>(w.bd i m i0 i1 m0).1,fun _ f hf=>by
   obtain⟨h1,h2⟩:=w.st f hf
   exact⟨G,T,L,B,Q,R,Bf,by omega,by omega,h1,h2⟩,fun hu=>by rw[hdn]at hu; cases hu⟩,w.e4,fun e i m i0 i1 m0=>(w.bd i m i0 i1 m0).2 e⟩
 | inl b =>
  have r:=g1 b hgo;have w:=r.w;obtain⟨j,j0,j1,_⟩:=hs.u3;obtain⟨s1,s2,s3,s4,s5,s6,s7⟩:=yfh (hs.u0 j j0 j1);have hL:(-1≤Lf∧Lf≤g.1-1)∧(0≤Bf∧Bf≤g.2)∧(Lf= -1→Bf=0):=⟨hcore.2.2.2.1,hcore.2.2.2.2.1,hcore.2.2.2.2.2.1⟩
  have hcb:coreOk b:=by
   unfold coreOk;rw[w.e1,w.e2,w.e3,w.e4,w.e6,w.e7,w.e8,r.s];exact⟨s2,s3,rfl,hL.1,hL.2.1,hL.2.2,s4,⟨hq.2.1,hq.2.2.2⟩,hq.2.2.1,s1.1,s1.2⟩
  have hwd:=fun f hf=>w.st f hf
  have hix:Ix K V b:=⟨hcb,w.kp,r.u,w.e9,by rw[w.e7]; exact hG,by rw[r.s]; exact hQ,by rw[w.e2]; exact hd.e,fun i s i0 i1 s0 s1 hh=>by
   rw[w.e2]at i1 s1;exact r.v i s i0 i1 s0 s1 hh (fun p p0 p1=>by omega),fun i i0 i1=>by
   rw[w.e2]at i1;have:=r.c i i0 i1
   have h0:(0:Int)≤bif i==b.2.2.2.1 then b.2.2.2.2.1 else 0:=by
    rw[w.e4]
    cases(i==b.2.2.2.1)
    ·exact Int.le_refl _
    ·exact hL.2.1.1
   omega⟩
  have hz:b.2.2.2.1≠ -1→flA b b.2.2.2.1=true→b.2.2.2.2.1=0:=fun h1 h2=>by
   obtain⟨k1,_⟩:=hwd _ (yHN b);rw[w.e3]at h1 h2;rw[w.e4];rcases k1.u4 with⟨_,_,k3⟩ | ⟨_,_,_,_,k3⟩
   ·rcases k3 with k3 | ⟨k3,_⟩
    ·exact absurd k3 h1
    ·rw[h2]at k3; cases k3
   ·exact k3
  have old: ∀f,Ch b f→ ∃Bg,Wsup b.1 b.2.1 b.2.2.2.2.2.2.2.1 T L B b.2.2.2.1 Bg f (flA b)∧Wdat b.2.1 T b.2.2.2.2.2.1 R V b.2.2.2.1 Bg f (flA b) (bdA b):=fun f hf=>by
   rw[w.e1,w.e2,w.e3,w.e7,r.s];exact⟨Bf,hwd f hf⟩
  obtain⟨c1,c2,c3,c4,c5⟩:=yBV b;have hcb2:=fun i m i0 i1 m0=>yy6 (b:=b) (m:=m) w.kp (i:=i) i0 (by rw[w.e2]; exact i1) m0
  have hfc: ∀i,0≤i→i<g.1→flA (checkA b) i=flA b i:=fun i i0 i1=>(hcb2 i 2 i0 i1 (by omega)).2
  refine⟨⟨c1.trans w.e1,c2.trans w.e2,c3.trans w.e3,(yPP b).trans w.e8,(y4o b).trans w.e9,yB1 w.kp,fun i i0 i1=>(hfc i i0 i1).trans (w.fl i i0 i1),fun i m i0 i1 m0 hb=> ?_,fun _ f hf=> ?_,fun hu=>⟨yRw hix hK hu,⟨R,yZW hix hz hK hu old⟩,?_,?_⟩⟩,c4.trans w.e4,fun e i m i0 i1 m0=> ?_⟩
  ·rw[(hcb2 i m i0 i1 (by omega)).1]at hb
   exact(w.bd i m i0 i1 m0).1 hb
  ·have hlr:Lf= -1∨(0≤Lf∧Lf<g.1):=by omega
   have ht:=yUf (Lf:=Lf) (fl:=flA b) hix (by omega) hf (fun i _ _ h=>h) (.inl w.e3.symm) (fun f hf=>by
    have:=old f hf
    rw[w.e3]at this; exact this)
   rw[w.e1,w.e2]at ht;obtain⟨G',T',L',B',Q',R',Bf',k1,k2,k3,k4⟩:=ht;exact⟨G',T',L',B',Q',R',Bf',k1,k2,yIg k3 hfc,yNp k4 hfc⟩
  ·rw[(yZX (b:=b) (by rw[w.e7]; omega) hu).1,c5]
  ·intro h1 h2
   rw[c3]at h1 h2;rw[c4];rw[hfc _ (by rw[w.e3]at h1 ⊢; omega) (by rw[w.e3]; omega)]at h2;exact hz h1 h2
  ·rw[(hcb2 i m i0 i1 (by omega)).1]
   exact(w.bd i m i0 i1 m0).2 e
theorem y3x {a:dA} (hk:Keep a) (ks:List Int):Ch a (yyz (yJ a.2.2.1 ks)):=fun i n i0 i1 n0=>by
 have hn:=hk.1.2;unfold yyz;rw[yZ5 ks i0 (by omega)];exact y5b (ycJ hk i0 i1).1 _ n0
def Can (K:Int) (P:(Int→Int→Int)→Int→Prop) (a:dA):Prop:= ∀f,Ch a f→ ∃V Lf,P V Lf∧WW K a.1 a.2.1 V Lf f (flA a) (bdA a)
theorem y4n {K:Int} {VS:(Int→Int→Int)→Prop} {a:dA} (h:Dd K VS a):Can K (fun V Lf=>VS V∧Lf=a.2.2.2.1) a:=fun f hf=>by
 obtain⟨V,h1,h2⟩:=h f (flA a) a.2.2.2.1 hf (yHt a);exact⟨V,_,⟨h1,rfl⟩,h2⟩
theorem y6c {K:Int} {V:Int→Int→Int} {a:dA} (h:Lv K V a):Can K (fun W Lf=>W=V∧Lf=a.2.2.2.1) a:=by
 obtain⟨B0,hr⟩:=h.r;exact y4n (y2V hr h.x.xg h.x.xs)
theorem yQu {K J:Int} {P Q:(Int→Int→Int)→Int→Prop} {a:dA} (h:Can K P a) (hj:K≤J) (hp: ∀V L,P V L→Q V L):Can J Q a:=fun f hf=>by
 obtain⟨V,L,h1,h2⟩:=h f hf;exact⟨V,L,hp V L h1,y3Q h2 hj⟩
theorem yP1 {K fuse:Int} {P:(Int→Int→Int)→Int→Prop} {a:dA} (hk:Keep a) (h:Can K P a) (hK:K+1≤60000) (ks:List Int) (hf: -1≤fuse∧fuse≤1000) :
  ∃x V Lf,ymU a.2.2.1 ks a.1 fuse=(x,true)∧P V Lf∧Back (K+1) a.1 a.2.1 V Lf a.2.2.1 x:=by
 obtain⟨V,Lf,hp,G,T,L,B,Q,R,Bf,h1,h2,h3,h4⟩:=h _ (y3x hk ks)
 obtain⟨x,e,b,_⟩:=yM4 (ks:=ks) hk.1.2 (fun i i0 i1=>by
  have:=ycJ hk i0 i1
  exact⟨this.1,this.2.1⟩) h1 h2 hK hf h3 h4
 exact⟨x,V,Lf,e,hp,b⟩
theorem y44 {K id:Int} {g:dG} {V:Int→Int→Int} {Lf:Int} {l:List dM} {x:dA} (h:Back K id g V Lf l x) (hd:downA x=true):Can K (fun W L=>W=V∧L=Lf) x:=fun f hf=>by
 have:=h.dn hd f hf;rw[← h.bi,← h.bg]at this;exact⟨V,Lf,⟨rfl,rfl⟩,this⟩
theorem y3y: ∀(k i:Nat) (a:dA),yb8 a→(∀b,goE ysB .inl k i a= .inl b→yb8 b)∧ ∀b,goE ysB .inl k i a= .inr b→yb8 b
 | 0,_,a,h=>⟨fun b hb=>by cases hb; exact h,fun b hb=>by cases hb⟩
 | k+1,i,a,h=>by
  have h1:yb8 (yhU a):=y2w _ h;have h2:yb8 (ylX a):=yZ8 (a:=yu (yhU a)) _ _ h1;unfold goE ysB
  cases(!(yac a a.2.2.2.2.2.1).2||leb 60000 a.2.2.2.2.2.1)
  ·rw[h1.1,h2.1]
   exact y3y k (i+1) (ylX a) h2
  ·exact⟨fun b hb=>by cases hb; exact h,fun b hb=>by cases hb⟩
theorem y3f {a:dA} (h:yb8 a):yb8 (ynV a):=by
 unfold ynV
 cases(yR a&&(!(downA a)&&(!a.2.2.2.2.2.2.2.2.2.2.2&&ltb a.2.2.2.2.2.2.2.1 60000)))
 ·exact h
 ·obtain⟨h1,h2⟩:=y3y 4 0 a h
  show yb8 (yM5 a);unfold yM5
  cases hg:goE ysB .inl 4 0 a with
  | inl b=>exact y32 (h1 b hg)
  | inr b=>exact h2 b hg
theorem y42 (l:List dM) (id:Int):downA (yfP l id).1=false:=by
 unfold yfP
 cases((ydo l id).2&&((l.length:Int)==(ydo l id).1.2.2.2.1&&yR (yHw l id)))<;>rfl
theorem yXi {l:List dM} {ks:List Int} {id:Int} {x:dA} (h:ymU l ks id (-1)=(x,true)):downA x=false:=by
 have hd:=y42 (yJ l ks) id;unfold ymU at h;generalize yfP (yJ l ks) id=A at h hd;rw[zku (show(-1:Int)≤ -1 by omega),zku (show(-1:Int)≤1000 by omega),Bool.and_self,cond_true]at h;have hf:yb8 (ymV A.1 (-1) (downA A.1)):=⟨hd,rfl⟩;have hr:=(y3f hf).1;generalize ynV (ymV A.1 (-1) (downA A.1))=Z at h hr
 cases ha:A.2
 ·rw[ha,cond_false]at h
  exact absurd (congrArg (fun z=>z.2) h) (by simp)
 ·rw[ha,cond_true]at h
  have h:=congrArg (fun z=>z.1) h;simp only at h;rw[← h]; exact hr
theorem y35 {a:dA} (s:Int) (d:List Int) (h:Keep a):Keep (yv a s d).2:=by
 have hc:Keep (yk a):=by
  unfold yk
  cases leb 4 (IntKind.i64.wrap (a.2.2.2.2.2.1-a.2.2.2.2.2.2.1))
  ·exact h
  ·exact yB1 h
 unfold yv;have hr:=yye ((yk a).2.2.2.2.2.1,s,d) hc;generalize yj (yk a) ((yk a).2.2.2.2.2.1,s,d)=R at hr ⊢;have hq:Keep (yp (yu R) s d):=yF7 (a:=yu R) s d hr;generalize yp (yu R) s d=Q at hq ⊢
 cases downA (yk a)
 ·cases downA R
  ·exact hq
  ·exact hr
 ·exact hc
theorem yVp {a:dA} (s:Int) (h:Keep a):Keep (flushE a s).2:=by
 unfold flushE
 cases ltb (yP a.2.2.2.2.2.2.2.2.1 s) 0
 ·generalize (nth a.2.2.2.2.2.2.2.2.1 (yP a.2.2.2.2.2.2.2.2.1 s) (0,[])).2=D
  have hw:=y35 s D h
  cases(yX a s D !=0)
  ·cases((yv a s D).1==0)
   ·exact hw
   ·exact hw
  ·exact h
 ·exact h
theorem y2A: ∀(k i:Nat) (a:dA),Keep a→Keep (goE yn7 (fun b=>(0,b)) k i a).2
 | 0,_,_,h=>h
 | k+1,i,a,h=>by
  have hf:=yVp (nth a.2.2.2.2.2.2.2.2.1 0 (0,[])).1 h;unfold goE yn7
  cases hc:((flushE a (nth a.2.2.2.2.2.2.2.2.1 0 (0,[])).1).1 !=0)
  ·exact y2A k (i+1) _ hf
  ·exact hf
theorem y09 {a:dA} {m:Int} (h:Keep a) (hl:a.2.2.2.1= -1) (hm:inb m a.2.2.1.length=true):Keep (yY a m):=by
 have hmi:=zjA.1 hm;obtain⟨⟨g1,g2⟩,g3⟩:=h;refine⟨⟨?_,?_⟩,g3⟩
 ·show yF9 m a.2.2.2.2.2.2.2.2.2.2.2 a.2.1.2 (a.2.2.1.set m.toNat (yfE (nth a.2.2.1 m noMem)))
  refine yql (fun i hi=> ?_) (fun hi=> ?_)
  ·obtain⟨e1,e2,e3⟩:=g1 i hi
   refine⟨e1,e2,fun e=> ?_⟩;rcases e3 e with e | e
   ·omega
   ·exact .inr e
  ·have:=g1 m.toNat hi
   rw[Int.toNat_of_nonneg hmi.1]at this;exact⟨yYb this.1,this.2.1,fun _=> .inl (Int.toNat_of_nonneg hmi.1)⟩
 ·show((a.2.2.1.set m.toNat (yfE (nth a.2.2.1 m noMem))).length:Int)=a.2.1.1
  rw[List.length_set]; exact g2
theorem y1a {a:dA} (h:Keep a) (hgo:n_spec_GeoOk a.2.1=true):Keep (spareNew a):=by
 obtain⟨⟨g1,g2⟩,g3⟩:=h;have hg:=yg.1 hgo;refine⟨⟨yql g1 (fun hi=>⟨yMd (by omega) (by omega),?_,fun e=> ?_⟩),?_⟩,g3⟩
 ·unfold yaD
  rw[zku (show 1≤6+a.2.1.2 by omega),zku (show 6+a.2.1.2≤20 by omega)];show((List.replicate (6+a.2.1.2).toNat ([]:List Int)).length:Int)=6+a.2.1.2;rw[List.length_replicate]; omega
 ·unfold yaD at e
  rw[zku (show 1≤6+a.2.1.2 by omega),zku (show 6+a.2.1.2≤20 by omega)]at e
  cases e
 ·show((a.2.2.1.set a.2.2.2.1.toNat (yaD (6+a.2.1.2))).length:Int)=a.2.1.1
  rw[List.length_set]; exact g2
theorem y3j {a b:dA} (h:Keep a) (hgo:n_spec_GeoOk a.2.1=true) (ht:Turned a b):Keep b:=by
 cases ht with
 | same=>exact h
 | put b x hb hx=>unfold setOne; cases(ybj a (ybM a.2.1 b)).2<;>exact h
 | flush s=>exact yVp s h
 | all=>exact y2A _ 0 a h
 | fail m hl hm =>
  have hf:=y09 h hl hm;unfold failOne;rw[show(a.2.2.2.1== -1)=true from beq_iff_eq.2 hl];show Keep (bif(!(downA a)&&(!a.2.2.2.2.2.2.2.2.2.2.2&&ltb a.2.2.2.2.2.2.2.1 60000))then markA (yY a m)else yY a m)
  cases(!(downA a)&&(!a.2.2.2.2.2.2.2.2.2.2.2&&ltb a.2.2.2.2.2.2.2.1 60000))
  ·exact hf
  ·exact yzG hf
 | spare _ _=>exact yzG (y1a h hgo)
 | step hl _ _ =>
  have hp:Keep (yaf a):=yyd h hl;unfold stepOne
  cases(yA a a.2.2.2.2.1).2
  ·exact h
  ·generalize yaf a=R at hp ⊢
   cases downA R
   ·exact hp
   ·exact hp
 | check=>exact yB1 h
 | spoil m s _ hm _ _=>exact ysY h hm (fun g=>⟨yTp _ g.1,by rw[(yqG _ _).1]; exact g.2.1,by rw[(yqG _ _).2]; exact g.2.2⟩)
theorem yB2 (p:Nat→Bool): ∀n,decide (ypg p n=0)=(List.range n).all p
 | 0=>rfl
 | n+1=>by
  rw[List.range_succ,List.all_append,← yB2 p n,ywB]
  cases hp:p n
  ·simp[hp]
  ·simp[hp]
theorem y5i {k:Int} {V:Int→Int→Int} {a:dA} {s:Int} (h:Ix k V a) (s0:0≤s) (s1:s<a.2.1.2):ytZ a s=(0,decide (yd2 a s=0)):=by
 have hlen:=h.xk.1.2;have hN:a.2.2.1.length=a.2.1.1.toNat:=by omega
 have hw:yCL a s=decide (yd2 a s=0):=by
  unfold yCL yd2;rw[yB2,hN,Bool.eq_iff_iff,List.all_eq_true,List.all_eq_true];constructor
  ·intro g i hi
   have hi':=List.mem_range.1 hi;have:=g i hi
   rwa[(yve h.xc.1 h.xk h.xv (show(0:Int)≤(i:Int)by omega) (by omega) s0 s1).1]at this
  ·intro g i hi
   have hi':=List.mem_range.1 hi;rw[(yve h.xc.1 h.xk h.xv (show(0:Int)≤(i:Int)by omega) (by omega) s0 s1).1];exact g i hi
 unfold ytZ;rw[hw]
 cases hd:decide (yd2 a s=0)
 ·rfl
 ·rw[cond_true,hN]
  congr 1
  have:(List.range a.2.1.1.toNat).map (fun(i:Nat)=>yjV a i s)=vlist V a.2.1.1 s:=by
   unfold vlist;refine List.map_congr_left fun i hi=> ?_
   have hi':=List.mem_range.1 hi;refine(yve h.xc.1 h.xk h.xv (show(0:Int)≤(i:Int)by omega) (by omega) s0 s1).2 ?_;unfold yd2 at hd;rw[yB2,List.all_eq_true]at hd;exact hd i hi
  rw[this];exact h.xe.ev s s0 s1
theorem yNh {k:Int} {V:Int→Int→Int} {a:dA} (h:Ix k V a):y1T a=true:=by
 unfold y1T;rw[List.all_eq_true];intro s hs;have:=List.mem_range.1 hs;rw[y5i h (by omega) (by omega)];simp
theorem y0d {p:Nat→Bool}: ∀{n:Nat} {j:Nat},ypg p n<2→j<n→p j=false→ ∀i,i<n→i≠j→p i=true
 | 0,j,_,hj,_=>absurd hj (Nat.not_lt_zero _)
 | n+1,j,h,hj,hp=>fun i hi hij=>by
  rw[ywB]at h
  have z: ∀{k:Nat},ypg p n=0→k<n→p k=true:=fun{k} h0 hk=>by
   have:decide (ypg p n=0)=true:=decide_eq_true h0;rw[yB2,List.all_eq_true]at this;exact this k (List.mem_range.2 hk)
  cases hn:p n
  ·rw[hn,cond_false]at h
   have h0:ypg p n=0:=by omega
   by_cases hjn:j=n
   ·exact z h0 (by omega)
   ·have:=z (k:=j) h0 (by omega)
    rw[hp]at this; cases this
  ·rw[hn,cond_true]at h
   have hjn:j≠n:=fun e=>by rw[e,hn]at hp; cases hp
   by_cases hin:i=n
   ·rw[hin]; exact hn
   ·exact y0d h (by omega) hp i (by omega) hij
theorem y5t {B0:Int} {V:Int→Int→Int} {v:List Int} {a:dA} (hk:Keep a) (hu:downA a=false) (hm:inb a.2.2.2.1 a.2.2.1.length=true) (hb0:0≤a.2.2.2.2.1) (hb1:a.2.2.2.2.1<1000) (h:Rob B0 V a):Rob B0 V (yaZ a a.2.2.2.1 (dataAt a.2.2.2.2.1) v):=by
 obtain⟨R,hB,hr⟩:=h;have hmi:=zjA.1 hm;have hlen:=hk.1.2;have hda:=yjs hb0 (by omega);have hd:=yB8 (dataAt a.2.2.2.2.1) v hu hm
 have ho: ∀i,0≤i→i≠a.2.2.2.1→dsk (yaZ a a.2.2.2.1 (dataAt a.2.2.2.2.1) v) i=dsk a i:=fun i i0 hi=>by
  rcases hd.2.2 with⟨_,e⟩ | ⟨_,e⟩
  ·rw[e i i0,show(a.2.2.2.1==i)=false from beq_eq_false_iff_ne.2 (fun e=>hi e.symm)]; rfl
  ·exact e i
 have hl:TrD (dataAt a.2.2.2.2.1) v (dsk a a.2.2.2.1) (dsk (yaZ a a.2.2.2.1 (dataAt a.2.2.2.2.1) v) a.2.2.2.1):=by
  rcases hd.2.2 with⟨_,e⟩ | ⟨_,e⟩
  ·rw[e _ hmi.1,beq_self_eq_true]; exact y3O _ _ _
  ·rw[e]; exact yyC _ _ _
 obtain⟨c1,c2,c3,c4,c5,c6,c7⟩:=yaS (yhJ a a.2.2.2.1 (dataAt a.2.2.2.2.1) v);generalize yaZ a a.2.2.2.1 (dataAt a.2.2.2.2.1) v=P at ho hl c1 c2 c3 c4 c5 c6 c7
 have hfl: ∀i,0≤i→i<a.2.1.1→flA P i=flA a i:=fun i i0 i1=>by
  by_cases e:i=a.2.2.2.1
  ·rw[e]; exact hl.2.1
  ·unfold flA; rw[ho i i0 e]
 have hbl: ∀i n,0≤i→bdA P i n=true→bdA a i n=true:=fun i n i0 hb=>by
  by_cases e:i=a.2.2.2.1
  ·rw[e]at hb ⊢; exact hl.2.2.2 n hb
  ·unfold bdA at hb ⊢; rw[ho i i0 e]at hb; exact hb
 refine⟨R,by rw[c4]; exact hB,fun f' fl Lf hf hal=> ?_⟩;rw[c2,c3]at hal;have hal2:=yyL hal hfl;have hLf:Lf=a.2.2.2.1:=by rcases hal with⟨h1,_⟩ | ⟨_,_,h3,_⟩<;>omega
 obtain⟨f,hfd⟩: ∃f:Int→Int→List Int,f=fun i n=>if i=a.2.2.2.1∧n=dataAt a.2.2.2.2.1 then curS (dsk a a.2.2.2.1) n else f' i n:=⟨_,rfl⟩
 have hfe: ∀i n,¬(i=a.2.2.2.1∧n=dataAt a.2.2.2.2.1)→f' i n=f i n:=fun i n hi=>by rw[hfd]; exact(if_neg hi).symm
 have hch:Ch a f:=fun i n i0 i1 n0=>by
  by_cases e:i=a.2.2.2.1∧n=dataAt a.2.2.2.2.1
  ·rw[hfd]; simp only[if_pos e]; rw[e.1]; exact yya _ _
  ·rw[← hfe i n e]
   have h1:=hf i n i0 (by rw[c2]; exact i1) n0
   by_cases e2:i=a.2.2.2.1
   ·rw[e2]at h1 ⊢
    rcases hl.1 n _ n0 h1 with h2 | ⟨h2,_⟩
    ·exact h2
    ·exact absurd ⟨e2,h2⟩ e
   ·rw[ho i i0 e2]at h1; exact h1
 obtain⟨Bf,⟨p1,p2⟩,h1,h2⟩:=hr f fl Lf hch hal2;have h01: ∀i n,(n=0∨n=1)→f' i n=f i n:=fun i n hn=>hfe i n (fun e=>by omega)
 have he:Eq0 P fl Lf→Eq0 a fl Lf:=fun e=>⟨e.1.trans c3,fun i i0 i1=>(e.2 i i0 (by rw[c2]; exact i1)).trans (hfl i i0 i1)⟩
 have hBf:Bf≤B0:=by
  obtain⟨j,j0,j1,_⟩:=h1.u3;have:=(yfh (h1.u0 j j0 j1)).2.2.2.2.2.1;rcases h1.u4 with⟨_,h3,_⟩ | ⟨_,_,_,_,h3⟩<;>omega
 rw[c1,c2,c3,c5,c6,c7];refine⟨Bf,⟨fun e=>p1 (he e),fun e e1 e2=> ?_⟩,ygD h1 (fun i n _ _ _ hn=>h01 i n hn),ygC h2 (fun i n i0 i1 hi hn=> ?_) (fun i n i0 _ hb=>hbl i n i0 hb)⟩
 ·obtain⟨n,s',hn,hsv⟩:=p2 (he e) e1 e2
  exact⟨n,s',hn,by rw[h01 Lf n hn]; exact hsv⟩
 ·by_cases e:i=a.2.2.2.1∧n=dataAt a.2.2.2.2.1
  ·exact .inr (.inr ⟨by omega,by omega,by omega⟩)
  ·refine .inl ⟨hfe i n e,?_⟩
   by_cases e2:i=a.2.2.2.1
   ·rw[e2]; exact hl.2.2.1 n (fun e3=>e ⟨e2,e3⟩)
   ·unfold bdA; rw[ho i i0 e2]
theorem y50 {K:Int} {V:Int→Int→Int} {a:dA} (h:Lv K V a) (hm:inb a.2.2.2.1 a.2.2.1.length=true) (hf:(nth a.2.2.1 a.2.2.2.1 noMem).2.2.1=false) (hb:a.2.2.2.2.1<a.2.1.2) :
  (downA (stepOne a).2=false→Lv K V (stepOne a).2)∧(downA (stepOne a).2=true→Dd K (· =V) (stepOne a).2):=by
 have hi:=y5W h.x hm hf hb;have c:=h.x.xc;unfold coreOk at c;have hg:=yg.1 c.1;have hmi:=zjA.1 hm;have hlen:=h.x.xk.1.2;obtain⟨B0,hR⟩:=h.r;have hxg:=h.x.xg;have hxs:=h.x.xs;unfold stepOne at hi ⊢
 cases hw:(yA a a.2.2.2.2.1).2
 ·exact⟨fun _=>h,fun hd=>by have hd:downA a=true:=hd; rw[h.x.xu]at hd; cases hd⟩
 ·rw[hw]at hi
  have rs:=y5t (v:= [nth (yA a a.2.2.2.2.1).1 a.2.2.2.1 0]) h.x.xk h.x.xu hm (by omega) (by omega) hR;have hd:=yB8 (dataAt a.2.2.2.2.1) [nth (yA a a.2.2.2.2.1).1 a.2.2.2.1 0] h.x.xu hm;obtain⟨c1,c2,c3,c4,c5,c6,c7⟩:=yaS (yhJ a a.2.2.2.1 (dataAt a.2.2.2.2.1) [nth (yA a a.2.2.2.2.1).1 a.2.2.2.1 0]);have hS:yaf a=yaZ a a.2.2.2.1 (dataAt a.2.2.2.2.1) [nth (yA a a.2.2.2.2.1).1 a.2.2.2.1 0]:=rfl;rw[← hS]at rs hd c1 c2 c3 c4 c5 c6 c7
  have hlack:yd2 a a.2.2.2.2.1<2:=by
   rw[y2z h.x (by omega) hb]at hw
   by_cases h2:yd2 a a.2.2.2.2.1<2
   ·exact h2
   ·rw[decide_eq_false h2]at hw; cases hw
  generalize yaf a=P at hi rs hd c1 c2 c3 c4 c5 c6 c7
  cases hp:downA P
  ·rw[hp]at hi
   have hi2:=hi hp;refine⟨fun _=>⟨hi2,⟨B0,?_⟩,?_⟩,fun hd2=>by have hd2:downA P=true:=hd2; rw[hp]at hd2; cases hd2⟩
   ·obtain⟨R,r1,r2⟩:=rs
    refine⟨R,?_,r2⟩;show B0≤IntKind.i64.wrap (P.2.2.2.2.1+1);rw[wr (by omega) (by omega)]; omega
   ·refine⟨fun _ i s i0 i1 hne s0 s1=> ?_,fun _ hfl=> ?_⟩
    ·have i1:i<P.2.1.1:=i1
     have hne:i≠P.2.2.2.1:=hne;rw[c2]at i1;rw[c3]at hne;have s1:s<IntKind.i64.wrap (P.2.2.2.2.1+1):=s1;rw[wr (by omega) (by omega)]at s1;show bdA P i (s+6)=false
     have e:dsk P i=dsk a i:=by
      rcases hd.2.2 with⟨_,e⟩ | ⟨_,e⟩
      ·rw[e i i0,show(a.2.2.2.1==i)=false from beq_eq_false_iff_ne.2 (by omega)]; rfl
      ·exact e i
     show yaC (dsk P i) (s+6)=false;rw[e]
     by_cases hs:s<a.2.2.2.2.1
     ·exact h.n.n (by omega) i s i0 (by omega) (by omega) s0 hs
     ·have hse:s=a.2.2.2.2.1:=by omega
      subst hse
      have hL:(fun(i:Nat)=>hasW a a.2.2.2.2.1 i) a.2.2.2.1.toNat=false:=by
       show hasW a a.2.2.2.2.1 ((a.2.2.2.1.toNat:Nat):Int)=false;rw[Int.toNat_of_nonneg hmi.1];unfold hasW yM;rw[bne_self_eq_false,zkv (Int.le_refl _),Bool.or_self,Bool.and_false]; rfl
      have:=y0d (p:=fun(i:Nat)=>hasW a a.2.2.2.2.1 i) (n:=a.2.1.1.toNat) (j:=a.2.2.2.1.toNat) hlack (by omega) hL i.toNat (by omega) (by omega);have this:hasW a a.2.2.2.2.1 ((i.toNat:Nat):Int)=true:=this;rw[Int.toNat_of_nonneg i0]at this;unfold hasW at this;rw[Bool.and_eq_true,Bool.not_eq_true']at this;exact this.2
    ·have hfl:flA P P.2.2.2.1=true:=hfl
     rw[c3]at hfl
     have:flA P a.2.2.2.1=flA a a.2.2.2.1:=by
      unfold flA;rcases hd.2.2 with⟨_,e⟩ | ⟨_,e⟩
      ·rw[e _ hmi.1,beq_self_eq_true,cond_true,yF5]
      ·rw[e]
     rw[this]at hfl;have hf:flA a a.2.2.2.1=false:=hf;rw[hf]at hfl; cases hfl
  ·exact⟨(fun hu=>by have hu:downA P=false:=hu; rw[hp]at hu; cases hu),fun _=>y2V (a:=P) rs (by rw[c7]; exact hxg) (by rw[c5]; exact hxs)⟩
theorem y4c {m:dM} {n k:Int} {v:List Int} (h:yqa (spoil m n) k v):yqa m k v:=by
 unfold spoil at h
 cases hc:(memOk m&&(inb n m.1.length&& !(m.2.2.2.any (· ==n))))
 ·rw[hc]at h; exact h
 ·rw[hc]at h; exact h
theorem yZU {m:dM} {n k:Int}:(yaC m k=true→yaC (spoil m n) k=true)∧(yaC (spoil m n) k=true→yaC m k=true∨k=n):=by
 unfold spoil
 cases hc:(memOk m&&(inb n m.1.length&& !(m.2.2.2.any (· ==n))))
 ·exact⟨id,.inl⟩
 ·have mem: ∀x,x∈ywA m.2.2.2 n↔(x∈m.2.2.2∨x=n):=fun x=>by
   unfold ywA;rw[List.mem_append,List.mem_cons,List.mem_filter,List.mem_filter];constructor
   ·rintro(h | h | h)
    ·exact .inl h.1
    ·exact .inr h
    ·exact .inl h.1
   ·rintro(h | h)
    ·rcases Int.lt_trichotomy x n with g | g | g
     ·exact .inl ⟨h,zj2 g⟩
     ·exact .inr (.inl g)
     ·exact .inr (.inr ⟨h,zj2 g⟩)
    ·exact .inr (.inl h)
  constructor
  ·intro h
   obtain⟨x,hx,e⟩:=List.any_eq_true.1 (show m.2.2.2.any (· ==k)=true from h);exact List.any_eq_true.2 ⟨x,(mem x).2 (.inl hx),e⟩
  ·intro h
   obtain⟨x,hx,e⟩:=List.any_eq_true.1 (show(ywA m.2.2.2 n).any (· ==k)=true from h);rcases(mem x).1 hx with g | g
   ·exact .inl (List.any_eq_true.2 ⟨x,g,e⟩)
   ·exact .inr (by rw[← beq_iff_eq.1 e,g])
theorem y5l {K m s:Int} {V:Int→Int→Int} {a:dA} (h:Lv K V a) (hl:a.2.2.2.1= -1) (hm:inb m a.2.2.1.length=true) (s0:0≤s) (s1:s<a.2.1.2):Lv K V (setMem a m (spoil (nth a.2.2.1 m noMem) (dataAt s))):=by
 have hx:=y5f (n:=dataAt s) h.x hm;have hmi:=zjA.1 hm;have hg:=yg.1 h.x.xc.1;have hda:=yjs s0 (by omega);have hd: ∀i,0≤i→dsk (setMem a m (spoil (nth a.2.2.1 m noMem) (dataAt s))) i=bif m==i then spoil (dsk a m) (dataAt s)else dsk a i:=fun i i0=>yNg hm i0
 obtain⟨B0,R,hB,hr⟩:=h.r
 have e1: ∀i,0≤i→dsk (setMem a m (spoil (nth a.2.2.1 m noMem) (dataAt s))) i=dsk a i∨(i=m∧dsk (setMem a m (spoil (nth a.2.2.1 m noMem) (dataAt s))) i=spoil (dsk a i) (dataAt s)):=fun i i0=>by
  by_cases e:m=i
  ·subst e; rw[hd m i0,beq_self_eq_true]; exact .inr ⟨rfl,rfl⟩
  ·rw[hd i i0,show(m==i)=false from beq_eq_false_iff_ne.2 e]; exact .inl rfl
 refine⟨hx,⟨B0,R,hB,fun f fl Lf hf hal=> ?_⟩,⟨fun hn=>absurd hl hn,fun hn=>absurd hl hn⟩⟩
 have hfl: ∀i,0≤i→i<a.2.1.1→flA (setMem a m (spoil (nth a.2.2.1 m noMem) (dataAt s))) i=flA a i:=fun i i0 _=>by
  unfold flA;rcases e1 i i0 with e | ⟨_,e⟩
  ·rw[e]
  ·rw[e,(yqG _ _).2]
 have hal2:Al a.2.2.2.1 a.2.1.1 (flA a) fl Lf:=yyL hal hfl
 have hch:Ch a f:=fun i n i0 i1 n0=>by
  have:=hf i n i0 i1 n0;rcases e1 i i0 with e | ⟨_,e⟩
  ·rw[e]at this; exact this
  ·rw[e]at this; exact y4c this
 obtain⟨Bf,⟨p1,p2⟩,h1,h2⟩:=hr f fl Lf hch hal2;have he:Eq0 (setMem a m (spoil (nth a.2.2.1 m noMem) (dataAt s))) fl Lf→Eq0 a fl Lf:=fun e=>⟨e.1,fun i i0 i1=>(e.2 i i0 i1).trans (hfl i i0 i1)⟩
 refine⟨Bf,⟨fun e=>p1 (he e),fun e=>p2 (he e)⟩,h1,⟨h2.e,h2.q,fun i t i0 i1 t0 t1 hi hlv hb hj=>h2.d i t i0 i1 t0 t1 hi hlv ?_ hj,h2.r,h2.h,h2.v,h2.l,fun i n i0 i1 hi hb=> ?_⟩⟩
 ·cases hx:bdA a i (t+6)
  ·rfl
  ·rw[← hb]
   unfold bdA at hx ⊢;rcases e1 i i0 with e | ⟨_,e⟩
   ·rw[e]; exact hx.symm
   ·rw[e]; exact(yZU.1 hx).symm
 ·unfold bdA at hb
  rcases e1 i i0 with e | ⟨_,e⟩
  ·rw[e]at hb; exact h2.b i n i0 i1 hi hb
  ·rw[e]at hb
   rcases yZU.2 hb with h3 | h3
   ·exact h2.b i n i0 i1 hi h3
   ·omega
def Any (_:Int→Int→Int):Prop:=True
theorem y2E {K:Int} {V:Int→Int→Int} {a:dA} (s:Int) (h:Lv K V a) (hk:K+1≤60000) :
  (downA (flushE a s).2=false→ ∃V',Lv (K+2) V' (flushE a s).2)∧(downA (flushE a s).2=true→Dd (K+2) Any (flushE a s).2):=by
 have same:(downA a=false→ ∃V',Lv (K+2) V' a)∧(downA a=true→Dd (K+2) Any a):=⟨fun _=>⟨V,yyf h (by omega)⟩,fun hd=>by rw[h.x.xu]at hd; cases hd⟩;unfold flushE
 cases h0:ltb (yP a.2.2.2.2.2.2.2.2.1 s) 0
 ·generalize (nth a.2.2.2.2.2.2.2.2.1 (yP a.2.2.2.2.2.2.2.2.1 s) (0,[])).2=D
  cases hc:(yX a s D !=0)
  ·obtain⟨_,z1,z2,_,z4,_,z6,_⟩:=yFB (bne_eq_false_iff_eq.1 hc)
   obtain⟨w1,w2⟩:=y5m h z4 z1 z2 z6 hk;have wg:=y0q a s D;simp only[cond_false];generalize yv a s D=W at w1 w2 wg
   cases hw:(W.1==0)
   ·exact⟨fun hu=>⟨_,(w1 hu).1⟩,fun hu=>yu1 (w2 hu).1 (Int.le_refl _) (fun _ _=>trivial)⟩
   ·refine⟨fun hu=>⟨_,y5j (w1 hu).1 (by rw[wg]; exact yZ2 _ h.x.xc.2.2.1)⟩,fun hu=>absurd (beq_iff_eq.1 hw) (w2 hu).2⟩
  ·exact same
 ·exact same
theorem y2F {k:Int}: ∀(n i:Nat) (j:Int) (V:Int→Int→Int) (a:dA),Lv j V a→j+2*n≤k→k≤60000 →
  (downA (goE yn7 (fun b=>((0:Int),b)) n i a).2=false→ ∃V',Lv k V' (goE yn7 (fun b=>((0:Int),b)) n i a).2)∧(downA (goE yn7 (fun b=>((0:Int),b)) n i a).2=true→Dd k Any (goE yn7 (fun b=>((0:Int),b)) n i a).2)
 | 0,_,j,V,a,h,h1,_=>⟨fun _=>⟨V,yyf h (by omega)⟩,fun hd=>by have hd:downA a=true:=hd; rw[h.x.xu]at hd; cases hd⟩
 | n+1,i,j,V,a,h,h1,h2=>by
  have hf:=y2E (nth a.2.2.2.2.2.2.2.2.1 0 (0,[])).1 h (by omega);unfold goE yn7;generalize flushE a (nth a.2.2.2.2.2.2.2.2.1 0 (0,[])).1=F at hf
  cases hc:(F.1 !=0)
  ·simp only[cond_false]
   cases hd:downA F.2
   ·obtain⟨V1,h3⟩:=hf.1 hd
    exact y2F n (i+1) (j+2) V1 _ h3 (by omega) h2
   ·have e:(goE yn7 (fun b=>((0:Int),b)) n (i+1) F.2).2=F.2:=yZS n (i+1) hd
    unfold yn7 at e;rw[e];exact⟨(fun hu=>by rw[hd]at hu; cases hu),fun _=>yu1 (hf.2 hd) (by omega) (fun _ h=>h)⟩
  ·simp only[cond_true]
   exact⟨fun hu=>(hf.1 hu).imp (fun V h=>yyf h (by omega)),fun hu=>yu1 (hf.2 hu) (by omega) (fun _ h=>h)⟩
theorem y6j {k:Int} {V:Int→Int→Int} {a:dA} (h:Lv k V a) (hk:k+16≤60000):(downA (allE a).2=false→ ∃V',Lv (k+16) V' (allE a).2)∧(downA (allE a).2=true→Dd (k+16) Any (allE a).2):=by
 have:=yzc h.x.xc.2.2.1 h.x.xc.1;exact y2F _ 0 k V a h (by omega) hk
theorem y0e {k:Int} {V:Int→Int→Int} {a b:dA} (h:Lv k V a) (ht:Turned a b) (hk:k+16≤60000):(downA b=false→ ∃V',Lv (k+16) V' b)∧(downA b=true→Dd (k+16) Any b):=by
 have one: ∀{r:dA} {K:Int},K≤k+16→(downA r=false→Lv K V r)∧(downA r=true→Dd K (· =V) r)→(downA r=false→ ∃V',Lv (k+16) V' r)∧(downA r=true→Dd (k+16) Any r):=fun hK g=>⟨fun hu=>⟨V,yyf (g.1 hu) hK⟩,fun hu=>yu1 (g.2 hu) hK (fun _ _=>trivial)⟩
 have stay: ∀{r:dA},Lv k V r→(downA r=false→ ∃V',Lv (k+16) V' r)∧(downA r=true→Dd (k+16) Any r):=fun g=>⟨fun _=>⟨V,yyf g (by omega)⟩,fun hd=>by rw[g.x.xu]at hd; cases hd⟩
 cases ht with
 | same=>exact stay h
 | put b x hb hx=>exact stay (y6m h hb hx)
 | flush s =>
  have g:=y2E s h (by omega);exact⟨fun hu=>(g.1 hu).imp (fun V h=>yyf h (by omega)),fun hu=>yu1 (g.2 hu) (by omega) (fun _ h=>h)⟩
 | all=>exact y6j h hk
 | fail m hl hm=>exact one (by omega) (y5Y h hl hm (by omega))
 | spare hl hf=>exact one (by omega) (y5k h hl hf (by omega))
 | step hl hf hb=>exact one (by omega) (y50 h hl hf hb)
 | check=>exact one (by omega) (y2D h (by omega))
 | spoil m s hl hm s0 s1=>exact stay (y5l h hl hm s0 s1)
theorem yVn {K:Int} {V:Int→Int→Int} {a:dA} (h:Ix K V a):yB7 a=bif(List.range a.2.1.2.toNat).all (fun(s:Nat)=>decide (yd2 a s<2))then(List.range a.2.1.2.toNat).flatMap (fun(s:Nat)=>yXG V a.2.1 s)else[]:=by
 unfold yB7
 have e: ∀s,s∈List.range a.2.1.2.toNat→ydp a (s:Int)=bif decide (yd2 a s<2)then(yXG V a.2.1 s,true)else([],false):=fun s hs=>by
  have:=List.mem_range.1 hs;exact y33 h (by omega) (by omega)
 have h1:(List.range a.2.1.2.toNat).all (fun(s:Nat)=>(ydp a s).2)=(List.range a.2.1.2.toNat).all (fun(s:Nat)=>decide (yd2 a s<2)):=by
  rw[Bool.eq_iff_iff,List.all_eq_true,List.all_eq_true];constructor
  ·intro g s hs
   have:=g s hs;rw[e s hs]at this
   cases hd:decide (yd2 a s<2)
   ·rw[hd]at this; cases this
   ·rfl
  ·intro g s hs
   rw[e s hs,g s hs]; rfl
 rw[y2y h,h1,Bool.true_and]
 cases hc:(List.range a.2.1.2.toNat).all (fun(s:Nat)=>decide (yd2 a s<2))
 ·rfl
 ·rw[cond_true,cond_true]
  rw[List.all_eq_true]at hc;rw[List.flatMap_def,List.flatMap_def];refine congrArg List.flatten (List.map_congr_left fun s hs=> ?_);rw[e s hs,hc s hs]; rfl
end
section
def yJc:Code:=(f207.body).getD .skip
def yJK:Env:=zj0 TT [(162,yHF)] []
theorem yQ6:FrOk prog ⟨yJK,18,fun _=>none⟩ yJc:=zj4 yc yd ⟨y1G,trivial⟩
def yTL:Nat→Option Seg:=fun _=>none
abbrev yh7:List Par:= [.rd tN]
abbrev yty:List OT:= [⟨false,tL,(.ow .fz)⟩]
def ypy (a0:dN):Option (ResD yty×MutD yh7) :=
 let r1:=yC a0
 bif(!r1)then
 some ((([]:List Int),()),())
 else
 bif(zjO ([21322,a0.1,a0.2.1,(a0.2.2.length:Int)]:List Int).length a0.2.2.length 8)then
 some (((([21322,a0.1,a0.2.1,(a0.2.2.length:Int)]:List Int)++a0.2.2),()),())
 else none
theorem y0Q (x:InD yh7):zju ⟨yJK,18,yTL⟩ f207.results.toList yJc yh7 yty x=ypy x.1:=by kernel_rfl
theorem yWn:ConOk prog 207 ⟨yh7,yty,fun x=>ypy x.1⟩:=zjZ (yQ6) func207 (by kernel_rfl) (by kernel_rfl) ntmps207.symm (by decide) (fun x r h=>(y0Q x).trans h)
def ynN (a0:dN):List Int:=putRec a0
theorem yYI (a0:dN) (hk:zi0 yh7 (a0,())):ypy a0=(fun n=>some ((n,()),())) (ynN a0):=by
 unfold ypy ynN putRec
 cases hr:yC a0
 ·rfl
 ·have:=(yu9.1 hr).2.2.1
  rw[zj8.2 (show(([21322,a0.1,a0.2.1,(a0.2.2.length:Int)]:List Int).length+a0.2.2.length)*8≤140737488355328 by simp only[List.length_cons,List.length_nil]; omega)]; rfl
def yFK:Con:=⟨yh7,yty,fun x=>(fun n=>some ((n,()),())) (ynN x.1)⟩
theorem yZs:ConOk prog 207 yFK:=(yWn).mono (fun x r hk h=>(yYI x.1 hk).trans h)
end
section
def ypN:Code:=(f169.body).getD .skip
def yvs:Env:=zj0 TT [(91,yFL),(206,ylw),(207,yFK),(208,ypf)] []
theorem yVf:FrOk prog ⟨yvs,24,fun _=>none⟩ ypN:=zj4 yc yd ⟨yZt,ytT,yZs,yyl,trivial⟩
def yG7:Nat→Option Seg:=fun _=>none
def ydf:Shape:=⟨[(0,false,[.ptr 1000000000 0]),(3,false,[.ptr 0 0]),(4,false,[.int .i64])],[(0,[.int .i64,.int .i64,.br tI]),(1000000000,[.int .i64,.int .i64,.int .i64,.at 800000000,.int .i64,.int .i64,.int .i64,.int .i64,.int .i64,.at 800000001,.int .i64,.bool,.bool])],[(800000000,tM,(.pr (.ow .fz) (.pr (.ow (.pr .fz .fz)) (.pr .fz (.ow .fz))))),(800000001,tW,(.pr .fz .fz))]⟩
def yi0:Shape:=⟨[(0,false,[.ptr 1000000000 0]),(3,false,[.ptr 0 0]),(4,false,[.ci .i64 0])],[(0,[.int .i64,.int .i64,.br tI]),(1000000000,[.int .i64,.int .i64,.int .i64,.at 800000000,.int .i64,.int .i64,.int .i64,.int .i64,.int .i64,.at 800000001,.int .i64,.bool,.bool])],[(800000000,tM,(.pr (.ow .fz) (.pr (.ow (.pr .fz .fz)) (.pr .fz (.ow .fz))))),(800000001,tW,(.pr .fz .fz))]⟩
def yiL:Shape:=⟨[(0,false,[.ptr 1000000000 0])],[(1000000000,[.int .i64,.int .i64,.int .i64,.at 800000000,.int .i64,.int .i64,.int .i64,.int .i64,.int .i64,.at 800000001,.int .i64,.bool,.bool])],[(800000000,tM,(.pr (.ow .fz) (.pr (.ow (.pr .fz .fz)) (.pr .fz (.ow .fz))))),(800000001,tW,(.pr .fz .fz))]⟩
def yo5:Shape:=⟨[],[],[]⟩
abbrev yuu (v0:Int) (v1:dN) (v2:dA):(ydf).X:=((((),()),((),()),(v0,()),()),((v1.1,v1.2.1,v1.2.2,()),(v2.1,v2.2.1.1,v2.2.1.2,(),v2.2.2.2.1,v2.2.2.2.2.1,v2.2.2.2.2.2.1,v2.2.2.2.2.2.2.1,v2.2.2.2.2.2.2.2.1,(),v2.2.2.2.2.2.2.2.2.2.1,v2.2.2.2.2.2.2.2.2.2.2.1,v2.2.2.2.2.2.2.2.2.2.2.2,()),()),(v2.2.2.1,v2.2.2.2.2.2.2.2.2.1,()))
abbrev yRS (v0:dN) (v1:dA):(yi0).X:=((((),()),((),()),((),()),()),((v0.1,v0.2.1,v0.2.2,()),(v1.1,v1.2.1.1,v1.2.1.2,(),v1.2.2.2.1,v1.2.2.2.2.1,v1.2.2.2.2.2.1,v1.2.2.2.2.2.2.1,v1.2.2.2.2.2.2.2.1,(),v1.2.2.2.2.2.2.2.2.2.1,v1.2.2.2.2.2.2.2.2.2.2.1,v1.2.2.2.2.2.2.2.2.2.2.2,()),()),(v1.2.2.1,v1.2.2.2.2.2.2.2.2.1,()))
abbrev yDP (v0:dA):(yiL).X:=((((),()),()),((v0.1,v0.2.1.1,v0.2.1.2,(),v0.2.2.2.1,v0.2.2.2.2.1,v0.2.2.2.2.2.1,v0.2.2.2.2.2.2.1,v0.2.2.2.2.2.2.2.1,(),v0.2.2.2.2.2.2.2.2.2.1,v0.2.2.2.2.2.2.2.2.2.2.1,v0.2.2.2.2.2.2.2.2.2.2.2,()),()),(v0.2.2.1,v0.2.2.2.2.2.2.2.2.1,()))
def yuQ (v0 v1 v2:Int) (v3:List Int) (v4 v5 v6 v7 v8 v9 v10 v11 v12:Int) (v13 v14:Bool) (v15:List dM) (v16:List dW):Option ((ydf).X ⊕ ((yiL).X ⊕ (yo5).X)) :=
 bif(ltb v0 (v15.length:Int))then
 let r4:=n_spec_SlotOf v1
 let r5:=ynN (v1,v2,v3)
 bnd (yfe (v4,(v5,v6),v15,v7,v8,v9,v10,v11,v16,v12,v13,v14) v0 r4 r5) fun r6 =>
 some (.inl ((((),()),((),()),((IntKind.i64.wrap (v0+1)),()),()),((v1,v2,v3,()),(r6.2.1.1,r6.2.1.2.1.1,r6.2.1.2.1.2,(),r6.2.1.2.2.2.1,r6.2.1.2.2.2.2.1,r6.2.1.2.2.2.2.2.1,r6.2.1.2.2.2.2.2.2.1,r6.2.1.2.2.2.2.2.2.2.1,(),r6.2.1.2.2.2.2.2.2.2.2.2.1,r6.2.1.2.2.2.2.2.2.2.2.2.2.1,r6.2.1.2.2.2.2.2.2.2.2.2.2.2,()),()),(r6.2.1.2.2.1,r6.2.1.2.2.2.2.2.2.2.2.1,())))
 else
 some (.inr (.inl ((((),()),()),((v4,v5,v6,(),v7,v8,v9,v10,v11,(),v12,v13,v14,()),()),(v15,v16,()))))
def ydP (x:(ydf).X):=yuQ x.1.2.2.1.1 x.2.1.1.1 x.2.1.1.2.1 x.2.1.1.2.2.1 x.2.1.2.1.1 x.2.1.2.1.2.1 x.2.1.2.1.2.2.1 x.2.1.2.1.2.2.2.2.1 x.2.1.2.1.2.2.2.2.2.1 x.2.1.2.1.2.2.2.2.2.2.1 x.2.1.2.1.2.2.2.2.2.2.2.1 x.2.1.2.1.2.2.2.2.2.2.2.2.1 x.2.1.2.1.2.2.2.2.2.2.2.2.2.2.1 x.2.1.2.1.2.2.2.2.2.2.2.2.2.2.2.1 x.2.1.2.1.2.2.2.2.2.2.2.2.2.2.2.2.1 x.2.2.1 x.2.2.2.1
def yDr (x:(yi0).X):(ydf).X:=((((),()),((),()),(0,()),()),((x.2.1.1.1,x.2.1.1.2.1,x.2.1.1.2.2.1,()),(x.2.1.2.1.1,x.2.1.2.1.2.1,x.2.1.2.1.2.2.1,(),x.2.1.2.1.2.2.2.2.1,x.2.1.2.1.2.2.2.2.2.1,x.2.1.2.1.2.2.2.2.2.2.1,x.2.1.2.1.2.2.2.2.2.2.2.1,x.2.1.2.1.2.2.2.2.2.2.2.2.1,(),x.2.1.2.1.2.2.2.2.2.2.2.2.2.2.1,x.2.1.2.1.2.2.2.2.2.2.2.2.2.2.2.1,x.2.1.2.1.2.2.2.2.2.2.2.2.2.2.2.2.1,()),()),(x.2.2.1,x.2.2.2.1,()))
def yFy:Code:=(zef ypN 64 52).getD .skip
theorem yT9:zef ypN 64 13=some (.block 0 (.loop yFy)):=by kernel_rfl
theorem yXe (x:(ydf).X):zg0 ⟨yvs,24,yG7⟩ 0 yFy 52 ydf yiL yo5 x=ydP x:=by kernel_rfl
def yDH (x:(yi0).X):Nat:=18446744073709551616
def yvH (x:(yi0).X):Option ((yiL).X ⊕ (yo5).X):=zz ydP (yDH x) (yDr x)
def yEg:Seg:=⟨yi0,yiL,yo5,yvH⟩
def yG8:Nat→Option Seg:=fun q=>bif Nat.beq q 13 then some yEg else yG7 q
theorem yVg:FrOk prog ⟨yvs,24,yG8⟩ ypN:=(yVf).loop (sg:=yEg) ydf yDr (by decide) yT9 ydP yDH (by decide) (fun _=>rfl) (fun x r _ h=>h) yXe
abbrev yk8:List Par:= [.pt tA (.pr .fz (.pr (.pr .fz .fz) (.pr (.ow (.pr (.ow .fz) (.pr (.ow (.pr .fz .fz)) (.pr .fz (.ow .fz))))) (.pr .fz (.pr .fz (.pr .fz (.pr .fz (.pr .fz (.pr (.ow (.pr .fz .fz)) (.pr .fz (.pr .fz .fz))))))))))),.rd tN]
abbrev yv4:List OT:= []
def yrV (a0:dA) (a1:dN):Option (ResD yv4×MutD yk8) :=
 zjW (yvH ((((),()),((),()),((),()),()),((a1.1,a1.2.1,a1.2.2,()),(a0.1,a0.2.1.1,a0.2.1.2,(),a0.2.2.2.1,a0.2.2.2.2.1,a0.2.2.2.2.2.1,a0.2.2.2.2.2.2.1,a0.2.2.2.2.2.2.2.1,(),a0.2.2.2.2.2.2.2.2.2.1,a0.2.2.2.2.2.2.2.2.2.2.1,a0.2.2.2.2.2.2.2.2.2.2.2,()),()),(a0.2.2.1,a0.2.2.2.2.2.2.2.2.1,()))) (fun y6 =>
 let r8:=ydY (y6.2.1.1.1,(y6.2.1.1.2.1,y6.2.1.1.2.2.1),y6.2.2.1,y6.2.1.1.2.2.2.2.1,y6.2.1.1.2.2.2.2.2.1,y6.2.1.1.2.2.2.2.2.2.1,y6.2.1.1.2.2.2.2.2.2.2.1,y6.2.1.1.2.2.2.2.2.2.2.2.1,y6.2.2.2.1,y6.2.1.1.2.2.2.2.2.2.2.2.2.2.1,y6.2.1.1.2.2.2.2.2.2.2.2.2.2.2.1,y6.2.1.1.2.2.2.2.2.2.2.2.2.2.2.2.1)
 some ((),(r8,()))) (fun y6 =>
 none)
theorem y2r (x:InD yk8):zju ⟨yvs,24,yG8⟩ f169.results.toList ypN yk8 yv4 x=yrV x.1 x.2.1:=by kernel_rfl
theorem yZg:ConOk prog 169 ⟨yk8,yv4,fun x=>yrV x.1 x.2.1⟩:=zjZ (yVg) func169 (by kernel_rfl) (by kernel_rfl) ntmps169.symm (by decide) (fun x r h=>(y2r x).trans h)
def ylN (a0:dA) (a1:dN):dA:=yj a0 a1
theorem y1t (a0:dA) (a1:dN) (hk:zi0 yk8 (a0,a1,())):yrV a0 a1=(fun n=>some ((),(n,()))) (ylN a0 a1):=by
 have hb:a0.2.2.1.length*80≤2^47:=hk.1.2.2.1.1
 have h1:yvH (yRS a1 a0)=some (.inl (yDP ((List.range a0.2.2.1.length).foldl (yaF a1) a0))) :=
  zj6 (step:=ydP) a0.2.2.1.length (fun i s=>yuu i a1 s) (yaF a1) (fun _ s=>s.2.2.1.length=a0.2.2.1.length) (fun s=> .inl (yDP s)) (fun i s hi hs=>⟨by
   simp only[ydP,yuu,yuQ,hs,zj2 (show(i:Int)<a0.2.2.1.length by omega),cond_true,wr (show -9223372036854775808≤(i:Int)+1 by omega) (by omega),Int.natCast_add,Int.natCast_one,Int.toNat_natCast,zkp,ynN];rw[ynT s i (n_spec_SlotOf a1.1) (putRec a1) (zkj (by rw[hs]; exact hi))]
   rfl,(ymT a1 s i).trans hs⟩) (fun s hs=>by simp only[ydP,yuu,yuQ,hs,zkv (Int.le_refl _),cond_false]) a0 rfl _ (by show _<18446744073709551616; omega)
 unfold yrV ylN yj;exact(congrArg (fun z=>zjW z _ _) h1).trans rfl
def yHJ:Con:=⟨yk8,yv4,fun x=>(fun n=>some ((),(n,()))) (ylN x.1 x.2.1)⟩
theorem y1K:ConOk prog 169 yHJ:=(yZg).mono (fun x r hk h=>(y1t x.1 x.2.1 hk).trans h)
end
section
def ypK:Code:=(f230.body).getD .skip
def yvp:Env:=zj0 TT [] []
theorem yU6:FrOk prog ⟨yvp,18,fun _=>none⟩ ypK:=zj4 yc yd trivial
def yG1:Nat→Option Seg:=fun _=>none
def ydc:Shape:=⟨[(0,false,[.br tI]),(3,false,[.int .i64]),(4,false,[.int .i64])],[],[]⟩
def yiX:Shape:=⟨[(0,false,[.br tI]),(3,false,[.ci .i64 0]),(4,false,[.ci .i64 0])],[],[]⟩
def yiI:Shape:=⟨[(3,false,[.int .i64])],[],[]⟩
def yo2:Shape:=⟨[],[],[]⟩
abbrev yur (v0:List Int) (v1 v2:Int):(ydc).X:=(((v0,()),(v1,()),(v2,()),()),(),())
abbrev yRP (v0:List Int):(yiX).X:=(((v0,()),((),()),((),()),()),(),())
abbrev yDN (v0:Int):(yiI).X:=(((v0,()),()),(),())
def yuN (v0:List Int) (v1 v2:Int):Option ((ydc).X ⊕ ((yiI).X ⊕ (yo2).X)) :=
 bif(ltb v2 (v0.length:Int))then
 bif(inb v2 v0.length)then
 some (.inl (((v0,()),((IntKind.i64.wrap ((BitVec.ofInt IntKind.i64.bits v1 ^^^ BitVec.ofInt IntKind.i64.bits (nth v0 v2 0)).toNat:Int)),()),((IntKind.i64.wrap (v2+1)),()),()),(),()))
 else none
 else
 some (.inr (.inl (((v1,()),()),(),())))
def ydM (x:(ydc).X):=yuN x.1.1.1 x.1.2.1.1 x.1.2.2.1.1
def yDn (x:(yiX).X):(ydc).X:=(((x.1.1.1,()),(0,()),(0,()),()),(),())
def yFu:Code:=(zef ypK 64 116).getD .skip
theorem yT5:zef ypK 64 29=some (.block 0 (.loop yFu)):=by kernel_rfl
theorem yXa (x:(ydc).X):zg0 ⟨yvp,18,yG1⟩ 0 yFu 116 ydc yiI yo2 x=ydM x:=by kernel_rfl
def yDD (x:(yiX).X):Nat:=18446744073709551616
def yvD (x:(yiX).X):Option ((yiI).X ⊕ (yo2).X):=zz ydM (yDD x) (yDn x)
def yEc:Seg:=⟨yiX,yiI,yo2,yvD⟩
def yG2:Nat→Option Seg:=fun q=>bif Nat.beq q 29 then some yEc else yG1 q
theorem yU7:FrOk prog ⟨yvp,18,yG2⟩ ypK:=(yU6).loop (sg:=yEc) ydc yDn (by decide) yT5 ydM yDD (by decide) (fun _=>rfl) (fun x r _ h=>h) yXa
abbrev yk3:List Par:= [.rd tL]
abbrev yvZ:List OT:= [⟨false,tI,.fz⟩]
def yrS (a0:List Int):Option (ResD yvZ×MutD yk3) :=
 zjW (yvD (((a0,()),((),()),((),()),()),(),())) (fun y0 =>
 some ((y0.1.1.1,()),())) (fun y0 =>
 none)
theorem y2l (x:InD yk3):zju ⟨yvp,18,yG2⟩ f230.results.toList ypK yk3 yvZ x=yrS x.1:=by kernel_rfl
theorem yZa:ConOk prog 230 ⟨yk3,yvZ,fun x=>yrS x.1⟩:=zjZ (yU7) func230 (by kernel_rfl) (by kernel_rfl) ntmps230.symm (by decide) (fun x r h=>(y2l x).trans h)
def ylK (a0:List Int):Int:=xorOf a0
theorem y1p (a0:List Int) (hk:zi0 yk3 (a0,())):yrS a0=(fun n=>some ((n,()),())) (ylK a0):=by
 have hb:a0.length*8≤2^47:=hk.1.1
 have h1:yvD (yRP a0)=some (.inl (yDN (xorOf a0))) :=
  zj1 (step:=ydM) a0 0 (fun i s=>yur a0 s i) xw (fun _ _=>True) (fun s=> .inl (yDN s)) (fun i s hi _=>⟨by
   simp only[ydM,yur,yuN,zj2 (show(i:Int)<a0.length by omega),cond_true,wr (show -9223372036854775808≤(i:Int)+1 by omega) (by omega),Int.natCast_add,Int.natCast_one,Int.toNat_natCast,zkj hi,zkk]; rfl,trivial⟩) (fun s _=>by simp only[ydM,yur,yuN,zkv (Int.le_refl _),cond_false]) 0 trivial _ (by show _<18446744073709551616; omega)
 unfold yrS ylK;rw[h1]; rfl
def yHG:Con:=⟨yk3,yvZ,fun x=>(fun n=>some ((n,()),())) (ylK x.1)⟩
theorem y1H:ConOk prog 230 yHG:=(yZa).mono (fun x r hk h=>(y1p x.1 hk).trans h)
end
section
def yAp:Code:=(f210.body).getD .skip
def yAK:Env:=zj0 TT [(230,yHG)] []
theorem yIr:FrOk prog ⟨yAK,5,fun _=>none⟩ yAp:=zj4 yc yd ⟨y1H,trivial⟩
def yJ8:Nat→Option Seg:=fun _=>none
abbrev yfZ:List Par:= [.rd tL]
abbrev yj3:List OT:= [⟨false,tI,.fz⟩]
def yol (a0:List Int):Option (ResD yj3×MutD yfZ) :=
 let r1:=ylK a0
 some ((r1,()),())
theorem yNX (x:InD yfZ):zju ⟨yAK,5,yJ8⟩ f210.results.toList yAp yfZ yj3 x=yol x.1:=by kernel_rfl
theorem yKF:ConOk prog 210 ⟨yfZ,yj3,fun x=>yol x.1⟩:=zjZ (yIr) func210 (by kernel_rfl) (by kernel_rfl) ntmps210.symm (by decide) (fun x r h=>(yNX x).trans h)
def ykh (a0:List Int):Int :=
 let r1:=ylK a0
 r1
def yxr:Con:=⟨yfZ,yj3,fun x=>(fun n=>some ((n,()),())) (ykh x.1)⟩
theorem yMF (a0:List Int):yol a0=(fun n=>some ((n,()),())) (ykh a0):=zkn (p:=fun(n:Int)=>((n,()),())) rfl
theorem yMO:ConOk prog 210 yxr:=(yKF).mono (fun x r _ h=>(yMF x.1).trans h)
end
section
def ym9:Code:=(f170.body).getD .skip
def ytb:Env:=zj0 TT [(113,yfD),(206,ylw),(209,ysh),(210,yxr),(211,ywh)] []
theorem yRq:FrOk prog ⟨ytb,61,fun _=>none⟩ ym9:=zj4 yc yd ⟨ylT,ytT,yDX,yMO,yH6,trivial⟩
def yEX:Nat→Option Seg:=fun _=>none
def yde:Shape:=⟨[(0,false,[.ptr 1000000000 0]),(1,false,[.int .i64]),(2,false,[.br tI]),(6,false,[.int .i64]),(7,false,[.int .i64])],[(1000000000,[.int .i64,.int .i64,.int .i64,.at 800000000,.int .i64,.int .i64,.int .i64,.int .i64,.int .i64,.at 800000001,.int .i64,.bool,.bool])],[(800000000,tM,(.pr (.ow .fz) (.pr (.ow (.pr .fz .fz)) (.pr .fz (.ow .fz))))),(800000001,tW,(.pr .fz .fz))]⟩
def yiZ:Shape:=⟨[(0,false,[.ptr 1000000000 0]),(1,false,[.int .i64]),(2,false,[.br tI]),(6,false,[.int .i64]),(7,false,[.ci .i64 0])],[(1000000000,[.int .i64,.int .i64,.int .i64,.at 800000000,.int .i64,.int .i64,.int .i64,.int .i64,.int .i64,.at 800000001,.int .i64,.bool,.bool])],[(800000000,tM,(.pr (.ow .fz) (.pr (.ow (.pr .fz .fz)) (.pr .fz (.ow .fz))))),(800000001,tW,(.pr .fz .fz))]⟩
def yiK:Shape:=⟨[],[(1000000000,[.int .i64,.int .i64,.int .i64,.at 800000000,.int .i64,.int .i64,.int .i64,.int .i64,.int .i64,.at 800000001,.int .i64,.bool,.bool])],[(800000000,tM,(.pr (.ow .fz) (.pr (.ow (.pr .fz .fz)) (.pr .fz (.ow .fz))))),(800000001,tW,(.pr .fz .fz))]⟩
def yo4:Shape:=⟨[],[],[]⟩
abbrev yut (v0:Int) (v1:List Int) (v2 v3:Int) (v4:dA):(yde).X:=((((),()),(v0,()),(v1,()),(v2,()),(v3,()),()),((v4.1,v4.2.1.1,v4.2.1.2,(),v4.2.2.2.1,v4.2.2.2.2.1,v4.2.2.2.2.2.1,v4.2.2.2.2.2.2.1,v4.2.2.2.2.2.2.2.1,(),v4.2.2.2.2.2.2.2.2.2.1,v4.2.2.2.2.2.2.2.2.2.2.1,v4.2.2.2.2.2.2.2.2.2.2.2,()),()),(v4.2.2.1,v4.2.2.2.2.2.2.2.2.1,()))
abbrev yRR (v0:Int) (v1:List Int) (v2:Int) (v3:dA):(yiZ).X:=((((),()),(v0,()),(v1,()),(v2,()),((),()),()),((v3.1,v3.2.1.1,v3.2.1.2,(),v3.2.2.2.1,v3.2.2.2.2.1,v3.2.2.2.2.2.1,v3.2.2.2.2.2.2.1,v3.2.2.2.2.2.2.2.1,(),v3.2.2.2.2.2.2.2.2.2.1,v3.2.2.2.2.2.2.2.2.2.2.1,v3.2.2.2.2.2.2.2.2.2.2.2,()),()),(v3.2.2.1,v3.2.2.2.2.2.2.2.2.1,()))
abbrev yDO (v0:dA):(yiK).X:=((),((v0.1,v0.2.1.1,v0.2.1.2,(),v0.2.2.2.1,v0.2.2.2.2.1,v0.2.2.2.2.2.1,v0.2.2.2.2.2.2.1,v0.2.2.2.2.2.2.2.1,(),v0.2.2.2.2.2.2.2.2.2.1,v0.2.2.2.2.2.2.2.2.2.2.1,v0.2.2.2.2.2.2.2.2.2.2.2,()),()),(v0.2.2.1,v0.2.2.2.2.2.2.2.2.1,()))
def yuP (v0:Int) (v1:List Int) (v2 v3 v4 v5 v6 v7 v8 v9 v10 v11 v12:Int) (v13 v14:Bool) (v15:List dM) (v16:List dW):Option ((yde).X ⊕ ((yiK).X ⊕ (yo4).X)) :=
 bif(ltb v3 (v15.length:Int))then
 let r9:=ykh v1
 bif(v3 !=v2)then
 bif(v5 !=0)then
 bif(inb ((IntKind.i64.wrap ((IntKind.i64.wrap ((IntKind.i64.wrap (v3-v2))-1))+v5)).tmod v5) v1.length)then
 let r10:=ydV (v4,(v5,v6),v15,v7,v8,v9,v10,v11,v16,v12,v13,v14) v3 v0
 bif r10 then
 let r11:=ybl v0
 bnd (yfe (v4,(v5,v6),v15,v7,v8,v9,v10,v11,v16,v12,v13,v14) v3 r11 ([(nth v1 ((IntKind.i64.wrap ((IntKind.i64.wrap ((IntKind.i64.wrap (v3-v2))-1))+v5)).tmod v5) 0)]:List Int)) fun r12 =>
 some (.inl ((((),()),(v0,()),(v1,()),(v2,()),((IntKind.i64.wrap (v3+1)),()),()),((r12.2.1.1,r12.2.1.2.1.1,r12.2.1.2.1.2,(),r12.2.1.2.2.2.1,r12.2.1.2.2.2.2.1,r12.2.1.2.2.2.2.2.1,r12.2.1.2.2.2.2.2.2.1,r12.2.1.2.2.2.2.2.2.2.1,(),r12.2.1.2.2.2.2.2.2.2.2.2.1,r12.2.1.2.2.2.2.2.2.2.2.2.2.1,r12.2.1.2.2.2.2.2.2.2.2.2.2.2,()),()),(r12.2.1.2.2.1,r12.2.1.2.2.2.2.2.2.2.2.1,())))
 else
 some (.inl ((((),()),(v0,()),(v1,()),(v2,()),((IntKind.i64.wrap (v3+1)),()),()),((v4,v5,v6,(),v7,v8,v9,v10,v11,(),v12,v13,v14,()),()),(v15,v16,())))
 else none
 else none
 else
 let r13:=ydV (v4,(v5,v6),v15,v7,v8,v9,v10,v11,v16,v12,v13,v14) v3 v0
 bif r13 then
 let r14:=ybl v0
 bnd (yfe (v4,(v5,v6),v15,v7,v8,v9,v10,v11,v16,v12,v13,v14) v3 r14 ([r9]:List Int)) fun r15 =>
 some (.inl ((((),()),(v0,()),(v1,()),(v2,()),((IntKind.i64.wrap (v3+1)),()),()),((r15.2.1.1,r15.2.1.2.1.1,r15.2.1.2.1.2,(),r15.2.1.2.2.2.1,r15.2.1.2.2.2.2.1,r15.2.1.2.2.2.2.2.1,r15.2.1.2.2.2.2.2.2.1,r15.2.1.2.2.2.2.2.2.2.1,(),r15.2.1.2.2.2.2.2.2.2.2.2.1,r15.2.1.2.2.2.2.2.2.2.2.2.2.1,r15.2.1.2.2.2.2.2.2.2.2.2.2.2,()),()),(r15.2.1.2.2.1,r15.2.1.2.2.2.2.2.2.2.2.1,())))
 else
 some (.inl ((((),()),(v0,()),(v1,()),(v2,()),((IntKind.i64.wrap (v3+1)),()),()),((v4,v5,v6,(),v7,v8,v9,v10,v11,(),v12,v13,v14,()),()),(v15,v16,())))
 else
 some (.inr (.inl ((),((v4,v5,v6,(),v7,v8,v9,v10,v11,(),v12,v13,v14,()),()),(v15,v16,()))))
def ydO (x:(yde).X):=yuP x.1.2.1.1 x.1.2.2.1.1 x.1.2.2.2.1.1 x.1.2.2.2.2.1.1 x.2.1.1.1 x.2.1.1.2.1 x.2.1.1.2.2.1 x.2.1.1.2.2.2.2.1 x.2.1.1.2.2.2.2.2.1 x.2.1.1.2.2.2.2.2.2.1 x.2.1.1.2.2.2.2.2.2.2.1 x.2.1.1.2.2.2.2.2.2.2.2.1 x.2.1.1.2.2.2.2.2.2.2.2.2.2.1 x.2.1.1.2.2.2.2.2.2.2.2.2.2.2.1 x.2.1.1.2.2.2.2.2.2.2.2.2.2.2.2.1 x.2.2.1 x.2.2.2.1
def yDq (x:(yiZ).X):(yde).X:=((((),()),(x.1.2.1.1,()),(x.1.2.2.1.1,()),(x.1.2.2.2.1.1,()),(0,()),()),((x.2.1.1.1,x.2.1.1.2.1,x.2.1.1.2.2.1,(),x.2.1.1.2.2.2.2.1,x.2.1.1.2.2.2.2.2.1,x.2.1.1.2.2.2.2.2.2.1,x.2.1.1.2.2.2.2.2.2.2.1,x.2.1.1.2.2.2.2.2.2.2.2.1,(),x.2.1.1.2.2.2.2.2.2.2.2.2.2.1,x.2.1.1.2.2.2.2.2.2.2.2.2.2.2.1,x.2.1.1.2.2.2.2.2.2.2.2.2.2.2.2.1,()),()),(x.2.2.1,x.2.2.2.1,()))
def yFx:Code:=(zef ym9 64 28).getD .skip
theorem yT8:zef ym9 64 7=some (.block 0 (.loop yFx)):=by kernel_rfl
theorem yXd (x:(yde).X):zg0 ⟨ytb,61,yEX⟩ 0 yFx 28 yde yiK yo4 x=ydO x:=by kernel_rfl
def yDG (x:(yiZ).X):Nat:=18446744073709551616
def yvG (x:(yiZ).X):Option ((yiK).X ⊕ (yo4).X):=zz ydO (yDG x) (yDq x)
def yEf:Seg:=⟨yiZ,yiK,yo4,yvG⟩
def yEY:Nat→Option Seg:=fun q=>bif Nat.beq q 7 then some yEf else yEX q
theorem yRr:FrOk prog ⟨ytb,61,yEY⟩ ym9:=(yRq).loop (sg:=yEf) yde yDq (by decide) yT8 ydO yDG (by decide) (fun _=>rfl) (fun x r _ h=>h) yXd
abbrev yfO:List Par:= [.pt tA (.pr .fz (.pr (.pr .fz .fz) (.pr (.ow (.pr (.ow .fz) (.pr (.ow (.pr .fz .fz)) (.pr .fz (.ow .fz))))) (.pr .fz (.pr .fz (.pr .fz (.pr .fz (.pr .fz (.pr (.ow (.pr .fz .fz)) (.pr .fz (.pr .fz .fz))))))))))),.rd tI,.rd tL]
abbrev yny:List OT:= []
def ypD (a0:dA) (a1:Int) (a2:List Int):Option (ResD yny×MutD yfO) :=
 let r1:=ydv a0.2.1 a1
 zjW (yvG ((((),()),(a1,()),(a2,()),(r1,()),((),()),()),((a0.1,a0.2.1.1,a0.2.1.2,(),a0.2.2.2.1,a0.2.2.2.2.1,a0.2.2.2.2.2.1,a0.2.2.2.2.2.2.1,a0.2.2.2.2.2.2.2.1,(),a0.2.2.2.2.2.2.2.2.2.1,a0.2.2.2.2.2.2.2.2.2.2.1,a0.2.2.2.2.2.2.2.2.2.2.2,()),()),(a0.2.2.1,a0.2.2.2.2.2.2.2.2.1,()))) (fun y15 =>
 some ((),((y15.2.1.1.1,(y15.2.1.1.2.1,y15.2.1.1.2.2.1),y15.2.2.1,y15.2.1.1.2.2.2.2.1,y15.2.1.1.2.2.2.2.2.1,y15.2.1.1.2.2.2.2.2.2.1,y15.2.1.1.2.2.2.2.2.2.2.1,y15.2.1.1.2.2.2.2.2.2.2.2.1,y15.2.2.2.1,y15.2.1.1.2.2.2.2.2.2.2.2.2.2.1,y15.2.1.1.2.2.2.2.2.2.2.2.2.2.2.1,y15.2.1.1.2.2.2.2.2.2.2.2.2.2.2.2.1),()))) (fun y15 =>
 none)
theorem y05 (x:InD yfO):zju ⟨ytb,61,yEY⟩ f170.results.toList ym9 yfO yny x=ypD x.1 x.2.1 x.2.2.1:=by kernel_rfl
theorem yWC:ConOk prog 170 ⟨yfO,yny,fun x=>ypD x.1 x.2.1 x.2.2.1⟩:=zjZ (yRr) func170 (by kernel_rfl) (by kernel_rfl) ntmps170.symm (by decide) (fun x r h=>(y05 x).trans h)
def ytO (a0:dA) (a1:Int) (a2:List Int):dA:=yp a0 a1 a2
def ynU (a0:dA) (a1:Int) (a2:List Int):Bool:=strOk a0.2.1 a1&&((a2.length:Int)==a0.2.1.1-1&&(a0.2.2.1.length:Int)==a0.2.1.1)
theorem yYS (a0:dA) (a1:Int) (a2:List Int) (hk:zi0 yfO (a0,a1,a2,())) (hq:ynU a0 a1 a2=true):ypD a0 a1 a2=(fun n=>some ((),(n,()))) (ytO a0 a1 a2):=by
 simp only[ynU,Bool.and_eq_true,beq_iff_eq]at hq;have hg:=yg.1 (yG.1 hq.1).1;have hp:=yl5 hq.1
 have h1:yvG (yRR a1 a2 (parityOf a0.2.1 a1) a0)=some (.inl (yDO (yp a0 a1 a2))) :=
  zj6 (step:=ydO) a0.2.2.1.length (fun i s=>yut a1 a2 (parityOf a0.2.1 a1) i s) (yaH (parityOf a0.2.1 a1) a0.2.1.1 a1 a2) (fun _ s=>s.2.2.1.length=a0.2.2.1.length∧s.2.1=a0.2.1) (fun s=> .inl (yDO s)) (fun i s hi hs=>⟨by
   have hN:s.2.1.1=a0.2.1.1:=by rw[hs.2]
   simp only[ydO,yut,yuP,hs.1,zj2 (show(i:Int)<a0.2.2.1.length by omega),cond_true,wr (show -9223372036854775808≤(i:Int)+1 by omega) (by omega),Int.natCast_add,Int.natCast_one,Int.toNat_natCast,zkp,ylK,ykh,ydV,ygY,yaH,dataW];rw[← hN]
   by_cases he:(i:Int)=parityOf a0.2.1 a1
   ·rw[show((i:Int) !=parityOf a0.2.1 a1)=false by simp[he],show((i:Int)==parityOf a0.2.1 a1)=true from beq_iff_eq.2 he]
    rw[ynT s i (dataAt a1) [xorOf a2] (zkj (by rw[hs.1]; exact hi))]
    cases yb9 s i a1<;>rfl
   ·have hd:=y6K (N:=s.2.1.1) (i:=i) (p:=parityOf a0.2.1 a1) ⟨by omega,by omega⟩ ⟨by omega,by omega⟩ ⟨hp.1,by omega⟩ he
    rw[show((i:Int) !=parityOf a0.2.1 a1)=true from bne_iff_ne.2 he,show((i:Int)==parityOf a0.2.1 a1)=false from beq_eq_false_iff_ne.2 he,show(s.2.1.1 !=0)=true from bne_iff_ne.2 (by omega),
     wr (show -9223372036854775808≤(i:Int)-parityOf a0.2.1 a1 by omega) (by omega),wr (show -9223372036854775808≤(i:Int)-parityOf a0.2.1 a1-1 by omega) (by omega),wr (show -9223372036854775808≤(i:Int)-parityOf a0.2.1 a1-1+s.2.1.1 by omega) (by omega),zjA.2 (show 0≤((i:Int)-parityOf a0.2.1 a1-1+s.2.1.1).tmod s.2.1.1∧((i:Int)-parityOf a0.2.1 a1-1+s.2.1.1).tmod s.2.1.1<a2.length by omega)]
    rw[ynT s i (dataAt a1) [nth a2 (((i:Int)-parityOf a0.2.1 a1-1+s.2.1.1).tmod s.2.1.1) 0] (zkj (by rw[hs.1]; exact hi))]
    cases yb9 s i a1<;>rfl,(ysT _ _ _ _ s i).trans hs.1,(yO (yLs _ _ _ _ s i)).trans hs.2⟩) (fun s hs=>by simp only[ydO,yut,yuP,hs.1,zkv (Int.le_refl _),cond_false]) a0 ⟨rfl,rfl⟩ _ (by show _<18446744073709551616; omega)
 unfold ypD ytO ydv;exact(congrArg (fun z=>zjW z _ _) h1).trans rfl
def yig (a0:dA) (a1:Int) (a2:List Int):Option (ResD yny×MutD yfO):=bif ynU a0 a1 a2 then(fun n=>some ((),(n,()))) (ytO a0 a1 a2)else none
theorem yZI (a0:dA) (a1:Int) (a2:List Int) (h:ynU a0 a1 a2=true):yig a0 a1 a2=(fun n=>some ((),(n,()))) (ytO a0 a1 a2):=by unfold yig; rw[h]; rfl
def yFW:Con:=⟨yfO,yny,fun x=>yig x.1 x.2.1 x.2.2.1⟩
theorem yZE:ConOk prog 170 yFW:=(yWC).mono (fun x r hk h=>zkq h (fun hq=>yYS x.1 x.2.1 x.2.2.1 hk hq))
end
end
end Go.Tf
