/- Functions of the program, and what they come to. -/
import Derived.Test.YtgmadfpnljibhaaGreatBlocksBentF30
namespace Go.Tf
noncomputable section
open Go.Proofs
set_option synthInstance.maxHeartbeats 400000
set_option synthInstance.maxSize 10000
set_option linter.unusedVariables false
set_option linter.unusedSimpArgs false
set_option maxRecDepth 100000
section
def ynS:Code:=(Tryz.f55.body).getD .skip
def yt4:Env:=zj3 TT [(106,yJk),(148,yxq)] []
theorem yS5:FrOk Tryz.prog ⟨yt4,39,fun _=>none⟩ ynS:=zj7 yb yc ⟨y37,yJR,trivial⟩
def yGk:Nat→Option Seg:=fun _=>none
def ybU:Shape:=⟨[(1,false,[.int .i64]),(2,false,[.ptr 0 0]),(6,false,[.at 800000000]),(8,false,[.at 800000001]),(22,false,[.int .i64]),(23,false,[.int .i64])],[(0,[.int .i64,.int .i64,.int .i64,.br tM,.int .i64,.int .i64,.int .i64,.int .i64,.int .i64,.br tW,.int .i64,.bool,.bool])],[(800000000,tI,.fz),(800000001,tI,.fz)]⟩
def ygM:Shape:=⟨[(1,false,[.int .i64]),(2,false,[.ptr 0 0]),(6,false,[.at 800000000]),(8,false,[.at 800000001]),(22,false,[.int .i64]),(23,false,[.ci .i64 0])],[(0,[.int .i64,.int .i64,.int .i64,.br tM,.int .i64,.int .i64,.int .i64,.int .i64,.int .i64,.br tW,.int .i64,.bool,.bool])],[(800000000,tI,.fz),(800000001,tI,.fz)]⟩
def ygA:Shape:=⟨[(8,false,[.at 800000000])],[],[(800000000,tI,.fz)]⟩
def ykZ:Shape:=⟨[],[],[]⟩
abbrev yrw (v0 v1 v2:Int) (v3:dA) (v4 v5:List Int):(ybU).X:=(((v0,()),((),()),((),()),((),()),(v1,()),(v2,()),()),((v3.1,v3.2.1.1,v3.2.1.2,v3.2.2.1,v3.2.2.2.1,v3.2.2.2.2.1,v3.2.2.2.2.2.1,v3.2.2.2.2.2.2.1,v3.2.2.2.2.2.2.2.1,v3.2.2.2.2.2.2.2.2.1,v3.2.2.2.2.2.2.2.2.2.1,v3.2.2.2.2.2.2.2.2.2.2.1,v3.2.2.2.2.2.2.2.2.2.2.2,()),()),(v4,v5,()))
abbrev yOT (v0 v1:Int) (v2:dA) (v3 v4:List Int):(ygM).X:=(((v0,()),((),()),((),()),((),()),(v1,()),((),()),()),((v2.1,v2.2.1.1,v2.2.1.2,v2.2.2.1,v2.2.2.2.1,v2.2.2.2.2.1,v2.2.2.2.2.2.1,v2.2.2.2.2.2.2.1,v2.2.2.2.2.2.2.2.1,v2.2.2.2.2.2.2.2.2.1,v2.2.2.2.2.2.2.2.2.2.1,v2.2.2.2.2.2.2.2.2.2.2.1,v2.2.2.2.2.2.2.2.2.2.2.2,()),()),(v3,v4,()))
abbrev yA5 (v0:List Int):(ygA).X:=((((),()),()),(),(v0,()))
def yrO (v0 v1 v2 v3 v4 v5:Int) (v6:List dM) (v7 v8 v9 v10 v11:Int) (v12:List dW) (v13:Int) (v14 v15:Bool) (v16 v17:List Int):Option ((ybU).X ⊕ ((ygA).X ⊕ (ykZ).X)) :=
 bif (ltb v2 v1) then
 let r3:=ygq (v4,v5) v0 v2
 bif (inb r3 v16.length) then
 bif (zjR v17.length ([(nth v16 r3 0)]:List Int).length 8) then
 some (.inl (((v0,()),((),()),((),()),((),()),(v1,()),((IntKind.i64.wrap (v2+1)),()),()),((v3,v4,v5,v6,v7,v8,v9,v10,v11,v12,v13,v14,v15,()),()),(v16,(v17++([(nth v16 r3 0)]:List Int)),())))
 else none
 else none
 else
 some (.inr (.inl ((((),()),()),(),(v17,()))))
def ycc (x:(ybU).X):=yrO x.1.1.1 x.1.2.2.2.2.1.1 x.1.2.2.2.2.2.1.1 x.2.1.1.1 x.2.1.1.2.1 x.2.1.1.2.2.1 x.2.1.1.2.2.2.1 x.2.1.1.2.2.2.2.1 x.2.1.1.2.2.2.2.2.1 x.2.1.1.2.2.2.2.2.2.1 x.2.1.1.2.2.2.2.2.2.2.1 x.2.1.1.2.2.2.2.2.2.2.2.1 x.2.1.1.2.2.2.2.2.2.2.2.2.1 x.2.1.1.2.2.2.2.2.2.2.2.2.2.1 x.2.1.1.2.2.2.2.2.2.2.2.2.2.2.1 x.2.1.1.2.2.2.2.2.2.2.2.2.2.2.2.1 x.2.2.1 x.2.2.2.1
def yAC (x:(ygM).X):(ybU).X:=(((x.1.1.1,()),((),()),((),()),((),()),(x.1.2.2.2.2.1.1,()),(0,()),()),((x.2.1.1.1,x.2.1.1.2.1,x.2.1.1.2.2.1,x.2.1.1.2.2.2.1,x.2.1.1.2.2.2.2.1,x.2.1.1.2.2.2.2.2.1,x.2.1.1.2.2.2.2.2.2.1,x.2.1.1.2.2.2.2.2.2.2.1,x.2.1.1.2.2.2.2.2.2.2.2.1,x.2.1.1.2.2.2.2.2.2.2.2.2.1,x.2.1.1.2.2.2.2.2.2.2.2.2.2.1,x.2.1.1.2.2.2.2.2.2.2.2.2.2.2.1,x.2.1.1.2.2.2.2.2.2.2.2.2.2.2.2.1,()),()),(x.2.2.1,x.2.2.2.1,()))
def yCf:Code:=(zdD ynS 64 500).getD .skip
theorem yP6:zdD ynS 64 125=some (.block 0 (.loop yCf)):=by kernel_rfl
theorem yR1 (x:(ybU).X):zg0 ⟨yt4,39,yGk⟩ 0 yCf 500 ybU ygA ykZ x=ycc x:=by kernel_rfl
def yAR (x:(ygM).X):Nat:=18446744073709551616
def ysX (x:(ygM).X):Option ((ygA).X ⊕ (ykZ).X):=zz ycc (yAR x) (yAC x)
def yBh:Seg:=⟨ygM,ygA,ykZ,ysX⟩
def yGl:Nat→Option Seg:=fun q=>bif Nat.beq q 125 then some yBh else yGk q
theorem yS6:FrOk Tryz.prog ⟨yt4,39,yGl⟩ ynS:=(yS5).loop (sg:=yBh) ybU yAC (by decide) yP6 ycc yAR (by decide) (fun _=>rfl) (fun x r _ h=>h) yR1
abbrev yiT:List Par:= [.rd tA,.rd tI]
abbrev yug:List OT:= [⟨false,tL,(.ow .fz)⟩,⟨false,tB,.fz⟩]
def yqn (a0:dA) (a1:Int):Option (ResD yug×MutD yiT) :=
 let r1:=yrJ a0 a1
 bif (!r1.2) then
 some (([],false,()),())
 else
 zjZ (ysX (((a1,()),((),()),((),()),((),()),((IntKind.i64.wrap (a0.2.1.1 - 1)),()),((),()),()),((a0.1,a0.2.1.1,a0.2.1.2,a0.2.2.1,a0.2.2.2.1,a0.2.2.2.2.1,a0.2.2.2.2.2.1,a0.2.2.2.2.2.2.1,a0.2.2.2.2.2.2.2.1,a0.2.2.2.2.2.2.2.2.1,a0.2.2.2.2.2.2.2.2.2.1,a0.2.2.2.2.2.2.2.2.2.2.1,a0.2.2.2.2.2.2.2.2.2.2.2,()),()),(r1.1,([]:List Int),()))) (fun y3 =>
 some ((y3.2.2.1,true,()),())) (fun y3 =>
 none)
theorem y2Z (x:InD yiT):zjx ⟨yt4,39,yGl⟩ Tryz.f55.results.toList ynS yiT yug x=yqn x.1 x.2.1:=by kernel_rfl
theorem yYF:ConOk Tryz.prog 55 ⟨yiT,yug,fun x=>yqn x.1 x.2.1⟩:=zj2 (yS6) Tryz.func55 (by kernel_rfl) (by kernel_rfl) Tryz.ntmps55.symm (by decide) (fun x r h=>(y2Z x).trans h)
def yoE (a0:dA) (a1:Int):List Int×Bool:=yWK a0 a1
theorem y0T (a0:dA) (a1:Int) (hk:zi2 yiT (a0,a1,())):yqn a0 a1=(fun n=>some ((n.1,n.2,()),())) (yoE a0 a1):=by
 unfold yqn yoE yWK yrJ
 cases hc:(yx a0&&(!a0.2.2.2.2.2.2.2.2.2.2.2&&yP a0.2.1 a1))
 ·rfl
 simp only [Bool.and_eq_true]at hc
 have hg:=yk.1 (yR hc.1)
 have hs:=hc.2.2
 unfold yHA
 simp only [cond_true]
 cases hw:(yal a0 a1).2
 ·rfl
 ·have hL:=yPF hw
  have h1:ysX (yOT a1 (a0.2.1.1 - 1) a0 (yal a0 a1).1 [])=some (.inl (yA5 ((List.range (a0.2.1.1 - 1).toNat).foldl (fun l (i:Nat)=>l++ [nth (yal a0 a1).1 (ybR a0.2.1 a1 i) 0]) []))) :=
   zj9 (step:=ycc) (a0.2.1.1 - 1).toNat (fun i s=>yrw a1 (a0.2.1.1 - 1) i a0 (yal a0 a1).1 s) (fun l (i:Nat)=>l++ [nth (yal a0 a1).1 (ybR a0.2.1 a1 i) 0]) (fun i s=>s.length=i) (fun s=> .inl (yA5 s)) (fun i s hi hs2=>⟨by
    have hd:=y0g hs (show (0:Int)≤i by omega) (show (i:Int)≤a0.2.1.1 - 2 by omega)
    simp only [ycc,yrw,yrO,zj5 (show (i:Int) < a0.2.1.1 - 1 by omega),cond_true,wr (show -9223372036854775808≤(i:Int)+1 by omega) (by omega),Int.natCast_add,Int.natCast_one,Int.toNat_natCast,zks,ygq,zjD.2 (show 0≤ybR a0.2.1 a1 i∧ybR a0.2.1 a1 i < (yal a0 a1).1.length by omega)]
    rw [zkb.2 (show (s.length+ [nth (yal a0 a1).1 (ybR a0.2.1 a1 i) 0].length) * 8≤140737488355328 by simp only [List.length_cons,List.length_nil]; omega)]; rfl,by simp [hs2]⟩) (fun s hs2=>by simp only [ycc,yrw,yrO,zky (show a0.2.1.1 - 1≤((a0.2.1.1 - 1).toNat:Int) by omega),cond_false]) [] rfl _ (by show _ < 18446744073709551616; omega)
  simp only [wr (show -9223372036854775808≤a0.2.1.1 - 1 by omega) (by omega)]
  rw [h1,yDr]; rfl
def yHi:Con:=⟨yiT,yug,fun x=>(fun n=>some ((n.1,n.2,()),())) (yoE x.1 x.2.1)⟩
theorem y1W:ConOk Tryz.prog 55 yHi:=(yYF).mono (fun x r hk h=>(y0T x.1 x.2.1 hk).trans h)
end
section
def yId:Code:=(Tryz.f172.body).getD .skip
def yIY:Env:=zj3 TT [(55,yHi),(183,yzx),(200,yaS)] []
theorem yQy:FrOk Tryz.prog ⟨yIY,24,fun _=>none⟩ yId:=zj7 yb yc ⟨y1W,yL0,ycT,trivial⟩
def ySr:Nat→Option Seg:=fun _=>none
abbrev yhr:List Par:= [.rd tA,.rd tI]
abbrev ysg:List OT:= [⟨false,tL,(.ow .fz)⟩,⟨false,tB,.fz⟩]
def ynB (a0:dA) (a1:Int):Option (ResD ysg×MutD yhr) :=
 let r1:=ymD a0 a1
 bif (leb 0 r1) then
 bif (inb r1 a0.2.2.2.2.2.2.2.2.1.length) then
 let r2:=yl ((nth a0.2.2.2.2.2.2.2.2.1 r1 (0,[])).2)
 some ((r2,true,()),())
 else none
 else
 let r3:=yoE a0 a1
 some ((r3.1,r3.2,()),())
theorem y0n (x:InD yhr):zjx ⟨yIY,24,ySr⟩ Tryz.f172.results.toList yId yhr ysg x=ynB x.1 x.2.1:=by kernel_rfl
theorem yUX:ConOk Tryz.prog 172 ⟨yhr,ysg,fun x=>ynB x.1 x.2.1⟩:=zj2 (yQy) Tryz.func172 (by kernel_rfl) (by kernel_rfl) Tryz.ntmps172.symm (by decide) (fun x r h=>(y0n x).trans h)
def ydc (a0:dA) (a1:Int):List Int×Bool:=bif leb 0 (yo a0.2.2.2.2.2.2.2.2.1 a1) then ((nth a0.2.2.2.2.2.2.2.2.1 (yo a0.2.2.2.2.2.2.2.2.1 a1) (0,[])).2,true) else yWK a0 a1
theorem yYk (a0:dA) (a1:Int) (hk:zi2 yhr (a0,a1,())):ynB a0 a1=(fun n=>some ((n.1,n.2,()),())) (ydc a0 a1):=by
 unfold ynB ydc ymD yoE yl
 simp only []
 cases h:leb 0 (yo a0.2.2.2.2.2.2.2.2.1 a1)
 ·rfl
 ·rw [show inb (yo a0.2.2.2.2.2.2.2.2.1 a1) a0.2.2.2.2.2.2.2.2.1.length=true from (yno (d:=((0,[]):dW)) h).1]; rfl
theorem yWJ {a:dA} {s:Int} (h:yx a=true) (hs:yP a.2.1 s=true):ydc a s=yI a s:=by
 unfold ydc yI yWK
 rw [h,hs]
 cases a.2.2.2.2.2.2.2.2.2.2.2<;>rfl
def yvh:Con:=⟨yhr,ysg,fun x=>(fun n=>some ((n.1,n.2,()),())) (ydc x.1 x.2.1)⟩
theorem yHJ:ConOk Tryz.prog 172 yvh:=(yUX).mono (fun x r hk h=>(yYk x.1 x.2.1 hk).trans h)
end
section
def yF5:Code:=(Tryz.f173.body).getD .skip
def yGL:Env:=zj3 TT [(242,ylb)] []
theorem yOk:FrOk Tryz.prog ⟨yGL,14,fun _=>none⟩ yF5:=zj7 yb yc ⟨yvE,trivial⟩
def yPR:Nat→Option Seg:=fun _=>none
abbrev yfT:List Par:= [.rd tG,.rd tI]
abbrev ypJ:List OT:= [⟨false,tI,.fz⟩]
def yln (a0:dG) (a1:Int):Option (ResD ypJ×MutD yfT) :=
 let r1:=yb9 a0 a1
 bif (!r1) then
 some (((-1),()),())
 else
 bif ((IntKind.i64.wrap (a0.1 - 1)) !=0) then
 some (((IntKind.i64.wrap (a1.tdiv (IntKind.i64.wrap (a0.1 - 1)))),()),())
 else none
theorem yWX (x:InD yfT):zjx ⟨yGL,14,yPR⟩ Tryz.f173.results.toList yF5 yfT ypJ x=yln x.1 x.2.1:=by kernel_rfl
theorem yRB:ConOk Tryz.prog 173 ⟨yfT,ypJ,fun x=>yln x.1 x.2.1⟩:=zj2 (yOk) Tryz.func173 (by kernel_rfl) (by kernel_rfl) Tryz.ntmps173.symm (by decide) (fun x r h=>(yWX x).trans h)
def yb8 (a0:dG) (a1:Int):Int:=yB a0 a1
theorem yUA (a0:dG) (a1:Int) (hk:zi2 yfT (a0,a1,())):yln a0 a1=(fun n=>some ((n,()),())) (yb8 a0 a1):=by
 unfold yln yb8 yB
 rw [yH1]
 cases hb:blkOk a0 a1
 ·rfl
 ·obtain ⟨h1,h2,h3⟩:=ykn hb
  have h4:=yk.1 h1
  rw [wr (show -9223372036854775808≤a0.1 - 1 by omega) (by omega),show (a0.1 - 1 !=0)=true from bne_iff_ne.2 (by omega),wr (by omega) (by omega)]; rfl
def ytc:Con:=⟨yfT,ypJ,fun x=>(fun n=>some ((n,()),())) (yb8 x.1 x.2.1)⟩
theorem yFj:ConOk Tryz.prog 173 ytc:=(yRB).mono (fun x r hk h=>(yUA x.1 x.2.1 hk).trans h)
end
section
def yIb:Code:=(Tryz.f174.body).getD .skip
def yIW:Env:=zj3 TT [(242,ylb)] []
theorem yQp:FrOk Tryz.prog ⟨yIW,14,fun _=>none⟩ yIb:=zj7 yb yc ⟨yvE,trivial⟩
def ySp:Nat→Option Seg:=fun _=>none
abbrev yhn:List Par:= [.rd tG,.rd tI]
abbrev ysb:List OT:= [⟨false,tI,.fz⟩]
def ynx (a0:dG) (a1:Int):Option (ResD ysb×MutD yhn) :=
 let r1:=yb9 a0 a1
 bif (!r1) then
 some (((-1),()),())
 else
 bif ((IntKind.i64.wrap (a0.1 - 1)) !=0) then
 some (((a1.tmod (IntKind.i64.wrap (a0.1 - 1))),()),())
 else none
theorem y0i (x:InD yhn):zjx ⟨yIW,14,ySp⟩ Tryz.f174.results.toList yIb yhn ysb x=ynx x.1 x.2.1:=by kernel_rfl
theorem yUS:ConOk Tryz.prog 174 ⟨yhn,ysb,fun x=>ynx x.1 x.2.1⟩:=zj2 (yQp) Tryz.func174 (by kernel_rfl) (by kernel_rfl) Tryz.ntmps174.symm (by decide) (fun x r h=>(y0i x).trans h)
def ydb (a0:dG) (a1:Int):Int:=yaq a0 a1
theorem yYf (a0:dG) (a1:Int) (hk:zi2 yhn (a0,a1,())):ynx a0 a1=(fun n=>some ((n,()),())) (ydb a0 a1):=by
 unfold ynx ydb yaq
 rw [yH1]
 cases hb:blkOk a0 a1
 ·rfl
 ·obtain ⟨h1,h2,h3⟩:=ykn hb
  have h4:=yk.1 h1
  rw [wr (show -9223372036854775808≤a0.1 - 1 by omega) (by omega),show (a0.1 - 1 !=0)=true from bne_iff_ne.2 (by omega)]; rfl
def yvg:Con:=⟨yhn,ysb,fun x=>(fun n=>some ((n,()),())) (ydb x.1 x.2.1)⟩
theorem yHI:ConOk Tryz.prog 174 yvg:=(yUS).mono (fun x r hk h=>(yYf x.1 x.2.1 hk).trans h)
end
section
def yF2:Code:=(Tryz.f77.body).getD .skip
def yGI:Env:=zj3 TT [(171,yrp),(172,yvh),(173,ytc),(174,yvg)] []
theorem yOf:FrOk Tryz.prog ⟨yGI,33,fun _=>none⟩ yF2:=zj7 yb yc ⟨yDa,yHJ,yFj,yHI,trivial⟩
def yPO:Nat→Option Seg:=fun _=>none
abbrev yfQ:List Par:= [.rd tA,.rd tI]
abbrev ypF:List OT:= [⟨false,tI,.fz⟩,⟨false,tI,.fz⟩]
def ylk (a0:dA) (a1:Int):Option (ResD ypF×MutD yfQ) :=
 let r1:=ye5 a0 a1
 bif (r1 !=0) then
 some ((0,r1,()),())
 else
 let r2:=yb8 a0.2.1 a1
 let r3:=ydc a0 r2
 bif (!r3.2) then
 some ((0,5,()),())
 else
 let r4:=ydb a0.2.1 a1
 bif (inb r4 r3.1.length) then
 some (((nth r3.1 r4 0),0,()),())
 else none
theorem yWT (x:InD yfQ):zjx ⟨yGI,33,yPO⟩ Tryz.f77.results.toList yF2 yfQ ypF x=ylk x.1 x.2.1:=by kernel_rfl
theorem yRx:ConOk Tryz.prog 77 ⟨yfQ,ypF,fun x=>ylk x.1 x.2.1⟩:=zj2 (yOf) Tryz.func77 (by kernel_rfl) (by kernel_rfl) Tryz.ntmps77.symm (by decide) (fun x r h=>(yWT x).trans h)
def ykv (a0:dA) (a1:Int):Int×Int:=yKp a0 a1
theorem yUw (a0:dA) (a1:Int) (hk:zi2 yfQ (a0,a1,())):ylk a0 a1=(fun n=>some ((n.1,n.2,()),())) (ykv a0 a1):=by
 unfold ylk ykv yKp yb8 ydb
 simp only [yOK]
 cases hc:(yau a0 a1 !=0)
 ·obtain ⟨h1,h2,_⟩:=yAw (bne_eq_false_iff_eq.1 hc)
  have hs:=yt3 h2
  rw [yWJ h1 hs]
  simp only [cond_false]
  cases hn:(yI a0 (yB a0.2.1 a1)).2
  ·rfl
  ·have hl:=yoT h1 hs hn
   obtain ⟨_,_,h5⟩:=ykn h2
   have h6:yaq a0.2.1 a1=a1.tmod (a0.2.1.1 - 1):=by unfold yaq; rw [h2]; rfl
   rw [zjD.2 (show 0≤yaq a0.2.1 a1∧yaq a0.2.1 a1 < (yI a0 (yB a0.2.1 a1)).1.length by omega)]; rfl
 ·rfl
def yCw:Con:=⟨yfQ,ypF,fun x=>(fun n=>some ((n.1,n.2,()),())) (ykv x.1 x.2.1)⟩
theorem yVm:ConOk Tryz.prog 77 yCw:=(yRx).mono (fun x r hk h=>(yUw x.1 x.2.1 hk).trans h)
end
section
def yLq:Code:=(Tryz.f175.body).getD .skip
def yLX:Env:=zj3 TT [(46,ysw),(121,ykp),(135,yn)] []
theorem yTX:FrOk Tryz.prog ⟨yLX,20,fun _=>none⟩ yLq:=zj7 yb yc ⟨yBE,ysG,yu,trivial⟩
def yWm:Nat→Option Seg:=fun _=>none
abbrev yoo:List Par:= [.rd tA,.rd tI]
abbrev yuO:List OT:= [⟨false,tI,.fz⟩]
def yyq (a0:dA) (a1:Int):Option (ResD yuO×MutD yoo) :=
 let r1:=yZ a0
 bif (!r1) then
 some ((1,()),())
 else
 bif a0.2.2.2.2.2.2.2.2.2.2.1 then
 some ((6,()),())
 else
 let r2:=ym a0.2.1
 let r3:=ya a1 0 (IntKind.i64.wrap (r2 - 1))
 bif (!r3) then
 some ((2,()),())
 else
 some ((0,()),())
theorem y3C (x:InD yoo):zjx ⟨yLX,20,yWm⟩ Tryz.f175.results.toList yLq yoo yuO x=yyq x.1 x.2.1:=by kernel_rfl
theorem yZi:ConOk Tryz.prog 175 ⟨yoo,yuO,fun x=>yyq x.1 x.2.1⟩:=zj2 (yTX) Tryz.func175 (by kernel_rfl) (by kernel_rfl) Tryz.ntmps175.symm (by decide) (fun x r h=>(y3C x).trans h)
def yi9 (a0:dA) (a1:Int):Int :=
 let r1:=yZ a0
 bif (!r1) then
 1
 else
 bif a0.2.2.2.2.2.2.2.2.2.2.1 then
 6
 else
 let r2:=ym a0.2.1
 let r3:=ya a1 0 (IntKind.i64.wrap (r2 - 1))
 bif (!r3) then
 2
 else
 0
def yxF:Con:=⟨yoo,yuO,fun x=>(fun n=>some ((n,()),())) (yi9 x.1 x.2.1)⟩
theorem y1p (a0:dA) (a1:Int):yyq a0 a1=(fun n=>some ((n,()),())) (yi9 a0 a1):=zkq (p:=fun (n:Int)=>((n,()),())) (zkc (p:=fun (n:Int)=>((n,()),())) rfl (zkc (p:=fun (n:Int)=>((n,()),())) rfl (zkc (p:=fun (n:Int)=>((n,()),())) rfl rfl)))
theorem yJ1:ConOk Tryz.prog 175 yxF:=(yZi).mono (fun x r _ h=>(y1p x.1 x.2.1).trans h)
theorem yPC (a:dA) (b:Int):yi9 a b=yau a b:=by
 unfold yi9 yau yZ
 simp only [yWF]
 cases yx a<;>cases a.2.2.2.2.2.2.2.2.2.2.1<;>cases blkOk a.2.1 b<;>rfl
end
end
end Go.Tf
