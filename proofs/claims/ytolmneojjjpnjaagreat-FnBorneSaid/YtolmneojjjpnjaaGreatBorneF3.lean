/- Functions of the program, and what they come to. -/
import Derived.Test.YtolmneojjjpnjaaGreatBorneF2
namespace Go.Tf
noncomputable section
open Go.Proofs Go.Proofs.Tryz IntKind
set_option synthInstance.maxHeartbeats 400000
set_option synthInstance.maxSize 10000
set_option linter.unusedVariables false
set_option linter.unusedSimpArgs false
set_option maxRecDepth 100000
def yO6:Code:=(f132.body).getD .skip
def yPv:Env:=zkw TT [(51,ysH),(81,yA)] []
theorem yHK:FrOk prog ⟨yPv,10,fun _=>none⟩ yO6:=zkA mixed yc ⟨yE6,yN,trivial⟩
abbrev yr5:List Par:= [.rd tG,.rd tI]
abbrev ysp:List OT:= [⟨false,tB,.fz⟩]
def yzu (a0:dG) (a1:Int):Option (zaY ysp×zak yr5) :=let r1:=yg6 a0;let r2:=yf a1 0 (i64.wrap (r1-1));some ((r2,()),())
theorem yK3:ConOk prog 132 ⟨yr5,ysp,fun x=>yzu x.1 x.2.1⟩:=zkI (yHK) func132 ntmps132.symm fun x=>by kernel_rfl
def ybU (a0:dG) (a1:Int):Bool :=let r1:=yg6 a0;let r2:=yf a1 0 (i64.wrap (r1-1));r2
def yiJ:Con:=⟨yr5,ysp,fun x=>(fun n=>some ((n,()),())) (ybU x.1 x.2.1)⟩
theorem yNO (a0:dG) (a1:Int):yzu a0 a1=(fun n=>some ((n,()),())) (ybU a0 a1):=zkV (p:=fun(n:Bool)=>((n,()),())) rfl
theorem yqs:ConOk prog 132 yiJ:=(yK3).mono (fun x r _ h=>(yNO x.1 x.2.1).trans h)
theorem yEc (g:dG) (b:Int):ybU g b=ybQ g b:=by
 unfold ybU;simp only[yEY,y9,yXB]
def yO3:Code:=(f59.body).getD .skip
def yPs:Env:=zkw TT [(132,yiJ)] []
theorem yHF:FrOk prog ⟨yPs,14,fun _=>none⟩ yO3:=zkA mixed yc ⟨yqs,trivial⟩
abbrev ylB:List Par:= [.rd tG,.rd tI]
abbrev ysl:List OT:= [⟨false,tI,.fz⟩]
def yoN (a0:dG) (a1:Int):Option (zaY ysl×zak ylB) :=let r1:=ybU a0 a1;bif(!r1)then some (((-1),()),()) else bif((i64.wrap (a0.1-1)) !=0)then some (((i64.wrap (a1.tdiv (i64.wrap (a0.1-1)))),()),()) else none
theorem yKZ:ConOk prog 59 ⟨ylB,ysl,fun x=>yoN x.1 x.2.1⟩:=zkI (yHF) func59 ntmps59.symm fun x=>by kernel_rfl
def ybT (a0:dG) (a1:Int):Int:=yD a0 a1
theorem yNK (a0:dG) (a1:Int) (hk:zjx ylB (a0,a1,())):yoN a0 a1=(fun n=>some ((n,()),())) (ybT a0 a1):=by
 unfold yoN ybT yD;rw[yEc];cases hb:ybQ a0 a1
 ·rfl
 ·obtain⟨h1,h2,h3⟩:=yjE hb
  have h4:=yk.1 h1;rw[wq (a0.1-1) (by omega) (by omega),show(a0.1-1 !=0)=true from bne_iff_ne.2 (by omega),wr (by omega) (by omega)]; rfl
def yop:Con:=⟨ylB,ysl,fun x=>(fun n=>some ((n,()),())) (ybT x.1 x.2.1)⟩
theorem yB2:ConOk prog 59 yop:=(yKZ).mono (fun x r hk h=>(yNK x.1 x.2.1 hk).trans h)
def ySA:Code:=(f60.body).getD .skip
def yS4:Env:=zkw TT [(132,yiJ)] []
theorem yJP:FrOk prog ⟨yS4,14,fun _=>none⟩ ySA:=zkA mixed yc ⟨yqs,trivial⟩
abbrev ynv:List Par:= [.rd tG,.rd tI]
abbrev yuT:List OT:= [⟨false,tI,.fz⟩]
def yqx (a0:dG) (a1:Int):Option (zaY yuT×zak ynv) :=let r1:=ybU a0 a1;bif(!r1)then some (((-1),()),()) else bif((i64.wrap (a0.1-1)) !=0)then some (((a1.tmod (i64.wrap (a0.1-1))),()),()) else none
theorem yN3:ConOk prog 60 ⟨ynv,yuT,fun x=>yqx x.1 x.2.1⟩:=zkI (yJP) func60 ntmps60.symm fun x=>by kernel_rfl
def ycK (a0:dG) (a1:Int):Int:=ybr a0 a1
theorem yQP (a0:dG) (a1:Int) (hk:zjx ynv (a0,a1,())):yqx a0 a1=(fun n=>some ((n,()),())) (ycK a0 a1):=by
 unfold yqx ycK ybr;rw[yEc];cases hb:ybQ a0 a1
 ·rfl
 ·obtain⟨h1,h2,h3⟩:=yjE hb
  have h4:=yk.1 h1;rw[wq (a0.1-1) (by omega) (by omega),show(a0.1-1 !=0)=true from bne_iff_ne.2 (by omega)]; rfl
def yp8:Con:=⟨ynv,yuT,fun x=>(fun n=>some ((n,()),())) (ycK x.1 x.2.1)⟩
theorem yDD:ConOk prog 60 yp8:=(yN3).mono (fun x r hk h=>(yQP x.1 x.2.1 hk).trans h)
def yLM:Code:=(f134.body).getD .skip
def yL2:Env:=zkw TT [(55,yd7),(132,yiJ)] []
theorem yGw:FrOk prog ⟨yL2,18,fun _=>none⟩ yLM:=zkA mixed yc ⟨yg9,yqs,trivial⟩
abbrev yp3:List Par:= [.rd tA,.rd tI]
abbrev yp5:List OT:= [⟨false,tI,.fz⟩]
def ywR (a0:dA) (a1:Int):Option (zaY yp5×zak yp3) :=let r1:=yG a0;bif(!r1)then some ((1,()),()) else bif a0.2.2.2.2.2.2.2.2.2.2.1 then some ((6,()),()) else let r2:=ybU a0.2.1 a1;bif(!r2)then some ((2,()),()) else some ((0,()),())
theorem yIB:ConOk prog 134 ⟨yp3,yp5,fun x=>ywR x.1 x.2.1⟩:=zkI (yGw) func134 ntmps134.symm fun x=>by kernel_rfl
def yeb (a0:dA) (a1:Int):Int :=let r1:=yG a0;bif(!r1)then 1 else bif a0.2.2.2.2.2.2.2.2.2.2.1 then 6 else let r2:=ybU a0.2.1 a1;bif(!r2)then 2 else 0
def ymB:Con:=⟨yp3,yp5,fun x=>(fun n=>some ((n,()),())) (yeb x.1 x.2.1)⟩
theorem yKN (a0:dA) (a1:Int):ywR a0 a1=(fun n=>some ((n,()),())) (yeb a0 a1):=zkV (p:=fun(n:Int)=>((n,()),())) (zkG (p:=fun(n:Int)=>((n,()),())) rfl (zkG (p:=fun(n:Int)=>((n,()),())) rfl (zkG (p:=fun(n:Int)=>((n,()),())) rfl rfl)))
theorem yzs:ConOk prog 134 ymB:=(yIB).mono (fun x r _ h=>(yKN x.1 x.2.1).trans h)
theorem yH2 (a:dA) (b:Int):yeb a b=ybk a b:=by
 unfold yeb ybk yG;simp only[yEc];cases yP a<;>cases a.2.2.2.2.2.2.2.2.2.2.1<;>cases ybQ a.2.1 b<;>rfl
def yVI:Code:=(f141.body).getD .skip
def yWc:Env:=zkw TT [(87,yA3),(111,yl1),(168,ysK)] []
theorem yMx:FrOk prog ⟨yWc,38,fun _=>none⟩ yVI:=zkA mixed yc ⟨yRV,yvs,yE9,trivial⟩
abbrev ykp:List Par:= [.rd tA,.rd tI,.rd tI]
abbrev ypE:List OT:= [⟨false,tI,.fz⟩,⟨false,tB,.fz⟩]
def ytr (a0:dA) (a1 a2:Int):Option (zaY ypE×zak ykp) :=bif(inb a1 a0.2.2.1.length)then let r1:=yg7 a2;let r2:=yji ((nth a0.2.2.1 a1 ([],[],false,[])).1,((nth a0.2.2.1 a1 ([],[],false,[])).2).1,(((nth a0.2.2.1 a1 ([],[],false,[])).2).2)) r1;let r3:=ye7 a0 a1 a2;bif(!(!r3))then bif(!(!r2.2))then bif((r2.1.length:Int) !=1)then some ((0,false,()),()) else bif(inb 0 r2.1.length)then some (((nth r2.1 0 0),true,()),()) else none else some ((0,false,()),()) else some ((0,false,()),()) else none
theorem yRt:ConOk prog 141 ⟨ykp,ypE,fun x=>ytr x.1 x.2.1 x.2.2.1⟩:=zkI (yMx) func141 ntmps141.symm fun x=>by kernel_rfl
def ykD (a0:dA) (a1 a2:Int):Int×Bool:=(yo9 a0 a1 a2,yp a0 a1 a2)
def yyk (a0:dA) (a1 a2:Int):Bool:=inb a1 a0.2.2.1.length
theorem yTO (a0:dA) (a1 a2:Int) (hk:zjx ykp (a0,a1,a2,())) (hq:yyk a0 a1 a2=true):ytr a0 a1 a2=(fun n=>some ((n.1,n.2,()),())) (ykD a0 a1 a2):=by
 unfold ytr ykD yo9 ye7;simp only[zkX,yvo,yji];rw[show yp a0 a1 a2=(ycf a0 a1 a2&&((ycX a0 a1 a2).2&&((ycX a0 a1 a2).1.length:Int)==1))from rfl];rw[show yha (nth a0.2.2.1 a1 ([],[],false,[])) (yQ a2)=ycX a0 a1 a2 from rfl];rw[show inb a1 a0.2.2.1.length=true from hq];cases hl:ycf a0 a1 a2
 ·rfl
 ·cases(ycX a0 a1 a2).2
  ·rfl
  ·rw[bne]
   cases h1:(((ycX a0 a1 a2).1.length:Int)==1)
   ·rfl
   ·rw[show inb 0 (ycX a0 a1 a2).1.length=true from zj6.2 (by have:=beq_iff_eq.1 h1; omega)]; rfl
def ypM (a0:dA) (a1 a2:Int):Option (zaY ypE×zak ykp):=bif yyk a0 a1 a2 then(fun n=>some ((n.1,n.2,()),())) (ykD a0 a1 a2)else none
theorem yUR (a0:dA) (a1 a2:Int) (h:yyk a0 a1 a2=true):ypM a0 a1 a2=(fun n=>some ((n.1,n.2,()),())) (ykD a0 a1 a2):=by unfold ypM; rw[h]; rfl
def yC9:Con:=⟨ykp,ypE,fun x=>ypM x.1 x.2.1 x.2.2.1⟩
theorem yUz:ConOk prog 141 yC9:=(yRt).mono (fun x r hk h=>zkY h (fun hq=>yTO x.1 x.2.1 x.2.2.1 hk hq))
def yG3:Code:=(f191.body).getD .skip
def yG7:Env:=zkw TT [(81,yA),(185,yvh)] []
theorem yER:FrOk prog ⟨yG7,20,fun _=>none⟩ yG3:=zkA mixed yc ⟨yN,yGd,trivial⟩
abbrev yhg:List Par:= [.rd tL,.rd tI]
abbrev ymx:List OT:= [⟨false,tI,.fz⟩]
def yke (a0:List Int) (a1:Int):Option (zaY ymx×zak yhg) :=let r1:=yeI a0;let r2:=yf a1 0 (i64.wrap ((a0.length:Int)-1));bif r2 then bif(inb a1 a0.length)then some (((i64.wrap ((BitVec.ofInt IntKind.i64.bits r1 ^^^ BitVec.ofInt IntKind.i64.bits (nth a0 a1 0)).toNat:Int)),()),()) else none else some ((r1,()),())
theorem yFU:ConOk prog 191 ⟨yhg,ymx,fun x=>yke x.1 x.2.1⟩:=zkI (yER) func191 ntmps191.symm fun x=>by kernel_rfl
def yeG (a0:List Int) (a1:Int):Int:=ymG a0 a1
theorem yGL (a0:List Int) (a1:Int) (hk:zjx yhg (a0,a1,())):yke a0 a1=(fun n=>some ((n,()),())) (yeG a0 a1):=by
 have hb:a0.length*8≤2^47:=hk.1.1;unfold yke yeG ymG yeI;rw[y9,yh1 (show a0.length≤1152921504606846976 by omega)];cases inb a1 a0.length<;>rfl
def ysL:Con:=⟨yhg,ymx,fun x=>(fun n=>some ((n,()),())) (yeG x.1 x.2.1)⟩
theorem yGU:ConOk prog 191 ysL:=(yFU).mono (fun x r hk h=>(yGL x.1 x.2.1 hk).trans h)
def yrp:Code:=(f138.body).getD .skip
def yAd:Env:=zkw TT [(55,yd7),(109,ycJ),(141,yC9),(191,ysL)] []
theorem yP7:FrOk prog ⟨yAd,62,fun _=>none⟩ yrp:=zkA mixed yc ⟨yg9,yfK,yUz,yGU,trivial⟩
def yEo:Nat→Option Seg:=fun _=>none
def yco:Shape:=⟨[(1,false,[.int .i64]),(2,false,[.ptr 0 0]),(6,false,[.at 800000000]),(7,false,[.int .i64]),(28,false,[.int .i64]),(29,false,[.int .i64])],[(0,[.int .i64,.int .i64,.int .i64,.br tM,.int .i64,.int .i64,.int .i64,.int .i64,.int .i64,.br tW,.int .i64,.bool,.bool])],[(800000000,tI,.fz)]⟩
def ygl:Shape:=⟨[(1,false,[.int .i64]),(2,false,[.ptr 0 0]),(6,false,[.at 800000000]),(7,false,[.ci .i64 (-1)]),(28,false,[.int .i64]),(29,false,[.ci .i64 0])],[(0,[.int .i64,.int .i64,.int .i64,.br tM,.int .i64,.int .i64,.int .i64,.int .i64,.int .i64,.br tW,.int .i64,.bool,.bool])],[(800000000,tI,.fz)]⟩
def ygb:Shape:=⟨[(6,false,[.at 800000000]),(7,false,[.int .i64])],[],[(800000000,tI,.fz)]⟩
def ygv:Shape:=⟨[(4,false,[.nil]),(5,false,[.bool])],[],[]⟩
abbrev yot (v0 v1 v2 v3:Int) (v4:dA) (v5:List Int):(yco).X:=(((v0,()),((),()),((),()),(v1,()),(v2,()),(v3,()),()),((v4.1,v4.2.1.1,v4.2.1.2,v4.2.2.1,v4.2.2.2.1,v4.2.2.2.2.1,v4.2.2.2.2.2.1,v4.2.2.2.2.2.2.1,v4.2.2.2.2.2.2.2.1,v4.2.2.2.2.2.2.2.2.1,v4.2.2.2.2.2.2.2.2.2.1,v4.2.2.2.2.2.2.2.2.2.2.1,v4.2.2.2.2.2.2.2.2.2.2.2,()),()),(v5,()))
abbrev yKy (v0 v1:Int) (v2:dA) (v3:List Int):(ygl).X:=(((v0,()),((),()),((),()),((),()),(v1,()),((),()),()),((v2.1,v2.2.1.1,v2.2.1.2,v2.2.2.1,v2.2.2.2.1,v2.2.2.2.2.1,v2.2.2.2.2.2.1,v2.2.2.2.2.2.2.1,v2.2.2.2.2.2.2.2.1,v2.2.2.2.2.2.2.2.2.1,v2.2.2.2.2.2.2.2.2.2.1,v2.2.2.2.2.2.2.2.2.2.2.1,v2.2.2.2.2.2.2.2.2.2.2.2,()),()),(v3,()))
abbrev yKt (v0:Int) (v1:List Int):(ygb).X:=((((),()),(v0,()),()),(),(v1,()))
abbrev yKH (v0:Bool):(ygv).X:=((((),()),(v0,()),()),(),())
def yo0 (v0 v1 v2 v3 v4 v5 v6:Int) (v7:List dM) (v8 v9 v10 v11 v12:Int) (v13:List dW) (v14:Int) (v15 v16:Bool) (v17:List Int):Option ((yco).X ⊕ ((ygb).X ⊕ (ygv).X)) :=bif(ltb v3 v2)then bnd (ypM (v4,(v5,v6),v7,v8,v9,v10,v11,v12,v13,v14,v15,v16) v3 v0) fun r4 =>bif(!r4.1.2.1)then bif(leb 0 v1)then some (.inr (.inr ((((),()),(false,()),()),(),()))) else bif(!r4.1.2.1)then bif(zkl v17.length ([r4.1.1]:List Int).length 8)then some (.inl (((v0,()),((),()),((),()),(v3,()),(v2,()),((i64.wrap (v3+1)),()),()),((v4,v5,v6,v7,v8,v9,v10,v11,v12,v13,v14,v15,v16,()),()),((v17++([r4.1.1]:List Int)),()))) else none else bif(zkl v17.length ([r4.1.1]:List Int).length 8)then some (.inl (((v0,()),((),()),((),()),(v1,()),(v2,()),((i64.wrap (v3+1)),()),()),((v4,v5,v6,v7,v8,v9,v10,v11,v12,v13,v14,v15,v16,()),()),((v17++([r4.1.1]:List Int)),()))) else none else bif(!r4.1.2.1)then bif(zkl v17.length ([r4.1.1]:List Int).length 8)then some (.inl (((v0,()),((),()),((),()),(v3,()),(v2,()),((i64.wrap (v3+1)),()),()),((v4,v5,v6,v7,v8,v9,v10,v11,v12,v13,v14,v15,v16,()),()),((v17++([r4.1.1]:List Int)),()))) else none else bif(zkl v17.length ([r4.1.1]:List Int).length 8)then some (.inl (((v0,()),((),()),((),()),(v1,()),(v2,()),((i64.wrap (v3+1)),()),()),((v4,v5,v6,v7,v8,v9,v10,v11,v12,v13,v14,v15,v16,()),()),((v17++([r4.1.1]:List Int)),()))) else none else some (.inr (.inl ((((),()),(v1,()),()),(),(v17,()))))
def ycO (x:(yco).X):=yo0 x.1.1.1 x.1.2.2.2.1.1 x.1.2.2.2.2.1.1 x.1.2.2.2.2.2.1.1 x.2.1.1.1 x.2.1.1.2.1 x.2.1.1.2.2.1 x.2.1.1.2.2.2.1 x.2.1.1.2.2.2.2.1 x.2.1.1.2.2.2.2.2.1 x.2.1.1.2.2.2.2.2.2.1 x.2.1.1.2.2.2.2.2.2.2.1 x.2.1.1.2.2.2.2.2.2.2.2.1 x.2.1.1.2.2.2.2.2.2.2.2.2.1 x.2.1.1.2.2.2.2.2.2.2.2.2.2.1 x.2.1.1.2.2.2.2.2.2.2.2.2.2.2.1 x.2.1.1.2.2.2.2.2.2.2.2.2.2.2.2.1 x.2.2.1
def yy3 (x:(ygl).X):(yco).X:=(((x.1.1.1,()),((),()),((),()),((-1),()),(x.1.2.2.2.2.1.1,()),(0,()),()),((x.2.1.1.1,x.2.1.1.2.1,x.2.1.1.2.2.1,x.2.1.1.2.2.2.1,x.2.1.1.2.2.2.2.1,x.2.1.1.2.2.2.2.2.1,x.2.1.1.2.2.2.2.2.2.1,x.2.1.1.2.2.2.2.2.2.2.1,x.2.1.1.2.2.2.2.2.2.2.2.1,x.2.1.1.2.2.2.2.2.2.2.2.2.1,x.2.1.1.2.2.2.2.2.2.2.2.2.2.1,x.2.1.1.2.2.2.2.2.2.2.2.2.2.2.1,x.2.1.1.2.2.2.2.2.2.2.2.2.2.2.2.1,()),()),(x.2.2.1,()))
def yAQ:Code:=(zd7 yrp 64 500).getD .skip
theorem yL5:zd7 yrp 64 125=some (.block 0 (.loop yAQ)):=by kernel_rfl
theorem yON (x:(yco).X):zhu ⟨yAd,62,yEo⟩ 0 yAQ 500 yco ygb ygv x=ycO x:=by kernel_rfl
def yzd (x:(ygl).X):Nat:=18446744073709551616
def ypU (x:(ygl).X):Option ((ygb).X ⊕ (ygv).X):=zF ycO (yzd x) (yy3 x)
def yzx:Seg:=⟨ygl,ygb,ygv,ypU⟩
def ySU:Nat→Option Seg:=fun q=>bif Nat.beq q 125 then some yzx else yEo q
theorem yP8:FrOk prog ⟨yAd,62,ySU⟩ yrp:=(yP7).loop (sg:=yzx) yco yy3 (by decide) yL5 ycO yzd (by decide) (fun _=>rfl) (fun x r _ h=>h) yON
abbrev yr2:List Par:= [.rd tA,.rd tI]
abbrev yAz:List OT:= [⟨false,tL,(.ow .fz)⟩,⟨false,tB,.fz⟩]
def yvF (a0:dA) (a1:Int):Option (zaY yAz×zak yr2) :=let r1:=yG a0;bif(!(!r1))then bif(!a0.2.2.2.2.2.2.2.2.2.2.2)then let r2:=yam a0.2.1 a1;bif(!r2)then some (([],false,()),()) else zkt (ypU (((a1,()),((),()),((),()),((),()),((a0.2.2.1.length:Int),()),((),()),()),((a0.1,a0.2.1.1,a0.2.1.2,a0.2.2.1,a0.2.2.2.1,a0.2.2.2.2.1,a0.2.2.2.2.2.1,a0.2.2.2.2.2.2.1,a0.2.2.2.2.2.2.2.1,a0.2.2.2.2.2.2.2.2.1,a0.2.2.2.2.2.2.2.2.2.1,a0.2.2.2.2.2.2.2.2.2.2.1,a0.2.2.2.2.2.2.2.2.2.2.2,()),()),(([]:List Int),()))) (fun y4 =>bif(leb 0 y4.1.2.1.1)then let r6:=yeG y4.2.2.1 y4.1.2.1.1;bif(inb y4.1.2.1.1 y4.2.2.1.length)then some (((y4.2.2.1.set (y4.1.2.1.1).toNat r6),true,()),()) else none else some ((y4.2.2.1,true,()),())) (fun y4 =>some (([],y4.1.2.1.1,()),())) else some (([],false,()),()) else some (([],false,()),())
theorem yUe:ConOk prog 138 ⟨yr2,yAz,fun x=>yvF x.1 x.2.1⟩:=zkI (yP8) func138 ntmps138.symm fun x=>by kernel_rfl
def ymU (a0:dA) (a1:Int):List Int×Bool:=bif yP a0&&(!a0.2.2.2.2.2.2.2.2.2.2.2&&yX a0.2.1 a1)then yJ a0 a1 else([],false)
theorem yWz (a0:dA) (a1:Int) (hk:zjx yr2 (a0,a1,())):yvF a0 a1=(fun n=>some ((n.1,n.2,()),())) (ymU a0 a1):=by
 unfold yvF ymU yG;rw[yvU];cases ha:yP a0
 ·rfl
 have hg:=yk.1 (yfU ha);have hl:=yHk ha
 have h1:ypU (yKy a1 a0.2.2.1.length a0 [])=some (bif yek (fun(i:Nat)=>yp a0 i a1) a0.2.1.1.toNat then .inr (yKH false)else .inl (yKt (yu (fun(i:Nat)=>yp a0 i a1) a0.2.1.1.toNat) (yR a0 a1 a0.2.1.1.toNat))) :=
  zji (step:=ycO) (fun i=>yot a1 (yu (fun(i:Nat)=>yp a0 i a1) i) a0.2.2.1.length i a0 (yR a0 a1 i)) a0.2.1.1.toNat (fun i=> !yp a0 i a1&&leb 0 (yu (fun(i:Nat)=>yp a0 i a1) i)) _ _ (fun i hi=>by
   simp only[ycO,yot,yo0,zky (show(i:Int)<a0.2.2.1.length by omega),cond_true,wq ((i:Int)+1) (by omega) (by omega),Int.natCast_add,Int.natCast_one,Int.toNat_natCast,zkX,yUR a0 i a1 (zkR (show i<a0.2.2.1.length by omega)),ykD,zkH,yu];rw[zkF.2 (show((yR a0 a1 i).length+ [yo9 a0 i a1].length)*8≤140737488355328 by simp only[List.length_cons,List.length_nil,yeO]; omega),yGk]
   cases yp a0 i a1<;>cases leb 0 (yu (fun(i:Nat)=>yp a0 i a1) i)<;>rfl) (by simp only[ycO,yot,yo0,zk3 (show(a0.2.2.1.length:Int)≤(a0.2.1.1.toNat:Int)by omega),cond_false]) _ (by show _<18446744073709551616; omega)
 rw[h1];cases a0.2.2.2.2.2.2.2.2.2.2.2
 ·cases yX a0.2.1 a1
  ·rfl
  ·unfold yJ
   cases yek (fun(i:Nat)=>yp a0 i a1) a0.2.1.1.toNat
   ·simp only[cond_false,zkN,yeG]
    cases hm:leb 0 (yu (fun(i:Nat)=>yp a0 i a1) a0.2.1.1.toNat)
    ·rfl
    ·obtain⟨h2,h3⟩:=yVm a0 a1 a0.2.1.1.toNat hm
     rw[h2,h3]; rfl
   ·rfl
 ·rfl
def yEG:Con:=⟨yr2,yAz,fun x=>(fun n=>some ((n.1,n.2,()),())) (ymU x.1 x.2.1)⟩
theorem yWT:ConOk prog 138 yEG:=(yUe).mono (fun x r hk h=>(yWz x.1 x.2.1 hk).trans h)
def ypj:Code:=(f68.body).getD .skip
def yw9:Env:=zkw TT [(138,yEG),(142,ysJ)] []
theorem yMl:FrOk prog ⟨yw9,39,fun _=>none⟩ ypj:=zkA mixed yc ⟨yWT,yE8,trivial⟩
def yCH:Nat→Option Seg:=fun _=>none
def ybE:Shape:=⟨[(1,false,[.int .i64]),(2,false,[.ptr 0 0]),(6,false,[.at 800000000]),(8,false,[.at 800000001]),(22,false,[.int .i64]),(23,false,[.int .i64])],[(0,[.int .i64,.int .i64,.int .i64,.br tM,.int .i64,.int .i64,.int .i64,.int .i64,.int .i64,.br tW,.int .i64,.bool,.bool])],[(800000000,tI,.fz),(800000001,tI,.fz)]⟩
def yfp:Shape:=⟨[(1,false,[.int .i64]),(2,false,[.ptr 0 0]),(6,false,[.at 800000000]),(8,false,[.at 800000001]),(22,false,[.int .i64]),(23,false,[.ci .i64 0])],[(0,[.int .i64,.int .i64,.int .i64,.br tM,.int .i64,.int .i64,.int .i64,.int .i64,.int .i64,.br tW,.int .i64,.bool,.bool])],[(800000000,tI,.fz),(800000001,tI,.fz)]⟩
def yfd:Shape:=⟨[(8,false,[.at 800000000])],[],[(800000000,tI,.fz)]⟩
def yiA:Shape:=⟨[],[],[]⟩
abbrev ymI (v0 v1 v2:Int) (v3:dA) (v4 v5:List Int):(ybE).X:=(((v0,()),((),()),((),()),((),()),(v1,()),(v2,()),()),((v3.1,v3.2.1.1,v3.2.1.2,v3.2.2.1,v3.2.2.2.1,v3.2.2.2.2.1,v3.2.2.2.2.2.1,v3.2.2.2.2.2.2.1,v3.2.2.2.2.2.2.2.1,v3.2.2.2.2.2.2.2.2.1,v3.2.2.2.2.2.2.2.2.2.1,v3.2.2.2.2.2.2.2.2.2.2.1,v3.2.2.2.2.2.2.2.2.2.2.2,()),()),(v4,v5,()))
abbrev yIc (v0 v1:Int) (v2:dA) (v3 v4:List Int):(yfp).X:=(((v0,()),((),()),((),()),((),()),(v1,()),((),()),()),((v2.1,v2.2.1.1,v2.2.1.2,v2.2.2.1,v2.2.2.2.1,v2.2.2.2.2.1,v2.2.2.2.2.2.1,v2.2.2.2.2.2.2.1,v2.2.2.2.2.2.2.2.1,v2.2.2.2.2.2.2.2.2.1,v2.2.2.2.2.2.2.2.2.2.1,v2.2.2.2.2.2.2.2.2.2.2.1,v2.2.2.2.2.2.2.2.2.2.2.2,()),()),(v3,v4,()))
abbrev ywI (v0:List Int):(yfd).X:=((((),()),()),(),(v0,()))
def ym5 (v0 v1 v2 v3 v4 v5:Int) (v6:List dM) (v7 v8 v9 v10 v11:Int) (v12:List dW) (v13:Int) (v14 v15:Bool) (v16 v17:List Int):Option ((ybE).X ⊕ ((yfd).X ⊕ (yiA).X)) :=bif(ltb v2 v1)then let r3:=ye6 (v4,v5) v0 v2;bif(inb r3 v16.length)then bif(zkl v17.length ([(nth v16 r3 0)]:List Int).length 8)then some (.inl (((v0,()),((),()),((),()),((),()),(v1,()),((i64.wrap (v2+1)),()),()),((v3,v4,v5,v6,v7,v8,v9,v10,v11,v12,v13,v14,v15,()),()),(v16,(v17++([(nth v16 r3 0)]:List Int)),()))) else none else none else some (.inr (.inl ((((),()),()),(),(v17,()))))
def ybZ (x:(ybE).X):=ym5 x.1.1.1 x.1.2.2.2.2.1.1 x.1.2.2.2.2.2.1.1 x.2.1.1.1 x.2.1.1.2.1 x.2.1.1.2.2.1 x.2.1.1.2.2.2.1 x.2.1.1.2.2.2.2.1 x.2.1.1.2.2.2.2.2.1 x.2.1.1.2.2.2.2.2.2.1 x.2.1.1.2.2.2.2.2.2.2.1 x.2.1.1.2.2.2.2.2.2.2.2.1 x.2.1.1.2.2.2.2.2.2.2.2.2.1 x.2.1.1.2.2.2.2.2.2.2.2.2.2.1 x.2.1.1.2.2.2.2.2.2.2.2.2.2.2.1 x.2.1.1.2.2.2.2.2.2.2.2.2.2.2.2.1 x.2.2.1 x.2.2.2.1
def ywe (x:(yfp).X):(ybE).X:=(((x.1.1.1,()),((),()),((),()),((),()),(x.1.2.2.2.2.1.1,()),(0,()),()),((x.2.1.1.1,x.2.1.1.2.1,x.2.1.1.2.2.1,x.2.1.1.2.2.2.1,x.2.1.1.2.2.2.2.1,x.2.1.1.2.2.2.2.2.1,x.2.1.1.2.2.2.2.2.2.1,x.2.1.1.2.2.2.2.2.2.2.1,x.2.1.1.2.2.2.2.2.2.2.2.1,x.2.1.1.2.2.2.2.2.2.2.2.2.1,x.2.1.1.2.2.2.2.2.2.2.2.2.2.1,x.2.1.1.2.2.2.2.2.2.2.2.2.2.2.1,x.2.1.1.2.2.2.2.2.2.2.2.2.2.2.2.1,()),()),(x.2.2.1,x.2.2.2.1,()))
def yyA:Code:=(zd7 ypj 64 500).getD .skip
theorem yJx:zd7 ypj 64 125=some (.block 0 (.loop yyA)):=by kernel_rfl
theorem yLl (x:(ybE).X):zhu ⟨yw9,39,yCH⟩ 0 yyA 500 ybE yfd yiA x=ybZ x:=by kernel_rfl
def ywt (x:(yfp).X):Nat:=18446744073709551616
def yn5 (x:(yfp).X):Option ((yfd).X ⊕ (yiA).X):=zF ybZ (ywt x) (ywe x)
def ywU:Seg:=⟨yfp,yfd,yiA,yn5⟩
def yPe:Nat→Option Seg:=fun q=>bif Nat.beq q 125 then some ywU else yCH q
theorem yMm:FrOk prog ⟨yw9,39,yPe⟩ ypj:=(yMl).loop (sg:=ywU) ybE ywe (by decide) yJx ybZ ywt (by decide) (fun _=>rfl) (fun x r _ h=>h) yLl
abbrev ypr:List Par:= [.rd tA,.rd tI]
abbrev yxF:List OT:= [⟨false,tL,(.ow .fz)⟩,⟨false,tB,.fz⟩]
def ytn (a0:dA) (a1:Int):Option (zaY yxF×zak ypr) :=let r1:=ymU a0 a1;bif(!r1.2)then some (([],false,()),()) else zkt (yn5 (((a1,()),((),()),((),()),((),()),((i64.wrap (a0.2.1.1-1)),()),((),()),()),((a0.1,a0.2.1.1,a0.2.1.2,a0.2.2.1,a0.2.2.2.1,a0.2.2.2.2.1,a0.2.2.2.2.2.1,a0.2.2.2.2.2.2.1,a0.2.2.2.2.2.2.2.1,a0.2.2.2.2.2.2.2.2.1,a0.2.2.2.2.2.2.2.2.2.1,a0.2.2.2.2.2.2.2.2.2.2.1,a0.2.2.2.2.2.2.2.2.2.2.2,()),()),(r1.1,([]:List Int),()))) (fun y3 =>some ((y3.2.2.1,true,()),())) (fun y3 =>none)
theorem yRi:ConOk prog 68 ⟨ypr,yxF,fun x=>ytn x.1 x.2.1⟩:=zkI (yMm) func68 ntmps68.symm fun x=>by kernel_rfl
def ye5 (a0:dA) (a1:Int):List Int×Bool:=ybB a0 a1
theorem yTD (a0:dA) (a1:Int) (hk:zjx ypr (a0,a1,())):ytn a0 a1=(fun n=>some ((n.1,n.2,()),())) (ye5 a0 a1):=by
 unfold ytn ye5 ybB ymU;cases hc:(yP a0&&(!a0.2.2.2.2.2.2.2.2.2.2.2&&yX a0.2.1 a1))
 ·rfl
 simp only[Bool.and_eq_true]at hc;have hg:=yk.1 (yfU hc.1);have hs:=hc.2.2;unfold ynO;simp only[cond_true];cases hw:(yJ a0 a1).2
 ·rfl
 ·have hL:=yI2 hw
  have h1:yn5 (yIc a1 (a0.2.1.1-1) a0 (yJ a0 a1).1 [])=some (.inl (ywI ((List.range (a0.2.1.1-1).toNat).foldl (fun l (i:Nat)=>l++ [nth (yJ a0 a1).1 (ybl a0.2.1 a1 i) 0]) []))) :=
   zkD (step:=ybZ) (a0.2.1.1-1).toNat (fun i s=>ymI a1 (a0.2.1.1-1) i a0 (yJ a0 a1).1 s) (fun l (i:Nat)=>l++ [nth (yJ a0 a1).1 (ybl a0.2.1 a1 i) 0]) (fun i s=>s.length=i) (fun s=> .inl (ywI s)) (fun i s hi hs2=>⟨by
    have hd:=yTr hs (show(0:Int)≤i by omega) (show(i:Int)≤a0.2.1.1-2 by omega);simp only[ybZ,ymI,ym5,zky (show(i:Int)<a0.2.1.1-1 by omega),cond_true,wq ((i:Int)+1) (by omega) (by omega),Int.natCast_add,Int.natCast_one,Int.toNat_natCast,zkX,ye6,zj6.2 (show 0≤ybl a0.2.1 a1 i∧ybl a0.2.1 a1 i<(yJ a0 a1).1.length by omega)]
    rw[zkF.2 (show(s.length+ [nth (yJ a0 a1).1 (ybl a0.2.1 a1 i) 0].length)*8≤140737488355328 by simp only[List.length_cons,List.length_nil]; omega)]; rfl,by simp[hs2]⟩) (fun s hs2=>by simp only[ybZ,ymI,ym5,zk3 (show a0.2.1.1-1≤((a0.2.1.1-1).toNat:Int)by omega),cond_false]) [] rfl _ (by show _<18446744073709551616; omega)
  simp only[wq (a0.2.1.1-1) (by omega) (by omega)];rw[h1,ysZ]; rfl
def ysI:Con:=⟨ypr,yxF,fun x=>(fun n=>some ((n.1,n.2,()),())) (ye5 x.1 x.2.1)⟩
theorem yE7:ConOk prog 68 ysI:=(yRi).mono (fun x r hk h=>(yTD x.1 x.2.1 hk).trans h)
def ySD:Code:=(f220.body).getD .skip
def yS7:Env:=zkw TT [] []
theorem yJ1:FrOk prog ⟨yS7,8,fun _=>none⟩ ySD:=zkA mixed yc trivial
abbrev yuH:List Par:= [.rd tW,.rp tI]
abbrev yuZ:List OT:= [⟨false,tB,.fz⟩]
def yCd (a0:dW) (a1:Int):Option (zaY yuZ×zak yuH) :=some (((a0.1==a1),()),())
theorem yOa:ConOk prog 220 ⟨yuH,yuZ,fun x=>yCd x.1 x.2.1⟩:=zkI (yJ1) func220 ntmps220.symm fun x=>by kernel_rfl
def ynR (a0:dW) (a1:Int):Bool :=(a0.1==a1)
def yA6:Con:=⟨yuH,yuZ,fun x=>(fun n=>some ((n,()),())) (ynR x.1 x.2.1)⟩
theorem yQW (a0:dW) (a1:Int):yCd a0 a1=(fun n=>some ((n,()),())) (ynR a0 a1):=zkV (p:=fun(n:Bool)=>((n,()),())) rfl
theorem yRY:ConOk prog 220 yA6:=(yOa).mono (fun x r _ h=>(yQW x.1 x.2.1).trans h)
def yeg:Code:=(f219.body).getD .skip
def yii:Env:=zkw TT [(220,yA6)] []
theorem yzK:FrOk prog ⟨yii,19,fun _=>none⟩ yeg:=zkA mixed yc ⟨yRY,trivial⟩
def ymh:Nat→Option Seg:=fun _=>none
def yY:Shape:=⟨[(0,false,[.br tW]),(1,false,[.fx 220 tI]),(7,false,[.int .i64]),(8,false,[.int .i64])],[],[]⟩
def yaZ:Shape:=⟨[(0,false,[.br tW]),(1,false,[.fx 220 tI]),(7,false,[.int .i64]),(8,false,[.ci .i64 0])],[],[]⟩
def yaX:Shape:=⟨[],[],[]⟩
def ya1:Shape:=⟨[(4,false,[.int .i64])],[],[]⟩
abbrev ye3 (v0:List dW) (v1 v2 v3:Int):(yY).X:=(((v0,()),(v1,()),(v2,()),(v3,()),()),(),())
abbrev yyi (v0:List dW) (v1 v2:Int):(yaZ).X:=(((v0,()),(v1,()),(v2,()),((),()),()),(),())
abbrev yyg  :(yaX).X:=((),(),())
abbrev ykA (v0:Int):(ya1).X:=(((v0,()),()),(),())
def ye9 (v0:List dW) (v1 v2 v3:Int):Option ((yY).X ⊕ ((yaX).X ⊕ (ya1).X)) :=bif(ltb v3 v2)then bif(inb v3 v0.length)then let r2:=ynR (nth v0 v3 (0,[])) v1;bif r2 then some (.inr (.inr (((v3,()),()),(),()))) else some (.inl (((v0,()),(v1,()),(v2,()),((i64.wrap (v3+1)),()),()),(),())) else none else some (.inr (.inl ((),(),())))
def yaf (x:(yY).X):=ye9 x.1.1.1 x.1.2.1.1 x.1.2.2.1.1 x.1.2.2.2.1.1
def ykv (x:(yaZ).X):(yY).X:=(((x.1.1.1,()),(x.1.2.1.1,()),(x.1.2.2.1.1,()),(0,()),()),(),())
def ylZ:Code:=(zd7 yeg 64 52).getD .skip
theorem yzI:zd7 yeg 64 13=some (.block 0 (.loop ylZ)):=by kernel_rfl
theorem yzS (x:(yY).X):zhu ⟨yii,19,ymh⟩ 0 ylZ 52 yY yaX ya1 x=yaf x:=by kernel_rfl
def ykx (x:(yaZ).X):Nat:=18446744073709551616
def yfP (x:(yaZ).X):Option ((yaX).X ⊕ (ya1).X):=zF yaf (ykx x) (ykv x)
def ykQ:Seg:=⟨yaZ,yaX,ya1,yfP⟩
def yz5:Nat→Option Seg:=fun q=>bif Nat.beq q 13 then some ykQ else ymh q
theorem yzL:FrOk prog ⟨yii,19,yz5⟩ yeg:=(yzK).loop (sg:=ykQ) yY ykv (by decide) yzI yaf ykx (by decide) (fun _=>rfl) (fun x r _ h=>h) yzS
abbrev yei:List Par:= [.rd tWs,.fn 220 tI]
abbrev yik:List OT:= [⟨false,tI,.fz⟩]
def ygK (a0:List dW) (a1:Int):Option (zaY yik×zak yei) :=zkt (yfP (((a0,()),(a1,()),((a0.length:Int),()),((),()),()),(),())) (fun y2 =>some (((-1),()),())) (fun y2 =>some ((y2.1.1.1,()),()))
theorem yBY:ConOk prog 219 ⟨yei,yik,fun x=>ygK x.1 x.2.1⟩:=zkI (yzL) func219 ntmps219.symm fun x=>by kernel_rfl
def yel (a0:List dW) (a1:Int):Int:=yx a0 a1
theorem yCC (a0:List dW) (a1:Int) (hk:zjx yei (a0,a1,())):ygK a0 a1=(fun n=>some ((n,()),())) (yel a0 a1):=by
 have hb:a0.length*32≤2^47:=hk.1.1
 have h1:yfP (yyi a0 a1 a0.length)=some (bif leb 0 (yx a0 a1)then .inr (ykA (yx a0 a1))else .inl yyg) :=
  yDB (step:=yaf) a0 (0,[]) (fun i=>ye3 a0 a1 a0.length i) (fun e:dW=>e.1==a1) (fun i=> .inr (ykA i)) _ (fun i hi=>by
   simp only[yaf,ye3,ye9,zky (show(i:Int)<a0.length by omega),cond_true,wq ((i:Int)+1) (by omega) (by omega),Int.natCast_add,Int.natCast_one,Int.toNat_natCast,zkR hi,zkS,ynR]
   cases((a0.getD i (0,[])).1==a1)<;>rfl) (by simp only[yaf,ye3,ye9,zk3 (Int.le_refl _),cond_false]) _ (by show _<18446744073709551616; omega)
 unfold ygK yel;rw[h1];cases h:leb 0 (yx a0 a1)
 ·rw[show yx a0 a1= -1 from yI9 h]; rfl
 ·rfl
def ymC:Con:=⟨yei,yik,fun x=>(fun n=>some ((n,()),())) (yel x.1 x.2.1)⟩
theorem yCF:ConOk prog 219 ymC:=(yBY).mono (fun x r hk h=>(yCC x.1 x.2.1 hk).trans h)
def yXg:Code:=(f188.body).getD .skip
def yXs:Env:=zkw TT [(219,ymC)] []
theorem yQb:FrOk prog ⟨yXs,9,fun _=>none⟩ yXg:=zkA mixed yc ⟨yCF,trivial⟩
abbrev yr4:List Par:= [.rd tA,.rd tI]
abbrev yAB:List OT:= [⟨false,tI,.fz⟩]
def yFm (a0:dA) (a1:Int):Option (zaY yAB×zak yr4) :=let r1:=yel a0.2.2.2.2.2.2.2.2.1 a1;some ((r1,()),())
theorem yUg:ConOk prog 188 ⟨yr4,yAB,fun x=>yFm x.1 x.2.1⟩:=zkI (yQb) func188 ntmps188.symm fun x=>by kernel_rfl
def ytf (a0:dA) (a1:Int):Int:=yx a0.2.2.2.2.2.2.2.2.1 a1
theorem yWB (a0:dA) (a1:Int) (hk:zjx yr4 (a0,a1,())):yFm a0 a1=(fun n=>some ((n,()),())) (ytf a0 a1):=rfl
def yEH:Con:=⟨yr4,yAB,fun x=>(fun n=>some ((n,()),())) (ytf x.1 x.2.1)⟩
theorem yWU:ConOk prog 188 yEH:=(yUg).mono (fun x r hk h=>(yWB x.1 x.2.1 hk).trans h)
def ySC:Code:=(f136.body).getD .skip
def yS6:Env:=zkw TT [(68,ysI),(158,yaP),(188,yEH)] []
theorem yJY:FrOk prog ⟨yS6,24,fun _=>none⟩ ySC:=zkA mixed yc ⟨yE7,ycA,yWU,trivial⟩
abbrev ynz:List Par:= [.rd tA,.rd tI]
abbrev yuY:List OT:= [⟨false,tL,(.ow .fz)⟩,⟨false,tB,.fz⟩]
def yqB (a0:dA) (a1:Int):Option (zaY yuY×zak ynz) :=let r1:=ytf a0 a1;bif(leb 0 r1)then bif(inb r1 a0.2.2.2.2.2.2.2.2.1.length)then let r2:=yn ((nth a0.2.2.2.2.2.2.2.2.1 r1 (0,[])).2);some ((r2,true,()),()) else none else let r3:=ye5 a0 a1;some ((r3.1,r3.2,()),())
theorem yN8:ConOk prog 136 ⟨ynz,yuY,fun x=>yqB x.1 x.2.1⟩:=zkI (yJY) func136 ntmps136.symm fun x=>by kernel_rfl
def ycL (a0:dA) (a1:Int):List Int×Bool:=bif leb 0 (yx a0.2.2.2.2.2.2.2.2.1 a1)then((nth a0.2.2.2.2.2.2.2.2.1 (yx a0.2.2.2.2.2.2.2.2.1 a1) (0,[])).2,true)else ybB a0 a1
theorem yQU (a0:dA) (a1:Int) (hk:zjx ynz (a0,a1,())):yqB a0 a1=(fun n=>some ((n.1,n.2,()),())) (ycL a0 a1):=by
 unfold yqB ycL ytf ye5 yn;simp only[];cases h:leb 0 (yx a0.2.2.2.2.2.2.2.2.1 a1)
 ·rfl
 ·rw[show inb (yx a0.2.2.2.2.2.2.2.2.1 a1) a0.2.2.2.2.2.2.2.2.1.length=true from(yj4 (d:=((0,[]):dW)) h).1]; rfl
theorem yPU {a:dA} {s:Int} (h:yP a=true) (hs:yX a.2.1 s=true):ycL a s=yz a s:=by
 unfold ycL yz ybB;rw[h,hs];cases a.2.2.2.2.2.2.2.2.2.2.2<;>rfl
def yp9:Con:=⟨ynz,yuY,fun x=>(fun n=>some ((n.1,n.2,()),())) (ycL x.1 x.2.1)⟩
theorem yDE:ConOk prog 136 yp9:=(yN8).mono (fun x r hk h=>(yQU x.1 x.2.1 hk).trans h)
def yO0:Code:=(f65.body).getD .skip
def yPp:Env:=zkw TT [(59,yop),(60,yp8),(134,ymB),(136,yp9)] []
theorem yHA:FrOk prog ⟨yPp,33,fun _=>none⟩ yO0:=zkA mixed yc ⟨yB2,yDD,yzs,yDE,trivial⟩
abbrev yly:List Par:= [.rd tA,.rd tI]
abbrev ysh:List OT:= [⟨false,tI,.fz⟩,⟨false,tI,.fz⟩]
def yoK (a0:dA) (a1:Int):Option (zaY ysh×zak yly) :=let r1:=yeb a0 a1;bif(r1 !=0)then some ((0,r1,()),()) else let r2:=ybT a0.2.1 a1;let r3:=ycL a0 r2;bif(!r3.2)then some ((0,5,()),()) else let r4:=ycK a0.2.1 a1;bif(inb r4 r3.1.length)then some (((nth r3.1 r4 0),0,()),()) else none
theorem yKV:ConOk prog 65 ⟨yly,ysh,fun x=>yoK x.1 x.2.1⟩:=zkI (yHA) func65 ntmps65.symm fun x=>by kernel_rfl
def yh4 (a0:dA) (a1:Int):Int×Int:=ydm a0 a1
theorem yNG (a0:dA) (a1:Int) (hk:zjx yly (a0,a1,())):yoK a0 a1=(fun n=>some ((n.1,n.2,()),())) (yh4 a0 a1):=by
 unfold yoK yh4 ydm ybT ycK;simp only[yH2];cases hc:(ybk a0 a1 !=0)
 ·obtain⟨h1,h2,_⟩:=yU5 (bne_eq_false_iff_eq.1 hc)
  have hs:=ykT h2;rw[yPU h1 hs];simp only[cond_false];cases hn:(yz a0 (yD a0.2.1 a1)).2
  ·rfl
  ·have hl:=ykS h1 hs hn
   obtain⟨_,_,h5⟩:=yjE h2;have h6:ybr a0.2.1 a1=a1.tmod (a0.2.1.1-1):=by unfold ybr; rw[h2]; rfl
   rw[zj6.2 (show 0≤ybr a0.2.1 a1∧ybr a0.2.1 a1<(yz a0 (yD a0.2.1 a1)).1.length by omega)]; rfl
 ·rfl
def yyQ:Con:=⟨yly,ysh,fun x=>(fun n=>some ((n.1,n.2,()),())) (yh4 x.1 x.2.1)⟩
theorem yOy:ConOk prog 65 yyQ:=(yKV).mono (fun x r hk h=>(yNG x.1 x.2.1 hk).trans h)
def ylm:Code:=(f50.body).getD .skip
def yrD:Env:=zkw TT [(51,ysH),(65,yyQ)] []
theorem yHv:FrOk prog ⟨yrD,28,fun _=>none⟩ ylm:=zkA mixed yc ⟨yE6,yOy,trivial⟩
def yyr:Nat→Option Seg:=fun _=>none
def ybf:Shape:=⟨[(1,false,[.ptr 0 0]),(3,false,[.at 800000000]),(10,false,[.int .i64]),(11,false,[.int .i64])],[(0,[.int .i64,.int .i64,.int .i64,.br tM,.int .i64,.int .i64,.int .i64,.int .i64,.int .i64,.br tW,.int .i64,.bool,.bool])],[(800000000,tI,.fz)]⟩
def yex:Shape:=⟨[(1,false,[.ptr 0 0]),(3,false,[.at 800000000]),(10,false,[.int .i64]),(11,false,[.ci .i64 0])],[(0,[.int .i64,.int .i64,.int .i64,.br tM,.int .i64,.int .i64,.int .i64,.int .i64,.int .i64,.br tW,.int .i64,.bool,.bool])],[(800000000,tI,.fz)]⟩
def yeq:Shape:=⟨[(3,false,[.at 800000000])],[],[(800000000,tI,.fz)]⟩
def yeE:Shape:=⟨[(2,false,[.nil])],[],[]⟩
abbrev yk1 (v0 v1:Int) (v2:dA) (v3:List Int):(ybf).X:=((((),()),((),()),(v0,()),(v1,()),()),((v2.1,v2.2.1.1,v2.2.1.2,v2.2.2.1,v2.2.2.2.1,v2.2.2.2.2.1,v2.2.2.2.2.2.1,v2.2.2.2.2.2.2.1,v2.2.2.2.2.2.2.2.1,v2.2.2.2.2.2.2.2.2.1,v2.2.2.2.2.2.2.2.2.2.1,v2.2.2.2.2.2.2.2.2.2.2.1,v2.2.2.2.2.2.2.2.2.2.2.2,()),()),(v3,()))
abbrev yGE (v0:Int) (v1:dA) (v2:List Int):(yex).X:=((((),()),((),()),(v0,()),((),()),()),((v1.1,v1.2.1.1,v1.2.1.2,v1.2.2.1,v1.2.2.2.1,v1.2.2.2.2.1,v1.2.2.2.2.2.1,v1.2.2.2.2.2.2.1,v1.2.2.2.2.2.2.2.1,v1.2.2.2.2.2.2.2.2.1,v1.2.2.2.2.2.2.2.2.2.1,v1.2.2.2.2.2.2.2.2.2.2.1,v1.2.2.2.2.2.2.2.2.2.2.2,()),()),(v2,()))
abbrev yub (v0:List Int):(yeq).X:=((((),()),()),(),(v0,()))
abbrev yGJ  :(yeE).X:=((((),()),()),(),())
def yle (v0 v1 v2 v3 v4:Int) (v5:List dM) (v6 v7 v8 v9 v10:Int) (v11:List dW) (v12:Int) (v13 v14:Bool) (v15:List Int):Option ((ybf).X ⊕ ((yeq).X ⊕ (yeE).X)) :=bif(ltb v1 v0)then let r3:=yh4 (v2,(v3,v4),v5,v6,v7,v8,v9,v10,v11,v12,v13,v14) v1;bif(r3.2 !=0)then some (.inr (.inr ((((),()),()),(),()))) else bif(zkl v15.length ([r3.1]:List Int).length 8)then some (.inl ((((),()),((),()),(v0,()),((i64.wrap (v1+1)),()),()),((v2,v3,v4,v5,v6,v7,v8,v9,v10,v11,v12,v13,v14,()),()),((v15++([r3.1]:List Int)),()))) else none else some (.inr (.inl ((((),()),()),(),(v15,()))))
def ybv (x:(ybf).X):=yle x.1.2.2.1.1 x.1.2.2.2.1.1 x.2.1.1.1 x.2.1.1.2.1 x.2.1.1.2.2.1 x.2.1.1.2.2.2.1 x.2.1.1.2.2.2.2.1 x.2.1.1.2.2.2.2.2.1 x.2.1.1.2.2.2.2.2.2.1 x.2.1.1.2.2.2.2.2.2.2.1 x.2.1.1.2.2.2.2.2.2.2.2.1 x.2.1.1.2.2.2.2.2.2.2.2.2.1 x.2.1.1.2.2.2.2.2.2.2.2.2.2.1 x.2.1.1.2.2.2.2.2.2.2.2.2.2.2.1 x.2.1.1.2.2.2.2.2.2.2.2.2.2.2.2.1 x.2.2.1
def ytX (x:(yex).X):(ybf).X:=((((),()),((),()),(x.1.2.2.1.1,()),(0,()),()),((x.2.1.1.1,x.2.1.1.2.1,x.2.1.1.2.2.1,x.2.1.1.2.2.2.1,x.2.1.1.2.2.2.2.1,x.2.1.1.2.2.2.2.2.1,x.2.1.1.2.2.2.2.2.2.1,x.2.1.1.2.2.2.2.2.2.2.1,x.2.1.1.2.2.2.2.2.2.2.2.1,x.2.1.1.2.2.2.2.2.2.2.2.2.1,x.2.1.1.2.2.2.2.2.2.2.2.2.2.1,x.2.1.1.2.2.2.2.2.2.2.2.2.2.2.1,x.2.1.1.2.2.2.2.2.2.2.2.2.2.2.2.1,()),()),(x.2.2.1,()))
def yv3:Code:=(zd7 ylm 64 116).getD .skip
theorem yHd:zd7 ylm 64 29=some (.block 0 (.loop yv3)):=by kernel_rfl
theorem yIO (x:(ybf).X):zhu ⟨yrD,28,yyr⟩ 0 yv3 116 ybf yeq yeE x=ybv x:=by kernel_rfl
def yt5 (x:(yex).X):Nat:=18446744073709551616
def ymn (x:(yex).X):Option ((yeq).X ⊕ (yeE).X):=zF ybv (yt5 x) (ytX x)
def yuj:Seg:=⟨yex,yeq,yeE,ymn⟩
def yJk:Nat→Option Seg:=fun q=>bif Nat.beq q 29 then some yuj else yyr q
theorem yHw:FrOk prog ⟨yrD,28,yJk⟩ ylm:=(yHv).loop (sg:=yuj) ybf ytX (by decide) yHd ybv yt5 (by decide) (fun _=>rfl) (fun x r _ h=>h) yIO
abbrev ylv:List Par:= [.rd tA]
abbrev yse:List OT:= [⟨false,tL,(.ow .fz)⟩]
def yoH (a0:dA):Option (zaY yse×zak ylv) :=let r1:=yg6 a0.2.1;zkt (ymn ((((),()),((),()),(r1,()),((),()),()),((a0.1,a0.2.1.1,a0.2.1.2,a0.2.2.1,a0.2.2.2.1,a0.2.2.2.2.1,a0.2.2.2.2.2.1,a0.2.2.2.2.2.2.1,a0.2.2.2.2.2.2.2.1,a0.2.2.2.2.2.2.2.2.1,a0.2.2.2.2.2.2.2.2.2.1,a0.2.2.2.2.2.2.2.2.2.2.1,a0.2.2.2.2.2.2.2.2.2.2.2,()),()),(([]:List Int),()))) (fun y3 =>some ((y3.2.2.1,()),())) (fun y3 =>some (([],()),()))
theorem yKS:ConOk prog 50 ⟨ylv,yse,fun x=>yoH x.1⟩:=zkI (yHw) func50 ntmps50.symm fun x=>by kernel_rfl
def yeT (a0:dA):List Int:=yBj a0
theorem yND (a0:dA) (hk:zjx ylv (a0,())):yoH a0=(fun n=>some ((n,()),())) (yeT a0):=by
 have hB:=yFq a0.2.1
 have h1:ymn (yGE (yh a0.2.1) a0 [])=some (bif(List.range (yh a0.2.1).toNat).all (fun(b:Nat)=> !((ydm a0 b).2 !=0))then .inl (yub ((List.range (yh a0.2.1).toNat).foldl (fun l (b:Nat)=>l++ [(ydm a0 b).1]) []))else .inr yGJ) :=
  zhU (step:=ybv) (yh a0.2.1).toNat (fun i s=>yk1 (yh a0.2.1) i a0 s) (fun(b:Nat)=> !((ydm a0 b).2 !=0)) (fun l (b:Nat)=>l++ [(ydm a0 b).1]) (fun i s=>s.length=i) (fun s=> .inl (yub s)) _ (fun i s hi hs=>by
   refine⟨?_,fun _=>by simp[hs]⟩;simp only[ybv,yk1,yle,zky (show(i:Int)<yh a0.2.1 by omega),cond_true,wq ((i:Int)+1) (by omega) (by omega),Int.natCast_add,Int.natCast_one,Int.toNat_natCast,zkX,yh4,zkF.2 (show(s.length+ [(ydm a0 i).1].length)*8≤140737488355328 by simp only[List.length_cons,List.length_nil]; omega)]
   cases((ydm a0 i).2 !=0)<;>rfl) (fun s hs=>by simp only[ybv,yk1,yle,zk3 (show yh a0.2.1≤((yh a0.2.1).toNat:Int)by omega),cond_false]) [] rfl _ (by show _<18446744073709551616; omega)
 unfold yoH yeT yBj;simp only[yEY];rw[h1,ysZ];cases(List.range (yh a0.2.1).toNat).all (fun(b:Nat)=> !((ydm a0 b).2 !=0))<;>rfl
def yyN:Con:=⟨ylv,yse,fun x=>(fun n=>some ((n,()),())) (yeT x.1)⟩
theorem yOv:ConOk prog 50 yyN:=(yKS).mono (fun x r hk h=>(yND x.1 hk).trans h)
def yrs:Code:=(f69.body).getD .skip
def yAg:Env:=zkw TT [] []
theorem yQn:FrOk prog ⟨yAg,32,fun _=>none⟩ yrs:=zkA mixed yc trivial
def yEs:Nat→Option Seg:=fun _=>none
def yeR:Shape:=⟨[(0,false,[.fz tY]),(3,false,[.int .i64]),(4,false,[.int .i64])],[],[]⟩
def ylN:Shape:=⟨[(0,false,[.fz tY]),(3,false,[.int .i64]),(4,false,[.ci .i64 0])],[],[]⟩
def ylM:Shape:=⟨[(0,false,[.fz tY]),(3,false,[.int .i64])],[],[]⟩
def ylU:Shape:=⟨[],[],[]⟩
def yCz (v0:List Int) (v1 v2:Int):Option ((yeR).X ⊕ ((ylM).X ⊕ (ylU).X)) :=bif(ltb v2 (v0.length:Int))then bif(ltb v2 4000)then bif(inb v2 v0.length)then some (.inl (((v0,()),((i64.wrap ((BitVec.ofInt IntKind.i64.bits (i64.wrap ((i64.wrap ((i64.wrap (v1*137))+(i64.wrap (nth v0 v2 0))))+11)) &&& BitVec.ofInt IntKind.i64.bits 1073741823).toNat:Int)),()),((i64.wrap (v2+1)),()),()),(),())) else none else some (.inr (.inl (((v0,()),(v1,()),()),(),()))) else some (.inr (.inl (((v0,()),(v1,()),()),(),())))
def yfN (x:(yeR).X):=yCz x.1.1.1 x.1.2.1.1 x.1.2.2.1.1
def yBt (x:(ylN).X):(yeR).X:=(((x.1.1.1,()),(x.1.2.1.1,()),(0,()),()),(),())
def yC0:Code:=(zd7 yrs 64 116).getD .skip
theorem yPL:zd7 yrs 64 29=some (.block 0 (.loop yC0)):=by kernel_rfl
theorem ySp (x:(yeR).X):zhu ⟨yAg,32,yEs⟩ 0 yC0 116 yeR ylM ylU x=yfN x:=by kernel_rfl
def yBI (x:(ylN).X):Nat:=18446744073709551616
def yrT (x:(ylN).X):Option ((ylM).X ⊕ (ylU).X):=zF yfN (yBI x) (yBt x)
def yCt:Seg:=⟨ylN,ylM,ylU,yrT⟩
def ySY:Nat→Option Seg:=fun q=>bif Nat.beq q 29 then some yCt else yEs q
theorem yQo:FrOk prog ⟨yAg,32,ySY⟩ yrs:=(yQn).loop (sg:=yCt) yeR yBt (by decide) yPL yfN yBI (by decide) (fun _=>rfl) (fun x r _ h=>h) ySp
abbrev ysa:List Par:= [.kp tYs .fz]
abbrev yAJ:List OT:= [⟨true,tU,.fz⟩]
def yjz (a0:List Int):Option (zaY yAJ×zak ysa) :=zkt (yrT (((a0,()),((i64.wrap (770770+(a0.length:Int))),()),((),()),()),(),())) (fun y0 =>some (((y0.1.1.1,0,y0.1.2.1.1),()),())) (fun y0 =>none)
theorem yUo:ConOk prog 69 ⟨ysa,yAJ,fun x=>yjz x.1⟩:=zkI (yQo) func69 ntmps69.symm fun x=>by kernel_rfl
def yjn (a0:List Int):List Int×Int×Int:=(((yjz a0).getD (((([]:List Int),(0:Int),(0:Int)),()),())).1).1
def yen (u:List Int×Int×Int):Prop:=0≤u.2.1∧(u.1.length:Int)≤140737488355328
theorem yXP (a0:List Int) (hb:a0.length≤140737488355328): ∃s:Int,yjz a0=some (((a0,0,s),()),()):=by
 have hl: ∃b,yrT (((a0,()),((i64.wrap (770770+(a0.length:Int))),()),((),()),()),(),())=some b∧(∃s:Int,b= .inl (((a0,()),(s,()),()),(),())):=by
  refine zjj (step:=yfN) (fun x=>(a0.length-(x.1.2.2.1.1:Int).toNat)) (fun x=>(x.1.1.1:List Int)=a0∧(0:Int)≤(x.1.2.2.1.1:Int)) _ ?_ _ _ ⟨rfl,Int.le_refl _⟩ (by show a0.length-_<18446744073709551616; omega)
  rintro⟨⟨⟨(l:List Int),_⟩,⟨(s:Int),_⟩,⟨(i:Int),_⟩,_⟩,_,_⟩ ⟨h0,hi⟩
  simp only at h0 hi;subst h0;simp only[yfN,yCz];by_cases h1:i<(l.length:Int)
  ·rw[zky h1]
   by_cases h2:i<4000
   ·rw[zky h2,zj6.2 ⟨hi,h1⟩]
    refine .inl ⟨_,rfl,⟨rfl,?_⟩,?_⟩
    ·show 0≤i64.wrap (i+1); rw[wr (by omega) (by omega)]; omega
    ·show l.length-(i64.wrap (i+1)).toNat<l.length-i.toNat; rw[wr (by omega) (by omega)]; omega
   ·rw[zk3 (Int.not_lt.1 h2)]
    exact .inr ⟨_,rfl,_,rfl⟩
  ·rw[zk3 (Int.not_lt.1 h1)]
   exact .inr ⟨_,rfl,_,rfl⟩
 obtain⟨b,e,s,rfl⟩:=hl;refine⟨s,?_⟩;unfold yjz;rw[e]; rfl
theorem yWI (a0:List Int) (hk:zjx ysa (a0,())):yjz a0=(fun n=>some ((n,()),())) (yjn a0):=by
 obtain⟨s,e⟩:=yXP a0 (by have:a0.length*1≤2^47:=hk.1.1; omega);unfold yjn;rw[e]; rfl
theorem y05 (a0:List Int) (hb:a0.length≤140737488355328):yen (yjn a0):=by
 obtain⟨s,e⟩:=yXP a0 hb;unfold yjn;rw[e];exact⟨Int.le_refl _,by show(a0.length:Int)≤_; omega⟩
def yEL:Con:=⟨ysa,yAJ,fun x=>(fun n=>some ((n,()),())) (yjn x.1)⟩
theorem yWY:ConOk prog 69 yEL:=(yUo).mono (fun x r hk h=>(yWI x.1 hk).trans h)
def yVS:Code:=(f71.body).getD .skip
def yWm:Env:=zkw TT [] []
theorem yMM:FrOk prog ⟨yWm,15,fun _=>none⟩ yVS:=zkA mixed yc trivial
abbrev yxx:List Par:= [.rd tYs,.rd tI]
abbrev yx1:List OT:= [⟨false,tI,.fz⟩]
def yDY (a0:List Int) (a1:Int):Option (zaY yx1×zak yxx) :=bif(ltb a1 (i64.wrap (3+(i64.wrap ((a0.length:Int).tdiv 12)))))then some ((a1,()),()) else some (((i64.wrap (3+(i64.wrap ((a0.length:Int).tdiv 12)))),()),())
theorem yRF:ConOk prog 71 ⟨yxx,yx1,fun x=>yDY x.1 x.2.1⟩:=zkI (yMM) func71 ntmps71.symm fun x=>by kernel_rfl
def ydN (a0:List Int) (a1:Int):Int :=bif(ltb a1 (i64.wrap (3+(i64.wrap ((a0.length:Int).tdiv 12)))))then a1 else (i64.wrap (3+(i64.wrap ((a0.length:Int).tdiv 12))))
def yDh:Con:=⟨yxx,yx1,fun x=>(fun n=>some ((n,()),())) (ydN x.1 x.2.1)⟩
theorem yTX (a0:List Int) (a1:Int):yDY a0 a1=(fun n=>some ((n,()),())) (ydN a0 a1):=zkV (p:=fun(n:Int)=>((n,()),())) (zkG (p:=fun(n:Int)=>((n,()),())) rfl rfl)
theorem yUH:ConOk prog 71 yDh:=(yRF).mono (fun x r _ h=>(yTX x.1 x.2.1).trans h)
theorem y0G (l:List Int) (n:Int) (hn:0≤n) (hl:l.length≤140737488355328):0≤ydN l n∧ydN l n≤n:=by
 unfold ydN;have h1:0≤(l.length:Int).tdiv 12:=Int.tdiv_nonneg (by omega) (by omega)
 have h2:(l.length:Int).tdiv 12≤(l.length:Int):=by
  rw[Int.tdiv_eq_ediv_of_nonneg (by omega)];exact Int.ediv_le_self _ (by omega)
 rw[wq ((l.length:Int).tdiv 12) (by omega) (by omega),wq (3+(l.length:Int).tdiv 12) (by omega) (by omega)];by_cases h:n<3+(l.length:Int).tdiv 12
 ·rw[zky h]; exact⟨hn,Int.le_refl _⟩
 ·rw[zk3 (by omega),cond_false]; omega
def yO9:Code:=(f180.body).getD .skip
def yPy:Env:=zkw TT [(82,yw),(119,yl4)] []
theorem yHV:FrOk prog ⟨yPy,16,fun _=>none⟩ yO9:=zkA mixed yc ⟨yC,yvu,trivial⟩
abbrev ylK:List Par:= [.rd tG,.rd tI]
abbrev ysw:List OT:= [⟨false,tI,.fz⟩]
def yoW (a0:dG) (a1:Int):Option (zaY ysw×zak ylK) :=let r1:=yh a0;let r2:=ya a1 0 (i64.wrap (r1-1));bif(!r2)then some (((-1),()),()) else bif((i64.wrap (a0.1-1)) !=0)then some (((i64.wrap (a1.tdiv (i64.wrap (a0.1-1)))),()),()) else none
theorem yLa:ConOk prog 180 ⟨ylK,ysw,fun x=>yoW x.1 x.2.1⟩:=zkI (yHV) func180 ntmps180.symm fun x=>by kernel_rfl
def yia (a0:dG) (a1:Int):Int:=yD a0 a1
theorem yNV (a0:dG) (a1:Int) (hk:zjx ylK (a0,a1,())):yoW a0 a1=(fun n=>some ((n,()),())) (yia a0 a1):=by
 unfold yoW yia yD;simp only[yXB];cases hb:ybQ a0 a1
 ·rfl
 ·obtain⟨h1,h2,h3⟩:=yjE hb
  have h4:=yk.1 h1;rw[wq (a0.1-1) (by omega) (by omega),show(a0.1-1 !=0)=true from bne_iff_ne.2 (by omega),wr (by omega) (by omega)]; rfl
def yyZ:Con:=⟨ylK,ysw,fun x=>(fun n=>some ((n,()),())) (yia x.1 x.2.1)⟩
theorem yOH:ConOk prog 180 yyZ:=(yLa).mono (fun x r hk h=>(yNV x.1 x.2.1 hk).trans h)
def yvR:Code:=(f215.body).getD .skip
def yD5:Env:=zkw TT [] []
theorem yTw:FrOk prog ⟨yD5,22,fun _=>none⟩ yvR:=zkA mixed yc trivial
def yGb:Nat→Option Seg:=fun _=>none
def yd6:Shape:=⟨[(1,false,[.int .i64]),(2,false,[.ptr 0 0]),(5,false,[.int .i64])],[(0,[.int .i64,.int .i64,.int .i64,.br tM,.int .i64,.int .i64,.int .i64,.int .i64,.int .i64,.br tW,.int .i64,.bool,.bool])],[]⟩
def yi3:Shape:=⟨[(1,false,[.int .i64]),(2,false,[.ptr 0 0]),(5,false,[.ci .i64 0])],[(0,[.int .i64,.int .i64,.int .i64,.br tM,.int .i64,.int .i64,.int .i64,.int .i64,.int .i64,.br tW,.int .i64,.bool,.bool])],[]⟩
def yi1:Shape:=⟨[],[],[]⟩
def yi6:Shape:=⟨[(4,false,[.int .i64])],[],[]⟩
abbrev ys9 (v0 v1:Int) (v2:dA):(yd6).X:=(((v0,()),((),()),(v1,()),()),((v2.1,v2.2.1.1,v2.2.1.2,v2.2.2.1,v2.2.2.2.1,v2.2.2.2.2.1,v2.2.2.2.2.2.1,v2.2.2.2.2.2.2.1,v2.2.2.2.2.2.2.2.1,v2.2.2.2.2.2.2.2.2.1,v2.2.2.2.2.2.2.2.2.2.1,v2.2.2.2.2.2.2.2.2.2.2.1,v2.2.2.2.2.2.2.2.2.2.2.2,()),()),())
abbrev yQJ (v0:Int) (v1:dA):(yi3).X:=(((v0,()),((),()),((),()),()),((v1.1,v1.2.1.1,v1.2.1.2,v1.2.2.1,v1.2.2.2.1,v1.2.2.2.2.1,v1.2.2.2.2.2.1,v1.2.2.2.2.2.2.1,v1.2.2.2.2.2.2.2.1,v1.2.2.2.2.2.2.2.2.1,v1.2.2.2.2.2.2.2.2.2.1,v1.2.2.2.2.2.2.2.2.2.2.1,v1.2.2.2.2.2.2.2.2.2.2.2,()),()),())
abbrev yQH  :(yi1).X:=((),(),())
abbrev yDC (v0:Int):(yi6).X:=(((v0,()),()),(),())
def ytK (v0 v1 v2 v3 v4:Int) (v5:List dM) (v6 v7 v8 v9 v10:Int) (v11:List dW) (v12:Int) (v13 v14:Bool):Option ((yd6).X ⊕ ((yi1).X ⊕ (yi6).X)) :=bif(ltb v1 (v11.length:Int))then bif(inb v1 v11.length)then bif((nth v11 v1 (0,[])).1==v0)then some (.inr (.inr (((v1,()),()),(),()))) else some (.inl (((v0,()),((),()),((i64.wrap (v1+1)),()),()),((v2,v3,v4,v5,v6,v7,v8,v9,v10,v11,v12,v13,v14,()),()),())) else none else some (.inr (.inl ((),(),())))
def yef (x:(yd6).X):=ytK x.1.1.1 x.1.2.2.1.1 x.2.1.1.1 x.2.1.1.2.1 x.2.1.1.2.2.1 x.2.1.1.2.2.2.1 x.2.1.1.2.2.2.2.1 x.2.1.1.2.2.2.2.2.1 x.2.1.1.2.2.2.2.2.2.1 x.2.1.1.2.2.2.2.2.2.2.1 x.2.1.1.2.2.2.2.2.2.2.2.1 x.2.1.1.2.2.2.2.2.2.2.2.2.1 x.2.1.1.2.2.2.2.2.2.2.2.2.2.1 x.2.1.1.2.2.2.2.2.2.2.2.2.2.2.1 x.2.1.1.2.2.2.2.2.2.2.2.2.2.2.2.1
def yDu (x:(yi3).X):(yd6).X:=(((x.1.1.1,()),((),()),(0,()),()),((x.2.1.1.1,x.2.1.1.2.1,x.2.1.1.2.2.1,x.2.1.1.2.2.2.1,x.2.1.1.2.2.2.2.1,x.2.1.1.2.2.2.2.2.1,x.2.1.1.2.2.2.2.2.2.1,x.2.1.1.2.2.2.2.2.2.2.1,x.2.1.1.2.2.2.2.2.2.2.2.1,x.2.1.1.2.2.2.2.2.2.2.2.2.1,x.2.1.1.2.2.2.2.2.2.2.2.2.2.1,x.2.1.1.2.2.2.2.2.2.2.2.2.2.2.1,x.2.1.1.2.2.2.2.2.2.2.2.2.2.2.2.1,()),()),())
def yED:Code:=(zd7 yvR 64 52).getD .skip
theorem yTn:zd7 yvR 64 13=some (.block 0 (.loop yED)):=by kernel_rfl
theorem yUW (x:(yd6).X):zhu ⟨yD5,22,yGb⟩ 0 yED 52 yd6 yi1 yi6 x=yef x:=by kernel_rfl
def yDy (x:(yi3).X):Nat:=18446744073709551616
def yuE (x:(yi3).X):Option ((yi1).X ⊕ (yi6).X):=zF yef (yDy x) (yDu x)
def yD3:Seg:=⟨yi3,yi1,yi6,yuE⟩
def yVY:Nat→Option Seg:=fun q=>bif Nat.beq q 13 then some yD3 else yGb q
theorem yTx:FrOk prog ⟨yD5,22,yVY⟩ yvR:=(yTw).loop (sg:=yD3) yd6 yDu (by decide) yTn yef yDy (by decide) (fun _=>rfl) (fun x r _ h=>h) yUW
abbrev yvS:List Par:= [.rd tA,.rd tI]
abbrev yEb:List OT:= [⟨false,tI,.fz⟩]
def yyo (a0:dA) (a1:Int):Option (zaY yEb×zak yvS) :=zkt (yuE (((a1,()),((),()),((),()),()),((a0.1,a0.2.1.1,a0.2.1.2,a0.2.2.1,a0.2.2.2.1,a0.2.2.2.2.1,a0.2.2.2.2.2.1,a0.2.2.2.2.2.2.1,a0.2.2.2.2.2.2.2.1,a0.2.2.2.2.2.2.2.2.1,a0.2.2.2.2.2.2.2.2.2.1,a0.2.2.2.2.2.2.2.2.2.2.1,a0.2.2.2.2.2.2.2.2.2.2.2,()),()),())) (fun y0 =>some (((-1),()),())) (fun y0 =>some ((y0.1.1.1,()),()))
theorem yWR:ConOk prog 215 ⟨yvS,yEb,fun x=>yyo x.1 x.2.1⟩:=zkI (yTx) func215 ntmps215.symm fun x=>by kernel_rfl
def yip (a0:dA) (a1:Int):Int:=yx a0.2.2.2.2.2.2.2.2.1 a1
theorem yXY (a0:dA) (a1:Int) (hk:zjx yvS (a0,a1,())):yyo a0 a1=(fun n=>some ((n,()),())) (yip a0 a1):=by
 have hb:a0.2.2.2.2.2.2.2.2.1.length*32≤2^47:=hk.1.2.2.2.2.2.2.2.2.1.1
 have h1:yuE (yQJ a1 a0)=some (bif leb 0 (yx a0.2.2.2.2.2.2.2.2.1 a1)then .inr (yDC (yx a0.2.2.2.2.2.2.2.2.1 a1))else .inl yQH) :=
  yDB (step:=yef) a0.2.2.2.2.2.2.2.2.1 (0,[]) (fun i=>ys9 a1 i a0) (fun e:dW=>e.1==a1) (fun i=> .inr (yDC i)) _ (fun i hi=>by
   simp only[yef,ys9,ytK,zky (show(i:Int)<a0.2.2.2.2.2.2.2.2.1.length by omega),cond_true,wq ((i:Int)+1) (by omega) (by omega),Int.natCast_add,Int.natCast_one,Int.toNat_natCast,zkR hi,zkS]
   cases((a0.2.2.2.2.2.2.2.2.1.getD i (0,[])).1==a1)<;>rfl) (by simp only[yef,ys9,ytK,zk3 (Int.le_refl _),cond_false]) _ (by show _<18446744073709551616; omega)
 unfold yyo yip;rw[h1];cases h:leb 0 (yx a0.2.2.2.2.2.2.2.2.1 a1)
 ·rw[show yx a0.2.2.2.2.2.2.2.2.1 a1= -1 from yI9 h]; rfl
 ·rfl
def yyc:Con:=⟨yvS,yEb,fun x=>(fun n=>some ((n,()),())) (yip x.1 x.2.1)⟩
theorem yIJ:ConOk prog 215 yyc:=(yWR).mono (fun x r hk h=>(yXY x.1 x.2.1 hk).trans h)
def yrt:Code:=(f161.body).getD .skip
def yAh:Env:=zkw TT [] []
theorem yQp:FrOk prog ⟨yAh,18,fun _=>none⟩ yrt:=zkA mixed yc trivial
def yEt:Nat→Option Seg:=fun _=>none
def yc8:Shape:=⟨[(0,false,[.br tI]),(1,false,[.int .i64]),(5,false,[.int .i64])],[],[]⟩
def yhJ:Shape:=⟨[(0,false,[.br tI]),(1,false,[.int .i64]),(5,false,[.ci .i64 0])],[],[]⟩
def yhv:Shape:=⟨[],[],[]⟩
def yhY:Shape:=⟨[(4,false,[.bool])],[],[]⟩
abbrev yqm (v0:List Int) (v1 v2:Int):(yc8).X:=(((v0,()),(v1,()),(v2,()),()),(),())
abbrev yNp (v0:List Int) (v1:Int):(yhJ).X:=(((v0,()),(v1,()),((),()),()),(),())
abbrev yNf  :(yhv).X:=((),(),())
abbrev yNA (v0:Bool):(yhY).X:=(((v0,()),()),(),())
def yqX (v0:List Int) (v1 v2:Int):Option ((yc8).X ⊕ ((yhv).X ⊕ (yhY).X)) :=bif(ltb v2 (v0.length:Int))then bif(inb v2 v0.length)then bif((nth v0 v2 0)==v1)then some (.inr (.inr (((true,()),()),(),()))) else some (.inl (((v0,()),(v1,()),((i64.wrap (v2+1)),()),()),(),())) else none else some (.inr (.inl ((),(),())))
def ydE (x:(yc8).X):=yqX x.1.1.1 x.1.2.1.1 x.1.2.2.1.1
def yBu (x:(yhJ).X):(yc8).X:=(((x.1.1.1,()),(x.1.2.1.1,()),(0,()),()),(),())
def yC1:Code:=(zd7 yrt 64 52).getD .skip
theorem yPM:zd7 yrt 64 13=some (.block 0 (.loop yC1)):=by kernel_rfl
theorem ySq (x:(yc8).X):zhu ⟨yAh,18,yEt⟩ 0 yC1 52 yc8 yhv yhY x=ydE x:=by kernel_rfl
def yBJ (x:(yhJ).X):Nat:=18446744073709551616
def yrU (x:(yhJ).X):Option ((yhv).X ⊕ (yhY).X):=zF ydE (yBJ x) (yBu x)
def yCu:Seg:=⟨yhJ,yhv,yhY,yrU⟩
def ySZ:Nat→Option Seg:=fun q=>bif Nat.beq q 13 then some yCu else yEt q
theorem yQq:FrOk prog ⟨yAh,18,ySZ⟩ yrt:=(yQp).loop (sg:=yCu) yc8 yBu (by decide) yPM ydE yBJ (by decide) (fun _=>rfl) (fun x r _ h=>h) ySq
abbrev ysb:List Par:= [.rd tL,.rd tI]
abbrev yAK:List OT:= [⟨false,tB,.fz⟩]
def yvK (a0:List Int) (a1:Int):Option (zaY yAK×zak ysb) :=zkt (yrU (((a0,()),(a1,()),((),()),()),(),())) (fun y0 =>some ((false,()),())) (fun y0 =>some ((y0.1.1.1,()),()))
theorem yUp:ConOk prog 161 ⟨ysb,yAK,fun x=>yvK x.1 x.2.1⟩:=zkI (yQq) func161 ntmps161.symm fun x=>by kernel_rfl
def ygG (a0:List Int) (a1:Int):Bool:=a0.any (· ==a1)
theorem yWJ (a0:List Int) (a1:Int) (hk:zjx ysb (a0,a1,())):yvK a0 a1=(fun n=>some ((n,()),())) (ygG a0 a1):=by
 have hb:a0.length*8≤2^47:=hk.1.1
 have h1:yrU (yNp a0 a1)=some (bif a0.all (· !=a1)then .inl yNf else .inr (yNA true)) :=
  zj9 (step:=ydE) a0 0 (fun i=>yqm a0 a1 i) (· !=a1) _ _ (fun i hi=>by
   simp only[ydE,yqm,yqX,zky (show(i:Int)<a0.length by omega),cond_true,wq ((i:Int)+1) (by omega) (by omega),Int.natCast_add,Int.natCast_one,Int.toNat_natCast,zkR hi,zkS,bne]
   cases(a0.getD i 0==a1)<;>rfl) (by simp only[ydE,yqm,yqX,zk3 (Int.le_refl _),cond_false]) _ (by show _<18446744073709551616; omega)
 unfold yvK ygG;rw[h1,show a0.any (· ==a1)= !(a0.all (· !=a1))by simp[List.all_eq_not_any_not,bne]];cases a0.all (· !=a1)<;>rfl
def yvk:Con:=⟨ysb,yAK,fun x=>(fun n=>some ((n,()),())) (ygG x.1 x.2.1)⟩
theorem yGg:ConOk prog 161 yvk:=(yUp).mono (fun x r hk h=>(yWJ x.1 x.2.1 hk).trans h)
def ynp:Code:=(f90.body).getD .skip
def yuz:Env:=zkw TT [(82,yw),(160,yfY),(161,yvk)] []
theorem yKe:FrOk prog ⟨yuz,60,fun _=>none⟩ ynp:=zkA mixed yc ⟨yC,ykL,yGg,trivial⟩
def yz8:Nat→Option Seg:=fun _=>none
def ybM:Shape:=⟨[(1,false,[.int .i64]),(2,false,[.ptr 0 0]),(6,false,[.br tI]),(7,false,[.int .i64])],[(0,[.br tL,.br tW,.bool,.br tI])],[]⟩
def yfx:Shape:=⟨[(1,false,[.int .i64]),(2,false,[.ptr 0 0]),(6,false,[.br tI]),(7,false,[.ci .i64 0])],[(0,[.br tL,.br tW,.bool,.br tI])],[]⟩
def yfl:Shape:=⟨[(6,false,[.br tI])],[],[]⟩
def yiG:Shape:=⟨[],[],[]⟩
abbrev ymQ (v0:Int) (v1:List Int) (v2:Int) (v3:dM):(ybM).X:=(((v0,()),((),()),(v1,()),(v2,()),()),((v3.1,v3.2.1,v3.2.2.1,v3.2.2.2,()),()),())
abbrev yIk (v0:Int) (v1:List Int) (v2:dM):(yfx).X:=(((v0,()),((),()),(v1,()),((),()),()),((v2.1,v2.2.1,v2.2.2.1,v2.2.2.2,()),()),())
abbrev ywO (v0:List Int):(yfl).X:=(((v0,()),()),(),())
def yne (v0:Int) (v1:List Int) (v2:Int) (v3:List (List Int)) (v4:List dW) (v5:Bool) (v6:List Int):Option ((ybM).X ⊕ ((yfl).X ⊕ (yiG).X)) :=bif(ltb v2 (v4.length:Int))then bif(inb v2 v4.length)then bif((nth v4 v2 (0,[])).1==v0)then bif(inb v2 v4.length)then some (.inl (((v0,()),((),()),((nth v4 v2 (0,[])).2,()),((i64.wrap (v2+1)),()),()),((v3,v4,v5,v6,()),()),())) else none else some (.inl (((v0,()),((),()),(v1,()),((i64.wrap (v2+1)),()),()),((v3,v4,v5,v6,()),()),())) else none else some (.inr (.inl (((v1,()),()),(),())))
def yb8 (x:(ybM).X):=yne x.1.1.1 x.1.2.2.1.1 x.1.2.2.2.1.1 x.2.1.1.1 x.2.1.1.2.1 x.2.1.1.2.2.1 x.2.1.1.2.2.2.1
def ywn (x:(yfx).X):(ybM).X:=(((x.1.1.1,()),((),()),(x.1.2.2.1.1,()),(0,()),()),((x.2.1.1.1,x.2.1.1.2.1,x.2.1.1.2.2.1,x.2.1.1.2.2.2.1,()),()),())
def yyJ:Code:=(zd7 ynp 64 244).getD .skip
theorem yJG:zd7 ynp 64 61=some (.block 0 (.loop yyJ)):=by kernel_rfl
theorem yLu (x:(ybM).X):zhu ⟨yuz,60,yz8⟩ 0 yyJ 244 ybM yfl yiG x=yb8 x:=by kernel_rfl
def ywC (x:(yfx).X):Nat:=18446744073709551616
def yod (x:(yfx).X):Option ((yfl).X ⊕ (yiG).X):=zF yb8 (ywC x) (ywn x)
def yw3:Seg:=⟨yfx,yfl,yiG,yod⟩
def yLW:Nat→Option Seg:=fun q=>bif Nat.beq q 61 then some yw3 else yz8 q
theorem yKf:FrOk prog ⟨yuz,60,yLW⟩ ynp:=(yKe).loop (sg:=yw3) ybM ywn (by decide) yJG yb8 ywC (by decide) (fun _=>rfl) (fun x r _ h=>h) yLu
abbrev ynE:List Par:= [.rd tM,.rd tI]
abbrev yu9:List OT:= [⟨false,tL,(.ow .fz)⟩,⟨false,tB,.fz⟩]
def yqH (a0:dM) (a1:Int):Option (zaY yu9×zak ynE) :=let r1:=yav a0;bif(!(!r1))then bif(!a0.2.2.1)then let r2:=ya a1 0 (i64.wrap ((a0.1.length:Int)-1));bif(!(!r2))then let r3:=ygG a0.2.2.2 a1;bif r3 then some ((([]:List Int),false,()),()) else bif(inb a1 a0.1.length)then zkt (yod (((a1,()),((),()),((nth a0.1 a1 []),()),((),()),()),((a0.1,a0.2.1,a0.2.2.1,a0.2.2.2,()),()),())) (fun y3 =>bif(zkl ([]:List Int).length y3.1.1.1.length 8)then some (((([]:List Int)++y3.1.1.1),true,()),()) else none) (fun y3 =>none) else none else some ((([]:List Int),false,()),()) else some ((([]:List Int),false,()),()) else some ((([]:List Int),false,()),())
theorem yOk:ConOk prog 90 ⟨ynE,yu9,fun x=>yqH x.1 x.2.1⟩:=zkI (yKf) func90 ntmps90.symm fun x=>by kernel_rfl
def yjl (a0:dM) (a1:Int):List Int×Bool:=yha a0 a1
theorem yQ5 (a0:dM) (a1:Int) (hk:zjx ynE (a0,a1,())):yqH a0 a1=(fun n=>some ((n.1,n.2,()),())) (yjl a0 a1):=by
 have hb1:a0.1.length*24≤2^47:=hk.1.1.1;have hb2:a0.2.1.length*32≤2^47:=hk.1.2.1.1
 have h1: ∀s,yod (yIk a1 s a0)=some (.inl (ywO (ygI a1 a0.2.1 s))):=fun s =>
  zkx (step:=yb8) a0.2.1 (0,[]) (fun i s=>ymQ a1 s i a0) (fun s w=>bif w.1==a1 then w.2 else s) (fun _ _=>True) (fun s=> .inl (ywO s)) (fun i s hi _=>⟨by
   simp only[yb8,ymQ,yne,zky (show(i:Int)<a0.2.1.length by omega),cond_true,wq ((i:Int)+1) (by omega) (by omega),Int.natCast_add,Int.natCast_one,Int.toNat_natCast,zkR hi,zkS]
   cases((a0.2.1.getD i (0,[])).1==a1)<;>rfl,trivial⟩) (fun s _=>by simp only[yb8,ymQ,yne,zk3 (Int.le_refl _),cond_false]) s trivial _ (by show _<18446744073709551616; omega)
 unfold yqH yjl yha yzV;rw[yh1 (show a0.1.length≤1152921504606846976 by omega)];unfold yav ygG;simp only[h1,zkN,List.nil_append];cases yr a0
 ·rfl
 cases a0.2.2.1
 ·cases hi:inb a1 a0.1.length
  ·rfl
  ·cases a0.2.2.2.any (· ==a1)
   ·have hs:(ygI a1 a0.2.1 (nth a0.1 a1 [])).length*8≤2^47 :=
     yFT (P:=fun s=>s.length*8≤2^47) (yvr (P:=fun s:List Int=>s.length*8≤2^47) hi fun x hx=>(hk.1.1.2 x hx).1) fun w hw=>(hk.1.2.1.2 w hw).2.1
    simp only[Bool.not_true,Bool.not_false,cond_true,cond_false,Bool.true_and,show zkl ([]:List Int).length (ygI a1 a0.2.1 (nth a0.1 a1 [])).length 8=true from zkF.2 (by rw[List.length_nil]; omega)]
   ·rfl
 ·rfl
def yBd:Con:=⟨ynE,yu9,fun x=>(fun n=>some ((n.1,n.2,()),())) (yjl x.1 x.2.1)⟩
theorem yR6:ConOk prog 90 yBd:=(yOk).mono (fun x r hk h=>(yQ5 x.1 x.2.1 hk).trans h)
def yVM:Code:=(f211.body).getD .skip
def yWg:Env:=zkw TT [(82,yw)] []
theorem yME:FrOk prog ⟨yWg,34,fun _=>none⟩ yVM:=zkA mixed yc ⟨yC,trivial⟩
abbrev ypx:List Par:= [.rd tA,.rd tI,.rd tI]
abbrev yxU:List OT:= [⟨false,tB,.fz⟩]
def ytu (a0:dA) (a1 a2:Int):Option (zaY yxU×zak ypx) :=let r1:=ya a1 0 (i64.wrap ((a0.2.2.1.length:Int)-1));bif r1 then bif(inb a1 a0.2.2.1.length)then bif(!((((nth a0.2.2.1 a1 ([],[],false,[])).2).2).1))then bif(!(a1 !=a0.2.2.2.1))then some (((ltb a2 a0.2.2.2.2.1),()),()) else some ((true,()),()) else some ((false,()),()) else none else some ((false,()),())
theorem yRy:ConOk prog 211 ⟨ypx,yxU,fun x=>ytu x.1 x.2.1 x.2.2.1⟩:=zkI (yME) func211 ntmps211.symm fun x=>by kernel_rfl
def ydL (a0:dA) (a1 a2:Int):Bool:=ycf a0 a1 a2
theorem yTT (a0:dA) (a1 a2:Int) (hk:zjx ypx (a0,a1,a2,())):ytu a0 a1 a2=(fun n=>some ((n,()),())) (ydL a0 a1 a2):=by
 have hb:a0.2.2.1.length*80≤2^47:=hk.1.2.2.1.1;unfold ytu ydL ycf yd;rw[yh1 (show a0.2.2.1.length≤1152921504606846976 by omega)];cases inb a1 a0.2.2.1.length
 ·rfl
 ·cases(nth a0.2.2.1 a1 ([],[],false,[])).2.2.1<;>cases(a1 !=a0.2.2.2.1)<;>rfl
def ysR:Con:=⟨ypx,yxU,fun x=>(fun n=>some ((n,()),())) (ydL x.1 x.2.1 x.2.2.1)⟩
theorem yFd:ConOk prog 211 ysR:=(yRy).mono (fun x r hk h=>(yTT x.1 x.2.1 x.2.2.1 hk).trans h)
def yVW:Code:=(f246.body).getD .skip
def yWq:Env:=zkw TT [(90,yBd),(113,ydl),(211,ysR)] []
theorem yMZ:FrOk prog ⟨yWq,36,fun _=>none⟩ yVW:=zkA mixed yc ⟨yR6,yf4,yFd,trivial⟩
abbrev ypB:List Par:= [.rd tA,.rd tI,.rd tI]
abbrev yx6:List OT:= [⟨false,tI,.fz⟩,⟨false,tB,.fz⟩]
def ytA (a0:dA) (a1 a2:Int):Option (zaY yx6×zak ypB) :=let r1:=ydL a0 a1 a2;bif(!r1)then some ((0,false,()),()) else bif(inb a1 a0.2.2.1.length)then let r2:=yaH a2;let r3:=yjl ((nth a0.2.2.1 a1 ([],[],false,[])).1,((nth a0.2.2.1 a1 ([],[],false,[])).2).1,(((nth a0.2.2.1 a1 ([],[],false,[])).2).2)) r2;bif(!(!r3.2))then bif((r3.1.length:Int) !=1)then some ((0,false,()),()) else bif(inb 0 r3.1.length)then some (((nth r3.1 0 0),true,()),()) else none else some ((0,false,()),()) else none
theorem yRN:ConOk prog 246 ⟨ypB,yx6,fun x=>ytA x.1 x.2.1 x.2.2.1⟩:=zkI (yMZ) func246 ntmps246.symm fun x=>by kernel_rfl
def ykI (a0:dA) (a1 a2:Int):Int×Bool:=(yo9 a0 a1 a2,yp a0 a1 a2)
theorem yT3 (a0:dA) (a1 a2:Int) (hk:zjx ypB (a0,a1,a2,())):ytA a0 a1 a2=(fun n=>some ((n.1,n.2,()),())) (ykI a0 a1 a2):=by
 unfold ytA ykI yo9 ydL;simp only[zkX,yed,yjl];rw[show yp a0 a1 a2=(ycf a0 a1 a2&&((ycX a0 a1 a2).2&&((ycX a0 a1 a2).1.length:Int)==1))from rfl];rw[show yha (nth a0.2.2.1 a1 ([],[],false,[])) (yQ a2)=ycX a0 a1 a2 from rfl];cases hl:ycf a0 a1 a2
 ·rfl
 ·rw[show inb a1 a0.2.2.1.length=true by unfold ycf at hl; exact(Bool.and_eq_true_iff.1 hl).1]
  cases(ycX a0 a1 a2).2
  ·rfl
  ·rw[bne]
   cases h1:(((ycX a0 a1 a2).1.length:Int)==1)
   ·rfl
   ·rw[show inb 0 (ycX a0 a1 a2).1.length=true from zj6.2 (by have:=beq_iff_eq.1 h1; omega)]; rfl
def yDn:Con:=⟨ypB,yx6,fun x=>(fun n=>some ((n.1,n.2,()),())) (ykI x.1 x.2.1 x.2.2.1)⟩
theorem yUN:ConOk prog 246 yDn:=(yRN).mono (fun x r hk h=>(yT3 x.1 x.2.1 x.2.2.1 hk).trans h)
def yhd:Code:=(f247.body).getD .skip
def ymk:Env:=zkw TT [] []
theorem yEV:FrOk prog ⟨ymk,23,fun _=>none⟩ yhd:=zkA mixed yc trivial
def yrz:Nat→Option Seg:=fun _=>none
def yat:Shape:=⟨[(0,false,[.br tI]),(1,false,[.int .i64]),(5,false,[.int .i64]),(6,false,[.int .i64])],[],[]⟩
def ycH:Shape:=⟨[(0,false,[.br tI]),(1,false,[.int .i64]),(5,false,[.ci .i64 0]),(6,false,[.ci .i64 0])],[],[]⟩
def ycF:Shape:=⟨[(5,false,[.int .i64])],[],[]⟩
def yeS:Shape:=⟨[],[],[]⟩
abbrev yio (v0:List Int) (v1 v2 v3:Int):(yat).X:=(((v0,()),(v1,()),(v2,()),(v3,()),()),(),())
abbrev yEh (v0:List Int) (v1:Int):(ycH).X:=(((v0,()),(v1,()),((),()),((),()),()),(),())
abbrev yEf (v0:Int):(ycF).X:=(((v0,()),()),(),())
def yir (v0:List Int) (v1 v2 v3:Int):Option ((yat).X ⊕ ((ycF).X ⊕ (yeS).X)) :=bif(ltb v3 (v0.length:Int))then bif(v3 !=v1)then bif(inb v3 v0.length)then some (.inl (((v0,()),(v1,()),((i64.wrap ((BitVec.ofInt IntKind.i64.bits v2 ^^^ BitVec.ofInt IntKind.i64.bits (nth v0 v3 0)).toNat:Int)),()),((i64.wrap (v3+1)),()),()),(),())) else none else some (.inl (((v0,()),(v1,()),(v2,()),((i64.wrap (v3+1)),()),()),(),())) else some (.inr (.inl (((v2,()),()),(),())))
def yaB (x:(yat).X):=yir x.1.1.1 x.1.2.1.1 x.1.2.2.1.1 x.1.2.2.2.1.1
def ypb (x:(ycH).X):(yat).X:=(((x.1.1.1,()),(x.1.2.1.1,()),(0,()),(0,()),()),(),())
def yq5:Code:=(zd7 yhd 64 116).getD .skip
theorem yEz:zd7 yhd 64 29=some (.block 0 (.loop yq5)):=by kernel_rfl
theorem yFi (x:(yat).X):zhu ⟨ymk,23,yrz⟩ 0 yq5 116 yat ycF yeS x=yaB x:=by kernel_rfl
def ypd (x:(ycH).X):Nat:=18446744073709551616
def yiS (x:(ycH).X):Option ((ycF).X ⊕ (yeS).X):=zF yaB (ypd x) (ypb x)
def ypi:Seg:=⟨ycH,ycF,yeS,yiS⟩
def yFs:Nat→Option Seg:=fun q=>bif Nat.beq q 29 then some ypi else yrz q
theorem yEW:FrOk prog ⟨ymk,23,yFs⟩ yhd:=(yEV).loop (sg:=ypi) yat ypb (by decide) yEz yaB ypd (by decide) (fun _=>rfl) (fun x r _ h=>h) yFi
abbrev yhj:List Par:= [.rd tL,.rd tI]
abbrev ymA:List OT:= [⟨false,tI,.fz⟩]
def ykh (a0:List Int) (a1:Int):Option (zaY ymA×zak yhj) :=zkt (yiS (((a0,()),(a1,()),((),()),((),()),()),(),())) (fun y0 =>some ((y0.1.1.1,()),())) (fun y0 =>none)
theorem yFX:ConOk prog 247 ⟨yhj,ymA,fun x=>ykh x.1 x.2.1⟩:=zkI (yEW) func247 ntmps247.symm fun x=>by kernel_rfl
def yeK (a0:List Int) (a1:Int):Int:=ymG a0 a1
theorem yGO (a0:List Int) (a1:Int) (hk:zjx yhj (a0,a1,())):ykh a0 a1=(fun n=>some ((n,()),())) (yeK a0 a1):=by
 have hb:a0.length*8≤2^47:=hk.1.1
 have h1:=zkD (step:=yaB) a0.length (fun i s=>yio a0 a1 s i) (fun n (i:Nat)=>bif(i:Int) !=a1 then xw n (nth a0 i 0)else n) (fun _ _=>True) (fun s=> .inl (yEf s)) (fun i s hi _=>⟨by
  simp only[yaB,yio,yir,zky (show(i:Int)<a0.length by omega),cond_true,wq ((i:Int)+1) (by omega) (by omega),Int.natCast_add,Int.natCast_one,Int.toNat_natCast,zkR hi]
  cases((i:Int) !=a1)<;>rfl,trivial⟩) (fun s _=>by simp only[yaB,yio,yir,zk3 (Int.le_refl _),cond_false]) 0 trivial 18446744073709551616 (by omega)
 rw[yZJ]at h1;unfold ykh yeK;rw[show yiS (yEh a0 a1)=_ from h1]; rfl
def ysT:Con:=⟨yhj,ymA,fun x=>(fun n=>some ((n,()),())) (yeK x.1 x.2.1)⟩
theorem yGX:ConOk prog 247 ysT:=(yFX).mono (fun x r hk h=>(yGO x.1 x.2.1 hk).trans h)
def yns:Code:=(f227.body).getD .skip
def yuC:Env:=zkw TT [(246,yDn),(247,ysT)] []
theorem yKo:FrOk prog ⟨yuC,45,fun _=>none⟩ yns:=zkA mixed yc ⟨yUN,yGX,trivial⟩
def yAb:Nat→Option Seg:=fun _=>none
def ybO:Shape:=⟨[(1,false,[.int .i64]),(2,false,[.ptr 0 0]),(6,false,[.at 800000000]),(7,false,[.int .i64]),(8,false,[.int .i64])],[(0,[.int .i64,.int .i64,.int .i64,.br tM,.int .i64,.int .i64,.int .i64,.int .i64,.int .i64,.br tW,.int .i64,.bool,.bool])],[(800000000,tI,.fz)]⟩
def yfz:Shape:=⟨[(1,false,[.int .i64]),(2,false,[.ptr 0 0]),(6,false,[.at 800000000]),(7,false,[.ci .i64 (-1)]),(8,false,[.ci .i64 0])],[(0,[.int .i64,.int .i64,.int .i64,.br tM,.int .i64,.int .i64,.int .i64,.int .i64,.int .i64,.br tW,.int .i64,.bool,.bool])],[(800000000,tI,.fz)]⟩
def yfn:Shape:=⟨[(6,false,[.at 800000000]),(7,false,[.int .i64])],[],[(800000000,tI,.fz)]⟩
def yfG:Shape:=⟨[(4,false,[.at 800000000]),(5,false,[.bool])],[],[(800000000,tI,.fz)]⟩
abbrev ymS (v0 v1 v2:Int) (v3:dA) (v4:List Int):(ybO).X:=(((v0,()),((),()),((),()),(v1,()),(v2,()),()),((v3.1,v3.2.1.1,v3.2.1.2,v3.2.2.1,v3.2.2.2.1,v3.2.2.2.2.1,v3.2.2.2.2.2.1,v3.2.2.2.2.2.2.1,v3.2.2.2.2.2.2.2.1,v3.2.2.2.2.2.2.2.2.1,v3.2.2.2.2.2.2.2.2.2.1,v3.2.2.2.2.2.2.2.2.2.2.1,v3.2.2.2.2.2.2.2.2.2.2.2,()),()),(v4,()))
abbrev yIm (v0:Int) (v1:dA) (v2:List Int):(yfz).X:=(((v0,()),((),()),((),()),((),()),((),()),()),((v1.1,v1.2.1.1,v1.2.1.2,v1.2.2.1,v1.2.2.2.1,v1.2.2.2.2.1,v1.2.2.2.2.2.1,v1.2.2.2.2.2.2.1,v1.2.2.2.2.2.2.2.1,v1.2.2.2.2.2.2.2.2.1,v1.2.2.2.2.2.2.2.2.2.1,v1.2.2.2.2.2.2.2.2.2.2.1,v1.2.2.2.2.2.2.2.2.2.2.2,()),()),(v2,()))
abbrev yIa (v0:Int) (v1:List Int):(yfn).X:=((((),()),(v0,()),()),(),(v1,()))
abbrev yIs (v0:Bool) (v1:List Int):(yfG).X:=((((),()),(v0,()),()),(),(v1,()))
def ynh (v0 v1 v2 v3 v4 v5:Int) (v6:List dM) (v7 v8 v9 v10 v11:Int) (v12:List dW) (v13:Int) (v14 v15:Bool) (v16:List Int):Option ((ybO).X ⊕ ((yfn).X ⊕ (yfG).X)) :=bif(ltb v2 v4)then let r2:=ykI (v3,(v4,v5),v6,v7,v8,v9,v10,v11,v12,v13,v14,v15) v2 v0;bif(!r2.2)then bif(leb 0 v1)then some (.inr (.inr ((((),()),(false,()),()),(),(([]:List Int),())))) else bif(zkl v16.length ([r2.1]:List Int).length 8)then some (.inl (((v0,()),((),()),((),()),(v2,()),((i64.wrap (v2+1)),()),()),((v3,v4,v5,v6,v7,v8,v9,v10,v11,v12,v13,v14,v15,()),()),((v16++([r2.1]:List Int)),()))) else none else bif(zkl v16.length ([r2.1]:List Int).length 8)then some (.inl (((v0,()),((),()),((),()),(v1,()),((i64.wrap (v2+1)),()),()),((v3,v4,v5,v6,v7,v8,v9,v10,v11,v12,v13,v14,v15,()),()),((v16++([r2.1]:List Int)),()))) else none else some (.inr (.inl ((((),()),(v1,()),()),(),(v16,()))))
def ycb (x:(ybO).X):=ynh x.1.1.1 x.1.2.2.2.1.1 x.1.2.2.2.2.1.1 x.2.1.1.1 x.2.1.1.2.1 x.2.1.1.2.2.1 x.2.1.1.2.2.2.1 x.2.1.1.2.2.2.2.1 x.2.1.1.2.2.2.2.2.1 x.2.1.1.2.2.2.2.2.2.1 x.2.1.1.2.2.2.2.2.2.2.1 x.2.1.1.2.2.2.2.2.2.2.2.1 x.2.1.1.2.2.2.2.2.2.2.2.2.1 x.2.1.1.2.2.2.2.2.2.2.2.2.2.1 x.2.1.1.2.2.2.2.2.2.2.2.2.2.2.1 x.2.1.1.2.2.2.2.2.2.2.2.2.2.2.2.1 x.2.2.1
def ywq (x:(yfz).X):(ybO).X:=(((x.1.1.1,()),((),()),((),()),((-1),()),(0,()),()),((x.2.1.1.1,x.2.1.1.2.1,x.2.1.1.2.2.1,x.2.1.1.2.2.2.1,x.2.1.1.2.2.2.2.1,x.2.1.1.2.2.2.2.2.1,x.2.1.1.2.2.2.2.2.2.1,x.2.1.1.2.2.2.2.2.2.2.1,x.2.1.1.2.2.2.2.2.2.2.2.1,x.2.1.1.2.2.2.2.2.2.2.2.2.1,x.2.1.1.2.2.2.2.2.2.2.2.2.2.1,x.2.1.1.2.2.2.2.2.2.2.2.2.2.2.1,x.2.1.1.2.2.2.2.2.2.2.2.2.2.2.2.1,()),()),(x.2.2.1,()))
def yyM:Code:=(zd7 yns 64 244).getD .skip
theorem yJJ:zd7 yns 64 61=some (.block 0 (.loop yyM)):=by kernel_rfl
theorem yLx (x:(ybO).X):zhu ⟨yuC,45,yAb⟩ 0 yyM 244 ybO yfn yfG x=ycb x:=by kernel_rfl
def ywF (x:(yfz).X):Nat:=18446744073709551616
def yog (x:(yfz).X):Option ((yfn).X ⊕ (yfG).X):=zF ycb (ywF x) (ywq x)
def yw6:Seg:=⟨yfz,yfn,yfG,yog⟩
def yLZ:Nat→Option Seg:=fun q=>bif Nat.beq q 61 then some yw6 else yAb q
theorem yKp:FrOk prog ⟨yuC,45,yLZ⟩ yns:=(yKo).loop (sg:=yw6) ybO ywq (by decide) yJJ ycb ywF (by decide) (fun _=>rfl) (fun x r _ h=>h) yLx
abbrev yiX:List Par:= [.rd tA,.rd tI]
abbrev ynK:List OT:= [⟨false,tL,(.ow .fz)⟩,⟨false,tB,.fz⟩]
def yqM (a0:dA) (a1:Int):Option (zaY ynK×zak yiX) :=zkt (yog (((a1,()),((),()),((),()),((),()),((),()),()),((a0.1,a0.2.1.1,a0.2.1.2,a0.2.2.1,a0.2.2.2.1,a0.2.2.2.2.1,a0.2.2.2.2.2.1,a0.2.2.2.2.2.2.1,a0.2.2.2.2.2.2.2.1,a0.2.2.2.2.2.2.2.2.1,a0.2.2.2.2.2.2.2.2.2.1,a0.2.2.2.2.2.2.2.2.2.2.1,a0.2.2.2.2.2.2.2.2.2.2.2,()),()),(([]:List Int),()))) (fun y2 =>bif(leb 0 y2.1.2.1.1)then let r4:=yeK y2.2.2.1 y2.1.2.1.1;bif(inb y2.1.2.1.1 y2.2.2.1.length)then some (((y2.2.2.1.set (y2.1.2.1.1).toNat r4),true,()),()) else none else some ((y2.2.2.1,true,()),())) (fun y2 =>some ((y2.2.2.1,y2.1.2.1.1,()),()))
theorem yOr:ConOk prog 227 ⟨yiX,ynK,fun x=>yqM x.1 x.2.1⟩:=zkI (yKp) func227 ntmps227.symm fun x=>by kernel_rfl
def yf2 (a0:dA) (a1:Int):List Int×Bool:=yJ a0 a1
def yvB (a0:dA) (a1:Int):Bool:=ye a0.2.1
theorem yRb (a0:dA) (a1:Int) (hk:zjx yiX (a0,a1,())) (hq:yvB a0 a1=true):yqM a0 a1=(fun n=>some ((n.1,n.2,()),())) (yf2 a0 a1):=by
 have hg:=yk.1 hq
 have h1:yog (yIm a1 a0 [])=some (bif yek (fun(i:Nat)=>yp a0 i a1) a0.2.1.1.toNat then .inr (yIs false [])else .inl (yIa (yu (fun(i:Nat)=>yp a0 i a1) a0.2.1.1.toNat) (yR a0 a1 a0.2.1.1.toNat))) :=
  zji (step:=ycb) (fun i=>ymS a1 (yu (fun(i:Nat)=>yp a0 i a1) i) i a0 (yR a0 a1 i)) a0.2.1.1.toNat (fun i=> !yp a0 i a1&&leb 0 (yu (fun(i:Nat)=>yp a0 i a1) i)) _ _ (fun i hi=>by
   simp only[ycb,ymS,ynh,zky (show(i:Int)<a0.2.1.1 by omega),cond_true,wq ((i:Int)+1) (by omega) (by omega),Int.natCast_add,Int.natCast_one,Int.toNat_natCast,zkX,ykI,yu];rw[zkF.2 (show((yR a0 a1 i).length+ [yo9 a0 i a1].length)*8≤140737488355328 by simp only[List.length_cons,List.length_nil,yeO]; omega),yGk]
   cases yp a0 i a1<;>cases leb 0 (yu (fun(i:Nat)=>yp a0 i a1) i)<;>rfl) (by simp only[ycb,ymS,ynh,zk3 (show a0.2.1.1≤(a0.2.1.1.toNat:Int)by omega),cond_false]) _ (by show _<18446744073709551616; omega)
 unfold yqM yf2 yJ;rw[h1];cases yek (fun(i:Nat)=>yp a0 i a1) a0.2.1.1.toNat
 ·simp only[cond_false,zkN,yeK]
  cases hm:leb 0 (yu (fun(i:Nat)=>yp a0 i a1) a0.2.1.1.toNat)
  ·rfl
  ·obtain⟨h2,h3⟩:=yVm a0 a1 a0.2.1.1.toNat hm
   rw[h2,h3]; rfl
 ·rfl
def yjv (a0:dA) (a1:Int):Option (zaY ynK×zak yiX):=bif yvB a0 a1 then(fun n=>some ((n.1,n.2,()),())) (yf2 a0 a1)else none
theorem yDJ (a0:dA) (a1:Int) (h:yvB a0 a1=true):yjv a0 a1=(fun n=>some ((n.1,n.2,()),())) (yf2 a0 a1):=by unfold yjv; rw[h]; rfl
def yqb:Con:=⟨yiX,ynK,fun x=>yjv x.1 x.2.1⟩
theorem yDG:ConOk prog 227 yqb:=(yOr).mono (fun x r hk h=>zkY h (fun hq=>yRb x.1 x.2.1 hk hq))
def yPc:Code:=(f229.body).getD .skip
def yPB:Env:=zkw TT [(82,yw),(150,yfX)] []
theorem yHY:FrOk prog ⟨yPB,14,fun _=>none⟩ yPc:=zkA mixed yc ⟨yC,ykK,trivial⟩
abbrev ysc:List Par:= [.rd tG,.rd tI]
abbrev ysy:List OT:= [⟨false,tB,.fz⟩]
def yzw (a0:dG) (a1:Int):Option (zaY ysy×zak ysc) :=let r1:=ye a0;bif r1 then let r2:=ya a1 0 (i64.wrap (a0.2-1));some ((r2,()),()) else some ((false,()),())
theorem yLd:ConOk prog 229 ⟨ysc,ysy,fun x=>yzw x.1 x.2.1⟩:=zkI (yHY) func229 ntmps229.symm fun x=>by kernel_rfl
def yeV (a0:dG) (a1:Int):Bool :=let r1:=ye a0;bif r1 then let r2:=ya a1 0 (i64.wrap (a0.2-1));r2 else false
def yos:Con:=⟨ysc,ysy,fun x=>(fun n=>some ((n,()),())) (yeV x.1 x.2.1)⟩
theorem yNY (a0:dG) (a1:Int):yzw a0 a1=(fun n=>some ((n,()),())) (yeV a0 a1):=zkV (p:=fun(n:Bool)=>((n,()),())) (zkG (p:=fun(n:Bool)=>((n,()),())) rfl rfl)
theorem yB6:ConOk prog 229 yos:=(yLd).mono (fun x r _ h=>(yNY x.1 x.2.1).trans h)
theorem yLI (g:dG) (s:Int):yeV g s=yX g s:=by
 unfold yeV yX;cases hg:ye g
 ·rfl
 have:=yk.1 hg;rw[ybR,wr (by omega) (by omega)]; rfl
def yO7:Code:=(f209.body).getD .skip
def yPw:Env:=zkw TT [(229,yos)] []
theorem yHR:FrOk prog ⟨yPw,17,fun _=>none⟩ yO7:=zkA mixed yc ⟨yB6,trivial⟩
abbrev ylI:List Par:= [.rd tG,.rd tI]
abbrev yst:List OT:= [⟨false,tI,.fz⟩]
def yoU (a0:dG) (a1:Int):Option (zaY yst×zak ylI) :=let r1:=yeV a0 a1;bif(!r1)then some (((-1),()),()) else bif(a0.1 !=0)then some (((i64.wrap ((i64.wrap (a0.1-1))-(a1.tmod a0.1))),()),()) else none
theorem yK7:ConOk prog 209 ⟨ylI,yst,fun x=>yoU x.1 x.2.1⟩:=zkI (yHR) func209 ntmps209.symm fun x=>by kernel_rfl
def ydp (a0:dG) (a1:Int):Int:=yg a0 a1
theorem yNS (a0:dG) (a1:Int) (hk:zjx ylI (a0,a1,())):yoU a0 a1=(fun n=>some ((n,()),())) (ydp a0 a1):=by
 unfold yoU ydp;rw[yLI];cases hs:yX a0 a1
 ·unfold yg; rw[hs]; rfl
 ·have h1:=yaq.1 hs
  have h2:=yk.1 h1.1;have h3:=yjH hs;have h4:yg a0 a1=a0.1-1-a1.tmod a0.1:=by unfold yg; rw[hs]; rfl
  rw[show(a0.1 !=0)=true from bne_iff_ne.2 (by omega),wq (a0.1-1) (by omega) (by omega),wq (a0.1-1-a1.tmod a0.1) (by omega) (by omega),h4]; rfl
def yoq:Con:=⟨ylI,yst,fun x=>(fun n=>some ((n,()),())) (ydp x.1 x.2.1)⟩
theorem yB4:ConOk prog 209 yoq:=(yK7).mono (fun x r hk h=>(yNS x.1 x.2.1 hk).trans h)
def yVL:Code:=(f242.body).getD .skip
def yWf:Env:=zkw TT [(82,yw),(209,yoq),(229,yos)] []
theorem yMD:FrOk prog ⟨yWf,28,fun _=>none⟩ yVL:=zkA mixed yc ⟨yC,yB4,yB6,trivial⟩
abbrev ypw:List Par:= [.rd tG,.rd tI,.rd tI]
abbrev yxT:List OT:= [⟨false,tI,.fz⟩]
def ytt (a0:dG) (a1 a2:Int):Option (zaY yxT×zak ypw) :=let r1:=yeV a0 a1;bif(!(!r1))then let r2:=ya a2 0 (i64.wrap (a0.1-2));bif(!r2)then some (((-1),()),()) else let r3:=ydp a0 a1;bif(a0.1 !=0)then some ((((i64.wrap ((i64.wrap (r3+1))+a2)).tmod a0.1),()),()) else none else some (((-1),()),())
theorem yRx:ConOk prog 242 ⟨ypw,yxT,fun x=>ytt x.1 x.2.1 x.2.2.1⟩:=zkI (yMD) func242 ntmps242.symm fun x=>by kernel_rfl
def ykF (a0:dG) (a1 a2:Int):Int:=ybl a0 a1 a2
theorem yTS (a0:dG) (a1 a2:Int) (hk:zjx ypw (a0,a1,a2,())):ytt a0 a1 a2=(fun n=>some ((n,()),())) (ykF a0 a1 a2):=by
 unfold ytt ykF ybl ydp;rw[yLI];cases hs:yX a0 a1
 ·rfl
 ·have h1:=yaq.1 hs
  have h2:=yk.1 h1.1;have h3:=yjH hs;rw[ybR,wq (a0.1-2) (by omega) (by omega)];cases hi:(leb 0 a2&&leb a2 (a0.1-2))
  ·rfl
  ·rw[Bool.and_eq_true,zj7,zj7]at hi
   rw[show(a0.1 !=0)=true from bne_iff_ne.2 (by omega)];show some (((i64.wrap (i64.wrap (yg a0 a1+1)+a2)).tmod a0.1,()),())=some (((yg a0 a1+1+a2).tmod a0.1,()),());rw[wq (yg a0 a1+1) (by omega) (by omega),wq (yg a0 a1+1+a2) (by omega) (by omega)]
def yDb:Con:=⟨ypw,yxT,fun x=>(fun n=>some ((n,()),())) (ykF x.1 x.2.1 x.2.2.1)⟩
theorem yUB:ConOk prog 242 yDb:=(yRx).mono (fun x r hk h=>(yTS x.1 x.2.1 x.2.2.1 hk).trans h)
end
end Go.Tf
