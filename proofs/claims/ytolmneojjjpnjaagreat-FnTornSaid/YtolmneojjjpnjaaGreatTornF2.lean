/- Functions of the program, and what they come to. -/
import Derived.Test.YtolmneojjjpnjaaGreatTornF1
namespace Go.Tf
noncomputable section
open Go.Proofs Go.Proofs.Tryz IntKind
set_option synthInstance.maxHeartbeats 400000
set_option synthInstance.maxSize 10000
set_option linter.unusedVariables false
set_option linter.unusedSimpArgs false
set_option maxRecDepth 100000
def ysM:Code:=(f185.body).getD .skip
def yCo:Env:=zku TT [] []
theorem yTn:FrOk prog ⟨yCo,17,fun _=>none⟩ ysM:=zky yf yg trivial
def yGL:Nat→Option Seg:=fun _=>none
def ydq:Shape:=⟨[(3,false,[.int .i64]),(6,false,[.br tI]),(7,false,[.int .i64]),(8,false,[.int .i64])],[],[]⟩
def yin:Shape:=⟨[(3,false,[.ci .i64 0]),(6,false,[.br tI]),(7,false,[.int .i64]),(8,false,[.ci .i64 0])],[],[]⟩
def yh9:Shape:=⟨[(3,false,[.int .i64])],[],[]⟩
def ymM:Shape:=⟨[],[],[]⟩
abbrev yrI (v0:Int) (v1:List Int) (v2 v3:Int):(ydq).X:=(((v0,()),(v1,()),(v2,()),(v3,()),()),(),())
abbrev yQh (v0:List Int) (v1:Int):(yin).X:=((((),()),(v0,()),(v1,()),((),()),()),(),())
abbrev yD6 (v0:Int):(yh9).X:=(((v0,()),()),(),())
def ysh (v0:Int) (v1:List Int) (v2 v3:Int):Option ((ydq).X ⊕ ((yh9).X ⊕ (ymM).X)) :=bif(ltb v3 v2)then bif(inb v3 v1.length)then some (.inl ((((i64.wrap ((BitVec.ofInt IntKind.i64.bits v0 ^^^ BitVec.ofInt IntKind.i64.bits (nth v1 v3 0)).toNat:Int)),()),(v1,()),(v2,()),((i64.wrap (v3+1)),()),()),(),())) else none else some (.inr (.inl (((v0,()),()),(),())))
def ydY (x:(ydq).X):=ysh x.1.1.1 x.1.2.1.1 x.1.2.2.1.1 x.1.2.2.2.1.1
def yDC (x:(yin).X):(ydq).X:=(((0,()),(x.1.2.1.1,()),(x.1.2.2.1.1,()),(0,()),()),(),())
def yE9:Code:=(zeJ ysM 64 116).getD .skip
theorem ySS:zeJ ysM 64 29=some (.block 0 (.loop yE9)):=by kernel_rfl
theorem yVD (x:(ydq).X):zhu ⟨yCo,17,yGL⟩ 0 yE9 116 ydq yh9 ymM x=ydY x:=by kernel_rfl
def yDS (x:(yin).X):Nat:=18446744073709551616
def yta (x:(yin).X):Option ((yh9).X ⊕ (ymM).X):=zF ydY (yDS x) (yDC x)
def yEz:Seg:=⟨yin,yh9,ymM,yta⟩
def yWd:Nat→Option Seg:=fun q=>bif Nat.beq q 29 then some yEz else yGL q
theorem yTo:FrOk prog ⟨yCo,17,yWd⟩ ysM:=(yTn).loop (sg:=yEz) ydq yDC (by decide) ySS ydY yDS (by decide) (fun _=>rfl) (fun x r _ h=>h) yVD
abbrev ytp:List Par:= [.rd tL]
abbrev yCL:List OT:= [⟨false,tI,.fz⟩]
def yxe (a0:List Int):Option (zaY yCL×zak ytp) :=zkr (yta ((((),()),(a0,()),((a0.length:Int),()),((),()),()),(),())) (fun y0 =>some ((y0.1.1.1,()),())) (fun y0 =>none)
theorem yXD:ConOk prog 185 ⟨ytp,yCL,fun x=>yxe x.1⟩:=zkG (yTo) func185 ntmps185.symm fun x=>by kernel_rfl
def ycE (a0:List Int):Int:=yay a0
theorem y0f (a0:List Int) (hk:zjw ytp (a0,())):yxe a0=(fun n=>some ((n,()),())) (ycE a0):=by
 have hb:a0.length*8≤2^47:=hk.1.1
 have h1:yta (yQh a0 a0.length)=some (.inl (yD6 (yay a0))) :=
  zkv (step:=ydY) a0 0 (fun i s=>yrI s a0 a0.length i) xw (fun _ _=>True) (fun s=> .inl (yD6 s)) (fun i s hi _=>⟨by
   simp only[ydY,yrI,ysh,zkw (show(i:Int)<a0.length by omega),cond_true,wq ((i:Int)+1) (by omega) (by omega),Int.natCast_add,Int.natCast_one,Int.toNat_natCast,zkP hi,zkQ]; rfl,trivial⟩) (fun s _=>by simp only[ydY,yrI,ysh,zk1 (Int.le_refl _),cond_false]) 0 trivial _ (by show _<18446744073709551616; omega)
 unfold yxe ycE;rw[h1]; rfl
def yoQ:Con:=⟨ytp,yCL,fun x=>(fun n=>some ((n,()),())) (ycE x.1)⟩
theorem yAc:ConOk prog 185 yoQ:=(yXD).mono (fun x r hk h=>(y0f x.1 hk).trans h)
def yLY:Code:=(f166.body).getD .skip
def yMa:Env:=zku TT [(185,yoQ)] []
theorem yH3:FrOk prog ⟨yMa,5,fun _=>none⟩ yLY:=zky yf yg ⟨yAc,trivial⟩
abbrev ypr:List Par:= [.rd tL]
abbrev ypu:List OT:= [⟨false,tI,.fz⟩]
def yvR (a0:List Int):Option (zaY ypu×zak ypr) :=let r1:=ycE a0;some ((r1,()),())
theorem yJo:ConOk prog 166 ⟨ypr,ypu,fun x=>yvR x.1⟩:=zkG (yH3) func166 ntmps166.symm fun x=>by kernel_rfl
def yjC (a0:List Int):Int :=let r1:=ycE a0;r1
def yvv:Con:=⟨ypr,ypu,fun x=>(fun n=>some ((n,()),())) (yjC x.1)⟩
theorem yK8 (a0:List Int):yvR a0=(fun n=>some ((n,()),())) (yjC a0):=zkT (p:=fun(n:Int)=>((n,()),())) rfl
theorem yLi:ConOk prog 166 yvv:=(yJo).mono (fun x r _ h=>(yK8 x.1).trans h)
def yY9:Code:=(f168.body).getD .skip
def yZG:Env:=zku TT [(81,yN)] []
theorem yPd:FrOk prog ⟨yZG,34,fun _=>none⟩ yY9:=zky yf yg ⟨y9,trivial⟩
abbrev yqP:List Par:= [.rd tA,.rd tI,.rd tI]
abbrev yzz:List OT:= [⟨false,tB,.fz⟩]
def yuW (a0:dA) (a1 a2:Int):Option (zaY yzz×zak yqP) :=let r1:=yi a1 0 (i64.wrap ((a0.2.2.1.length:Int)-1));bif r1 then bif(inb a1 a0.2.2.1.length)then bif(!((((nth a0.2.2.1 a1 ([],[],false,[])).2).2).1))then bif(!(a0.2.2.2.1 !=a1))then some (((ltb a2 a0.2.2.2.2.1),()),()) else some ((true,()),()) else some ((false,()),()) else none else some ((false,()),())
theorem yUA:ConOk prog 168 ⟨yqP,yzz,fun x=>yuW x.1 x.2.1 x.2.2.1⟩:=zkG (yPd) func168 ntmps168.symm fun x=>by kernel_rfl
def yfM (a0:dA) (a1 a2:Int):Bool:=ycC a0 a1 a2
theorem yW0 (a0:dA) (a1 a2:Int) (hk:zjw yqP (a0,a1,a2,())):yuW a0 a1 a2=(fun n=>some ((n,()),())) (yfM a0 a1 a2):=by
 have hb:a0.2.2.1.length*80≤2^47:=hk.1.2.2.1.1;unfold yuW yfM ycC yc;rw[yao,ynA (show a0.2.2.1.length≤1152921504606846976 by omega),bne_comm];cases inb a1 a0.2.2.1.length
 ·rfl
 ·cases(nth a0.2.2.1 a1 ([],[],false,[])).2.2.1<;>cases(a1 !=a0.2.2.2.1)<;>rfl
def yt8:Con:=⟨yqP,yzz,fun x=>(fun n=>some ((n,()),())) (yfM x.1 x.2.1 x.2.2.1)⟩
theorem yHq:ConOk prog 168 yt8:=(yUA).mono (fun x r hk h=>(yW0 x.1 x.2.1 x.2.2.1 hk).trans h)
def ycJ:Code:=(f98.body).getD .skip
def ygI:Env:=zku TT [(111,yt6),(139,yiL),(142,yt7),(166,yvv),(167,ypx),(168,yt8)] []
theorem yIZ:FrOk prog ⟨ygI,70,fun _=>none⟩ ycJ:=zky yf yg ⟨yHo,ypO,yHp,yLi,yEe,yHq,trivial⟩
def yxG:Nat→Option Seg:=fun _=>none
def ybd:Shape:=⟨[(0,false,[.ptr 1000000000 0]),(1,false,[.int .i64]),(7,false,[.at 800000000]),(28,false,[.br tI]),(29,false,[.int .i64]),(30,false,[.int .i64])],[(1000000000,[.int .i64,.int .i64,.int .i64,.at 800000001,.int .i64,.int .i64,.int .i64,.int .i64,.int .i64,.at 800000002,.int .i64,.bool,.bool])],[(800000000,tI,.fz),(800000001,tM,(.pr (.ow (.ow .fz)) (.pr (.ow (.pr .fz (.ow .fz))) (.pr .fz (.ow .fz))))),(800000002,tW,(.pr .fz (.ow .fz)))]⟩
def yel:Shape:=⟨[(0,false,[.ptr 1000000000 0]),(1,false,[.int .i64]),(7,false,[.at 800000000]),(28,false,[.br tI]),(29,false,[.int .i64]),(30,false,[.ci .i64 0])],[(1000000000,[.int .i64,.int .i64,.int .i64,.at 800000001,.int .i64,.int .i64,.int .i64,.int .i64,.int .i64,.at 800000002,.int .i64,.bool,.bool])],[(800000000,tI,.fz),(800000001,tM,(.pr (.ow (.ow .fz)) (.pr (.ow (.pr .fz (.ow .fz))) (.pr .fz (.ow .fz))))),(800000002,tW,(.pr .fz (.ow .fz)))]⟩
def yef:Shape:=⟨[(0,false,[.ptr 1000000000 0]),(1,false,[.int .i64]),(7,false,[.at 800000000])],[(1000000000,[.int .i64,.int .i64,.int .i64,.at 800000001,.int .i64,.int .i64,.int .i64,.int .i64,.int .i64,.at 800000002,.int .i64,.bool,.bool])],[(800000000,tI,.fz),(800000001,tM,(.pr (.ow (.ow .fz)) (.pr (.ow (.pr .fz (.ow .fz))) (.pr .fz (.ow .fz))))),(800000002,tW,(.pr .fz (.ow .fz)))]⟩
def yhv:Shape:=⟨[],[],[]⟩
abbrev yk0 (v0:Int) (v1:List Int) (v2 v3:Int) (v4:dA) (v5:List Int):(ybd).X:=((((),()),(v0,()),((),()),(v1,()),(v2,()),(v3,()),()),((v4.1,v4.2.1.1,v4.2.1.2,(),v4.2.2.2.1,v4.2.2.2.2.1,v4.2.2.2.2.2.1,v4.2.2.2.2.2.2.1,v4.2.2.2.2.2.2.2.1,(),v4.2.2.2.2.2.2.2.2.2.1,v4.2.2.2.2.2.2.2.2.2.2.1,v4.2.2.2.2.2.2.2.2.2.2.2,()),()),(v5,v4.2.2.1,v4.2.2.2.2.2.2.2.2.1,()))
abbrev yIb (v0:Int) (v1:List Int) (v2:Int) (v3:dA) (v4:List Int):(yel).X:=((((),()),(v0,()),((),()),(v1,()),(v2,()),((),()),()),((v3.1,v3.2.1.1,v3.2.1.2,(),v3.2.2.2.1,v3.2.2.2.2.1,v3.2.2.2.2.2.1,v3.2.2.2.2.2.2.1,v3.2.2.2.2.2.2.2.1,(),v3.2.2.2.2.2.2.2.2.2.1,v3.2.2.2.2.2.2.2.2.2.2.1,v3.2.2.2.2.2.2.2.2.2.2.2,()),()),(v4,v3.2.2.1,v3.2.2.2.2.2.2.2.2.1,()))
abbrev yuI (v0:Int) (v1:dA) (v2:List Int):(yef).X:=((((),()),(v0,()),((),()),()),((v1.1,v1.2.1.1,v1.2.1.2,(),v1.2.2.2.1,v1.2.2.2.2.1,v1.2.2.2.2.2.1,v1.2.2.2.2.2.2.1,v1.2.2.2.2.2.2.2.1,(),v1.2.2.2.2.2.2.2.2.2.1,v1.2.2.2.2.2.2.2.2.2.2.1,v1.2.2.2.2.2.2.2.2.2.2.2,()),()),(v2,v1.2.2.1,v1.2.2.2.2.2.2.2.2.1,()))
def ylc (v0:Int) (v1:List Int) (v2 v3 v4 v5 v6 v7 v8 v9 v10 v11 v12:Int) (v13 v14:Bool) (v15:List Int) (v16:List dM) (v17:List dW):Option ((ybd).X ⊕ ((yef).X ⊕ (yhv).X)) :=bif(ltb v3 v2)then bif(inb v3 v1.length)then let r5:=yfL (v5,v6) v0 v3;bif(inb r5 v15.length)then some (.inl ((((),()),(v0,()),((),()),(v1,()),(v2,()),((i64.wrap (v3+1)),()),()),((v4,v5,v6,(),v7,v8,v9,v10,v11,(),v12,v13,v14,()),()),((v15.set (r5).toNat (nth v1 v3 0)),v16,v17,()))) else none else none else some (.inr (.inl ((((),()),(v0,()),((),()),()),((v4,v5,v6,(),v7,v8,v9,v10,v11,(),v12,v13,v14,()),()),(v15,v16,v17,()))))
def ybr (x:(ybd).X):=ylc x.1.2.1.1 x.1.2.2.2.1.1 x.1.2.2.2.2.1.1 x.1.2.2.2.2.2.1.1 x.2.1.1.1 x.2.1.1.2.1 x.2.1.1.2.2.1 x.2.1.1.2.2.2.2.1 x.2.1.1.2.2.2.2.2.1 x.2.1.1.2.2.2.2.2.2.1 x.2.1.1.2.2.2.2.2.2.2.1 x.2.1.1.2.2.2.2.2.2.2.2.1 x.2.1.1.2.2.2.2.2.2.2.2.2.2.1 x.2.1.1.2.2.2.2.2.2.2.2.2.2.2.1 x.2.1.1.2.2.2.2.2.2.2.2.2.2.2.2.1 x.2.2.1 x.2.2.2.1 x.2.2.2.2.1
def yum (x:(yel).X):(ybd).X:=((((),()),(x.1.2.1.1,()),((),()),(x.1.2.2.2.1.1,()),(x.1.2.2.2.2.1.1,()),(0,()),()),((x.2.1.1.1,x.2.1.1.2.1,x.2.1.1.2.2.1,(),x.2.1.1.2.2.2.2.1,x.2.1.1.2.2.2.2.2.1,x.2.1.1.2.2.2.2.2.2.1,x.2.1.1.2.2.2.2.2.2.2.1,x.2.1.1.2.2.2.2.2.2.2.2.1,(),x.2.1.1.2.2.2.2.2.2.2.2.2.2.1,x.2.1.1.2.2.2.2.2.2.2.2.2.2.2.1,x.2.1.1.2.2.2.2.2.2.2.2.2.2.2.2.1,()),()),(x.2.2.1,x.2.2.2.1,x.2.2.2.2.1,()))
def yvo:Code:=(zeJ ycJ 64 244).getD .skip
theorem yIS:zeJ ycJ 64 61=some (.block 0 (.loop yvo)):=by kernel_rfl
theorem yJv (x:(ybd).X):zhu ⟨ygI,70,yxG⟩ 0 yvo 244 ybd yef yhv x=ybr x:=by kernel_rfl
def yuu (x:(yel).X):Nat:=18446744073709551616
def ylR (x:(yel).X):Option ((yef).X ⊕ (yhv).X):=zF ybr (yuu x) (yum x)
def yvd:Seg:=⟨yel,yef,yhv,ylR⟩
def ym8:Nat→Option Seg:=fun q=>bif Nat.beq q 61 then some yvd else yxG q
theorem yI0:FrOk prog ⟨ygI,70,ym8⟩ ycJ:=(yIZ).loop (sg:=yvd) ybd yum (by decide) yIS ybr yuu (by decide) (fun _=>rfl) (fun x r _ h=>h) yJv
def yaY:Shape:=⟨[(0,false,[.ptr 1000000000 0]),(1,false,[.int .i64]),(46,false,[.at 800000000]),(47,false,[.int .i64]),(48,false,[.int .i64])],[(1000000000,[.int .i64,.int .i64,.int .i64,.at 800000001,.int .i64,.int .i64,.int .i64,.int .i64,.int .i64,.at 800000002,.int .i64,.bool,.bool])],[(800000000,tI,.fz),(800000001,tM,(.pr (.ow (.ow .fz)) (.pr (.ow (.pr .fz (.ow .fz))) (.pr .fz (.ow .fz))))),(800000002,tW,(.pr .fz (.ow .fz)))]⟩
def ydC:Shape:=⟨[(0,false,[.ptr 1000000000 0]),(1,false,[.int .i64]),(46,false,[.at 800000000]),(47,false,[.int .i64]),(48,false,[.ci .i64 0])],[(1000000000,[.int .i64,.int .i64,.int .i64,.at 800000001,.int .i64,.int .i64,.int .i64,.int .i64,.int .i64,.at 800000002,.int .i64,.bool,.bool])],[(800000000,tI,.fz),(800000001,tM,(.pr (.ow (.ow .fz)) (.pr (.ow (.pr .fz (.ow .fz))) (.pr .fz (.ow .fz))))),(800000002,tW,(.pr .fz (.ow .fz)))]⟩
def ydA:Shape:=⟨[],[(1000000000,[.int .i64,.int .i64,.int .i64,.at 800000000,.int .i64,.int .i64,.int .i64,.int .i64,.int .i64,.at 800000001,.int .i64,.bool,.bool])],[(800000000,tM,(.pr (.ow (.ow .fz)) (.pr (.ow (.pr .fz (.ow .fz))) (.pr .fz (.ow .fz))))),(800000001,tW,(.pr .fz (.ow .fz)))]⟩
def ydE:Shape:=⟨[(6,false,[.bool])],[(1000000000,[.int .i64,.int .i64,.int .i64,.at 800000000,.int .i64,.int .i64,.int .i64,.int .i64,.int .i64,.at 800000001,.int .i64,.bool,.bool])],[(800000000,tM,(.pr (.ow (.ow .fz)) (.pr (.ow (.pr .fz (.ow .fz))) (.pr .fz (.ow .fz))))),(800000001,tW,(.pr .fz (.ow .fz)))]⟩
abbrev yj6 (v0 v1 v2:Int) (v3:dA) (v4:List Int):(yaY).X:=((((),()),(v0,()),((),()),(v1,()),(v2,()),()),((v3.1,v3.2.1.1,v3.2.1.2,(),v3.2.2.2.1,v3.2.2.2.2.1,v3.2.2.2.2.2.1,v3.2.2.2.2.2.2.1,v3.2.2.2.2.2.2.2.1,(),v3.2.2.2.2.2.2.2.2.2.1,v3.2.2.2.2.2.2.2.2.2.2.1,v3.2.2.2.2.2.2.2.2.2.2.2,()),()),(v4,v3.2.2.1,v3.2.2.2.2.2.2.2.2.1,()))
abbrev yHm (v0 v1:Int) (v2:dA) (v3:List Int):(ydC).X:=((((),()),(v0,()),((),()),(v1,()),((),()),()),((v2.1,v2.2.1.1,v2.2.1.2,(),v2.2.2.2.1,v2.2.2.2.2.1,v2.2.2.2.2.2.1,v2.2.2.2.2.2.2.1,v2.2.2.2.2.2.2.2.1,(),v2.2.2.2.2.2.2.2.2.2.1,v2.2.2.2.2.2.2.2.2.2.2.1,v2.2.2.2.2.2.2.2.2.2.2.2,()),()),(v3,v2.2.2.1,v2.2.2.2.2.2.2.2.2.1,()))
abbrev yj8 (v0:dA):(ydA).X:=((),((v0.1,v0.2.1.1,v0.2.1.2,(),v0.2.2.2.1,v0.2.2.2.2.1,v0.2.2.2.2.2.1,v0.2.2.2.2.2.2.1,v0.2.2.2.2.2.2.2.1,(),v0.2.2.2.2.2.2.2.2.2.1,v0.2.2.2.2.2.2.2.2.2.2.1,v0.2.2.2.2.2.2.2.2.2.2.2,()),()),(v0.2.2.1,v0.2.2.2.2.2.2.2.2.1,()))
abbrev yka (v0:Bool) (v1:dA):(ydE).X:=(((v0,()),()),((v1.1,v1.2.1.1,v1.2.1.2,(),v1.2.2.2.1,v1.2.2.2.2.1,v1.2.2.2.2.2.1,v1.2.2.2.2.2.2.1,v1.2.2.2.2.2.2.2.1,(),v1.2.2.2.2.2.2.2.2.2.1,v1.2.2.2.2.2.2.2.2.2.2.1,v1.2.2.2.2.2.2.2.2.2.2.2,()),()),(v1.2.2.1,v1.2.2.2.2.2.2.2.2.1,()))
def ykx (v0 v1 v2 v3 v4 v5 v6 v7 v8 v9 v10 v11:Int) (v12 v13:Bool) (v14:List Int) (v15:List dM) (v16:List dW):Option ((yaY).X ⊕ ((ydA).X ⊕ (ydE).X)) :=bif(ltb v2 v1)then bif(inb v2 v14.length)then let r10:=yfM (v3,(v4,v5),v15,v6,v7,v8,v9,v10,v16,v11,v12,v13) v2 v0;bif r10 then let r11:=ylx v0;bnd (yeF (v3,(v4,v5),v15,v6,v7,v8,v9,v10,v16,v11,v12,v13) v2 r11 ([(nth v14 v2 0)]:List Int)) fun r12 =>bif(!r12.1.1)then some (.inr (.inr (((false,()),()),((r12.2.1.1,r12.2.1.2.1.1,r12.2.1.2.1.2,(),r12.2.1.2.2.2.1,r12.2.1.2.2.2.2.1,r12.2.1.2.2.2.2.2.1,r12.2.1.2.2.2.2.2.2.1,r12.2.1.2.2.2.2.2.2.2.1,(),r12.2.1.2.2.2.2.2.2.2.2.2.1,r12.2.1.2.2.2.2.2.2.2.2.2.2.1,r12.2.1.2.2.2.2.2.2.2.2.2.2.2,()),()),(r12.2.1.2.2.1,r12.2.1.2.2.2.2.2.2.2.2.1,())))) else some (.inl ((((),()),(v0,()),((),()),(v1,()),((i64.wrap (v2+1)),()),()),((r12.2.1.1,r12.2.1.2.1.1,r12.2.1.2.1.2,(),r12.2.1.2.2.2.1,r12.2.1.2.2.2.2.1,r12.2.1.2.2.2.2.2.1,r12.2.1.2.2.2.2.2.2.1,r12.2.1.2.2.2.2.2.2.2.1,(),r12.2.1.2.2.2.2.2.2.2.2.2.1,r12.2.1.2.2.2.2.2.2.2.2.2.2.1,r12.2.1.2.2.2.2.2.2.2.2.2.2.2,()),()),(v14,r12.2.1.2.2.1,r12.2.1.2.2.2.2.2.2.2.2.1,()))) else some (.inl ((((),()),(v0,()),((),()),(v1,()),((i64.wrap (v2+1)),()),()),((v3,v4,v5,(),v6,v7,v8,v9,v10,(),v11,v12,v13,()),()),(v14,v15,v16,()))) else none else some (.inr (.inl ((),((v3,v4,v5,(),v6,v7,v8,v9,v10,(),v11,v12,v13,()),()),(v15,v16,()))))
def ybb (x:(yaY).X):=ykx x.1.2.1.1 x.1.2.2.2.1.1 x.1.2.2.2.2.1.1 x.2.1.1.1 x.2.1.1.2.1 x.2.1.1.2.2.1 x.2.1.1.2.2.2.2.1 x.2.1.1.2.2.2.2.2.1 x.2.1.1.2.2.2.2.2.2.1 x.2.1.1.2.2.2.2.2.2.2.1 x.2.1.1.2.2.2.2.2.2.2.2.1 x.2.1.1.2.2.2.2.2.2.2.2.2.2.1 x.2.1.1.2.2.2.2.2.2.2.2.2.2.2.1 x.2.1.1.2.2.2.2.2.2.2.2.2.2.2.2.1 x.2.2.1 x.2.2.2.1 x.2.2.2.2.1
def ysx (x:(ydC).X):(yaY).X:=((((),()),(x.1.2.1.1,()),((),()),(x.1.2.2.2.1.1,()),(0,()),()),((x.2.1.1.1,x.2.1.1.2.1,x.2.1.1.2.2.1,(),x.2.1.1.2.2.2.2.1,x.2.1.1.2.2.2.2.2.1,x.2.1.1.2.2.2.2.2.2.1,x.2.1.1.2.2.2.2.2.2.2.1,x.2.1.1.2.2.2.2.2.2.2.2.1,(),x.2.1.1.2.2.2.2.2.2.2.2.2.2.1,x.2.1.1.2.2.2.2.2.2.2.2.2.2.2.1,x.2.1.1.2.2.2.2.2.2.2.2.2.2.2.2.1,()),()),(x.2.2.1,x.2.2.2.1,x.2.2.2.2.1,()))
def yt4:Code:=(zeJ ycJ 64 500).getD .skip
theorem yHV:zeJ ycJ 64 125=some (.block 2 (.loop yt4)):=by kernel_rfl
theorem yIo (x:(yaY).X):zhu ⟨ygI,70,ym8⟩ 2 yt4 500 yaY ydA ydE x=ybb x:=by kernel_rfl
def ysA (x:(ydC).X):Nat:=18446744073709551616
def ykH (x:(ydC).X):Option ((ydA).X ⊕ (ydE).X):=zF ybb (ysA x) (ysx x)
def ysG:Seg:=⟨ydC,ydA,ydE,ykH⟩
def yJD:Nat→Option Seg:=fun q=>bif Nat.beq q 125 then some ysG else ym8 q
theorem yI1:FrOk prog ⟨ygI,70,yJD⟩ ycJ:=(yI0).loop (sg:=ysG) yaY ysx (by decide) yHV ybb ysA (by decide) (fun _=>rfl) (fun x r _ h=>h) yIo
abbrev ygM:List Par:= [.pt tA (.pr .fz (.pr (.pr .fz .fz) (.pr (.ow (.pr (.ow (.ow .fz)) (.pr (.ow (.pr .fz (.ow .fz))) (.pr .fz (.ow .fz))))) (.pr .fz (.pr .fz (.pr .fz (.pr .fz (.pr .fz (.pr (.ow (.pr .fz (.ow .fz))) (.pr .fz (.pr .fz .fz))))))))))),.rd tI,.rd tL]
abbrev ykM:List OT:= [⟨false,tB,.fz⟩]
def ynX (a0:dA) (a1:Int) (a2:List Int):Option (zaY ykM×zak ygM) :=bif(zkq a0.2.1.1 8)then let r1:=ydH a0.2.1 a1;let r2:=yjC a2;bif(inb r1 (List.replicate (a0.2.1.1).toNat (0:Int)).length)then let r3:=((List.replicate (a0.2.1.1).toNat (0:Int)).set (r1).toNat r2);zkr (ylR ((((),()),(a1,()),((),()),(a2,()),((a2.length:Int),()),((),()),()),((a0.1,a0.2.1.1,a0.2.1.2,(),a0.2.2.2.1,a0.2.2.2.2.1,a0.2.2.2.2.2.1,a0.2.2.2.2.2.2.1,a0.2.2.2.2.2.2.2.1,(),a0.2.2.2.2.2.2.2.2.2.1,a0.2.2.2.2.2.2.2.2.2.2.1,a0.2.2.2.2.2.2.2.2.2.2.2,()),()),(r3,a0.2.2.1,a0.2.2.2.2.2.2.2.2.1,()))) (fun y5 =>zkr (ykH ((((),()),(y5.1.2.1.1,()),((),()),((y5.2.2.1.length:Int),()),((),()),()),((y5.2.1.1.1,y5.2.1.1.2.1,y5.2.1.1.2.2.1,(),y5.2.1.1.2.2.2.2.1,y5.2.1.1.2.2.2.2.2.1,y5.2.1.1.2.2.2.2.2.2.1,y5.2.1.1.2.2.2.2.2.2.2.1,y5.2.1.1.2.2.2.2.2.2.2.2.1,(),y5.2.1.1.2.2.2.2.2.2.2.2.2.2.1,y5.2.1.1.2.2.2.2.2.2.2.2.2.2.2.1,y5.2.1.1.2.2.2.2.2.2.2.2.2.2.2.2.1,()),()),(y5.2.2.1,y5.2.2.2.1,y5.2.2.2.2.1,()))) (fun y12 =>some ((true,()),((y12.2.1.1.1,(y12.2.1.1.2.1,y12.2.1.1.2.2.1),y12.2.2.1,y12.2.1.1.2.2.2.2.1,y12.2.1.1.2.2.2.2.2.1,y12.2.1.1.2.2.2.2.2.2.1,y12.2.1.1.2.2.2.2.2.2.2.1,y12.2.1.1.2.2.2.2.2.2.2.2.1,y12.2.2.2.1,y12.2.1.1.2.2.2.2.2.2.2.2.2.2.1,y12.2.1.1.2.2.2.2.2.2.2.2.2.2.2.1,y12.2.1.1.2.2.2.2.2.2.2.2.2.2.2.2.1),()))) (fun y12 =>some ((y12.1.1.1,()),((y12.2.1.1.1,(y12.2.1.1.2.1,y12.2.1.1.2.2.1),y12.2.2.1,y12.2.1.1.2.2.2.2.1,y12.2.1.1.2.2.2.2.2.1,y12.2.1.1.2.2.2.2.2.2.1,y12.2.1.1.2.2.2.2.2.2.2.1,y12.2.1.1.2.2.2.2.2.2.2.2.1,y12.2.2.2.1,y12.2.1.1.2.2.2.2.2.2.2.2.2.2.1,y12.2.1.1.2.2.2.2.2.2.2.2.2.2.2.1,y12.2.1.1.2.2.2.2.2.2.2.2.2.2.2.2.1),())))) (fun y5 =>none) else none else none
theorem yLc:ConOk prog 98 ⟨ygM,ykM,fun x=>ynX x.1 x.2.1 x.2.2.1⟩:=zkG (yI1) func98 ntmps98.symm fun x=>by kernel_rfl
def yk6 (a0:dA) (a1:Int) (a2:List Int):Bool×dA:=(!(ya (yB a0 a1 a2)),yB a0 a1 a2)
def yeG (a0:dA) (a1:Int) (a2:List Int):Bool:= !(ya a0)&&(yL a0.2.1 a1&&((a2.length:Int)==a0.2.1.1-1&&(a0.2.2.1.length:Int)==a0.2.1.1))
theorem yNs (a0:dA) (a1:Int) (a2:List Int) (hk:zjw ygM (a0,a1,a2,())) (hq:yeG a0 a1 a2=true):ynX a0 a1 a2=(fun n=>some ((n.1,()),(n.2,()))) (yk6 a0 a1 a2):=by
 simp only[yeG,Bool.and_eq_true,beq_iff_eq,Bool.not_eq_true']at hq;obtain⟨hd0,hs0,hl0,hm0⟩:=hq;have hg:=yl.1 (yV.1 hs0).1;have hp:=yi5 hs0;have hL:=y3s (N:=a0.2.1.1) (p:=yk a0.2.1 a1) (x:=yay a2) (data:=a2) ⟨by omega,by omega⟩ hp hl0;generalize hw:(List.range a0.2.1.1.toNat).map (fun(i:Nat)=>ycd (yk a0.2.1 a1) a0.2.1.1 (yay a2) a2 i)=W at hL;have hWl:W.length=a0.2.2.1.length:=by rw[← hw,List.length_map,List.length_range]; omega
 have hWat: ∀i:Nat,i<a0.2.2.1.length→nth W i 0=ycd (yk a0.2.1 a1) a0.2.1.1 (yay a2) a2 i:=fun i hi=>by
  rw[← hw,zkQ,zkH (by rw[List.length_map,List.length_range]; omega)]; simp
 have h1:ylR (yIb a1 a2 a2.length a0 ((List.replicate a0.2.1.1.toNat 0).set (yk a0.2.1 a1).toNat (yay a2)))=some (.inl (yuI a1 a0 W)):=by
  have:=zkB (step:=ybr) a2.length (fun i s=>yk0 a1 a2 a2.length i a0 s) (fun l (i:Nat)=>l.set ((yk a0.2.1 a1+1+i).tmod a0.2.1.1).toNat (nth a2 i 0)) (fun _ s=>s.length=a0.2.1.1.toNat) (fun s=> .inl (yuI a1 a0 s)) (fun i s hi hs=>⟨by
   have hd:=yLM hs0 (show(0:Int)≤i by omega) (show(i:Int)≤a0.2.1.1-2 by omega);have he:yaQ a0.2.1 a1 i=(yk a0.2.1 a1+1+i).tmod a0.2.1.1:=by unfold yaQ; rw[hs0,zk0 (show(0:Int)≤i by omega),zk0 (show(i:Int)≤a0.2.1.1-2 by omega)]; rfl
   simp only[ybr,yk0,ylc,zkw (show(i:Int)<a2.length by omega),cond_true,wq ((i:Int)+1) (by omega) (by omega),Int.natCast_add,Int.natCast_one,Int.toNat_natCast,zkP hi,zkV,yfL,zj4.2 (show 0≤yaQ a0.2.1 a1 i∧yaQ a0.2.1 a1 i<s.length by omega)]
   rw[he],by rw[List.length_set]; exact hs⟩) (fun s hs=>by simp only[ybr,yk0,ylc,zk1 (Int.le_refl _),cond_false]) ((List.replicate a0.2.1.1.toNat 0).set (yk a0.2.1 a1).toNat (yay a2)) (by rw[List.length_set,List.length_replicate]) 18446744073709551616 (by omega)
  rw[hL]at this;exact this
 have h2:ykH (yHm a1 W.length a0 W)=some (bif ya (yB a0 a1 a2)then .inr (yka false (yB a0 a1 a2))else .inl (yj8 (yB a0 a1 a2))):=by
  have:=zkA (step:=ybb) a0.2.2.1.length (fun i s=>yj6 a1 W.length i s W) (fun i s=>bif ya (ya9 (yk a0.2.1 a1) a0.2.1.1 a1 a2 s i)then(.inr (ya9 (yk a0.2.1 a1) a0.2.1.1 a1 a2 s i):dA ⊕ dA)else .inl (ya9 (yk a0.2.1 a1) a0.2.1.1 a1 a2 s i)) (fun _ s=>s.2.2.1.length=a0.2.2.1.length∧ya s=false) id
   (fun b=>bif ya b then .inr (yka false b)else .inl (yj8 b)) (fun i s hi hs=>by
    constructor
    ·simp only[ybb,yj6,ykx,zkw (show(i:Int)<W.length by omega),cond_true,wq ((i:Int)+1) (by omega) (by omega),Int.natCast_add,Int.natCast_one,Int.toNat_natCast,zkP (show i<W.length by omega),zkV,yfM,yHk,hWat i hi,ya9]
     rw[ypP s i (yA a1) [ycd (yk a0.2.1 a1) a0.2.1.1 (yay a2) a2 i] (by unfold ycX; rw[zkP (by rw[hs.1]; exact hi),hs.2]; rfl)];cases hlv:ycC s i a1
     ·simp only[cond_false,hs.2]
     ·simp only[zkF,ycW,cond_true]
      cases hd:ya (ybq s i (yA a1) [ycd (yk a0.2.1 a1) a0.2.1.1 (yay a2) a2 i])
      ·rfl
      ·simp only[hd,Bool.not_true,Bool.not_false,cond_true,yka]
    ·intro s' h
     cases hd:ya (ya9 (yk a0.2.1 a1) a0.2.1.1 a1 a2 s i)
     ·rw[hd]at h
      cases h;exact⟨(yqm _ _ _ _ s i).trans hs.1,hd⟩
     ·rw[hd]at h; cases h) (fun s hs=>by simp only[ybb,yj6,ykx,hs.2,hWl,zk1 (Int.le_refl _),cond_false,id,yj8]) a0 ⟨rfl,hd0⟩ 18446744073709551616 (by omega)
  rw[yD3 (fun a i h=>yDw _ _ _ _ i h),← List.range_eq_range']at this;exact this
 unfold ynX yk6 ydH yjC ycE;rw[zkK.2 (show 0≤a0.2.1.1∧a0.2.1.1*((8:Nat):Int)≤140737488355328 by omega)];simp only[cond_true];rw[zj4.2 (show 0≤yk a0.2.1 a1∧yk a0.2.1 a1<((List.replicate a0.2.1.1.toNat (0:Int)).length:Int)by rw[List.length_replicate]; omega),cond_true];refine(congrArg (fun z=>zkr z _ _) h1).trans ?_;rw[zkL];refine(congrArg (fun z=>zkr z _ _) h2).trans ?_;cases hd:ya (yB a0 a1 a2)
 ·rfl
 ·simp only[cond_true,zkM,zkV]; rfl
def ya1 (a0:dA) (a1:Int) (a2:List Int):Option (zaY ykM×zak ygM):=bif yeG a0 a1 a2 then(fun n=>some ((n.1,()),(n.2,()))) (yk6 a0 a1 a2)else none
theorem yBv (a0:dA) (a1:Int) (a2:List Int) (h:yeG a0 a1 a2=true):ya1 a0 a1 a2=(fun n=>some ((n.1,()),(n.2,()))) (yk6 a0 a1 a2):=by unfold ya1; rw[h]; rfl
def ynu:Con:=⟨ygM,ykM,fun x=>ya1 x.1 x.2.1 x.2.2.1⟩
theorem yBt:ConOk prog 98 ynu:=(yLc).mono (fun x r hk h=>zkW h (fun hq=>yNs x.1 x.2.1 x.2.2.1 hk hq))
def yR4:Code:=(f172.body).getD .skip
def ySy:Env:=zku TT [(212,yrw)] []
theorem yKd:FrOk prog ⟨ySy,24,fun _=>none⟩ yR4:=zky yf yg ⟨yFS,trivial⟩
abbrev ytm:List Par:= [.rd tS]
abbrev ytH:List OT:= [⟨false,tL,(.ow .fz)⟩]
def yBw (a0:dS):Option (zaY ytH×zak ytm) :=let r1:=yeD a0;bif(!r1)then some (([],()),()) else some ((([21317,a0.1,a0.2.1,a0.2.2.1,a0.2.2.2.1,a0.2.2.2.2.1,a0.2.2.2.2.2.1,(i64.wrap (a0.2.2.2.2.2.2.1+1)),a0.2.2.2.2.2.2.2]:List Int),()),())
theorem yNE:ConOk prog 172 ⟨ytm,ytH,fun x=>yBw x.1⟩:=zkG (yKd) func172 ntmps172.symm fun x=>by kernel_rfl
def yiV (a0:dS):(List Int) :=let r1:=yeD a0;bif(!r1)then [] else ([21317,a0.1,a0.2.1,a0.2.2.1,a0.2.2.2.1,a0.2.2.2.2.1,a0.2.2.2.2.2.1,(i64.wrap (a0.2.2.2.2.2.2.1+1)),a0.2.2.2.2.2.2.2]:List Int)
def yAO:Con:=⟨ytm,ytH,fun x=>(fun n=>some ((n,()),())) (yiV x.1)⟩
theorem yQF (a0:dS):yBw a0=(fun n=>some ((n,()),())) (yiV a0):=zkT (p:=fun(n:(List Int))=>((n,()),())) (zkE (p:=fun(n:(List Int))=>((n,()),())) rfl rfl)
theorem yRt:ConOk prog 172 yAO:=(yNE).mono (fun x r _ h=>(yQF x.1).trans h)
theorem y2d (s:dS):yiV s=ym s:=by
 unfold yiV ym;rw[yIH]
def yVY:Code:=(f173.body).getD .skip
def yWp:Env:=zku TT [] []
theorem yML:FrOk prog ⟨yWp,23,fun _=>none⟩ yVY:=zky yf yg trivial
abbrev ywo:List Par:= [.rd tA,.rd tI]
abbrev ywF:List OT:= [⟨false,tS,(.pr .fz (.pr .fz (.pr .fz (.pr .fz (.pr .fz (.pr .fz (.pr .fz .fz)))))))⟩]
def yEq (a0:dA) (a1:Int):Option (zaY ywF×zak ywo) :=some (((a0.1,a0.2.2.2.2.2.2.2.1,a1,a0.2.1.1,a0.2.1.2,a0.2.2.2.2.2.2.1,a0.2.2.2.1,a0.2.2.2.2.1),()),())
theorem yQ7:ConOk prog 173 ⟨ywo,ywF,fun x=>yEq x.1 x.2.1⟩:=zkG (yML) func173 ntmps173.symm fun x=>by kernel_rfl
def yoW (a0:dA) (a1:Int):dS :=(a0.1,a0.2.2.2.2.2.2.2.1,a1,a0.2.1.1,a0.2.1.2,a0.2.2.2.2.2.2.1,a0.2.2.2.1,a0.2.2.2.2.1)
def yDl:Con:=⟨ywo,ywF,fun x=>(fun n=>some ((n,()),())) (yoW x.1 x.2.1)⟩
theorem yUg (a0:dA) (a1:Int):yEq a0 a1=(fun n=>some ((n,()),())) (yoW a0 a1):=zkT (p:=fun(n:dS)=>((n,()),())) rfl
theorem yVh:ConOk prog 173 yDl:=(yQ7).mono (fun x r _ h=>(yUg x.1 x.2.1).trans h)
def yfF:Code:=(f76.body).getD .skip
def ylk:Env:=zku TT [] [(21056,.fz),(21120,.fz),(37952,(.pr .fz .fz)),(38016,(.pr .fz .fz))]
theorem yPI:FrOk prog ⟨ylk,60,fun _=>none⟩ yfF:=zky yf yg trivial
def yEU:Nat→Option Seg:=fun _=>none
def ycP:Shape:=⟨[(1,false,[.ptr 0 0]),(2,false,[.ptr 64 0]),(3,false,[.ptr 4544 0]),(4,false,[.int .i64])],[(0,[.br tL,.br tW,.bool,.br tI]),(64,[.nil,.nil,.bool,.nil]),(4544,[.at 800000001,.nil,.bool,.at 800000000])],[(800000001,tL,.fz),(800000000,tI,.fz)]⟩
def yg4:Shape:=⟨[(1,false,[.ptr 0 0]),(2,false,[.ptr 64 0]),(3,false,[.ptr 4544 0]),(4,false,[.ci .i64 0])],[(0,[.br tL,.br tW,.bool,.br tI]),(64,[.nil,.nil,.bool,.nil]),(4544,[.at 800000001,.nil,.bool,.at 800000000])],[(800000001,tL,.fz),(800000000,tI,.fz)]⟩
def ygT:Shape:=⟨[(1,false,[.ptr 0 0]),(2,false,[.ptr 64 0]),(3,false,[.ptr 4544 0])],[(0,[.br tL,.br tW,.bool,.br tI]),(64,[.nil,.nil,.bool,.nil]),(4544,[.at 800000000,.nil,.bool,.at 800000001])],[(800000000,tL,.fz),(800000001,tI,.fz)]⟩
def ykQ:Shape:=⟨[],[],[]⟩
abbrev ypH (v0:Int) (v1 v2 v3:dM):(ycP).X:=((((),()),((),()),((),()),(v0,()),()),((v1.1,v1.2.1,v1.2.2.1,v1.2.2.2,()),((),(),v2.2.2.1,(),()),((),(),v3.2.2.1,(),()),()),(v3.1,v3.2.2.2,()))
abbrev yNj (v0 v1 v2:dM):(yg4).X:=((((),()),((),()),((),()),((),()),()),((v0.1,v0.2.1,v0.2.2.1,v0.2.2.2,()),((),(),v1.2.2.1,(),()),((),(),v2.2.2.1,(),()),()),(v2.1,v2.2.2.2,()))
abbrev yBo (v0 v1 v2:dM):(ygT).X:=((((),()),((),()),((),()),()),((v0.1,v0.2.1,v0.2.2.1,v0.2.2.2,()),((),(),v1.2.2.1,(),()),((),(),v2.2.2.1,(),()),()),(v2.1,v2.2.2.2,()))
def yqf (v0:Int) (v1:List (List Int)) (v2:List dW) (v3:Bool) (v4:List Int) (v5 v6:Bool) (v7:List (List Int)) (v8:List Int):Option ((ycP).X ⊕ ((ygT).X ⊕ (ykQ).X)) :=bif(ltb v0 (v1.length:Int))then bif(inb v0 v1.length)then bif(zkj ([]:List Int).length (nth v1 v0 []).length 8)then bif(zkj v7.length ([(([]:List Int)++(nth v1 v0 []))]:List (List Int)).length 24)then some (.inl ((((),()),((),()),((),()),((i64.wrap (v0+1)),()),()),((v1,v2,v3,v4,()),((),(),v5,(),()),((),(),v6,(),()),()),((v7++([(([]:List Int)++(nth v1 v0 []))]:List (List Int))),v8,()))) else none else none else none else some (.inr (.inl ((((),()),((),()),((),()),()),((v1,v2,v3,v4,()),((),(),v5,(),()),((),(),v6,(),()),()),(v7,v8,()))))
def ydd (x:(ycP).X):=yqf x.1.2.2.2.1.1 x.2.1.1.1 x.2.1.1.2.1 x.2.1.1.2.2.1 x.2.1.1.2.2.2.1 x.2.1.2.1.2.2.1 x.2.1.2.2.1.2.2.1 x.2.2.1 x.2.2.2.1
def yA6 (x:(yg4).X):(ycP).X:=((((),()),((),()),((),()),(0,()),()),((x.2.1.1.1,x.2.1.1.2.1,x.2.1.1.2.2.1,x.2.1.1.2.2.2.1,()),((),(),x.2.1.2.1.2.2.1,(),()),((),(),x.2.1.2.2.1.2.2.1,(),()),()),(x.2.2.1,x.2.2.2.1,()))
def yC8:Code:=(zeJ yfF 64 116).getD .skip
theorem yOV:zeJ yfF 64 29=some (.block 0 (.loop yC8)):=by kernel_rfl
theorem yRP (x:(ycP).X):zhu ⟨ylk,60,yEU⟩ 0 yC8 116 ycP ygT ykQ x=ydd x:=by kernel_rfl
def yBh (x:(yg4).X):Nat:=18446744073709551616
def yrn (x:(yg4).X):Option ((ygT).X ⊕ (ykQ).X):=zF ydd (yBh x) (yA6 x)
def yBG:Seg:=⟨yg4,ygT,ykQ,yrn⟩
def ysX:Nat→Option Seg:=fun q=>bif Nat.beq q 29 then some yBG else yEU q
theorem yPJ:FrOk prog ⟨ylk,60,ysX⟩ yfF:=(yPI).loop (sg:=yBG) ycP yA6 (by decide) yOV ydd yBh (by decide) (fun _=>rfl) (fun x r _ h=>h) yRP
def ycQ:Shape:=⟨[(1,false,[.ptr 0 0]),(2,false,[.ptr 64 0]),(3,false,[.ptr 4544 0]),(5,false,[.int .i64])],[(0,[.br tL,.br tW,.bool,.br tI]),(64,[.nil,.nil,.bool,.nil]),(4544,[.at 800000000,.at 800000002,.bool,.at 800000001])],[(800000000,tL,.fz),(800000002,tW,(.pr .fz .fz)),(800000001,tI,.fz)]⟩
def yg5:Shape:=⟨[(1,false,[.ptr 0 0]),(2,false,[.ptr 64 0]),(3,false,[.ptr 4544 0]),(5,false,[.ci .i64 0])],[(0,[.br tL,.br tW,.bool,.br tI]),(64,[.nil,.nil,.bool,.nil]),(4544,[.at 800000000,.at 800000002,.bool,.at 800000001])],[(800000000,tL,.fz),(800000002,tW,(.pr .fz .fz)),(800000001,tI,.fz)]⟩
def ygU:Shape:=⟨[(2,false,[.ptr 64 0]),(3,false,[.ptr 4544 0])],[(64,[.nil,.nil,.bool,.nil]),(4544,[.at 800000000,.at 800000001,.bool,.at 800000002])],[(800000000,tL,.fz),(800000001,tW,(.pr .fz .fz)),(800000002,tI,.fz)]⟩
def ykR:Shape:=⟨[],[],[]⟩
abbrev ypI (v0:Int) (v1 v2 v3:dM):(ycQ).X:=((((),()),((),()),((),()),(v0,()),()),((v1.1,v1.2.1,v1.2.2.1,v1.2.2.2,()),((),(),v2.2.2.1,(),()),((),(),v3.2.2.1,(),()),()),(v3.1,v3.2.1,v3.2.2.2,()))
abbrev yNk (v0 v1 v2:dM):(yg5).X:=((((),()),((),()),((),()),((),()),()),((v0.1,v0.2.1,v0.2.2.1,v0.2.2.2,()),((),(),v1.2.2.1,(),()),((),(),v2.2.2.1,(),()),()),(v2.1,v2.2.1,v2.2.2.2,()))
abbrev yBp (v0 v1:dM):(ygU).X:=((((),()),((),()),()),(((),(),v0.2.2.1,(),()),((),(),v1.2.2.1,(),()),()),(v1.1,v1.2.1,v1.2.2.2,()))
def yqg (v0:Int) (v1:List (List Int)) (v2:List dW) (v3:Bool) (v4:List Int) (v5 v6:Bool) (v7:List (List Int)) (v8:List dW) (v9:List Int):Option ((ycQ).X ⊕ ((ygU).X ⊕ (ykR).X)) :=bif(ltb v0 (v2.length:Int))then bif(inb v0 v2.length)then bif(inb v0 v2.length)then bif(zkj ([]:List Int).length ((nth v2 v0 (0,[])).2).length 8)then bif(zkj v8.length ([((nth v2 v0 (0,[])).1,(([]:List Int)++((nth v2 v0 (0,[])).2)))]:List dW).length 32)then some (.inl ((((),()),((),()),((),()),((i64.wrap (v0+1)),()),()),((v1,v2,v3,v4,()),((),(),v5,(),()),((),(),v6,(),()),()),(v7,(v8++([((nth v2 v0 (0,[])).1,(([]:List Int)++((nth v2 v0 (0,[])).2)))]:List dW)),v9,()))) else none else none else none else none else some (.inr (.inl ((((),()),((),()),()),(((),(),v5,(),()),((),(),v6,(),()),()),(v7,v8,v9,()))))
def yde (x:(ycQ).X):=yqg x.1.2.2.2.1.1 x.2.1.1.1 x.2.1.1.2.1 x.2.1.1.2.2.1 x.2.1.1.2.2.2.1 x.2.1.2.1.2.2.1 x.2.1.2.2.1.2.2.1 x.2.2.1 x.2.2.2.1 x.2.2.2.2.1
def yA7 (x:(yg5).X):(ycQ).X:=((((),()),((),()),((),()),(0,()),()),((x.2.1.1.1,x.2.1.1.2.1,x.2.1.1.2.2.1,x.2.1.1.2.2.2.1,()),((),(),x.2.1.2.1.2.2.1,(),()),((),(),x.2.1.2.2.1.2.2.1,(),()),()),(x.2.2.1,x.2.2.2.1,x.2.2.2.2.1,()))
def yC9:Code:=(zeJ yfF 64 244).getD .skip
theorem yOW:zeJ yfF 64 61=some (.block 2 (.loop yC9)):=by kernel_rfl
theorem yRQ (x:(ycQ).X):zhu ⟨ylk,60,ysX⟩ 2 yC9 244 ycQ ygU ykR x=yde x:=by kernel_rfl
def yBi (x:(yg5).X):Nat:=18446744073709551616
def yro (x:(yg5).X):Option ((ygU).X ⊕ (ykR).X):=zF yde (yBi x) (yA7 x)
def yBH:Seg:=⟨yg5,ygU,ykR,yro⟩
def ySo:Nat→Option Seg:=fun q=>bif Nat.beq q 61 then some yBH else ysX q
theorem yPK:FrOk prog ⟨ylk,60,ySo⟩ yfF:=(yPJ).loop (sg:=yBH) ycQ yA7 (by decide) yOW yde yBi (by decide) (fun _=>rfl) (fun x r _ h=>h) yRQ
abbrev yqX:List Par:= [.rd tM]
abbrev yzW:List OT:= [⟨false,tM,(.pr (.ow .fz) (.pr (.ow (.pr .fz .fz)) (.pr .fz (.ow .fz))))⟩]
def yu6 (a0:dM):Option (zaY yzW×zak yqX) :=bif(zkj ([]:List Int).length a0.2.2.2.length 8)then zkr (yrn ((((),()),((),()),((),()),((),()),()),((a0.1,a0.2.1,a0.2.2.1,a0.2.2.2,()),((),(),false,(),()),((),(),a0.2.2.1,(),()),()),([],(([]:List Int)++a0.2.2.2),()))) (fun y0 =>zkr (yro ((((),()),((),()),((),()),((),()),()),((y0.2.1.1.1,y0.2.1.1.2.1,y0.2.1.1.2.2.1,y0.2.1.1.2.2.2.1,()),((),(),y0.2.1.2.1.2.2.1,(),()),((),(),y0.2.1.2.2.1.2.2.1,(),()),()),(y0.2.2.1,[],y0.2.2.2.1,()))) (fun y1 =>some (((y1.2.2.1,y1.2.2.2.1,y1.2.1.2.1.2.2.1,y1.2.2.2.2.1),()),())) (fun y1 =>none)) (fun y0 =>none) else none
theorem yUZ:ConOk prog 76 ⟨yqX,yzW,fun x=>yu6 x.1⟩:=zkG (yPK) func76 ntmps76.symm fun x=>by kernel_rfl
def yaJ (a0:dM):dM:=a0
theorem yXm (a0:dM) (hk:zjw yqX (a0,())):yu6 a0=(fun n=>some ((n,()),())) (yaJ a0):=by
 have hb1:a0.1.length*24≤2^47:=hk.1.1.1;have hb2:a0.2.1.length*32≤2^47:=hk.1.2.1.1;have hb3:a0.2.2.2.length*8≤2^47:=hk.1.2.2.2.1;have hs: ∀i,i<a0.1.length→(a0.1.getD i []).length*8≤2^47:=fun i hi=>by rw[zkH hi]; exact(hk.1.1.2 _ (List.getElem_mem hi)).1
 have hc: ∀i,i<a0.2.1.length→(a0.2.1.getD i (0,[])).2.length*8≤2^47:=fun i hi=>by rw[zkH hi]; exact(hk.1.2.1.2 _ (List.getElem_mem hi)).2.1
 have h1:yrn (yNj a0 yc ([],[],a0.2.2.1,a0.2.2.2))=some (.inl (yBo a0 yc (a0.1,[],a0.2.2.1,a0.2.2.2))):=by
  have:=zkv (step:=ydd) a0.1 [] (fun i s=>ypH i a0 yc (s,[],a0.2.2.1,a0.2.2.2)) (fun s x=>s++ [x]) (fun i s=>s.length=i) (fun s=> .inl (yBo a0 yc (s,[],a0.2.2.1,a0.2.2.2))) (fun i s hi hs2=>⟨by
   have:=hs i hi;simp only[ydd,ypH,yqf,zkw (show(i:Int)<a0.1.length by omega),cond_true,wq ((i:Int)+1) (by omega) (by omega),Int.natCast_add,Int.natCast_one,Int.toNat_natCast,zkP hi,zkQ,List.nil_append]
   rw[zkD.2 (show(([]:List Int).length+(a0.1.getD i []).length)*8≤140737488355328 by rw[List.length_nil]; omega),zkD.2 (show(s.length+ [a0.1.getD i []].length)*24≤140737488355328 by simp only[List.length_cons,List.length_nil]; omega)]; rfl,by simp[hs2]⟩) (fun s _=>by simp only[ydd,ypH,yqf,zk1 (Int.le_refl _),cond_false]) [] rfl 18446744073709551616 (by omega)
  rw[ywX]at this;exact this
 have h2:yro (yNk a0 yc (a0.1,[],a0.2.2.1,a0.2.2.2))=some (.inl (yBp yc a0)):=by
  have:=zkv (step:=yde) a0.2.1 (0,[]) (fun i s=>ypI i a0 yc (a0.1,s,a0.2.2.1,a0.2.2.2)) (fun s x=>s++ [x]) (fun i s=>s.length=i) (fun s=> .inl (yBp yc (a0.1,s,a0.2.2.1,a0.2.2.2))) (fun i s hi hs2=>⟨by
   have:=hc i hi;simp only[yde,ypI,yqg,zkw (show(i:Int)<a0.2.1.length by omega),cond_true,wq ((i:Int)+1) (by omega) (by omega),Int.natCast_add,Int.natCast_one,Int.toNat_natCast,zkP hi,zkQ,List.nil_append,zkV]
   rw[zkD.2 (show(([]:List Int).length+(a0.2.1.getD i (0,[])).2.length)*8≤140737488355328 by rw[List.length_nil]; omega),zkD.2 (show(s.length+ [a0.2.1.getD i (0,[])].length)*32≤140737488355328 by simp only[List.length_cons,List.length_nil]; omega)]; rfl,by simp[hs2]⟩) (fun s _=>by simp only[yde,ypI,yqg,zk1 (Int.le_refl _),cond_false]) [] rfl 18446744073709551616 (by omega)
  rw[ywX]at this;exact this
 unfold yu6 yaJ;rw[zkD.2 (show(([]:List Int).length+a0.2.2.2.length)*8≤140737488355328 by rw[List.length_nil]; omega)];simp only[cond_true,List.nil_append,h1,zkL,h2]
def yiM:Con:=⟨yqX,yzW,fun x=>(fun n=>some ((n,()),())) (yaJ x.1)⟩
theorem yo6:ConOk prog 76 yiM:=(yUZ).mono (fun x r hk h=>(yXm x.1 hk).trans h)
def y0X:Code:=(f202.body).getD .skip
def y08:Env:=zku TT [(200,yhf)] []
theorem yTw:FrOk prog ⟨y08,10,fun _=>none⟩ y0X:=zky yf yg ⟨ym7,trivial⟩
abbrev yCA:List Par:= [.rd tL]
abbrev yCQ:List OT:= [⟨false,tB,.fz⟩]
def yHK (a0:List Int):Option (zaY yCQ×zak yCA) :=bif(leb (a0.length:Int) 12)then let r1:=yar a0;some ((r1,()),()) else some ((false,()),())
theorem yXI:ConOk prog 202 ⟨yCA,yCQ,fun x=>yHK x.1⟩:=zkG (yTw) func202 ntmps202.symm fun x=>by kernel_rfl
def yhk (a0:List Int):Bool :=bif(leb (a0.length:Int) 12)then let r1:=yar a0;r1 else false
def ywT:Con:=⟨yCA,yCQ,fun x=>(fun n=>some ((n,()),())) (yhk x.1)⟩
theorem y0k (a0:List Int):yHK a0=(fun n=>some ((n,()),())) (yhk a0):=zkT (p:=fun(n:Bool)=>((n,()),())) (zkE (p:=fun(n:Bool)=>((n,()),())) rfl rfl)
theorem yIK:ConOk prog 202 ywT:=(yXI).mono (fun x r _ h=>(y0k x.1).trans h)
theorem yGE:yhk=yaw:=funext fun s=>by
 unfold yhk yaw yar;rw[show yaI=isW from funext fun x=>by unfold yaI; rw[ybM]; rfl];cases leb (s.length:Int) 12<;>rfl
def ycz:Code:=(f160.body).getD .skip
def ygK:Env:=zku TT [(82,yM),(202,ywT)] []
theorem yTr:FrOk prog ⟨ygK,91,fun _=>none⟩ ycz:=zky yf yg ⟨yX,yIK,trivial⟩
def yGM:Nat→Option Seg:=fun _=>none
def ydr:Shape:=⟨[(1,false,[.ptr 0 0]),(3,false,[.int .i64]),(4,false,[.int .i64])],[(0,[.br tL,.br tW,.bool,.br tI])],[]⟩
def yio:Shape:=⟨[(1,false,[.ptr 0 0]),(3,false,[.int .i64]),(4,false,[.ci .i64 0])],[(0,[.br tL,.br tW,.bool,.br tI])],[]⟩
def yia:Shape:=⟨[(1,false,[.ptr 0 0]),(3,false,[.int .i64])],[(0,[.br tL,.br tW,.bool,.br tI])],[]⟩
def yiG:Shape:=⟨[(2,false,[.bool])],[],[]⟩
abbrev yrJ (v0 v1:Int) (v2:dM):(ydr).X:=((((),()),(v0,()),(v1,()),()),((v2.1,v2.2.1,v2.2.2.1,v2.2.2.2,()),()),())
abbrev yQi (v0:Int) (v1:dM):(yio).X:=((((),()),(v0,()),((),()),()),((v1.1,v1.2.1,v1.2.2.1,v1.2.2.2,()),()),())
abbrev yP8 (v0:Int) (v1:dM):(yia).X:=((((),()),(v0,()),()),((v1.1,v1.2.1,v1.2.2.1,v1.2.2.2,()),()),())
abbrev yQv (v0:Bool):(yiG).X:=(((v0,()),()),(),())
def ysi (v0 v1:Int) (v2:List (List Int)) (v3:List dW) (v4:Bool) (v5:List Int):Option ((ydr).X ⊕ ((yia).X ⊕ (yiG).X)) :=bif(ltb v1 v0)then bif(inb v1 v2.length)then let r2:=yhk (nth v2 v1 []);bif(!r2)then some (.inr (.inr (((false,()),()),(),()))) else some (.inl ((((),()),(v0,()),((i64.wrap (v1+1)),()),()),((v2,v3,v4,v5,()),()),())) else none else some (.inr (.inl ((((),()),(v0,()),()),((v2,v3,v4,v5,()),()),())))
def ydZ (x:(ydr).X):=ysi x.1.2.1.1 x.1.2.2.1.1 x.2.1.1.1 x.2.1.1.2.1 x.2.1.1.2.2.1 x.2.1.1.2.2.2.1
def yDD (x:(yio).X):(ydr).X:=((((),()),(x.1.2.1.1,()),(0,()),()),((x.2.1.1.1,x.2.1.1.2.1,x.2.1.1.2.2.1,x.2.1.1.2.2.2.1,()),()),())
def yFa:Code:=(zeJ ycz 64 116).getD .skip
theorem yST:zeJ ycz 64 29=some (.block 0 (.loop yFa)):=by kernel_rfl
theorem yVE (x:(ydr).X):zhu ⟨ygK,91,yGM⟩ 0 yFa 116 ydr yia yiG x=ydZ x:=by kernel_rfl
def yDT (x:(yio).X):Nat:=18446744073709551616
def ytb (x:(yio).X):Option ((yia).X ⊕ (yiG).X):=zF ydZ (yDT x) (yDD x)
def yEA:Seg:=⟨yio,yia,yiG,ytb⟩
def yv4:Nat→Option Seg:=fun q=>bif Nat.beq q 29 then some yEA else yGM q
theorem yTs:FrOk prog ⟨ygK,91,yv4⟩ ycz:=(yTr).loop (sg:=yEA) ydr yDD (by decide) yST ydZ yDT (by decide) (fun _=>rfl) (fun x r _ h=>h) yVE
def yds:Shape:=⟨[(1,false,[.ptr 0 0]),(3,false,[.int .i64]),(5,false,[.int .i64])],[(0,[.br tL,.br tW,.bool,.br tI])],[]⟩
def yip:Shape:=⟨[(1,false,[.ptr 0 0]),(3,false,[.int .i64]),(5,false,[.ci .i64 0])],[(0,[.br tL,.br tW,.bool,.br tI])],[]⟩
def yib:Shape:=⟨[(1,false,[.ptr 0 0]),(3,false,[.int .i64])],[(0,[.br tL,.br tW,.bool,.br tI])],[]⟩
def yiH:Shape:=⟨[(2,false,[.bool])],[],[]⟩
abbrev yrK (v0 v1:Int) (v2:dM):(yds).X:=((((),()),(v0,()),(v1,()),()),((v2.1,v2.2.1,v2.2.2.1,v2.2.2.2,()),()),())
abbrev yQj (v0:Int) (v1:dM):(yip).X:=((((),()),(v0,()),((),()),()),((v1.1,v1.2.1,v1.2.2.1,v1.2.2.2,()),()),())
abbrev yP9 (v0:Int) (v1:dM):(yib).X:=((((),()),(v0,()),()),((v1.1,v1.2.1,v1.2.2.1,v1.2.2.2,()),()),())
abbrev yQw (v0:Bool):(yiH).X:=(((v0,()),()),(),())
def ysj (v0 v1:Int) (v2:List (List Int)) (v3:List dW) (v4:Bool) (v5:List Int):Option ((yds).X ⊕ ((yib).X ⊕ (yiH).X)) :=bif(ltb v1 (v3.length:Int))then bif(inb v1 v3.length)then let r6:=yb ((nth v3 v1 (0,[])).1) 0 (i64.wrap (v0-1));bif(!(!r6))then bif(inb v1 v3.length)then let r7:=yhk ((nth v3 v1 (0,[])).2);bif(!r7)then some (.inr (.inr (((false,()),()),(),()))) else some (.inl ((((),()),(v0,()),((i64.wrap (v1+1)),()),()),((v2,v3,v4,v5,()),()),())) else none else some (.inr (.inr (((false,()),()),(),()))) else none else some (.inr (.inl ((((),()),(v0,()),()),((v2,v3,v4,v5,()),()),())))
def yd0 (x:(yds).X):=ysj x.1.2.1.1 x.1.2.2.1.1 x.2.1.1.1 x.2.1.1.2.1 x.2.1.1.2.2.1 x.2.1.1.2.2.2.1
def yDE (x:(yip).X):(yds).X:=((((),()),(x.1.2.1.1,()),(0,()),()),((x.2.1.1.1,x.2.1.1.2.1,x.2.1.1.2.2.1,x.2.1.1.2.2.2.1,()),()),())
def yFb:Code:=(zeJ ycz 64 244).getD .skip
theorem ySU:zeJ ycz 64 61=some (.block 2 (.loop yFb)):=by kernel_rfl
theorem yVF (x:(yds).X):zhu ⟨ygK,91,yv4⟩ 2 yFb 244 yds yib yiH x=yd0 x:=by kernel_rfl
def yDU (x:(yip).X):Nat:=18446744073709551616
def ytc (x:(yip).X):Option ((yib).X ⊕ (yiH).X):=zF yd0 (yDU x) (yDE x)
def yEB:Seg:=⟨yip,yib,yiH,ytc⟩
def yv5:Nat→Option Seg:=fun q=>bif Nat.beq q 61 then some yEB else yv4 q
theorem yTt:FrOk prog ⟨ygK,91,yv5⟩ ycz:=(yTs).loop (sg:=yEB) yds yDE (by decide) ySU yd0 yDU (by decide) (fun _=>rfl) (fun x r _ h=>h) yVF
def ycO:Shape:=⟨[(1,false,[.ptr 0 0]),(3,false,[.int .i64]),(6,false,[.int .i64])],[(0,[.br tL,.br tW,.bool,.br tI])],[]⟩
def yg3:Shape:=⟨[(1,false,[.ptr 0 0]),(3,false,[.int .i64]),(6,false,[.ci .i64 0])],[(0,[.br tL,.br tW,.bool,.br tI])],[]⟩
def ygS:Shape:=⟨[(1,false,[.ptr 0 0]),(3,false,[.int .i64])],[(0,[.br tL,.br tW,.bool,.br tI])],[]⟩
def yhc:Shape:=⟨[(2,false,[.bool])],[],[]⟩
abbrev ypG (v0 v1:Int) (v2:dM):(ycO).X:=((((),()),(v0,()),(v1,()),()),((v2.1,v2.2.1,v2.2.2.1,v2.2.2.2,()),()),())
abbrev yNi (v0:Int) (v1:dM):(yg3).X:=((((),()),(v0,()),((),()),()),((v1.1,v1.2.1,v1.2.2.1,v1.2.2.2,()),()),())
abbrev yNb (v0:Int) (v1:dM):(ygS).X:=((((),()),(v0,()),()),((v1.1,v1.2.1,v1.2.2.1,v1.2.2.2,()),()),())
abbrev yNp (v0:Bool):(yhc).X:=(((v0,()),()),(),())
def yqe (v0 v1:Int) (v2:List (List Int)) (v3:List dW) (v4:Bool) (v5:List Int):Option ((ycO).X ⊕ ((ygS).X ⊕ (yhc).X)) :=bif(ltb v1 (v5.length:Int))then bif(inb v1 v5.length)then let r10:=yb (nth v5 v1 0) 0 (i64.wrap (v0-1));bif(!(!r10))then bif(ltb 0 v1)then bif(inb (i64.wrap (v1-1)) v5.length)then bif(inb v1 v5.length)then bif(leb (nth v5 v1 0) (nth v5 (i64.wrap (v1-1)) 0))then some (.inr (.inr (((false,()),()),(),()))) else some (.inl ((((),()),(v0,()),((i64.wrap (v1+1)),()),()),((v2,v3,v4,v5,()),()),())) else none else none else some (.inl ((((),()),(v0,()),((i64.wrap (v1+1)),()),()),((v2,v3,v4,v5,()),()),())) else some (.inr (.inr (((false,()),()),(),()))) else none else some (.inr (.inl ((((),()),(v0,()),()),((v2,v3,v4,v5,()),()),())))
def ydc (x:(ycO).X):=yqe x.1.2.1.1 x.1.2.2.1.1 x.2.1.1.1 x.2.1.1.2.1 x.2.1.1.2.2.1 x.2.1.1.2.2.2.1
def yA5 (x:(yg3).X):(ycO).X:=((((),()),(x.1.2.1.1,()),(0,()),()),((x.2.1.1.1,x.2.1.1.2.1,x.2.1.1.2.2.1,x.2.1.1.2.2.2.1,()),()),())
def yC7:Code:=(zeJ ycz 64 500).getD .skip
theorem yOU:zeJ ycz 64 125=some (.block 4 (.loop yC7)):=by kernel_rfl
theorem yRO (x:(ycO).X):zhu ⟨ygK,91,yv5⟩ 4 yC7 500 ycO ygS yhc x=ydc x:=by kernel_rfl
def yBg (x:(yg3).X):Nat:=18446744073709551616
def yrm (x:(yg3).X):Option ((ygS).X ⊕ (yhc).X):=zF ydc (yBg x) (yA5 x)
def yBF:Seg:=⟨yg3,ygS,yhc,yrm⟩
def yWe:Nat→Option Seg:=fun q=>bif Nat.beq q 125 then some yBF else yv5 q
theorem yTu:FrOk prog ⟨ygK,91,yWe⟩ ycz:=(yTt).loop (sg:=yBF) ycO yA5 (by decide) yOU ydc yBg (by decide) (fun _=>rfl) (fun x r _ h=>h) yRO
abbrev ytu:List Par:= [.rd tM]
abbrev yCO:List OT:= [⟨false,tB,.fz⟩]
def yxg (a0:dM):Option (zaY yCO×zak ytu) :=zkr (ytb ((((),()),((a0.1.length:Int),()),((),()),()),((a0.1,a0.2.1,a0.2.2.1,a0.2.2.2,()),()),())) (fun y2 =>zkr (ytc ((((),()),(y2.1.2.1.1,()),((),()),()),((y2.2.1.1.1,y2.2.1.1.2.1,y2.2.1.1.2.2.1,y2.2.1.1.2.2.2.1,()),()),())) (fun y7 =>zkr (yrm ((((),()),(y7.1.2.1.1,()),((),()),()),((y7.2.1.1.1,y7.2.1.1.2.1,y7.2.1.1.2.2.1,y7.2.1.1.2.2.2.1,()),()),())) (fun y10 =>let r12:=yb y10.1.2.1.1 1 20;bif r12 then some (((leb (y10.2.1.1.2.1.length:Int) 60),()),()) else some ((false,()),())) (fun y10 =>some ((y10.1.1.1,()),()))) (fun y7 =>some ((y7.1.1.1,()),()))) (fun y2 =>some ((y2.1.1.1,()),()))
theorem yXG:ConOk prog 160 ⟨ytu,yCO,fun x=>yxg x.1⟩:=zkG (yTu) func160 ntmps160.symm fun x=>by kernel_rfl
def yaO (a0:dM):Bool:=yw a0
theorem y0i (a0:dM) (hk:zjw ytu (a0,())):yxg a0=(fun n=>some ((n,()),())) (yaO a0):=by
 have hb1:a0.1.length*24≤2^47:=hk.1.1.1;have hb2:a0.2.1.length*32≤2^47:=hk.1.2.1.1;have hb3:a0.2.2.2.length*8≤2^47:=hk.1.2.2.2.1
 have h1:ytb (yQi a0.1.length a0)=some (bif a0.1.all yaw then .inl (yP8 a0.1.length a0)else .inr (yQv false)) :=
  zj7 (step:=ydZ) a0.1 [] (fun i=>yrJ a0.1.length i a0) yaw _ _ (fun i hi=>by
   simp only[ydZ,yrJ,ysi,zkw (show(i:Int)<a0.1.length by omega),cond_true,wq ((i:Int)+1) (by omega) (by omega),Int.natCast_add,Int.natCast_one,Int.toNat_natCast,zkP hi,zkQ,yGE]
   cases yaw (a0.1.getD i [])<;>rfl) (by simp only[ydZ,yrJ,ysi,zk1 (Int.le_refl _),cond_false]) _ (by show _<18446744073709551616; omega)
 have h2:ytc (yQj a0.1.length a0)=some (bif a0.2.1.all (ysq a0.1.length)then .inl (yP9 a0.1.length a0)else .inr (yQw false)) :=
  zj7 (step:=yd0) a0.2.1 (0,[]) (fun i=>yrK a0.1.length i a0) (ysq a0.1.length) _ _ (fun i hi=>by
   simp only[yd0,yrK,ysj,zkw (show(i:Int)<a0.2.1.length by omega),cond_true,wq ((i:Int)+1) (by omega) (by omega),Int.natCast_add,Int.natCast_one,Int.toNat_natCast,zkP hi,zkQ,yGE,ynA (show a0.1.length≤1152921504606846976 by omega),ysq]
   cases inb (a0.2.1.getD i (0,[])).1 a0.1.length<;>cases yaw (a0.2.1.getD i (0,[])).2<;>rfl) (by simp only[yd0,yrK,ysj,zk1 (Int.le_refl _),cond_false]) _ (by show _<18446744073709551616; omega)
 have h3:yrm (yNi a0.1.length a0)=some (bif(List.range a0.2.2.2.length).any (yE3 a0.1.length a0.2.2.2)then .inr (yNp false)else .inl (yNb a0.1.length a0)) :=
  zjh (step:=ydc) (fun i=>ypG a0.1.length i a0) a0.2.2.2.length (yE3 a0.1.length a0.2.2.2) _ _ (fun i hi=>by
   simp only[ydc,ypG,yqe,zkw (show(i:Int)<a0.2.2.2.length by omega),cond_true,wq ((i:Int)+1) (by omega) (by omega),Int.natCast_add,Int.natCast_one,Int.toNat_natCast,zkP hi,zkQ,ynA (show a0.1.length≤1152921504606846976 by omega),yE3];rcases Nat.eq_zero_or_pos i with rfl | h0
   ·cases inb (a0.2.2.2.getD 0 0) a0.1.length<;>rfl
   ·rw[show i64.wrap ((i:Int)-1)=((i-1:Nat):Int)by rw[wr (by omega) (by omega)]; omega,zkP (show i-1<a0.2.2.2.length by omega),zkQ,zkw (show(0:Int)<i by omega),decide_eq_true h0]
    cases inb (a0.2.2.2.getD i 0) a0.1.length<;>cases leb (a0.2.2.2.getD i 0) (a0.2.2.2.getD (i-1) 0)<;>rfl) (by simp only[ydc,ypG,yqe,zk1 (Int.le_refl _),cond_false]) _ (by show _<18446744073709551616; omega)
 unfold yxg yaO yw;rw[h1];cases a0.1.all yaw
 ·rfl
 simp only[cond_true,zkL,h2];cases a0.2.1.all (ysq a0.1.length)
 ·rfl
 simp only[cond_true,zkL,h3,yYs,ybM];cases yoP a0.1.length a0.2.2.2
 ·rfl
 simp only[Bool.not_true,cond_false,zkL];cases leb 1 (a0.1.length:Int)<;>cases leb (a0.1.length:Int) 20<;>rfl
def ygA:Con:=⟨ytu,yCO,fun x=>(fun n=>some ((n,()),())) (yaO x.1)⟩
theorem ylK:ConOk prog 160 ygA:=(yXG).mono (fun x r hk h=>(y0i x.1 hk).trans h)
def ykF:Code:=(f245.body).getD .skip
def yrh:Env:=zku TT [] []
theorem yI6:FrOk prog ⟨yrh,28,fun _=>none⟩ ykF:=zky yf yg trivial
def yxI:Nat→Option Seg:=fun _=>none
def ybi:Shape:=⟨[(0,false,[.br tI]),(1,false,[.int .i64]),(5,false,[.at 800000000]),(6,false,[.int .i64])],[],[(800000000,tI,.fz)]⟩
def yeq:Shape:=⟨[(0,false,[.br tI]),(1,false,[.int .i64]),(5,false,[.at 800000000]),(6,false,[.ci .i64 0])],[],[(800000000,tI,.fz)]⟩
def yek:Shape:=⟨[(5,false,[.at 800000000])],[],[(800000000,tI,.fz)]⟩
def yhA:Shape:=⟨[],[],[]⟩
abbrev yk5 (v0:List Int) (v1 v2:Int) (v3:List Int):(ybi).X:=(((v0,()),(v1,()),((),()),(v2,()),()),(),(v3,()))
abbrev yIg (v0:List Int) (v1:Int) (v2:List Int):(yeq).X:=(((v0,()),(v1,()),((),()),((),()),()),(),(v2,()))
abbrev yIa (v0:List Int):(yek).X:=((((),()),()),(),(v0,()))
def ylh (v0:List Int) (v1 v2:Int) (v3:List Int):Option ((ybi).X ⊕ ((yek).X ⊕ (yhA).X)) :=bif(ltb v2 (v0.length:Int))then bif(inb v2 v0.length)then bif((nth v0 v2 0) !=v1)then bif(inb v2 v0.length)then bif(zkj v3.length ([(nth v0 v2 0)]:List Int).length 8)then some (.inl (((v0,()),(v1,()),((),()),((i64.wrap (v2+1)),()),()),(),((v3++([(nth v0 v2 0)]:List Int)),()))) else none else none else some (.inl (((v0,()),(v1,()),((),()),((i64.wrap (v2+1)),()),()),(),(v3,()))) else none else some (.inr (.inl ((((),()),()),(),(v3,()))))
def ybw (x:(ybi).X):=ylh x.1.1.1 x.1.2.1.1 x.1.2.2.2.1.1 x.2.2.1
def yur (x:(yeq).X):(ybi).X:=(((x.1.1.1,()),(x.1.2.1.1,()),((),()),(0,()),()),(),(x.2.2.1,()))
def yvt:Code:=(zeJ ykF 64 116).getD .skip
theorem yIX:zeJ ykF 64 29=some (.block 0 (.loop yvt)):=by kernel_rfl
theorem yJA (x:(ybi).X):zhu ⟨yrh,28,yxI⟩ 0 yvt 116 ybi yek yhA x=ybw x:=by kernel_rfl
def yuz (x:(yeq).X):Nat:=18446744073709551616
def ylW (x:(yeq).X):Option ((yek).X ⊕ (yhA).X):=zF ybw (yuz x) (yur x)
def yvi:Seg:=⟨yeq,yek,yhA,ylW⟩
def yJF:Nat→Option Seg:=fun q=>bif Nat.beq q 29 then some yvi else yxI q
theorem yI7:FrOk prog ⟨yrh,28,yJF⟩ ykF:=(yI6).loop (sg:=yvi) ybi yur (by decide) yIX ybw yuz (by decide) (fun _=>rfl) (fun x r _ h=>h) yJA
abbrev ykK:List Par:= [.rd tL,.rd tI]
abbrev yrv:List OT:= [⟨false,tL,(.ow .fz)⟩]
def yn0 (a0:List Int) (a1:Int):Option (zaY yrv×zak ykK) :=zkr (ylW (((a0,()),(a1,()),((),()),((),()),()),(),(([]:List Int),()))) (fun y0 =>some ((y0.2.2.1,()),())) (fun y0 =>none)
theorem yLg:ConOk prog 245 ⟨ykK,yrv,fun x=>yn0 x.1 x.2.1⟩:=zkG (yI7) func245 ntmps245.symm fun x=>by kernel_rfl
def yhn (a0:List Int) (a1:Int):List Int:=yIq a0 a1
theorem yJ0 {α:Type} (p:α→Bool): ∀(l:List α) (s:List α),l.foldl (fun s x=>bif p x then s++ [x]else s) s=s++l.filter p
 | [],s=>by simp
 | x::l,s=>by
  rw[List.foldl_cons,yJ0 p l,List.filter_cons];cases p x<;>simp
theorem yNw (a0:List Int) (a1:Int) (hk:zjw ykK (a0,a1,())):yn0 a0 a1=(fun n=>some ((n,()),())) (yhn a0 a1):=by
 have hb:a0.length*8≤2^47:=hk.1.1
 have h1:=zkv (step:=ybw) a0 0 (fun i s=>yk5 a0 a1 i s) (fun s x=>bif x !=a1 then s++ [x]else s) (fun i s=>s.length≤i) (fun s=> .inl (yIa s)) (fun i s hi hs=>by
   constructor
   ·simp only[ybw,yk5,ylh,zkw (show(i:Int)<a0.length by omega),cond_true,wq ((i:Int)+1) (by omega) (by omega),Int.natCast_add,Int.natCast_one,Int.toNat_natCast,zkP hi,zkQ]
    rw[zkD.2 (show(s.length+ [a0.getD i 0].length)*8≤140737488355328 by simp only[List.length_cons,List.length_nil]; omega)];cases(a0.getD i 0 !=a1)<;>rfl
   ·cases(a0.getD i 0 !=a1)
    ·show s.length≤_; omega
    ·simp only[cond_true,List.length_append,List.length_cons,List.length_nil]; omega) (fun s _=>by simp only[ybw,yk5,ylh,zk1 (Int.le_refl _),cond_false]) [] (Nat.le_refl _) 18446744073709551616 (by omega)
 unfold yn0 yhn yIq;rw[show ylW (yIg a0 a1 [])=_ from h1,yJ0]; rfl
def yxW:Con:=⟨ykK,yrv,fun x=>(fun n=>some ((n,()),())) (yhn x.1 x.2.1)⟩
theorem yNY:ConOk prog 245 yxW:=(yLg).mono (fun x r hk h=>(yNw x.1 x.2.1 hk).trans h)
def ySf:Code:=(f225.body).getD .skip
def ySJ:Env:=zku TT [(76,yiM),(82,yM),(160,ygA),(202,ywT),(245,yxW)] [(16832,(.pr .fz .fz))]
theorem yKu:FrOk prog ⟨ySJ,55,fun _=>none⟩ ySf:=zky yf yg ⟨yo6,yX,ylK,yIK,yNY,trivial⟩
abbrev ymF:List Par:= [.rd tM,.rd tI,.rd tL]
abbrev ytV:List OT:= [⟨false,tM,(.pr (.ow .fz) (.pr (.ow (.pr .fz .fz)) (.pr .fz (.ow .fz))))⟩,⟨false,tB,.fz⟩]
def yp6 (a0:dM) (a1:Int) (a2:List Int):Option (zaY ytV×zak ymF) :=let r1:=yaJ a0;let r2:=yaO a0;bif(!(!r2))then bif(!a0.2.2.1)then let r3:=yb a1 0 (i64.wrap ((a0.1.length:Int)-1));bif(!(!r3))then let r4:=yhk a2;bif(!(!r4))then bif(leb 60 (a0.2.1.length:Int))then some ((r1,false,()),()) else bif(zkj ([]:List Int).length a2.length 8)then bif(zkj r1.2.1.length ([(a1,(([]:List Int)++a2))]:List dW).length 32)then let r5:=yhn a0.2.2.2 a1;some (((r1.1,(r1.2.1++([(a1,(([]:List Int)++a2))]:List dW)),r1.2.2.1,r5),true,()),()) else none else none else some ((r1,false,()),()) else some ((r1,false,()),()) else some ((r1,false,()),()) else some ((r1,false,()),())
theorem yNS:ConOk prog 225 ⟨ymF,ytV,fun x=>yp6 x.1 x.2.1 x.2.2.1⟩:=zkG (yKu) func225 ntmps225.symm fun x=>by kernel_rfl
def yi0 (a0:dM) (a1:Int) (a2:List Int):dM×Bool:=yZ a0 a1 a2
theorem yQS (a0:dM) (a1:Int) (a2:List Int) (hk:zjw ymF (a0,a1,a2,())):yp6 a0 a1 a2=(fun n=>some ((n.1,n.2,()),())) (yi0 a0 a1 a2):=by
 have hb1:a0.1.length*24≤2^47:=hk.1.1.1;have hb2:a2.length*8≤2^47:=hk.2.2.1.1;unfold yp6 yi0 yZ ybj;simp only[yaJ,yaO,ynA (show a0.1.length≤1152921504606846976 by omega),yGE,yhn,List.nil_append];cases yw a0
 ·rfl
 cases a0.2.2.1
 ·cases inb a1 a0.1.length
  ·rfl
  cases yaw a2
  ·rfl
  by_cases h:(a0.2.1.length:Int)<60
  ·rw[zkw h,zkZ h,zkD.2 (show(([]:List Int).length+a2.length)*8≤140737488355328 by rw[List.length_nil]; omega),zkD.2 (show(a0.2.1.length+ [(a1,a2)].length)*32≤140737488355328 by simp only[List.length_cons,List.length_nil]; omega)]; rfl
  ·rw[zk1 (by omega),zk0 (by omega)]; rfl
 ·rfl
def yAX:Con:=⟨ymF,ytV,fun x=>(fun n=>some ((n.1,n.2,()),())) (yi0 x.1 x.2.1 x.2.2.1)⟩
theorem yRC:ConOk prog 225 yAX:=(yNS).mono (fun x r hk h=>(yQS x.1 x.2.1 x.2.2.1 hk).trans h)
def y11:Code:=(f228.body).getD .skip
def y14:Env:=zku TT [] []
theorem yWN:FrOk prog ⟨y14,31,fun _=>none⟩ y11:=zky yf yg trivial
abbrev yGn:List Par:= [.pt tA (.pr .fz (.pr (.pr .fz .fz) (.pr (.ow (.pr (.ow .fz) (.pr (.ow (.pr .fz .fz)) (.pr .fz (.ow .fz))))) (.pr .fz (.pr .fz (.pr .fz (.pr .fz (.pr .fz (.pr (.ow (.pr .fz .fz)) (.pr .fz (.pr .fz .fz)))))))))))]
abbrev yGr:List OT:= [⟨false,tB,.fz⟩]
def yIO (a0:dA):Option (zaY yGr×zak yGn) :=bif a0.2.2.2.2.2.2.2.2.2.2.1 then some ((false,()),(a0,())) else bif(a0.2.2.2.2.2.2.2.2.2.1==0)then some ((false,()),((a0.1,a0.2.1,a0.2.2.1,a0.2.2.2.1,a0.2.2.2.2.1,a0.2.2.2.2.2.1,a0.2.2.2.2.2.2.1,a0.2.2.2.2.2.2.2.1,a0.2.2.2.2.2.2.2.2.1,(-1),true,a0.2.2.2.2.2.2.2.2.2.2.2),())) else bif(ltb 0 a0.2.2.2.2.2.2.2.2.2.1)then some ((true,()),((a0.1,a0.2.1,a0.2.2.1,a0.2.2.2.1,a0.2.2.2.2.1,a0.2.2.2.2.2.1,a0.2.2.2.2.2.2.1,a0.2.2.2.2.2.2.2.1,a0.2.2.2.2.2.2.2.2.1,(i64.wrap (a0.2.2.2.2.2.2.2.2.2.1-1)),a0.2.2.2.2.2.2.2.2.2.2),())) else some ((true,()),(a0,()))
theorem y0w:ConOk prog 228 ⟨yGn,yGr,fun x=>yIO x.1⟩:=zkG (yWN) func228 ntmps228.symm fun x=>by kernel_rfl
def yqy (a0:dA):Bool×dA :=bif a0.2.2.2.2.2.2.2.2.2.2.1 then (false,a0) else bif(a0.2.2.2.2.2.2.2.2.2.1==0)then (false,(a0.1,a0.2.1,a0.2.2.1,a0.2.2.2.1,a0.2.2.2.2.1,a0.2.2.2.2.2.1,a0.2.2.2.2.2.2.1,a0.2.2.2.2.2.2.2.1,a0.2.2.2.2.2.2.2.2.1,(-1),true,a0.2.2.2.2.2.2.2.2.2.2.2)) else bif(ltb 0 a0.2.2.2.2.2.2.2.2.2.1)then (true,(a0.1,a0.2.1,a0.2.2.1,a0.2.2.2.1,a0.2.2.2.2.1,a0.2.2.2.2.2.1,a0.2.2.2.2.2.2.1,a0.2.2.2.2.2.2.2.1,a0.2.2.2.2.2.2.2.2.1,(i64.wrap (a0.2.2.2.2.2.2.2.2.2.1-1)),a0.2.2.2.2.2.2.2.2.2.2)) else (true,a0)
def yz4:Con:=⟨yGn,yGr,fun x=>(fun n=>some ((n.1,()),(n.2,()))) (yqy x.1)⟩
theorem y1G (a0:dA):yIO a0=(fun n=>some ((n.1,()),(n.2,()))) (yqy a0):=zkT (p:=fun(n:Bool×dA)=>((n.1,()),(n.2,()))) (zkE (p:=fun(n:Bool×dA)=>((n.1,()),(n.2,()))) rfl (zkE (p:=fun(n:Bool×dA)=>((n.1,()),(n.2,()))) rfl (zkE (p:=fun(n:Bool×dA)=>((n.1,()),(n.2,()))) rfl rfl)))
theorem yLk:ConOk prog 228 yz4:=(y0w).mono (fun x r _ h=>(y1G x.1).trans h)
theorem yVQ (a:dA):yqy a=opA a:=by kernel_rfl
def y00:Code:=(f206.body).getD .skip
def y1b:Env:=zku TT [(225,yAX),(228,yz4)] []
theorem yTF:FrOk prog ⟨y1b,43,fun _=>none⟩ y00:=zky yf yg ⟨yRC,yLk,trivial⟩
abbrev ynj:List Par:= [.pt tA (.pr .fz (.pr (.pr .fz .fz) (.pr (.ow (.pr (.ow .fz) (.pr (.ow (.pr .fz .fz)) (.pr .fz (.ow .fz))))) (.pr .fz (.pr .fz (.pr .fz (.pr .fz (.pr .fz (.pr (.ow (.pr .fz .fz)) (.pr .fz (.pr .fz .fz))))))))))),.rd tI,.rd tI,.rd tL]
abbrev ytX:List OT:= []
def yxj (a0:dA) (a1 a2:Int) (a3:List Int):Option (zaY ytX×zak ynj) :=bif(inb a1 a0.2.2.1.length)then bif(!((((nth a0.2.2.1 a1 ([],[],false,[])).2).2).1))then let r1:=yqy a0;bif(!r1.1)then some ((),(r1.2,())) else bif(inb a1 r1.2.2.2.1.length)then let r2:=yi0 ((nth r1.2.2.2.1 a1 ([],[],false,[])).1,((nth r1.2.2.2.1 a1 ([],[],false,[])).2).1,(((nth r1.2.2.2.1 a1 ([],[],false,[])).2).2)) a2 a3;bif(inb a1 r1.2.2.2.1.length)then some ((),((r1.2.1,r1.2.2.1,(r1.2.2.2.1.set (a1).toNat r2.1),r1.2.2.2.2),())) else none else none else some ((),(a0,())) else none
theorem yXO:ConOk prog 206 ⟨ynj,ytX,fun x=>yxj x.1 x.2.1 x.2.2.1 x.2.2.2.1⟩:=zkG (yTF) func206 ntmps206.symm fun x=>by kernel_rfl
def ynS (a0:dA) (a1 a2:Int) (a3:List Int):dA:=ybq a0 a1 a2 a3
def yEl (a0:dA) (a1 a2:Int) (a3:List Int):Bool:=inb a1 a0.2.2.1.length
theorem y0o (a0:dA) (a1 a2:Int) (a3:List Int) (hk:zjw ynj (a0,a1,a2,a3,())) (hq:yEl a0 a1 a2 a3=true):yxj a0 a1 a2 a3=(fun n=>some ((),(n,()))) (ynS a0 a1 a2 a3):=by
 have hq:inb a1 a0.2.2.1.length=true:=hq;unfold yxj ynS ybq ybp;simp only[yVQ,yaP,hq,zkV,yi0];cases(nth a0.2.2.1 a1 yc).2.2.1<;>cases(opA a0).1<;>rfl
def yfh (a0:dA) (a1 a2:Int) (a3:List Int):Option (zaY ytX×zak ynj):=bif yEl a0 a1 a2 a3 then(fun n=>some ((),(n,()))) (ynS a0 a1 a2 a3)else none
theorem ylL (a0:dA) (a1 a2:Int) (a3:List Int) (h:yEl a0 a1 a2 a3=true):yfh a0 a1 a2 a3=(fun n=>some ((),(n,()))) (ynS a0 a1 a2 a3):=by unfold yfh; rw[h]; rfl
def yj4:Con:=⟨ynj,ytX,fun x=>yfh x.1 x.2.1 x.2.2.1 x.2.2.2.1⟩
theorem yrc:ConOk prog 206 yj4:=(yXO).mono (fun x r hk h=>zkW h (fun hq=>y0o x.1 x.2.1 x.2.2.1 x.2.2.2.1 hk hq))
def ymn:Code:=(f224.body).getD .skip
def ys2:Env:=zku TT [(76,yiM),(160,ygA)] [(32768,(.pr .fz .fz))]
theorem yKn:FrOk prog ⟨ys2,40,fun _=>none⟩ ymn:=zky yf yg ⟨yo6,ylK,trivial⟩
def yAr:Nat→Option Seg:=fun _=>none
def ybE:Shape:=⟨[(2,false,[.ptr 64 0]),(3,false,[.ptr 4224 0]),(4,false,[.int .i64])],[(64,[.nil,.nil,.bool,.nil]),(4224,[.at 800000000,.at 800000001,.bool,.at 800000002])],[(800000000,tL,.fz),(800000001,tW,(.pr .fz .fz)),(800000002,tI,.fz)]⟩
def ye6:Shape:=⟨[(2,false,[.ptr 64 0]),(3,false,[.ptr 4224 0]),(4,false,[.ci .i64 0])],[(64,[.nil,.nil,.bool,.nil]),(4224,[.at 800000000,.at 800000001,.bool,.at 800000002])],[(800000000,tL,.fz),(800000001,tW,(.pr .fz .fz)),(800000002,tI,.fz)]⟩
def yeY:Shape:=⟨[(2,false,[.ptr 64 0]),(3,false,[.ptr 4224 0])],[(64,[.nil,.nil,.bool,.nil]),(4224,[.at 800000000,.at 800000001,.bool,.at 800000002])],[(800000000,tL,.fz),(800000001,tW,(.pr .fz .fz)),(800000002,tI,.fz)]⟩
def yiF:Shape:=⟨[],[],[]⟩
abbrev yl5 (v0:Int) (v1 v2:dM):(ybE).X:=((((),()),((),()),(v0,()),()),(((),(),v1.2.2.1,(),()),((),(),v2.2.2.1,(),()),()),(v2.1,v2.2.1,v2.2.2.2,()))
abbrev yJg (v0 v1:dM):(ye6).X:=((((),()),((),()),((),()),()),(((),(),v0.2.2.1,(),()),((),(),v1.2.2.1,(),()),()),(v1.1,v1.2.1,v1.2.2.2,()))
abbrev yvQ (v0 v1:dM):(yeY).X:=((((),()),((),()),()),(((),(),v0.2.2.1,(),()),((),(),v1.2.2.1,(),()),()),(v1.1,v1.2.1,v1.2.2.2,()))
def ymi (v0:Int) (v1 v2:Bool) (v3:List (List Int)) (v4:List dW) (v5:List Int):Option ((ybE).X ⊕ ((yeY).X ⊕ (yiF).X)) :=bif(ltb v0 (v4.length:Int))then bif(inb v0 v4.length)then bif(inb v0 v4.length)then bif(inb ((nth v4 v0 (0,[])).1) v3.length)then let r4:=(v3.set ((nth v4 v0 (0,[])).1).toNat ((nth v4 v0 (0,[])).2));some (.inl ((((),()),((),()),((i64.wrap (v0+1)),()),()),(((),(),v1,(),()),((),(),v2,(),()),()),(r4,v4,v5,()))) else none else none else none else some (.inr (.inl ((((),()),((),()),()),(((),(),v1,(),()),((),(),v2,(),()),()),(v3,v4,v5,()))))
def ybW (x:(ybE).X):=ymi x.1.2.2.1.1 x.2.1.1.2.2.1 x.2.1.2.1.2.2.1 x.2.2.1 x.2.2.2.1 x.2.2.2.2.1
def yvD (x:(ye6).X):(ybE).X:=((((),()),((),()),(0,()),()),(((),(),x.2.1.1.2.2.1,(),()),((),(),x.2.1.2.1.2.2.1,(),()),()),(x.2.2.1,x.2.2.2.1,x.2.2.2.2.1,()))
def yxR:Code:=(zeJ ymn 64 244).getD .skip
theorem yJQ:zeJ ymn 64 61=some (.block 0 (.loop yxR)):=by kernel_rfl
theorem yLv (x:(ybE).X):zhu ⟨ys2,40,yAr⟩ 0 yxR 244 ybE yeY yiF x=ybW x:=by kernel_rfl
def yvL (x:(ye6).X):Nat:=18446744073709551616
def ynh (x:(ye6).X):Option ((yeY).X ⊕ (yiF).X):=zF ybW (yvL x) (yvD x)
def yv0:Seg:=⟨ye6,yeY,yiF,ynh⟩
def yL6:Nat→Option Seg:=fun q=>bif Nat.beq q 61 then some yv0 else yAr q
theorem yKo:FrOk prog ⟨ys2,40,yL6⟩ ymn:=(yKn).loop (sg:=yv0) ybE yvD (by decide) yJQ ybW yvL (by decide) (fun _=>rfl) (fun x r _ h=>h) yLv
abbrev ymB:List Par:= [.rd tM]
abbrev ytQ:List OT:= [⟨false,tM,(.pr (.ow .fz) (.pr (.ow (.pr .fz .fz)) (.pr .fz (.ow .fz))))⟩]
def yp2 (a0:dM):Option (zaY ytQ×zak ymB) :=let r1:=yaJ a0;let r2:=yaO a0;bif(!(!r2))then bif a0.2.2.1 then some ((r1,()),()) else zkr (ynh ((((),()),((),()),((),()),()),(((),(),false,(),()),((),(),r1.2.2.1,(),()),()),(r1.1,r1.2.1,r1.2.2.2,()))) (fun y4 =>some (((y4.2.2.1,([]:List dW),y4.2.1.2.1.2.2.1,y4.2.2.2.2.1),()),())) (fun y4 =>none) else some ((r1,()),())
theorem yNN:ConOk prog 224 ⟨ymB,ytQ,fun x=>yp2 x.1⟩:=zkG (yKo) func224 ntmps224.symm fun x=>by kernel_rfl
def yiY (a0:dM):dM:=yE a0
theorem yQN (a0:dM) (hk:zjw ymB (a0,())):yp2 a0=(fun n=>some ((n,()),())) (yiY a0):=by
 have hb2:a0.2.1.length*32≤2^47:=hk.1.2.1.1;unfold yp2 yiY yE;simp only[yaJ,yaO];cases hm:yw a0
 ·rfl
 have h1:ynh (yJg yc a0)=some (.inl (yvQ yc (ygB (fun _=>true) a0.2.1 a0.1,a0.2))) :=
  zkB (step:=ybW) a0.2.1.length (fun i s=>yl5 i yc (s,a0.2)) (yfb (fun _=>true) a0.2.1) (fun i s=>s.length=a0.1.length) (fun s=> .inl (yvQ yc (s,a0.2))) (fun i s hi hs=>by
   have hw:=(yP3 hm hi).1;refine⟨?_,yuD.trans hs⟩
   simp only[ybW,yl5,ymi,zkw (show(i:Int)<a0.2.1.length by omega),cond_true,wq ((i:Int)+1) (by omega) (by omega),Int.natCast_add,Int.natCast_one,Int.toNat_natCast,zkP hi,hs,hw,yfb]) (fun s hs=>by simp only[ybW,yl5,ymi,zk1 (Int.le_refl _),cond_false]) a0.1 rfl _ (by show _<18446744073709551616; omega)
 rw[h1];cases hf:a0.2.2.1
 ·exact congrArg (fun z=>some (((ygB (fun _=>true) a0.2.1 a0.1,([]:List dW),z,a0.2.2.2),()),())) hf
 ·rfl
def yAU:Con:=⟨ymB,ytQ,fun x=>(fun n=>some ((n,()),())) (yiY x.1)⟩
theorem yRz:ConOk prog 224 yAU:=(yNN).mono (fun x r hk h=>(yQN x.1 hk).trans h)
def yqL:Code:=(f208.body).getD .skip
def yy7:Env:=zku TT [(224,yAU),(228,yz4)] []
theorem yPZ:FrOk prog ⟨yy7,39,fun _=>none⟩ yqL:=zky yf yg ⟨yRz,yLk,trivial⟩
def yE0:Nat→Option Seg:=fun _=>none
def ydx:Shape:=⟨[(0,false,[.ptr 1000000000 0]),(2,false,[.int .i64])],[(1000000000,[.int .i64,.int .i64,.int .i64,.at 800000000,.int .i64,.int .i64,.int .i64,.int .i64,.int .i64,.at 800000001,.int .i64,.bool,.bool])],[(800000000,tM,(.pr (.ow .fz) (.pr (.ow (.pr .fz .fz)) (.pr .fz (.ow .fz))))),(800000001,tW,(.pr .fz .fz))]⟩
def yiu:Shape:=⟨[(0,false,[.ptr 1000000000 0]),(2,false,[.ci .i64 0])],[(1000000000,[.int .i64,.int .i64,.int .i64,.at 800000000,.int .i64,.int .i64,.int .i64,.int .i64,.int .i64,.at 800000001,.int .i64,.bool,.bool])],[(800000000,tM,(.pr (.ow .fz) (.pr (.ow (.pr .fz .fz)) (.pr .fz (.ow .fz))))),(800000001,tW,(.pr .fz .fz))]⟩
def yig:Shape:=⟨[],[(1000000000,[.int .i64,.int .i64,.int .i64,.at 800000000,.int .i64,.int .i64,.int .i64,.int .i64,.int .i64,.at 800000001,.int .i64,.bool,.bool])],[(800000000,tM,(.pr (.ow .fz) (.pr (.ow (.pr .fz .fz)) (.pr .fz (.ow .fz))))),(800000001,tW,(.pr .fz .fz))]⟩
def ymR:Shape:=⟨[],[],[]⟩
abbrev yrP (v0:Int) (v1:dA):(ydx).X:=((((),()),(v0,()),()),((v1.1,v1.2.1.1,v1.2.1.2,(),v1.2.2.2.1,v1.2.2.2.2.1,v1.2.2.2.2.2.1,v1.2.2.2.2.2.2.1,v1.2.2.2.2.2.2.2.1,(),v1.2.2.2.2.2.2.2.2.2.1,v1.2.2.2.2.2.2.2.2.2.2.1,v1.2.2.2.2.2.2.2.2.2.2.2,()),()),(v1.2.2.1,v1.2.2.2.2.2.2.2.2.1,()))
abbrev yQo (v0:dA):(yiu).X:=((((),()),((),()),()),((v0.1,v0.2.1.1,v0.2.1.2,(),v0.2.2.2.1,v0.2.2.2.2.1,v0.2.2.2.2.2.1,v0.2.2.2.2.2.2.1,v0.2.2.2.2.2.2.2.1,(),v0.2.2.2.2.2.2.2.2.2.1,v0.2.2.2.2.2.2.2.2.2.2.1,v0.2.2.2.2.2.2.2.2.2.2.2,()),()),(v0.2.2.1,v0.2.2.2.2.2.2.2.2.1,()))
abbrev yEa (v0:dA):(yig).X:=((),((v0.1,v0.2.1.1,v0.2.1.2,(),v0.2.2.2.1,v0.2.2.2.2.1,v0.2.2.2.2.2.1,v0.2.2.2.2.2.2.1,v0.2.2.2.2.2.2.2.1,(),v0.2.2.2.2.2.2.2.2.2.1,v0.2.2.2.2.2.2.2.2.2.2.1,v0.2.2.2.2.2.2.2.2.2.2.2,()),()),(v0.2.2.1,v0.2.2.2.2.2.2.2.2.1,()))
def yso (v0 v1 v2 v3 v4 v5 v6 v7 v8 v9:Int) (v10 v11:Bool) (v12:List dM) (v13:List dW):Option ((ydx).X ⊕ ((yig).X ⊕ (ymR).X)) :=bif(ltb v0 (v12.length:Int))then bif(inb v0 v12.length)then bif(!((((nth v12 v0 ([],[],false,[])).2).2).1))then let r3:=yqy (v1,(v2,v3),v12,v4,v5,v6,v7,v8,v13,v9,v10,v11);bif r3.1 then bif(inb v0 r3.2.2.2.1.length)then let r4:=yiY ((nth r3.2.2.2.1 v0 ([],[],false,[])).1,((nth r3.2.2.2.1 v0 ([],[],false,[])).2).1,(((nth r3.2.2.2.1 v0 ([],[],false,[])).2).2));bif(inb v0 r3.2.2.2.1.length)then some (.inl ((((),()),((i64.wrap (v0+1)),()),()),((r3.2.1,r3.2.2.1.1,r3.2.2.1.2,(),r3.2.2.2.2.1,r3.2.2.2.2.2.1,r3.2.2.2.2.2.2.1,r3.2.2.2.2.2.2.2.1,r3.2.2.2.2.2.2.2.2.1,(),r3.2.2.2.2.2.2.2.2.2.2.1,r3.2.2.2.2.2.2.2.2.2.2.2.1,r3.2.2.2.2.2.2.2.2.2.2.2.2,()),()),((r3.2.2.2.1.set (v0).toNat r4),r3.2.2.2.2.2.2.2.2.2.1,()))) else none else none else some (.inl ((((),()),((i64.wrap (v0+1)),()),()),((r3.2.1,r3.2.2.1.1,r3.2.2.1.2,(),r3.2.2.2.2.1,r3.2.2.2.2.2.1,r3.2.2.2.2.2.2.1,r3.2.2.2.2.2.2.2.1,r3.2.2.2.2.2.2.2.2.1,(),r3.2.2.2.2.2.2.2.2.2.2.1,r3.2.2.2.2.2.2.2.2.2.2.2.1,r3.2.2.2.2.2.2.2.2.2.2.2.2,()),()),(r3.2.2.2.1,r3.2.2.2.2.2.2.2.2.2.1,()))) else some (.inl ((((),()),((i64.wrap (v0+1)),()),()),((v1,v2,v3,(),v4,v5,v6,v7,v8,(),v9,v10,v11,()),()),(v12,v13,()))) else none else some (.inr (.inl ((),((v1,v2,v3,(),v4,v5,v6,v7,v8,(),v9,v10,v11,()),()),(v12,v13,()))))
def yd5 (x:(ydx).X):=yso x.1.2.1.1 x.2.1.1.1 x.2.1.1.2.1 x.2.1.1.2.2.1 x.2.1.1.2.2.2.2.1 x.2.1.1.2.2.2.2.2.1 x.2.1.1.2.2.2.2.2.2.1 x.2.1.1.2.2.2.2.2.2.2.1 x.2.1.1.2.2.2.2.2.2.2.2.1 x.2.1.1.2.2.2.2.2.2.2.2.2.2.1 x.2.1.1.2.2.2.2.2.2.2.2.2.2.2.1 x.2.1.1.2.2.2.2.2.2.2.2.2.2.2.2.1 x.2.2.1 x.2.2.2.1
def yDK (x:(yiu).X):(ydx).X:=((((),()),(0,()),()),((x.2.1.1.1,x.2.1.1.2.1,x.2.1.1.2.2.1,(),x.2.1.1.2.2.2.2.1,x.2.1.1.2.2.2.2.2.1,x.2.1.1.2.2.2.2.2.2.1,x.2.1.1.2.2.2.2.2.2.2.1,x.2.1.1.2.2.2.2.2.2.2.2.1,(),x.2.1.1.2.2.2.2.2.2.2.2.2.2.1,x.2.1.1.2.2.2.2.2.2.2.2.2.2.2.1,x.2.1.1.2.2.2.2.2.2.2.2.2.2.2.2.1,()),()),(x.2.2.1,x.2.2.2.1,()))
def yFh:Code:=(zeJ yqL 64 12).getD .skip
theorem yS0:zeJ yqL 64 3=some (.block 0 (.loop yFh)):=by kernel_rfl
theorem yVL (x:(ydx).X):zhu ⟨yy7,39,yE0⟩ 0 yFh 12 ydx yig ymR x=yd5 x:=by kernel_rfl
def yD0 (x:(yiu).X):Nat:=18446744073709551616
def yti (x:(yiu).X):Option ((yig).X ⊕ (ymR).X):=zF yd5 (yD0 x) (yDK x)
def yEH:Seg:=⟨yiu,yig,ymR,yti⟩
def ySu:Nat→Option Seg:=fun q=>bif Nat.beq q 3 then some yEH else yE0 q
theorem yP0:FrOk prog ⟨yy7,39,ySu⟩ yqL:=(yPZ).loop (sg:=yEH) ydx yDK (by decide) yS0 yd5 yD0 (by decide) (fun _=>rfl) (fun x r _ h=>h) yVL
abbrev yq0:List Par:= [.pt tA (.pr .fz (.pr (.pr .fz .fz) (.pr (.ow (.pr (.ow .fz) (.pr (.ow (.pr .fz .fz)) (.pr .fz (.ow .fz))))) (.pr .fz (.pr .fz (.pr .fz (.pr .fz (.pr .fz (.pr (.ow (.pr .fz .fz)) (.pr .fz (.pr .fz .fz)))))))))))]
abbrev yz2:List OT:= []
def yvc (a0:dA):Option (zaY yz2×zak yq0) :=zkr (yti ((((),()),((),()),()),((a0.1,a0.2.1.1,a0.2.1.2,(),a0.2.2.2.1,a0.2.2.2.2.1,a0.2.2.2.2.2.1,a0.2.2.2.2.2.2.1,a0.2.2.2.2.2.2.2.1,(),a0.2.2.2.2.2.2.2.2.2.1,a0.2.2.2.2.2.2.2.2.2.2.1,a0.2.2.2.2.2.2.2.2.2.2.2,()),()),(a0.2.2.1,a0.2.2.2.2.2.2.2.2.1,()))) (fun y4 =>some ((),((y4.2.1.1.1,(y4.2.1.1.2.1,y4.2.1.1.2.2.1),y4.2.2.1,y4.2.1.1.2.2.2.2.1,y4.2.1.1.2.2.2.2.2.1,y4.2.1.1.2.2.2.2.2.2.1,y4.2.1.1.2.2.2.2.2.2.2.1,y4.2.1.1.2.2.2.2.2.2.2.2.1,y4.2.2.2.1,y4.2.1.1.2.2.2.2.2.2.2.2.2.2.1,y4.2.1.1.2.2.2.2.2.2.2.2.2.2.2.1,y4.2.1.1.2.2.2.2.2.2.2.2.2.2.2.2.1),()))) (fun y4 =>none)
theorem yU9:ConOk prog 208 ⟨yq0,yz2,fun x=>yvc x.1⟩:=zkG (yP0) func208 ntmps208.symm fun x=>by kernel_rfl
def yeb (a0:dA):dA:=ye a0
theorem yXu (a0:dA) (hk:zjw yq0 (a0,())):yvc a0=(fun n=>some ((),(n,()))) (yeb a0):=by
 have hb:a0.2.2.1.length*80≤2^47:=hk.1.2.2.1.1
 have h1:yti (yQo a0)=some (.inl (yEa (ye a0))) :=
  zkB (step:=yd5) a0.2.2.1.length (fun i s=>yrP i s) yab (fun _ s=>s.2.2.1.length=a0.2.2.1.length) (fun s=> .inl (yEa s)) (fun i s hi hs=>⟨by
   simp only[yd5,yrP,yso,hs,zkw (show(i:Int)<a0.2.2.1.length by omega),cond_true,wq ((i:Int)+1) (by omega) (by omega),Int.natCast_add,Int.natCast_one,Int.toNat_natCast,zkP hi,zkV,yVQ,yaP,yiY,yab,ybp]
   cases(nth s.2.2.1 i yc).2.2.1<;>cases(opA s).1<;>simp only[cond_true,cond_false,Bool.not_true,Bool.not_false,yaP,Int.toNat_natCast],(ylQ s i).trans hs⟩) (fun s hs=>by simp only[yd5,yrP,yso,hs,zk1 (Int.le_refl _),cond_false]) a0 rfl _ (by show _<18446744073709551616; omega)
 unfold yvc yeb;rw[h1]; rfl
def ym0:Con:=⟨yq0,yz2,fun x=>(fun n=>some ((),(n,()))) (yeb x.1)⟩
theorem yw4:ConOk prog 208 ym0:=(yU9).mono (fun x r hk h=>(yXu x.1 hk).trans h)
def yqK:Code:=(f174.body).getD .skip
def yy6:Env:=zku TT [(144,ypB),(206,yj4),(208,ym0)] []
theorem yPX:FrOk prog ⟨yy6,63,fun _=>none⟩ yqK:=zky yf yg ⟨yEj,yrc,yw4,trivial⟩
def yEZ:Nat→Option Seg:=fun _=>none
def ycU:Shape:=⟨[(0,false,[.ptr 1000000000 0]),(2,false,[.int .i64])],[(1000000000,[.int .i64,.int .i64,.int .i64,.at 800000000,.int .i64,.int .i64,.int .i64,.int .i64,.int .i64,.at 800000001,.int .i64,.bool,.bool])],[(800000000,tM,(.pr (.ow .fz) (.pr (.ow (.pr .fz .fz)) (.pr .fz (.ow .fz))))),(800000001,tW,(.pr .fz .fz))]⟩
def yg9:Shape:=⟨[(0,false,[.ptr 1000000000 0]),(2,false,[.ci .i64 0])],[(1000000000,[.int .i64,.int .i64,.int .i64,.at 800000000,.int .i64,.int .i64,.int .i64,.int .i64,.int .i64,.at 800000001,.int .i64,.bool,.bool])],[(800000000,tM,(.pr (.ow .fz) (.pr (.ow (.pr .fz .fz)) (.pr .fz (.ow .fz))))),(800000001,tW,(.pr .fz .fz))]⟩
def ygY:Shape:=⟨[(0,false,[.ptr 1000000000 0])],[(1000000000,[.int .i64,.int .i64,.int .i64,.at 800000000,.int .i64,.int .i64,.int .i64,.int .i64,.int .i64,.at 800000001,.int .i64,.bool,.bool])],[(800000000,tM,(.pr (.ow .fz) (.pr (.ow (.pr .fz .fz)) (.pr .fz (.ow .fz))))),(800000001,tW,(.pr .fz .fz))]⟩
def ykU:Shape:=⟨[],[],[]⟩
abbrev ypL (v0:Int) (v1:dA):(ycU).X:=((((),()),(v0,()),()),((v1.1,v1.2.1.1,v1.2.1.2,(),v1.2.2.2.1,v1.2.2.2.2.1,v1.2.2.2.2.2.1,v1.2.2.2.2.2.2.1,v1.2.2.2.2.2.2.2.1,(),v1.2.2.2.2.2.2.2.2.2.1,v1.2.2.2.2.2.2.2.2.2.2.1,v1.2.2.2.2.2.2.2.2.2.2.2,()),()),(v1.2.2.1,v1.2.2.2.2.2.2.2.2.1,()))
abbrev yNn (v0:dA):(yg9).X:=((((),()),((),()),()),((v0.1,v0.2.1.1,v0.2.1.2,(),v0.2.2.2.1,v0.2.2.2.2.1,v0.2.2.2.2.2.1,v0.2.2.2.2.2.2.1,v0.2.2.2.2.2.2.2.1,(),v0.2.2.2.2.2.2.2.2.2.1,v0.2.2.2.2.2.2.2.2.2.2.1,v0.2.2.2.2.2.2.2.2.2.2.2,()),()),(v0.2.2.1,v0.2.2.2.2.2.2.2.2.1,()))
abbrev yBq (v0:dA):(ygY).X:=((((),()),()),((v0.1,v0.2.1.1,v0.2.1.2,(),v0.2.2.2.1,v0.2.2.2.2.1,v0.2.2.2.2.2.1,v0.2.2.2.2.2.2.1,v0.2.2.2.2.2.2.2.1,(),v0.2.2.2.2.2.2.2.2.2.1,v0.2.2.2.2.2.2.2.2.2.2.1,v0.2.2.2.2.2.2.2.2.2.2.2,()),()),(v0.2.2.1,v0.2.2.2.2.2.2.2.2.1,()))
def yqj (v0 v1 v2 v3 v4 v5 v6 v7 v8 v9:Int) (v10 v11:Bool) (v12:List dM) (v13:List dW):Option ((ycU).X ⊕ ((ygY).X ⊕ (ykU).X)) :=bif(ltb v0 (v12.length:Int))then let r3:=ym (v1,v8,v0,v2,v3,v7,v4,v5);bnd (yfh (v1,(v2,v3),v12,v4,v5,v6,v7,v8,v13,v9,v10,v11) v0 (v8.tmod 2) r3) fun r4 =>some (.inl ((((),()),((i64.wrap (v0+1)),()),()),((r4.2.1.1,r4.2.1.2.1.1,r4.2.1.2.1.2,(),r4.2.1.2.2.2.1,r4.2.1.2.2.2.2.1,r4.2.1.2.2.2.2.2.1,r4.2.1.2.2.2.2.2.2.1,r4.2.1.2.2.2.2.2.2.2.1,(),r4.2.1.2.2.2.2.2.2.2.2.2.1,r4.2.1.2.2.2.2.2.2.2.2.2.2.1,r4.2.1.2.2.2.2.2.2.2.2.2.2.2,()),()),(r4.2.1.2.2.1,r4.2.1.2.2.2.2.2.2.2.2.1,()))) else some (.inr (.inl ((((),()),()),((v1,v2,v3,(),v4,v5,v6,v7,v8,(),v9,v10,v11,()),()),(v12,v13,()))))
def ydh (x:(ycU).X):=yqj x.1.2.1.1 x.2.1.1.1 x.2.1.1.2.1 x.2.1.1.2.2.1 x.2.1.1.2.2.2.2.1 x.2.1.1.2.2.2.2.2.1 x.2.1.1.2.2.2.2.2.2.1 x.2.1.1.2.2.2.2.2.2.2.1 x.2.1.1.2.2.2.2.2.2.2.2.1 x.2.1.1.2.2.2.2.2.2.2.2.2.2.1 x.2.1.1.2.2.2.2.2.2.2.2.2.2.2.1 x.2.1.1.2.2.2.2.2.2.2.2.2.2.2.2.1 x.2.2.1 x.2.2.2.1
def yBb (x:(yg9).X):(ycU).X:=((((),()),(0,()),()),((x.2.1.1.1,x.2.1.1.2.1,x.2.1.1.2.2.1,(),x.2.1.1.2.2.2.2.1,x.2.1.1.2.2.2.2.2.1,x.2.1.1.2.2.2.2.2.2.1,x.2.1.1.2.2.2.2.2.2.2.1,x.2.1.1.2.2.2.2.2.2.2.2.1,(),x.2.1.1.2.2.2.2.2.2.2.2.2.2.1,x.2.1.1.2.2.2.2.2.2.2.2.2.2.2.1,x.2.1.1.2.2.2.2.2.2.2.2.2.2.2.2.1,()),()),(x.2.2.1,x.2.2.2.1,()))
def yDd:Code:=(zeJ yqK 64 52).getD .skip
theorem yO0:zeJ yqK 64 13=some (.block 0 (.loop yDd)):=by kernel_rfl
theorem yRU (x:(ycU).X):zhu ⟨yy6,63,yEZ⟩ 0 yDd 52 ycU ygY ykU x=ydh x:=by kernel_rfl
def yBm (x:(yg9).X):Nat:=18446744073709551616
def yrr (x:(yg9).X):Option ((ygY).X ⊕ (ykU).X):=zF ydh (yBm x) (yBb x)
def yBL:Seg:=⟨yg9,ygY,ykU,yrr⟩
def ySt:Nat→Option Seg:=fun q=>bif Nat.beq q 13 then some yBL else yEZ q
theorem yPY:FrOk prog ⟨yy6,63,ySt⟩ yqK:=(yPX).loop (sg:=yBL) ycU yBb (by decide) yO0 ydh yBm (by decide) (fun _=>rfl) (fun x r _ h=>h) yRU
abbrev yqZ:List Par:= [.pt tA (.pr .fz (.pr (.pr .fz .fz) (.pr (.ow (.pr (.ow .fz) (.pr (.ow (.pr .fz .fz)) (.pr .fz (.ow .fz))))) (.pr .fz (.pr .fz (.pr .fz (.pr .fz (.pr .fz (.pr (.ow (.pr .fz .fz)) (.pr .fz (.pr .fz .fz)))))))))))]
abbrev yz1:List OT:= []
def yvb (a0:dA):Option (zaY yz1×zak yqZ) :=zkr (yrr ((((),()),((),()),()),((a0.1,a0.2.1.1,a0.2.1.2,(),a0.2.2.2.1,a0.2.2.2.2.1,a0.2.2.2.2.2.1,a0.2.2.2.2.2.2.1,(i64.wrap (a0.2.2.2.2.2.2.2.1+1)),(),a0.2.2.2.2.2.2.2.2.2.1,a0.2.2.2.2.2.2.2.2.2.2.1,a0.2.2.2.2.2.2.2.2.2.2.2,()),()),(a0.2.2.1,a0.2.2.2.2.2.2.2.2.1,()))) (fun y4 =>let r6:=yeb (y4.2.1.1.1,(y4.2.1.1.2.1,y4.2.1.1.2.2.1),y4.2.2.1,y4.2.1.1.2.2.2.2.1,y4.2.1.1.2.2.2.2.2.1,y4.2.1.1.2.2.2.2.2.2.1,y4.2.1.1.2.2.2.2.2.2.2.1,y4.2.1.1.2.2.2.2.2.2.2.2.1,y4.2.2.2.1,y4.2.1.1.2.2.2.2.2.2.2.2.2.2.1,y4.2.1.1.2.2.2.2.2.2.2.2.2.2.2.1,y4.2.1.1.2.2.2.2.2.2.2.2.2.2.2.2.1);some ((),(r6,()))) (fun y4 =>none)
theorem yU8:ConOk prog 174 ⟨yqZ,yz1,fun x=>yvb x.1⟩:=zkG (yPY) func174 ntmps174.symm fun x=>by kernel_rfl
def ya7 (a0:dA):dA:=yD a0
theorem yOn (a:dA) (i:Nat):(yae a i).2.2.1.length=a.2.2.1.length:=yo7 _ _ _ _
theorem yXt (a0:dA) (hk:zjw yqZ (a0,())):yvb a0=(fun n=>some ((),(n,()))) (ya7 a0):=by
 have hb:a0.2.2.1.length*80≤2^47:=hk.1.2.2.1.1
 have h1:yrr (yNn (yat a0))=some (.inl (yBq ((List.range a0.2.2.1.length).foldl yae (yat a0)))) :=
  zkB (step:=ydh) a0.2.2.1.length (fun i s=>ypL i s) yae (fun _ s=>s.2.2.1.length=a0.2.2.1.length) (fun s=> .inl (yBq s)) (fun i s hi hs=>⟨by
   simp only[ydh,ypL,yqj,hs,zkw (show(i:Int)<a0.2.2.1.length by omega),cond_true,wq ((i:Int)+1) (by omega) (by omega),Int.natCast_add,Int.natCast_one,Int.toNat_natCast,zkV];rw[ylL s i (s.2.2.2.2.2.2.2.1.tmod 2) (ym (s.1,s.2.2.2.2.2.2.2.1,(i:Int),s.2.1.1,s.2.1.2,s.2.2.2.2.2.2.1,s.2.2.2.1,s.2.2.2.2.1)) (zkP (by rw[hs]; exact hi))]
   rfl,(yOn s i).trans hs⟩) (fun s hs=>by simp only[ydh,ypL,yqj,hs,zk1 (Int.le_refl _),cond_false]) (yat a0) rfl _ (by show _<18446744073709551616; omega)
 unfold yvb ya7 yD;exact(congrArg (fun z=>zkr z _ _) h1).trans rfl
def ymZ:Con:=⟨yqZ,yz1,fun x=>(fun n=>some ((),(n,()))) (ya7 x.1)⟩
theorem yw3:ConOk prog 174 ymZ:=(yU8).mono (fun x r hk h=>(yXt x.1 hk).trans h)
def ymj:Code:=(f107.body).getD .skip
def ysY:Env:=zku TT [(139,yiL),(165,yjA),(172,yAO),(173,yDl)] []
theorem yJ1:FrOk prog ⟨ysY,37,fun _=>none⟩ ymj:=zky yf yg ⟨ypO,yrR,yRt,yVh,trivial⟩
def yAm:Nat→Option Seg:=fun _=>none
def yby:Shape:=⟨[(0,false,[.ptr 1000000000 0]),(15,false,[.int .i64]),(16,false,[.int .i64])],[(1000000000,[.int .i64,.int .i64,.int .i64,.at 800000000,.int .i64,.int .i64,.int .i64,.int .i64,.int .i64,.at 800000001,.int .i64,.bool,.bool])],[(800000000,tM,(.pr (.ow (.ow .fz)) (.pr (.ow (.pr .fz (.ow .fz))) (.pr .fz (.ow .fz))))),(800000001,tW,(.pr .fz (.ow .fz)))]⟩
def ye0:Shape:=⟨[(0,false,[.ptr 1000000000 0]),(15,false,[.int .i64]),(16,false,[.ci .i64 0])],[(1000000000,[.int .i64,.int .i64,.int .i64,.at 800000000,.int .i64,.int .i64,.int .i64,.int .i64,.int .i64,.at 800000001,.int .i64,.bool,.bool])],[(800000000,tM,(.pr (.ow (.ow .fz)) (.pr (.ow (.pr .fz (.ow .fz))) (.pr .fz (.ow .fz))))),(800000001,tW,(.pr .fz (.ow .fz)))]⟩
def yeS:Shape:=⟨[(0,false,[.ptr 1000000000 0])],[(1000000000,[.int .i64,.int .i64,.int .i64,.at 800000000,.int .i64,.int .i64,.int .i64,.int .i64,.int .i64,.at 800000001,.int .i64,.bool,.bool])],[(800000000,tM,(.pr (.ow (.ow .fz)) (.pr (.ow (.pr .fz (.ow .fz))) (.pr .fz (.ow .fz))))),(800000001,tW,(.pr .fz (.ow .fz)))]⟩
def ye8:Shape:=⟨[(2,false,[.bool])],[(1000000000,[.int .i64,.int .i64,.int .i64,.at 800000000,.int .i64,.int .i64,.int .i64,.int .i64,.int .i64,.at 800000001,.int .i64,.bool,.bool])],[(800000000,tM,(.pr (.ow (.ow .fz)) (.pr (.ow (.pr .fz (.ow .fz))) (.pr .fz (.ow .fz))))),(800000001,tW,(.pr .fz (.ow .fz)))]⟩
abbrev yl0 (v0 v1:Int) (v2:dA):(yby).X:=((((),()),(v0,()),(v1,()),()),((v2.1,v2.2.1.1,v2.2.1.2,(),v2.2.2.2.1,v2.2.2.2.2.1,v2.2.2.2.2.2.1,v2.2.2.2.2.2.2.1,v2.2.2.2.2.2.2.2.1,(),v2.2.2.2.2.2.2.2.2.2.1,v2.2.2.2.2.2.2.2.2.2.2.1,v2.2.2.2.2.2.2.2.2.2.2.2,()),()),(v2.2.2.1,v2.2.2.2.2.2.2.2.2.1,()))
abbrev yJa (v0:Int) (v1:dA):(ye0).X:=((((),()),(v0,()),((),()),()),((v1.1,v1.2.1.1,v1.2.1.2,(),v1.2.2.2.1,v1.2.2.2.2.1,v1.2.2.2.2.2.1,v1.2.2.2.2.2.2.1,v1.2.2.2.2.2.2.2.1,(),v1.2.2.2.2.2.2.2.2.2.1,v1.2.2.2.2.2.2.2.2.2.2.1,v1.2.2.2.2.2.2.2.2.2.2.2,()),()),(v1.2.2.1,v1.2.2.2.2.2.2.2.2.1,()))
abbrev yl6 (v0:dA):(yeS).X:=((((),()),()),((v0.1,v0.2.1.1,v0.2.1.2,(),v0.2.2.2.1,v0.2.2.2.2.1,v0.2.2.2.2.2.1,v0.2.2.2.2.2.2.1,v0.2.2.2.2.2.2.2.1,(),v0.2.2.2.2.2.2.2.2.2.1,v0.2.2.2.2.2.2.2.2.2.2.1,v0.2.2.2.2.2.2.2.2.2.2.2,()),()),(v0.2.2.1,v0.2.2.2.2.2.2.2.2.1,()))
abbrev yl8 (v0:Bool) (v1:dA):(ye8).X:=(((v0,()),()),((v1.1,v1.2.1.1,v1.2.1.2,(),v1.2.2.2.1,v1.2.2.2.2.1,v1.2.2.2.2.2.1,v1.2.2.2.2.2.2.1,v1.2.2.2.2.2.2.2.1,(),v1.2.2.2.2.2.2.2.2.2.1,v1.2.2.2.2.2.2.2.2.2.2.1,v1.2.2.2.2.2.2.2.2.2.2.2,()),()),(v1.2.2.1,v1.2.2.2.2.2.2.2.2.1,()))
def ymc (v0 v1 v2 v3 v4 v5 v6 v7 v8 v9 v10:Int) (v11 v12:Bool) (v13:List dM) (v14:List dW):Option ((yby).X ⊕ ((yeS).X ⊕ (ye8).X)) :=bif(ltb v1 v0)then let r4:=yoW (v2,(v3,v4),v13,v5,v6,v7,v8,v9,v14,v10,v11,v12) v1;let r5:=yiV r4;bnd (yeF (v2,(v3,v4),v13,v5,v6,v7,v8,v9,v14,v10,v11,v12) v1 (v9.tmod 2) r5) fun r6 =>bif(!r6.1.1)then some (.inr (.inr (((false,()),()),((r6.2.1.1,r6.2.1.2.1.1,r6.2.1.2.1.2,(),r6.2.1.2.2.2.1,r6.2.1.2.2.2.2.1,r6.2.1.2.2.2.2.2.1,r6.2.1.2.2.2.2.2.2.1,r6.2.1.2.2.2.2.2.2.2.1,(),r6.2.1.2.2.2.2.2.2.2.2.2.1,r6.2.1.2.2.2.2.2.2.2.2.2.2.1,r6.2.1.2.2.2.2.2.2.2.2.2.2.2,()),()),(r6.2.1.2.2.1,r6.2.1.2.2.2.2.2.2.2.2.1,())))) else some (.inl ((((),()),(v0,()),((i64.wrap (v1+1)),()),()),((r6.2.1.1,r6.2.1.2.1.1,r6.2.1.2.1.2,(),r6.2.1.2.2.2.1,r6.2.1.2.2.2.2.1,r6.2.1.2.2.2.2.2.1,r6.2.1.2.2.2.2.2.2.1,r6.2.1.2.2.2.2.2.2.2.1,(),r6.2.1.2.2.2.2.2.2.2.2.2.1,r6.2.1.2.2.2.2.2.2.2.2.2.2.1,r6.2.1.2.2.2.2.2.2.2.2.2.2.2,()),()),(r6.2.1.2.2.1,r6.2.1.2.2.2.2.2.2.2.2.1,()))) else some (.inr (.inl ((((),()),()),((v2,v3,v4,(),v5,v6,v7,v8,v9,(),v10,v11,v12,()),()),(v13,v14,()))))
def ybQ (x:(yby).X):=ymc x.1.2.1.1 x.1.2.2.1.1 x.2.1.1.1 x.2.1.1.2.1 x.2.1.1.2.2.1 x.2.1.1.2.2.2.2.1 x.2.1.1.2.2.2.2.2.1 x.2.1.1.2.2.2.2.2.2.1 x.2.1.1.2.2.2.2.2.2.2.1 x.2.1.1.2.2.2.2.2.2.2.2.1 x.2.1.1.2.2.2.2.2.2.2.2.2.2.1 x.2.1.1.2.2.2.2.2.2.2.2.2.2.2.1 x.2.1.1.2.2.2.2.2.2.2.2.2.2.2.2.1 x.2.2.1 x.2.2.2.1
def yvx (x:(ye0).X):(yby).X:=((((),()),(x.1.2.1.1,()),(0,()),()),((x.2.1.1.1,x.2.1.1.2.1,x.2.1.1.2.2.1,(),x.2.1.1.2.2.2.2.1,x.2.1.1.2.2.2.2.2.1,x.2.1.1.2.2.2.2.2.2.1,x.2.1.1.2.2.2.2.2.2.2.1,x.2.1.1.2.2.2.2.2.2.2.2.1,(),x.2.1.1.2.2.2.2.2.2.2.2.2.2.1,x.2.1.1.2.2.2.2.2.2.2.2.2.2.2.1,x.2.1.1.2.2.2.2.2.2.2.2.2.2.2.2.1,()),()),(x.2.2.1,x.2.2.2.1,()))
def yxL:Code:=(zeJ ymj 64 116).getD .skip
theorem yJK:zeJ ymj 64 29=some (.block 0 (.loop yxL)):=by kernel_rfl
theorem yLp (x:(yby).X):zhu ⟨ysY,37,yAm⟩ 0 yxL 116 yby yeS ye8 x=ybQ x:=by kernel_rfl
def yvF (x:(ye0).X):Nat:=18446744073709551616
def ync (x:(ye0).X):Option ((yeS).X ⊕ (ye8).X):=zF ybQ (yvF x) (yvx x)
def yvU:Seg:=⟨ye0,yeS,ye8,ync⟩
def yL1:Nat→Option Seg:=fun q=>bif Nat.beq q 29 then some yvU else yAm q
theorem yJ2:FrOk prog ⟨ysY,37,yL1⟩ ymj:=(yJ1).loop (sg:=yvU) yby yvx (by decide) yJK ybQ yvF (by decide) (fun _=>rfl) (fun x r _ h=>h) yLp
abbrev yhW:List Par:= [.pt tA (.pr .fz (.pr (.pr .fz .fz) (.pr (.ow (.pr (.ow (.ow .fz)) (.pr (.ow (.pr .fz (.ow .fz))) (.pr .fz (.ow .fz))))) (.pr .fz (.pr .fz (.pr .fz (.pr .fz (.pr .fz (.pr (.ow (.pr .fz (.ow .fz))) (.pr .fz (.pr .fz .fz)))))))))))]
abbrev ymI:List OT:= [⟨false,tB,.fz⟩]
def ypQ (a0:dA):Option (zaY ymI×zak yhW) :=zkr (ync ((((),()),((a0.2.2.1.length:Int),()),((),()),()),((a0.1,a0.2.1.1,a0.2.1.2,(),a0.2.2.2.1,a0.2.2.2.2.1,a0.2.2.2.2.2.1,a0.2.2.2.2.2.2.1,(i64.wrap (a0.2.2.2.2.2.2.2.1+1)),(),a0.2.2.2.2.2.2.2.2.2.1,a0.2.2.2.2.2.2.2.2.2.2.1,a0.2.2.2.2.2.2.2.2.2.2.2,()),()),(a0.2.2.1,a0.2.2.2.2.2.2.2.2.1,()))) (fun y6 =>bnd (yfy (y6.2.1.1.1,(y6.2.1.1.2.1,y6.2.1.1.2.2.1),y6.2.2.1,y6.2.1.1.2.2.2.2.1,y6.2.1.1.2.2.2.2.2.1,y6.2.1.1.2.2.2.2.2.2.1,y6.2.1.1.2.2.2.2.2.2.2.1,y6.2.1.1.2.2.2.2.2.2.2.2.1,y6.2.2.2.1,y6.2.1.1.2.2.2.2.2.2.2.2.2.2.1,y6.2.1.1.2.2.2.2.2.2.2.2.2.2.2.1,y6.2.1.1.2.2.2.2.2.2.2.2.2.2.2.2.1)) fun r8 =>some ((r8.1.1,()),(r8.2.1,()))) (fun y6 =>some ((y6.1.1.1,()),((y6.2.1.1.1,(y6.2.1.1.2.1,y6.2.1.1.2.2.1),y6.2.2.1,y6.2.1.1.2.2.2.2.1,y6.2.1.1.2.2.2.2.2.1,y6.2.1.1.2.2.2.2.2.2.1,y6.2.1.1.2.2.2.2.2.2.2.1,y6.2.1.1.2.2.2.2.2.2.2.2.1,y6.2.2.2.1,y6.2.1.1.2.2.2.2.2.2.2.2.2.2.1,y6.2.1.1.2.2.2.2.2.2.2.2.2.2.2.1,y6.2.1.1.2.2.2.2.2.2.2.2.2.2.2.2.1),())))
theorem yNx:ConOk prog 107 ⟨yhW,ymI,fun x=>ypQ x.1⟩:=zkG (yJ2) func107 ntmps107.symm fun x=>by kernel_rfl
def ym2 (a0:dA):Bool×dA:=(!(ya (yD a0)),yD a0)
def yi6 (a0:dA):Bool:= !(ya a0)
theorem y1y {a:dA} (i:Nat) (h:ya a=true):yae a i=a:=ynU h _ _ _
theorem yQy (a0:dA) (hk:zjw yhW (a0,())) (hq:yi6 a0=true):ypQ a0=(fun n=>some ((n.1,()),(n.2,()))) (ym2 a0):=by
 have hb:a0.2.2.1.length*80≤2^47:=hk.1.2.2.1.1;have hd0:ya a0=false:=by simpa [yi6]using hq
 have h1:ync (yJa a0.2.2.1.length (yat a0))=some (bif ya ((List.range a0.2.2.1.length).foldl yae (yat a0))then .inr (yl8 false ((List.range a0.2.2.1.length).foldl yae (yat a0)))else .inl (yl6 ((List.range a0.2.2.1.length).foldl yae (yat a0)))):=by
  have:=zkA (step:=ybQ) a0.2.2.1.length (fun i s=>yl0 a0.2.2.1.length i s) (fun i s=>bif ya (yae s i)then(.inr (yae s i):dA ⊕ dA)else .inl (yae s i)) (fun _ s=>s.2.2.1.length=a0.2.2.1.length∧ya s=false) id
   (fun b=>bif ya b then .inr (yl8 false b)else .inl (yl6 b)) (fun i s hi hs=>by
    constructor
    ·simp only[ybQ,yl0,ymc,zkw (show(i:Int)<a0.2.2.1.length by omega),cond_true,wq ((i:Int)+1) (by omega) (by omega),Int.natCast_add,Int.natCast_one,Int.toNat_natCast,zkV,y2d,yoW]
     rw[ypP s i (s.2.2.2.2.2.2.2.1.tmod 2) (ym (s.1,s.2.2.2.2.2.2.2.1,(i:Int),s.2.1.1,s.2.1.2,s.2.2.2.2.2.2.1,s.2.2.2.1,s.2.2.2.2.1)) (by unfold ycX; rw[zkP (by rw[hs.1]; exact hi),hs.2]; rfl)];simp only[zkF,ycW];rw[show ybq s i (s.2.2.2.2.2.2.2.1.tmod 2) (ym (s.1,s.2.2.2.2.2.2.2.1,(i:Int),s.2.1.1,s.2.1.2,s.2.2.2.2.2.2.1,s.2.2.2.1,s.2.2.2.2.1))=yae s i from rfl];cases hd:ya (yae s i)
     ·rfl
     ·simp only[hd,Bool.not_true,Bool.not_false,cond_true,yl8]
    ·intro s' h
     cases hd:ya (yae s i)
     ·rw[hd]at h
      cases h;exact⟨(yOn s i).trans hs.1,hd⟩
     ·rw[hd]at h; cases h) (fun s hs=>by simp only[ybQ,yl0,ymc,hs.2,zk1 (Int.le_refl _),cond_false,id,yl6]) (yat a0) ⟨rfl,hd0⟩ 18446744073709551616 (by omega)
  rw[yD3 (fun a i h=>y1y i h),← List.range_eq_range']at this;exact this
 unfold ypQ ym2 yD;refine(congrArg (fun z=>zkr z _ _) h1).trans ?_;cases hd:ya ((List.range a0.2.2.1.length).foldl yae (yat a0))
 ·simp only[cond_false,zkL,zkV]
  rw[yrS _ (by unfold yfz; rw[hd]; rfl)]; rfl
 ·rw[ysH hd]
  simp only[cond_true,zkM,zkV];rw[hd]; rfl
def yi3 (a0:dA):Option (zaY ymI×zak yhW):=bif yi6 a0 then(fun n=>some ((n.1,()),(n.2,()))) (ym2 a0)else none
theorem yRG (a0:dA) (h:yi6 a0=true):yi3 a0=(fun n=>some ((n.1,()),(n.2,()))) (ym2 a0):=by unfold yi3; rw[h]; rfl
def yAJ:Con:=⟨yhW,ymI,fun x=>yi3 x.1⟩
theorem yRo:ConOk prog 107 yAJ:=(yNx).mono (fun x r hk h=>zkW h (fun hq=>yQy x.1 hk hq))
def yOw:Code:=(f99.body).getD .skip
def yOM:Env:=zku TT [(107,yAJ),(165,yjA)] []
theorem yIY:FrOk prog ⟨yOM,15,fun _=>none⟩ yOw:=zky yf yg ⟨yRo,yrR,trivial⟩
abbrev ygL:List Par:= [.pt tA (.pr .fz (.pr (.pr .fz .fz) (.pr (.ow (.pr (.ow (.ow .fz)) (.pr (.ow (.pr .fz (.ow .fz))) (.pr .fz (.ow .fz))))) (.pr .fz (.pr .fz (.pr .fz (.pr .fz (.pr .fz (.pr (.ow (.pr .fz (.ow .fz))) (.pr .fz (.pr .fz .fz)))))))))))]
abbrev ykL:List OT:= [⟨false,tB,.fz⟩]
def ynW (a0:dA):Option (zaY ykL×zak ygL) :=bnd (yfy a0) fun r1 =>bif(!r1.1.1)then some ((false,()),(r1.2.1,())) else bnd (yi3 (r1.2.1.1,r1.2.1.2.1,r1.2.1.2.2.1,r1.2.1.2.2.2.1,r1.2.1.2.2.2.2.1,r1.2.1.2.2.2.2.2.1,r1.2.1.2.2.2.2.2.1,r1.2.1.2.2.2.2.2.2.2)) fun r2 =>some ((r2.1.1,()),(r2.2.1,()))
theorem yLb:ConOk prog 99 ⟨ygL,ykL,fun x=>ynW x.1⟩:=zkG (yIY) func99 ntmps99.symm fun x=>by kernel_rfl
def yhh (a0:dA):Bool×dA:=(!(ya (yp a0)),yp a0)
def yhr (a0:dA):Bool:= !(ya a0)
theorem yNr (a0:dA) (hk:zjw ygL (a0,())) (hq:yhr a0=true):ynW a0=(fun n=>some ((n.1,()),(n.2,()))) (yhh a0):=by
 unfold ynW yhh yp;rw[yrS a0 hq];simp only[zkF,yiR];cases hd:ya (ye a0)
 ·have hm:yi3 (yU (ye a0))=some ((!(ya (yD (yU (ye a0)))),()),(yD (yU (ye a0)),())):=yRG (yU (ye a0)) (by unfold yi6; rw[show ya (yU (ye a0))=ya (ye a0)from rfl,hd]; rfl)
  exact(congrArg (fun z=>bnd z _) hm).trans rfl
 ·simp only[Bool.not_true,Bool.not_false,cond_true]
  rw[hd]; rfl
def yhp (a0:dA):Option (zaY ykL×zak ygL):=bif yhr a0 then(fun n=>some ((n.1,()),(n.2,()))) (yhh a0)else none
theorem yBu (a0:dA) (h:yhr a0=true):yhp a0=(fun n=>some ((n.1,()),(n.2,()))) (yhh a0):=by unfold yhp; rw[h]; rfl
def ynt:Con:=⟨ygL,ykL,fun x=>yhp x.1⟩
theorem yBs:ConOk prog 99 ynt:=(yLb).mono (fun x r hk h=>zkW h (fun hq=>yNr x.1 hk hq))
def yqE:Code:=(f28.body).getD .skip
def yy0:Env:=zku TT [(23,yDg),(95,ykW),(96,yAR),(97,ylY),(98,ynu),(99,ynt)] []
theorem yPf:FrOk prog ⟨yy0,50,fun _=>none⟩ yqE:=zky yf yg ⟨yVc,yuQ,yRw,yyE,yBt,yBs,trivial⟩
def yEQ:Nat→Option Seg:=fun _=>none
def ycK:Shape:=⟨[(2,false,[.ptr 64 0]),(3,false,[.ptr 4224 0]),(16,false,[.int .i64])],[(64,[.int .i64,.int .i64,.int .i64,.nil,.int .i64,.int .i64,.int .i64,.int .i64,.int .i64,.nil,.int .i64,.bool,.bool]),(4224,[.int .i64,.int .i64,.int .i64,.at 800000000,.int .i64,.int .i64,.int .i64,.int .i64,.int .i64,.at 800000001,.int .i64,.bool,.bool])],[(800000000,tM,(.pr (.ow (.ow .fz)) (.pr (.ow (.pr .fz (.ow .fz))) (.pr .fz (.ow .fz))))),(800000001,tW,(.pr .fz (.ow .fz)))]⟩
def ygZ:Shape:=⟨[(2,false,[.ptr 64 0]),(3,false,[.ptr 4224 0]),(16,false,[.ci .i64 0])],[(64,[.int .i64,.int .i64,.int .i64,.nil,.int .i64,.int .i64,.int .i64,.int .i64,.int .i64,.nil,.int .i64,.bool,.bool]),(4224,[.int .i64,.int .i64,.int .i64,.at 800000000,.int .i64,.int .i64,.int .i64,.int .i64,.int .i64,.at 800000001,.int .i64,.bool,.bool])],[(800000000,tM,(.pr (.ow (.ow .fz)) (.pr (.ow (.pr .fz (.ow .fz))) (.pr .fz (.ow .fz))))),(800000001,tW,(.pr .fz (.ow .fz)))]⟩
def ygO:Shape:=⟨[(2,false,[.ptr 64 0]),(3,false,[.ptr 4224 0])],[(64,[.int .i64,.int .i64,.int .i64,.nil,.int .i64,.int .i64,.int .i64,.int .i64,.int .i64,.nil,.int .i64,.bool,.bool]),(4224,[.int .i64,.int .i64,.int .i64,.at 800000000,.int .i64,.int .i64,.int .i64,.int .i64,.int .i64,.at 800000001,.int .i64,.bool,.bool])],[(800000000,tM,(.pr (.ow (.ow .fz)) (.pr (.ow (.pr .fz (.ow .fz))) (.pr .fz (.ow .fz))))),(800000001,tW,(.pr .fz (.ow .fz)))]⟩
def yha:Shape:=⟨[(2,false,[.ptr 64 0])],[(64,[.int .i64,.int .i64,.int .i64,.at 800000000,.int .i64,.int .i64,.int .i64,.int .i64,.int .i64,.at 800000001,.int .i64,.bool,.bool])],[(800000000,tM,(.pr (.ow (.ow .fz)) (.pr (.ow (.pr .fz (.ow .fz))) (.pr .fz (.ow .fz))))),(800000001,tW,(.pr .fz (.ow .fz)))]⟩
abbrev ypD (v0:Int) (v1 v2:dA):(ycK).X:=((((),()),((),()),(v0,()),()),((v1.1,v1.2.1.1,v1.2.1.2,(),v1.2.2.2.1,v1.2.2.2.2.1,v1.2.2.2.2.2.1,v1.2.2.2.2.2.2.1,v1.2.2.2.2.2.2.2.1,(),v1.2.2.2.2.2.2.2.2.2.1,v1.2.2.2.2.2.2.2.2.2.2.1,v1.2.2.2.2.2.2.2.2.2.2.2,()),(v2.1,v2.2.1.1,v2.2.1.2,(),v2.2.2.2.1,v2.2.2.2.2.1,v2.2.2.2.2.2.1,v2.2.2.2.2.2.2.1,v2.2.2.2.2.2.2.2.1,(),v2.2.2.2.2.2.2.2.2.2.1,v2.2.2.2.2.2.2.2.2.2.2.1,v2.2.2.2.2.2.2.2.2.2.2.2,()),()),(v2.2.2.1,v2.2.2.2.2.2.2.2.2.1,()))
abbrev yNe (v0 v1:dA):(ygZ).X:=((((),()),((),()),((),()),()),((v0.1,v0.2.1.1,v0.2.1.2,(),v0.2.2.2.1,v0.2.2.2.2.1,v0.2.2.2.2.2.1,v0.2.2.2.2.2.2.1,v0.2.2.2.2.2.2.2.1,(),v0.2.2.2.2.2.2.2.2.2.1,v0.2.2.2.2.2.2.2.2.2.2.1,v0.2.2.2.2.2.2.2.2.2.2.2,()),(v1.1,v1.2.1.1,v1.2.1.2,(),v1.2.2.2.1,v1.2.2.2.2.1,v1.2.2.2.2.2.1,v1.2.2.2.2.2.2.1,v1.2.2.2.2.2.2.2.1,(),v1.2.2.2.2.2.2.2.2.2.1,v1.2.2.2.2.2.2.2.2.2.2.1,v1.2.2.2.2.2.2.2.2.2.2.2,()),()),(v1.2.2.1,v1.2.2.2.2.2.2.2.2.1,()))
abbrev yM8 (v0 v1:dA):(ygO).X:=((((),()),((),()),()),((v0.1,v0.2.1.1,v0.2.1.2,(),v0.2.2.2.1,v0.2.2.2.2.1,v0.2.2.2.2.2.1,v0.2.2.2.2.2.2.1,v0.2.2.2.2.2.2.2.1,(),v0.2.2.2.2.2.2.2.2.2.1,v0.2.2.2.2.2.2.2.2.2.2.1,v0.2.2.2.2.2.2.2.2.2.2.2,()),(v1.1,v1.2.1.1,v1.2.1.2,(),v1.2.2.2.1,v1.2.2.2.2.1,v1.2.2.2.2.2.1,v1.2.2.2.2.2.2.1,v1.2.2.2.2.2.2.2.1,(),v1.2.2.2.2.2.2.2.2.2.1,v1.2.2.2.2.2.2.2.2.2.2.1,v1.2.2.2.2.2.2.2.2.2.2.2,()),()),(v1.2.2.1,v1.2.2.2.2.2.2.2.2.1,()))
abbrev ypN (v0:dA):(yha).X:=((((),()),()),((v0.1,v0.2.1.1,v0.2.1.2,(),v0.2.2.2.1,v0.2.2.2.2.1,v0.2.2.2.2.2.1,v0.2.2.2.2.2.2.1,v0.2.2.2.2.2.2.2.1,(),v0.2.2.2.2.2.2.2.2.2.1,v0.2.2.2.2.2.2.2.2.2.2.1,v0.2.2.2.2.2.2.2.2.2.2.2,()),()),(v0.2.2.1,v0.2.2.2.2.2.2.2.2.1,()))
def yqa (v0 v1 v2 v3 v4 v5 v6 v7 v8 v9:Int) (v10 v11:Bool) (v12 v13 v14 v15 v16 v17 v18 v19 v20:Int) (v21 v22:Bool) (v23:List dM) (v24:List dW):Option ((ycK).X ⊕ ((ygO).X ⊕ (yha).X)) :=bif(ltb v0 4)then bnd (yo2 (v12,(v13,v14),v23,v15,v16,v17,v18,v19,v24,v20,v21,v22) v17) fun r6 =>bif(!(!r6.1.2.1))then bif(leb 60000 v17)then some (.inr (.inl ((((),()),((),()),()),((v1,v2,v3,(),v4,v5,v6,v7,v8,(),v9,v10,v11,()),(v12,v13,v14,(),v15,v16,v17,v18,v19,(),v20,v21,v22,()),()),(v23,v24,())))) else bnd (ybc (v12,(v13,v14),v23,v15,v16,v17,v18,v19,v24,v20,v21,v22) r6.1.1) fun r7 =>bif(!r7.1.1)then some (.inr (.inr ((((),()),()),((r7.2.1.1,r7.2.1.2.1.1,r7.2.1.2.1.2,(),r7.2.1.2.2.2.1,r7.2.1.2.2.2.2.1,r7.2.1.2.2.2.2.2.1,r7.2.1.2.2.2.2.2.2.1,r7.2.1.2.2.2.2.2.2.2.1,(),r7.2.1.2.2.2.2.2.2.2.2.2.1,r7.2.1.2.2.2.2.2.2.2.2.2.2.1,r7.2.1.2.2.2.2.2.2.2.2.2.2.2,()),()),(r7.2.1.2.2.1,r7.2.1.2.2.2.2.2.2.2.2.1,())))) else bnd (ya1 (r7.2.1.1,r7.2.1.2.1,r7.2.1.2.2.1,r7.2.1.2.2.2.1,r7.2.1.2.2.2.2.1,(i64.wrap (r7.2.1.2.2.2.2.2.1+1)),r7.2.1.2.2.2.2.2.2) r6.1.1.2.1 r6.1.1.2.2) fun r8 =>bif(!r8.1.1)then some (.inr (.inr ((((),()),()),((r8.2.1.1,r8.2.1.2.1.1,r8.2.1.2.1.2,(),r8.2.1.2.2.2.1,r8.2.1.2.2.2.2.1,r8.2.1.2.2.2.2.2.1,r8.2.1.2.2.2.2.2.2.1,r8.2.1.2.2.2.2.2.2.2.1,(),r8.2.1.2.2.2.2.2.2.2.2.2.1,r8.2.1.2.2.2.2.2.2.2.2.2.2.1,r8.2.1.2.2.2.2.2.2.2.2.2.2.2,()),()),(r8.2.1.2.2.1,r8.2.1.2.2.2.2.2.2.2.2.1,())))) else some (.inl ((((),()),((),()),((i64.wrap (v0+1)),()),()),((v1,v2,v3,(),v4,v5,v6,v7,v8,(),v9,v10,v11,()),(r8.2.1.1,r8.2.1.2.1.1,r8.2.1.2.1.2,(),r8.2.1.2.2.2.1,r8.2.1.2.2.2.2.1,r8.2.1.2.2.2.2.2.1,r8.2.1.2.2.2.2.2.2.1,r8.2.1.2.2.2.2.2.2.2.1,(),r8.2.1.2.2.2.2.2.2.2.2.2.1,r8.2.1.2.2.2.2.2.2.2.2.2.2.1,r8.2.1.2.2.2.2.2.2.2.2.2.2.2,()),()),(r8.2.1.2.2.1,r8.2.1.2.2.2.2.2.2.2.2.1,()))) else some (.inr (.inl ((((),()),((),()),()),((v1,v2,v3,(),v4,v5,v6,v7,v8,(),v9,v10,v11,()),(v12,v13,v14,(),v15,v16,v17,v18,v19,(),v20,v21,v22,()),()),(v23,v24,())))) else some (.inr (.inl ((((),()),((),()),()),((v1,v2,v3,(),v4,v5,v6,v7,v8,(),v9,v10,v11,()),(v12,v13,v14,(),v15,v16,v17,v18,v19,(),v20,v21,v22,()),()),(v23,v24,()))))
def yc8 (x:(ycK).X):=yqa x.1.2.2.1.1 x.2.1.1.1 x.2.1.1.2.1 x.2.1.1.2.2.1 x.2.1.1.2.2.2.2.1 x.2.1.1.2.2.2.2.2.1 x.2.1.1.2.2.2.2.2.2.1 x.2.1.1.2.2.2.2.2.2.2.1 x.2.1.1.2.2.2.2.2.2.2.2.1 x.2.1.1.2.2.2.2.2.2.2.2.2.2.1 x.2.1.1.2.2.2.2.2.2.2.2.2.2.2.1 x.2.1.1.2.2.2.2.2.2.2.2.2.2.2.2.1 x.2.1.2.1.1 x.2.1.2.1.2.1 x.2.1.2.1.2.2.1 x.2.1.2.1.2.2.2.2.1 x.2.1.2.1.2.2.2.2.2.1 x.2.1.2.1.2.2.2.2.2.2.1 x.2.1.2.1.2.2.2.2.2.2.2.1 x.2.1.2.1.2.2.2.2.2.2.2.2.1 x.2.1.2.1.2.2.2.2.2.2.2.2.2.2.1 x.2.1.2.1.2.2.2.2.2.2.2.2.2.2.2.1 x.2.1.2.1.2.2.2.2.2.2.2.2.2.2.2.2.1 x.2.2.1 x.2.2.2.1
def yA1 (x:(ygZ).X):(ycK).X:=((((),()),((),()),(0,()),()),((x.2.1.1.1,x.2.1.1.2.1,x.2.1.1.2.2.1,(),x.2.1.1.2.2.2.2.1,x.2.1.1.2.2.2.2.2.1,x.2.1.1.2.2.2.2.2.2.1,x.2.1.1.2.2.2.2.2.2.2.1,x.2.1.1.2.2.2.2.2.2.2.2.1,(),x.2.1.1.2.2.2.2.2.2.2.2.2.2.1,x.2.1.1.2.2.2.2.2.2.2.2.2.2.2.1,x.2.1.1.2.2.2.2.2.2.2.2.2.2.2.2.1,()),(x.2.1.2.1.1,x.2.1.2.1.2.1,x.2.1.2.1.2.2.1,(),x.2.1.2.1.2.2.2.2.1,x.2.1.2.1.2.2.2.2.2.1,x.2.1.2.1.2.2.2.2.2.2.1,x.2.1.2.1.2.2.2.2.2.2.2.1,x.2.1.2.1.2.2.2.2.2.2.2.2.1,(),x.2.1.2.1.2.2.2.2.2.2.2.2.2.2.1,x.2.1.2.1.2.2.2.2.2.2.2.2.2.2.2.1,x.2.1.2.1.2.2.2.2.2.2.2.2.2.2.2.2.1,()),()),(x.2.2.1,x.2.2.2.1,()))
def yC3:Code:=(zeJ yqE 64 244).getD .skip
theorem yOQ:zeJ yqE 64 61=some (.block 0 (.loop yC3)):=by kernel_rfl
theorem yRK (x:(ycK).X):zhu ⟨yy0,50,yEQ⟩ 0 yC3 244 ycK ygO yha x=yc8 x:=by kernel_rfl
def yBc (x:(ygZ).X):Nat:=18446744073709551616
def yri (x:(ygZ).X):Option ((ygO).X ⊕ (yha).X):=zF yc8 (yBc x) (yA1 x)
def yBB:Seg:=⟨ygZ,ygO,yha,yri⟩
def ySk:Nat→Option Seg:=fun q=>bif Nat.beq q 61 then some yBB else yEQ q
theorem yPg:FrOk prog ⟨yy0,50,ySk⟩ yqE:=(yPf).loop (sg:=yBB) ycK yA1 (by decide) yOQ yc8 yBc (by decide) (fun _=>rfl) (fun x r _ h=>h) yRK
abbrev yqR:List Par:= [.rd tA]
abbrev yzB:List OT:= [⟨false,tA,(.pr .fz (.pr (.pr .fz .fz) (.pr (.ow (.pr (.ow (.ow .fz)) (.pr (.ow (.pr .fz (.ow .fz))) (.pr .fz (.ow .fz))))) (.pr .fz (.pr .fz (.pr .fz (.pr .fz (.pr .fz (.pr (.ow (.pr .fz (.ow .fz))) (.pr .fz (.pr .fz .fz)))))))))))⟩]
def yuY (a0:dA):Option (zaY yzB×zak yqR) :=let r1:=ybP a0;let r2:=ydI a0;bif(!(!r2))then bif a0.2.2.2.2.2.2.2.2.2.2.2 then some ((r1,()),()) else zkr (yri ((((),()),((),()),((),()),()),((0,0,0,(),0,0,0,0,0,(),0,false,false,()),(r1.1,r1.2.1.1,r1.2.1.2,(),r1.2.2.2.1,r1.2.2.2.2.1,r1.2.2.2.2.2.1,r1.2.2.2.2.2.2.1,r1.2.2.2.2.2.2.2.1,(),r1.2.2.2.2.2.2.2.2.2.1,r1.2.2.2.2.2.2.2.2.2.2.1,r1.2.2.2.2.2.2.2.2.2.2.2,()),()),(r1.2.2.1,r1.2.2.2.2.2.2.2.2.1,()))) (fun y8 =>bnd (yhp (y8.2.1.2.1.1,(y8.2.1.2.1.2.1,y8.2.1.2.1.2.2.1),y8.2.2.1,y8.2.1.2.1.2.2.2.2.1,y8.2.1.2.1.2.2.2.2.2.1,y8.2.1.2.1.2.2.2.2.2.2.1,y8.2.1.2.1.2.2.2.2.2.2.2.1,y8.2.1.2.1.2.2.2.2.2.2.2.2.1,y8.2.2.2.1,y8.2.1.2.1.2.2.2.2.2.2.2.2.2.2.1,y8.2.1.2.1.2.2.2.2.2.2.2.2.2.2.2.1,y8.2.1.2.1.2.2.2.2.2.2.2.2.2.2.2.2.1)) fun r10 =>some ((r10.2.1,()),())) (fun y8 =>some (((y8.2.1.1.1,(y8.2.1.1.2.1,y8.2.1.1.2.2.1),y8.2.2.1,y8.2.1.1.2.2.2.2.1,y8.2.1.1.2.2.2.2.2.1,y8.2.1.1.2.2.2.2.2.2.1,y8.2.1.1.2.2.2.2.2.2.2.1,y8.2.1.1.2.2.2.2.2.2.2.2.1,y8.2.2.2.1,y8.2.1.1.2.2.2.2.2.2.2.2.2.2.1,y8.2.1.1.2.2.2.2.2.2.2.2.2.2.2.1,y8.2.1.1.2.2.2.2.2.2.2.2.2.2.2.2.1),()),())) else some ((r1,()),())
theorem yUC:ConOk prog 28 ⟨yqR,yzB,fun x=>yuY x.1⟩:=zkG (yPg) func28 ntmps28.symm fun x=>by kernel_rfl
def yhM (a0:dA):dA:=ylN a0
theorem yLH {α:Type} {c:Bool} (h:c=false) {x y:α}:(bif c then x else y)=y:=by subst h; rfl
theorem yLI {α:Type} {c:Bool} (h:c=true) {x y:α}:(bif c then x else y)=x:=by subst h; rfl
theorem yW2 (a0:dA) (hk:zjw yqR (a0,())):yuY a0=(fun n=>some ((n,()),())) (yhM a0):=by
 unfold yuY yhM;simp only[ybP];cases hm:(yal a0&&(!(ya a0)&&(!a0.2.2.2.2.2.2.2.2.2.2.2&&ltb a0.2.2.2.2.2.2.2.1 60000)))
 ·have hr:ylN a0=a0:=by unfold ylN; rw[hm]; rfl
  rw[hr];cases hmk:ydI a0
  ·rfl
  ·have:a0.2.2.2.2.2.2.2.2.2.2.2=true:=by
    unfold ydI at hmk;simp only[yO]at hmk;unfold ya at hm;revert hm hmk;cases yal a0<;>cases a0.2.2.2.2.2.2.2.2.2.2.1<;>cases ltb a0.2.2.2.2.2.2.2.1 60000<;>cases a0.2.2.2.2.2.2.2.2.2.2.2<;>decide
   rw[yLI (by rfl),yLI this]
 ·have hr:ylN a0=yLz a0:=by unfold ylN; rw[hm]; rfl
  rw[hr];simp only[Bool.and_eq_true,Bool.not_eq_true']at hm;obtain⟨ha,hdn,hbr,hlt⟩:=hm
  have hmk:ydI a0=true:=by
   unfold ydI;simp only[yO,ha,show a0.2.2.2.2.2.2.2.2.2.2.1=false from hdn,hlt]; rfl
  rw[hmk,yLI (by rfl),yLH hbr];have hgo:yd a0.2.1=true:=yiK ha;have hle:=yE2 ha
  have h1:=zkA (step:=yc8) 4 (fun i s=>ypD i yaD s) yp9 (fun _ s=>s.2.1=a0.2.1∧s.2.2.1.length=a0.2.2.1.length∧ya s=false) .inl
   (fun b=>match b with | .inl x=> .inl (yM8 yaD x) | .inr x=> .inr (ypN x)) (fun i s hi hs=>by
    constructor
    ·simp only[yc8,ypD,yqa,zkw (show(i:Int)<4 by omega),cond_true,wq ((i:Int)+1) (by omega) (by omega),Int.natCast_add,Int.natCast_one,Int.toNat_natCast,zkV]
     rw[yVs s s.2.2.2.2.2.1 (by unfold yo8; rw[hs.1,hgo]; rfl)];simp only[zkF,ykb];unfold yp9;cases hf:(yaz s s.2.2.2.2.2.1).2
     ·rfl
     ·cases leb 60000 s.2.2.2.2.2.1
      ·have ho:=y42 (a:=s) (q:=s.2.2.2.2.2.1) (by rw[hs.1]; exact hgo) hf
       have hr:ybc s (yaz s s.2.2.2.2.2.1).1=some ((!(ya (yhH s)),()),(yhH s,())):=yyG _ _ (by unfold ydS; rw[hs.2.2]; rfl)
       have hd:ya (yhH s)=false→ya1 (yC (yhH s)) (yaz s s.2.2.2.2.2.1).1.2.1 (yaz s s.2.2.2.2.2.1).1.2.2=some ((!(ya (yku s)),()),(yku s,())):=fun hd1=>yBv _ _ _ (by
         unfold yeG;simp only[Bool.and_eq_true,beq_iff_eq,Bool.not_eq_true'];rw[show(yC (yhH s)).2.1=s.2.1 from y1O s]
         exact⟨hd1,ho.1,ho.2,by rw[show(yC (yhH s)).2.2.1.length=s.2.2.1.length from yHM s _,hs.2.1,hle,hs.1]⟩)
       rw[hr];generalize yku s=R2 at hd ⊢;generalize yhH s=R1 at hd ⊢;generalize yaz s s.2.2.2.2.2.1=F at hd ⊢;unfold yC at hd;simp only[Bool.not_true,Bool.not_false,cond_true,cond_false,Bool.or_self,zkF];cases hd1:ya R1
       ·simp only[Bool.not_true,Bool.not_false,cond_true,cond_false,hd hd1,zkF]
        cases hd2:ya R2
        ·rfl
        ·simp only[hd2,Bool.not_true,Bool.not_false,cond_true,ypN]
       ·simp only[hd1,Bool.not_true,Bool.not_false,cond_true,ypN]
      ·rfl
    ·intro s' h
     unfold yp9 at h;cases hc:(!(yaz s s.2.2.2.2.2.1).2||leb 60000 s.2.2.2.2.2.1)
     ·rw[hc]at h
      cases hd1:ya (yhH s)
      ·rw[hd1]at h
       cases hd2:ya (yku s)
       ·rw[hd2]at h
        simp only[cond_false,Sum.inl.injEq]at h;subst h;exact⟨(y4D s).trans hs.1,(y4E s).trans hs.2.1,hd2⟩
       ·rw[hd2]at h; cases h
      ·rw[hd1]at h; cases h
     ·rw[hc]at h; cases h) (fun s hs=>by simp only[yc8,ypD,yqa]; rfl) a0 ⟨rfl,rfl,hdn⟩ 18446744073709551616 (by omega)
  have hdo: ∀b,goE yp9 .inl 4 0 a0= .inl b→ya b=false:=fun b hb=>y1P 4 0 a0 b hdn hb
  refine(congrArg (fun z=>zkr z _ _) (show yri (yNe yaD a0)=_ from h1)).trans ?_;unfold yLz;cases hg:goE yp9 .inl 4 0 a0 with
  | inl b =>
   simp only[zkL,zkV];rw[yBu b (by unfold yhr; rw[hdo b hg]; rfl)]; rfl
  | inr b=>rfl
def yFn:Con:=⟨yqR,yzB,fun x=>(fun n=>some ((n,()),())) (yhM x.1)⟩
theorem yXX:ConOk prog 28 yFn:=(yUC).mono (fun x r hk h=>(yW2 x.1 hk).trans h)
def yok:Code:=(f103.body).getD .skip
def yv7:Env:=zku TT [(81,yN),(127,yeA),(133,yhe),(158,yaG)] []
theorem yMu:FrOk prog ⟨yv7,45,fun _=>none⟩ yok:=zky yf yg ⟨y9,yhQ,ym6,ybH,trivial⟩
def yB8:Nat→Option Seg:=fun _=>none
def ybB:Shape:=⟨[(1,false,[.int .i64]),(4,false,[.ptr 64 0]),(5,false,[.ptr 4224 0]),(18,false,[.br tW]),(19,false,[.int .i64]),(20,false,[.int .i64])],[(64,[.nil,.nil,.bool,.nil]),(4224,[.at 800000000,.at 800000001,.bool,.at 800000002])],[(800000000,tL,(.ow .fz)),(800000001,tW,(.pr .fz (.ow .fz))),(800000002,tI,.fz)]⟩
def ye3:Shape:=⟨[(1,false,[.int .i64]),(4,false,[.ptr 64 0]),(5,false,[.ptr 4224 0]),(18,false,[.br tW]),(19,false,[.int .i64]),(20,false,[.int .i64])],[(64,[.nil,.nil,.bool,.nil]),(4224,[.at 800000000,.at 800000001,.bool,.at 800000002])],[(800000000,tL,(.ow .fz)),(800000001,tW,(.pr .fz (.ow .fz))),(800000002,tI,.fz)]⟩
def yeV:Shape:=⟨[(4,false,[.ptr 64 0]),(5,false,[.ptr 4224 0])],[(64,[.nil,.nil,.bool,.nil]),(4224,[.at 800000000,.at 800000001,.bool,.at 800000002])],[(800000000,tL,(.ow .fz)),(800000001,tW,(.pr .fz (.ow .fz))),(800000002,tI,.fz)]⟩
def yiy:Shape:=⟨[],[],[]⟩
abbrev yl2 (v0:Int) (v1:List dW) (v2 v3:Int) (v4 v5:dM):(ybB).X:=(((v0,()),((),()),((),()),(v1,()),(v2,()),(v3,()),()),(((),(),v4.2.2.1,(),()),((),(),v5.2.2.1,(),()),()),(v5.1,v5.2.1,v5.2.2.2,()))
abbrev yJd (v0:Int) (v1:List dW) (v2 v3:Int) (v4 v5:dM):(ye3).X:=(((v0,()),((),()),((),()),(v1,()),(v2,()),(v3,()),()),(((),(),v4.2.2.1,(),()),((),(),v5.2.2.1,(),()),()),(v5.1,v5.2.1,v5.2.2.2,()))
abbrev yvO (v0 v1:dM):(yeV).X:=((((),()),((),()),()),(((),(),v0.2.2.1,(),()),((),(),v1.2.2.1,(),()),()),(v1.1,v1.2.1,v1.2.2.2,()))
def ymf (v0:Int) (v1:List dW) (v2 v3:Int) (v4 v5:Bool) (v6:List (List Int)) (v7:List dW) (v8:List Int):Option ((ybB).X ⊕ ((yeV).X ⊕ (yiy).X)) :=bif(ltb v3 v2)then bif(inb v3 v1.length)then bif(ltb v3 20)then bif(leb 0 v3)then bif((i64.wrap ((BitVec.ofInt IntKind.i64.bits (v0.fdiv (2^(min (v3).toNat IntKind.i64.bits))) &&& BitVec.ofInt IntKind.i64.bits 1).toNat:Int))==1)then let r5:=yx ((nth v1 v3 (0,[])).2);bif(inb ((nth v1 v3 (0,[])).1) v6.length)then some (.inl (((v0,()),((),()),((),()),(v1,()),(v2,()),((i64.wrap (v3+1)),()),()),(((),(),v4,(),()),((),(),v5,(),()),()),((v6.set ((nth v1 v3 (0,[])).1).toNat r5),v7,v8,()))) else none else some (.inl (((v0,()),((),()),((),()),(v1,()),(v2,()),((i64.wrap (v3+1)),()),()),(((),(),v4,(),()),((),(),v5,(),()),()),(v6,v7,v8,()))) else none else some (.inl (((v0,()),((),()),((),()),(v1,()),(v2,()),((i64.wrap (v3+1)),()),()),(((),(),v4,(),()),((),(),v5,(),()),()),(v6,v7,v8,()))) else none else some (.inr (.inl ((((),()),((),()),()),(((),(),v4,(),()),((),(),v5,(),()),()),(v6,v7,v8,()))))
def ybT (x:(ybB).X):=ymf x.1.1.1 x.1.2.2.2.1.1 x.1.2.2.2.2.1.1 x.1.2.2.2.2.2.1.1 x.2.1.1.2.2.1 x.2.1.2.1.2.2.1 x.2.2.1 x.2.2.2.1 x.2.2.2.2.1
def yvA (x:(ye3).X):(ybB).X:=(((x.1.1.1,()),((),()),((),()),(x.1.2.2.2.1.1,()),(x.1.2.2.2.2.1.1,()),(x.1.2.2.2.2.2.1.1,()),()),(((),(),x.2.1.1.2.2.1,(),()),((),(),x.2.1.2.1.2.2.1,(),()),()),(x.2.2.1,x.2.2.2.1,x.2.2.2.2.1,()))
def yxO:Code:=(zeJ yok 64 500).getD .skip
theorem yJN:zeJ yok 64 125=some (.block 0 (.loop yxO)):=by kernel_rfl
theorem yLs (x:(ybB).X):zhu ⟨yv7,45,yB8⟩ 0 yxO 500 ybB yeV yiy x=ybT x:=by kernel_rfl
def yvI (x:(ye3).X):Nat:=18446744073709551616
def yhV (x:(ye3).X):Option ((yeV).X ⊕ (yiy).X):=zF ybT (yvI x) (yvA x)
def yvX:Seg:=⟨ye3,yeV,yiy,yhV⟩
def yOA:Nat→Option Seg:=fun q=>bif Nat.beq q 125 then some yvX else yB8 q
theorem yMv:FrOk prog ⟨yv7,45,yOA⟩ yok:=(yMu).loop (sg:=yvX) ybB yvA (by decide) yJN ybT yvI (by decide) (fun _=>rfl) (fun x r _ h=>h) yLs
abbrev yow:List Par:= [.rd tM,.rd tI]
abbrev ywx:List OT:= [⟨false,tM,(.pr (.ow (.ow .fz)) (.pr (.ow (.pr .fz (.ow .fz))) (.pr .fz (.ow .fz))))⟩]
def yrU (a0:dM) (a1:Int):Option (zaY ywx×zak yow) :=let r1:=yaN a0;let r2:=yav a0;bif(!r2)then some ((r1,()),()) else let r3:=yi a1 0 1048575;bif(!r3)then zkr (yhV (((0,()),((),()),((),()),(a0.2.1,()),((a0.2.1.length:Int),()),(0,()),()),(((),(),false,(),()),((),(),r1.2.2.1,(),()),()),(r1.1,r1.2.1,r1.2.2.2,()))) (fun y5 =>some (((y5.2.2.1,[],y5.2.1.2.1.2.2.1,y5.2.2.2.2.1),()),())) (fun y5 =>none) else zkr (yhV (((a1,()),((),()),((),()),(a0.2.1,()),((a0.2.1.length:Int),()),(0,()),()),(((),(),false,(),()),((),(),r1.2.2.1,(),()),()),(r1.1,r1.2.1,r1.2.2.2,()))) (fun y6 =>some (((y6.2.2.1,[],y6.2.1.2.1.2.2.1,y6.2.2.2.2.1),()),())) (fun y6 =>none)
theorem yQX:ConOk prog 103 ⟨yow,ywx,fun x=>yrU x.1 x.2.1⟩:=zkG (yMv) func103 ntmps103.symm fun x=>by kernel_rfl
def ygC (a0:dM) (a1:Int):dM:=ydQ a0 a1
theorem yT6 (a0:dM) (a1:Int) (hk:zjw yow (a0,a1,())):yrU a0 a1=(fun n=>some ((n,()),())) (ygC a0 a1):=by
 have hb2:a0.2.1.length*32≤2^47:=hk.1.2.1.1;unfold yrU ygC ydQ;simp only[yaN,yav,yao,ybM];cases hm:yw a0
 ·rfl
 have h1: ∀k,yhV (yJd k a0.2.1 a0.2.1.length 0 yc a0)=some (.inl (yvO yc (ygB (fun i=>decide (i<20)&&yLJ k i) a0.2.1 a0.1,a0.2))):=fun k =>
  zkB (step:=ybT) a0.2.1.length (fun i s=>yl2 k a0.2.1 a0.2.1.length i yc (s,a0.2)) (yfb (fun i=>decide (i<20)&&yLJ k i) a0.2.1) (fun i s=>s.length=a0.1.length) (fun s=> .inl (yvO yc (s,a0.2))) (fun i s hi hs=>by
   have hw:=(yP3 hm hi).1;refine⟨?_,yuD.trans hs⟩;simp only[ybT,yl2,ymf,zkw (show(i:Int)<a0.2.1.length by omega),cond_true,wq ((i:Int)+1) (by omega) (by omega),Int.natCast_add,Int.natCast_one,Int.toNat_natCast,zk0 (show(0:Int)≤i by omega),zkP hi,hs,hw,yfb,yx];rw[show yLJ k i=(i64.wrap ((BitVec.ofInt IntKind.i64.bits (k.fdiv (2^(min i IntKind.i64.bits))) &&& BitVec.ofInt IntKind.i64.bits 1).toNat:Int)==1)from rfl];by_cases h20:i<20
   ·rw[zkw (show(i:Int)<20 by omega),decide_eq_true h20]
    cases(i64.wrap ((BitVec.ofInt IntKind.i64.bits (k.fdiv (2^(min i IntKind.i64.bits))) &&& BitVec.ofInt IntKind.i64.bits 1).toNat:Int)==1)<;>rfl
   ·rw[zk1 (show(20:Int)≤i by omega),decide_eq_false h20]; rfl) (fun s hs=>by simp only[ybT,yl2,ymf,zk1 (Int.le_refl _),cond_false]) a0.1 rfl _ (by show _<18446744073709551616; omega)
 unfold yTP;rw[h1 0,h1 a1];cases(leb 0 a1&&leb a1 1048575)<;>rfl
def yDf:Con:=⟨yow,ywx,fun x=>(fun n=>some ((n,()),())) (ygC x.1 x.2.1)⟩
theorem yVb:ConOk prog 103 yDf:=(yQX).mono (fun x r hk h=>(yT6 x.1 x.2.1 hk).trans h)
def yxx:Code:=(f32.body).getD .skip
def yGk:Env:=zku TT [(103,yDf)] []
theorem yWK:FrOk prog ⟨yGk,33,fun _=>none⟩ yxx:=zky yf yg ⟨yVb,trivial⟩
def yIC:Nat→Option Seg:=fun _=>none
def yev:Shape:=⟨[(1,false,[.br tI]),(5,false,[.at 800000000]),(10,false,[.br tM]),(11,false,[.int .i64]),(12,false,[.int .i64])],[],[(800000000,tM,(.pr (.ow (.ow .fz)) (.pr (.ow (.pr .fz (.ow .fz))) (.pr .fz (.ow .fz)))))]⟩
def yjW:Shape:=⟨[(1,false,[.br tI]),(5,false,[.at 800000000]),(10,false,[.br tM]),(11,false,[.int .i64]),(12,false,[.ci .i64 0])],[],[(800000000,tM,(.pr (.ow (.ow .fz)) (.pr (.ow (.pr .fz (.ow .fz))) (.pr .fz (.ow .fz)))))]⟩
def yjS:Shape:=⟨[(5,false,[.at 800000000])],[],[(800000000,tM,(.pr (.ow (.ow .fz)) (.pr (.ow (.pr .fz (.ow .fz))) (.pr .fz (.ow .fz)))))]⟩
def yoO:Shape:=⟨[],[],[]⟩
abbrev yuF (v0:List Int) (v1:List dM) (v2 v3:Int) (v4:List dM):(yev).X:=(((v0,()),((),()),(v1,()),(v2,()),(v3,()),()),(),(v4,()))
abbrev yTZ (v0:List Int) (v1:List dM) (v2:Int) (v3:List dM):(yjW).X:=(((v0,()),((),()),(v1,()),(v2,()),((),()),()),(),(v3,()))
abbrev yFQ (v0:List dM):(yjS).X:=((((),()),()),(),(v0,()))
def yvk (v0:List Int) (v1:List dM) (v2 v3:Int) (v4:List dM):Option ((yev).X ⊕ ((yjS).X ⊕ (yoO).X)) :=bif(ltb v3 v2)then bif(inb v3 v1.length)then bif(ltb v3 (v0.length:Int))then bif(inb v3 v0.length)then let r3:=ygC ((nth v1 v3 ([],[],false,[])).1,((nth v1 v3 ([],[],false,[])).2).1,(((nth v1 v3 ([],[],false,[])).2).2)) (nth v0 v3 0);bif(zkj v4.length ([r3]:List dM).length 80)then some (.inl (((v0,()),((),()),(v1,()),(v2,()),((i64.wrap (v3+1)),()),()),(),((v4++([r3]:List dM)),()))) else none else none else let r4:=ygC ((nth v1 v3 ([],[],false,[])).1,((nth v1 v3 ([],[],false,[])).2).1,(((nth v1 v3 ([],[],false,[])).2).2)) 0;bif(zkj v4.length ([r4]:List dM).length 80)then some (.inl (((v0,()),((),()),(v1,()),(v2,()),((i64.wrap (v3+1)),()),()),(),((v4++([r4]:List dM)),()))) else none else none else some (.inr (.inl ((((),()),()),(),(v4,()))))
def yeJ (x:(yev).X):=yvk x.1.1.1 x.1.2.2.1.1 x.1.2.2.2.1.1 x.1.2.2.2.2.1.1 x.2.2.1
def yFE (x:(yjW).X):(yev).X:=(((x.1.1.1,()),((),()),(x.1.2.2.1.1,()),(x.1.2.2.2.1.1,()),(0,()),()),(),(x.2.2.1,()))
def yGZ:Code:=(zeJ yxx 64 116).getD .skip
theorem yWB:zeJ yxx 64 29=some (.block 0 (.loop yGZ)):=by kernel_rfl
theorem yYj (x:(yev).X):zhu ⟨yGk,33,yIC⟩ 0 yGZ 116 yev yjS yoO x=yeJ x:=by kernel_rfl
def yFI (x:(yjW).X):Nat:=18446744073709551616
def ywj (x:(yjW).X):Option ((yjS).X ⊕ (yoO).X):=zF yeJ (yFI x) (yFE x)
def yGg:Seg:=⟨yjW,yjS,yoO,ywj⟩
def yZz:Nat→Option Seg:=fun q=>bif Nat.beq q 29 then some yGg else yIC q
theorem yWL:FrOk prog ⟨yGk,33,yZz⟩ yxx:=(yWK).loop (sg:=yGg) yev yFE (by decide) yWB yeJ yFI (by decide) (fun _=>rfl) (fun x r _ h=>h) yYj
abbrev yxA:List Par:= [.rd tMs,.rd tL]
abbrev yGp:List OT:= [⟨false,tMs,(.ow (.pr (.ow (.ow .fz)) (.pr (.ow (.pr .fz (.ow .fz))) (.pr .fz (.ow .fz)))))⟩]
def yAj (a0:List dM) (a1:List Int):Option (zaY yGp×zak yxA) :=zkr (ywj (((a1,()),((),()),(a0,()),((a0.length:Int),()),((),()),()),(),(([]:List dM),()))) (fun y4 =>some ((y4.2.2.1,()),())) (fun y4 =>none)
theorem y0u:ConOk prog 32 ⟨yxA,yGp,fun x=>yAj x.1 x.2.1⟩:=zkG (yWL) func32 ntmps32.symm fun x=>by kernel_rfl
def yqx (a0:List dM) (a1:List Int):List dM:=yag a0 a1
theorem y1E (a0:List dM) (a1:List Int) (hk:zjw yxA (a0,a1,())):yAj a0 a1=(fun n=>some ((n,()),())) (yqx a0 a1):=by
 have hb:a0.length*80≤2^47:=hk.1.1
 have h1:ywj (yTZ a1 a0 a0.length [])=some (.inl (yFQ ((List.range a0.length).foldl (fun s (i:Nat)=>s++ [ydQ (nth a0 i yc) (yKC a1 i)]) []))) :=
  zkB (step:=yeJ) a0.length (fun i s=>yuF a1 a0 a0.length i s) (fun s (i:Nat)=>s++ [ydQ (nth a0 i yc) (yKC a1 i)]) (fun i s=>s.length=i) (fun s=> .inl (yFQ s)) (fun i s hi hs=>⟨by
   simp only[yeJ,yuF,yvk,zkw (show(i:Int)<a0.length by omega),cond_true,wq ((i:Int)+1) (by omega) (by omega),Int.natCast_add,Int.natCast_one,Int.toNat_natCast,zkP hi,zkV,ygC,yKC];rw[zkD.2 (show(s.length+ [ydQ (nth a0 i ([],[],false,[])) (nth a1 i 0)].length)*80≤140737488355328 by simp only[List.length_cons,List.length_nil]; omega),zkD.2 (show(s.length+ [ydQ (nth a0 i ([],[],false,[])) 0].length)*80≤140737488355328 by simp only[List.length_cons,List.length_nil]; omega)];by_cases h:i<a1.length
   ·rw[zkw (show(i:Int)<a1.length by omega),zkP h,decide_eq_true h]; rfl
   ·rw[zk1 (show(a1.length:Int)≤i by omega),decide_eq_false h]; rfl,by simp[hs]⟩) (fun s hs=>by simp only[yeJ,yuF,yvk,zk1 (Int.le_refl _),cond_false]) [] rfl _ (by show _<18446744073709551616; omega)
 unfold yAj yqx yag;rw[h1,ykZ]; rfl
def yIF:Con:=⟨yxA,yGp,fun x=>(fun n=>some ((n,()),())) (yqx x.1 x.2.1)⟩
theorem y1K:ConOk prog 32 yIF:=(y0u).mono (fun x r hk h=>(y1E x.1 x.2.1 hk).trans h)
def yVV:Code:=(f19.body).getD .skip
def yWm:Env:=zku TT [(16,yAK),(28,yFn),(32,yIF),(81,yN)] []
theorem yMB:FrOk prog ⟨yWm,29,fun _=>none⟩ yVV:=zky yf yg ⟨yRp,yXX,y1K,y9,trivial⟩
abbrev yoz:List Par:= [.rd tMs,.rd tL,.rd tI,.rd tI]
abbrev ywA:List OT:= [⟨false,tA,(.pr .fz (.pr (.pr .fz .fz) (.pr (.ow (.pr (.ow (.ow .fz)) (.pr (.ow (.pr .fz (.ow .fz))) (.pr .fz (.ow .fz))))) (.pr .fz (.pr .fz (.pr .fz (.pr .fz (.pr .fz (.pr (.ow (.pr .fz (.ow .fz))) (.pr .fz (.pr .fz .fz)))))))))))⟩,⟨false,tB,.fz⟩]
def yrY (a0:List dM) (a1:List Int) (a2 a3:Int):Option (zaY ywA×zak yoz) :=let r1:=yqx a0 a1;let r2:=yiS r1 a2;bif(!r2.2)then some (((0,(0,0),[],0,0,0,0,0,[],0,false,false),false,()),()) else let r3:=yi a3 (-1) 1000;bif r3 then let r4:=yhM (r2.1.1,r2.1.2.1,r2.1.2.2.1,r2.1.2.2.2.1,r2.1.2.2.2.2.1,r2.1.2.2.2.2.2.1,r2.1.2.2.2.2.2.2.1,r2.1.2.2.2.2.2.2.2.1,r2.1.2.2.2.2.2.2.2.2.1,a3,r2.1.2.2.2.2.2.2.2.2.2.2);some ((r4,true,()),()) else let r5:=yhM r2.1;some ((r5,true,()),())
theorem yQ1:ConOk prog 19 ⟨yoz,ywA,fun x=>yrY x.1 x.2.1 x.2.2.1 x.2.2.2.1⟩:=zkG (yMB) func19 ntmps19.symm fun x=>by kernel_rfl
def ygE (a0:List dM) (a1:List Int) (a2 a3:Int):dA×Bool:=yn1 a0 a1 a2 a3
theorem yUa (a0:List dM) (a1:List Int) (a2 a3:Int) (hk:zjw yoz (a0,a1,a2,a3,())):yrY a0 a1 a2 a3=(fun n=>some ((n.1,n.2,()),())) (ygE a0 a1 a2 a3):=by
 unfold yrY ygE yn1;simp only[yqx,yiS,yao,ybM,yhM];cases h:(yfI (yag a0 a1) a2).2
 ·rfl
 ·cases(leb (-1) a3&&leb a3 1000)<;>rfl
def yDi:Con:=⟨yoz,ywA,fun x=>(fun n=>some ((n.1,n.2,()),())) (ygE x.1 x.2.1 x.2.2.1 x.2.2.2.1)⟩
theorem yVe:ConOk prog 19 yDi:=(yQ1).mono (fun x r hk h=>(yUa x.1 x.2.1 x.2.2.1 x.2.2.2.1 hk).trans h)
def yR3:Code:=(f34.body).getD .skip
def ySx:Env:=zku TT [(55,yez),(95,ykW)] []
theorem yKc:FrOk prog ⟨ySx,11,fun _=>none⟩ yR3:=zky yf yg ⟨yhP,yuQ,trivial⟩
abbrev ymv:List Par:= [.rd tA]
abbrev ytG:List OT:= [⟨false,tA,(.pr .fz (.pr (.pr .fz .fz) (.pr (.ow (.pr (.ow (.ow .fz)) (.pr (.ow (.pr .fz (.ow .fz))) (.pr .fz (.ow .fz))))) (.pr .fz (.pr .fz (.pr .fz (.pr .fz (.pr .fz (.pr (.ow (.pr .fz (.ow .fz))) (.pr .fz (.pr .fz .fz)))))))))))⟩]
def ypW (a0:dA):Option (zaY ytG×zak ymv) :=let r1:=ybP a0;let r2:=yO a0;bif r2 then some (((r1.1,r1.2.1,r1.2.2.1,r1.2.2.2.1,r1.2.2.2.2.1,r1.2.2.2.2.2.1,r1.2.2.2.2.2.2.1,r1.2.2.2.2.2.2.2.1,r1.2.2.2.2.2.2.2.2.1,(-1),true,r1.2.2.2.2.2.2.2.2.2.2.2),()),()) else some ((r1,()),())
theorem yND:ConOk prog 34 ⟨ymv,ytG,fun x=>ypW x.1⟩:=zkG (yKc) func34 ntmps34.symm fun x=>by kernel_rfl
def yfu (a0:dA):dA:=bif yal a0 then y5U a0 else a0
theorem yQE (a0:dA) (hk:zjw ymv (a0,())):ypW a0=(fun n=>some ((n,()),())) (yfu a0):=by
 unfold ypW yfu yO ybP;cases yal a0<;>rfl
def yAN:Con:=⟨ymv,ytG,fun x=>(fun n=>some ((n,()),())) (yfu x.1)⟩
theorem yRs:ConOk prog 34 yAN:=(yND).mono (fun x r hk h=>(yQE x.1 hk).trans h)
def yZi:Code:=(f141.body).getD .skip
def yZP:Env:=zku TT [(87,ykV),(111,yt6),(168,yt8)] []
theorem yPo:FrOk prog ⟨yZP,38,fun _=>none⟩ yZi:=zky yf yg ⟨yuP,yHo,yHq,trivial⟩
abbrev yll:List Par:= [.rd tA,.rd tI,.rd tI]
abbrev yq1:List OT:= [⟨false,tI,.fz⟩,⟨false,tB,.fz⟩]
def yuZ (a0:dA) (a1 a2:Int):Option (zaY yq1×zak yll) :=bif(inb a1 a0.2.2.1.length)then let r1:=ylx a2;let r2:=ybO ((nth a0.2.2.1 a1 ([],[],false,[])).1,((nth a0.2.2.1 a1 ([],[],false,[])).2).1,(((nth a0.2.2.1 a1 ([],[],false,[])).2).2)) r1;let r3:=yfM a0 a1 a2;bif(!(!r3))then bif(!(!r2.2))then bif((r2.1.length:Int) !=1)then some ((0,false,()),()) else bif(inb 0 r2.1.length)then some (((nth r2.1 0 0),true,()),()) else none else some ((0,false,()),()) else some ((0,false,()),()) else none
theorem yUK:ConOk prog 141 ⟨yll,yq1,fun x=>yuZ x.1 x.2.1 x.2.2.1⟩:=zkG (yPo) func141 ntmps141.symm fun x=>by kernel_rfl
def yhN (a0:dA) (a1 a2:Int):Int×Bool:=(yjj a0 a1 a2,yF a0 a1 a2)
def yAe (a0:dA) (a1 a2:Int):Bool:=inb a1 a0.2.2.1.length
theorem yXa (a0:dA) (a1 a2:Int) (hk:zjw yll (a0,a1,a2,())) (hq:yAe a0 a1 a2=true):yuZ a0 a1 a2=(fun n=>some ((n.1,n.2,()),())) (yhN a0 a1 a2):=by
 unfold yuZ yhN yjj yfM;simp only[zkV,yHk,ybO];rw[show yF a0 a1 a2=(ycC a0 a1 a2&&((ydj a0 a1 a2).2&&((ydj a0 a1 a2).1.length:Int)==1))from rfl];rw[show yR (nth a0.2.2.1 a1 ([],[],false,[])) (yA a2)=ydj a0 a1 a2 from rfl];rw[show inb a1 a0.2.2.1.length=true from hq];cases hl:ycC a0 a1 a2
 ·rfl
 ·cases(ydj a0 a1 a2).2
  ·rfl
  ·rw[bne]
   cases h1:(((ydj a0 a1 a2).1.length:Int)==1)
   ·rfl
   ·rw[show inb 0 (ydj a0 a1 a2).1.length=true from zj4.2 (by have:=beq_iff_eq.1 h1; omega)]; rfl
def ylH (a0:dA) (a1 a2:Int):Option (zaY yq1×zak yll):=bif yAe a0 a1 a2 then(fun n=>some ((n.1,n.2,()),())) (yhN a0 a1 a2)else none
theorem yHB (a0:dA) (a1 a2:Int) (h:yAe a0 a1 a2=true):ylH a0 a1 a2=(fun n=>some ((n.1,n.2,()),())) (yhN a0 a1 a2):=by unfold ylH; rw[h]; rfl
def yue:Con:=⟨yll,yq1,fun x=>ylH x.1 x.2.1 x.2.2.1⟩
theorem yHu:ConOk prog 141 yue:=(yUK).mono (fun x r hk h=>zkW h (fun hq=>yXa x.1 x.2.1 x.2.2.1 hk hq))
def ysL:Code:=(f122.body).getD .skip
def yCn:Env:=zku TT [(141,yue),(185,yoQ)] []
theorem yTl:FrOk prog ⟨yCn,33,fun _=>none⟩ ysL:=zky yf yg ⟨yHu,yAc,trivial⟩
def yGK:Nat→Option Seg:=fun _=>none
def ydp:Shape:=⟨[(1,false,[.int .i64]),(2,false,[.ptr 0 0]),(6,false,[.at 800000000]),(13,false,[.int .i64]),(14,false,[.int .i64])],[(0,[.int .i64,.int .i64,.int .i64,.br tM,.int .i64,.int .i64,.int .i64,.int .i64,.int .i64,.br tW,.int .i64,.bool,.bool])],[(800000000,tI,.fz)]⟩
def yim:Shape:=⟨[(1,false,[.int .i64]),(2,false,[.ptr 0 0]),(6,false,[.at 800000000]),(13,false,[.int .i64]),(14,false,[.ci .i64 0])],[(0,[.int .i64,.int .i64,.int .i64,.br tM,.int .i64,.int .i64,.int .i64,.int .i64,.int .i64,.br tW,.int .i64,.bool,.bool])],[(800000000,tI,.fz)]⟩
def yh8:Shape:=⟨[(6,false,[.at 800000000])],[],[(800000000,tI,.fz)]⟩
def yiD:Shape:=⟨[(4,false,[.int .i64]),(5,false,[.bool])],[],[]⟩
abbrev yrH (v0 v1 v2:Int) (v3:dA) (v4:List Int):(ydp).X:=(((v0,()),((),()),((),()),(v1,()),(v2,()),()),((v3.1,v3.2.1.1,v3.2.1.2,v3.2.2.1,v3.2.2.2.1,v3.2.2.2.2.1,v3.2.2.2.2.2.1,v3.2.2.2.2.2.2.1,v3.2.2.2.2.2.2.2.1,v3.2.2.2.2.2.2.2.2.1,v3.2.2.2.2.2.2.2.2.2.1,v3.2.2.2.2.2.2.2.2.2.2.1,v3.2.2.2.2.2.2.2.2.2.2.2,()),()),(v4,()))
abbrev yQg (v0 v1:Int) (v2:dA) (v3:List Int):(yim).X:=(((v0,()),((),()),((),()),(v1,()),((),()),()),((v2.1,v2.2.1.1,v2.2.1.2,v2.2.2.1,v2.2.2.2.1,v2.2.2.2.2.1,v2.2.2.2.2.2.1,v2.2.2.2.2.2.2.1,v2.2.2.2.2.2.2.2.1,v2.2.2.2.2.2.2.2.2.1,v2.2.2.2.2.2.2.2.2.2.1,v2.2.2.2.2.2.2.2.2.2.2.1,v2.2.2.2.2.2.2.2.2.2.2.2,()),()),(v3,()))
abbrev yD5 (v0:List Int):(yh8).X:=((((),()),()),(),(v0,()))
abbrev yQu (v0:Int) (v1:Bool):(yiD).X:=(((v0,()),(v1,()),()),(),())
def ysg (v0 v1 v2 v3 v4 v5:Int) (v6:List dM) (v7 v8 v9 v10 v11:Int) (v12:List dW) (v13:Int) (v14 v15:Bool) (v16:List Int):Option ((ydp).X ⊕ ((yh8).X ⊕ (yiD).X)) :=bif(ltb v2 v1)then bnd (ylH (v3,(v4,v5),v6,v7,v8,v9,v10,v11,v12,v13,v14,v15) v2 v0) fun r2 =>bif(!r2.1.2.1)then some (.inr (.inr (((0,()),(false,()),()),(),()))) else bif(zkj v16.length ([r2.1.1]:List Int).length 8)then some (.inl (((v0,()),((),()),((),()),(v1,()),((i64.wrap (v2+1)),()),()),((v3,v4,v5,v6,v7,v8,v9,v10,v11,v12,v13,v14,v15,()),()),((v16++([r2.1.1]:List Int)),()))) else none else some (.inr (.inl ((((),()),()),(),(v16,()))))
def ydX (x:(ydp).X):=ysg x.1.1.1 x.1.2.2.2.1.1 x.1.2.2.2.2.1.1 x.2.1.1.1 x.2.1.1.2.1 x.2.1.1.2.2.1 x.2.1.1.2.2.2.1 x.2.1.1.2.2.2.2.1 x.2.1.1.2.2.2.2.2.1 x.2.1.1.2.2.2.2.2.2.1 x.2.1.1.2.2.2.2.2.2.2.1 x.2.1.1.2.2.2.2.2.2.2.2.1 x.2.1.1.2.2.2.2.2.2.2.2.2.1 x.2.1.1.2.2.2.2.2.2.2.2.2.2.1 x.2.1.1.2.2.2.2.2.2.2.2.2.2.2.1 x.2.1.1.2.2.2.2.2.2.2.2.2.2.2.2.1 x.2.2.1
def yDB (x:(yim).X):(ydp).X:=(((x.1.1.1,()),((),()),((),()),(x.1.2.2.2.1.1,()),(0,()),()),((x.2.1.1.1,x.2.1.1.2.1,x.2.1.1.2.2.1,x.2.1.1.2.2.2.1,x.2.1.1.2.2.2.2.1,x.2.1.1.2.2.2.2.2.1,x.2.1.1.2.2.2.2.2.2.1,x.2.1.1.2.2.2.2.2.2.2.1,x.2.1.1.2.2.2.2.2.2.2.2.1,x.2.1.1.2.2.2.2.2.2.2.2.2.1,x.2.1.1.2.2.2.2.2.2.2.2.2.2.1,x.2.1.1.2.2.2.2.2.2.2.2.2.2.2.1,x.2.1.1.2.2.2.2.2.2.2.2.2.2.2.2.1,()),()),(x.2.2.1,()))
def yE8:Code:=(zeJ ysL 64 116).getD .skip
theorem ySR:zeJ ysL 64 29=some (.block 0 (.loop yE8)):=by kernel_rfl
theorem yVC (x:(ydp).X):zhu ⟨yCn,33,yGK⟩ 0 yE8 116 ydp yh8 yiD x=ydX x:=by kernel_rfl
def yDR (x:(yim).X):Nat:=18446744073709551616
def ys9 (x:(yim).X):Option ((yh8).X ⊕ (yiD).X):=zF ydX (yDR x) (yDB x)
def yEy:Seg:=⟨yim,yh8,yiD,ys9⟩
def yWc:Nat→Option Seg:=fun q=>bif Nat.beq q 29 then some yEy else yGK q
theorem yTm:FrOk prog ⟨yCn,33,yWc⟩ ysL:=(yTl).loop (sg:=yEy) ydp yDB (by decide) ySR ydX yDR (by decide) (fun _=>rfl) (fun x r _ h=>h) yVC
abbrev yto:List Par:= [.rd tA,.rd tI]
abbrev yCK:List OT:= [⟨false,tI,.fz⟩,⟨false,tB,.fz⟩]
def yxd (a0:dA) (a1:Int):Option (zaY yCK×zak yto) :=zkr (ys9 (((a1,()),((),()),((),()),((a0.2.2.1.length:Int),()),((),()),()),((a0.1,a0.2.1.1,a0.2.1.2,a0.2.2.1,a0.2.2.2.1,a0.2.2.2.2.1,a0.2.2.2.2.2.1,a0.2.2.2.2.2.2.1,a0.2.2.2.2.2.2.2.1,a0.2.2.2.2.2.2.2.2.1,a0.2.2.2.2.2.2.2.2.2.1,a0.2.2.2.2.2.2.2.2.2.2.1,a0.2.2.2.2.2.2.2.2.2.2.2,()),()),(([]:List Int),()))) (fun y2 =>let r4:=ycE y2.2.2.1;some ((r4,true,()),())) (fun y2 =>some ((y2.1.1.1,y2.1.2.1.1,()),()))
theorem yXC:ConOk prog 122 ⟨yto,yCK,fun x=>yxd x.1 x.2.1⟩:=zkG (yTm) func122 ntmps122.symm fun x=>by kernel_rfl
def ynR (a0:dA) (a1:Int):Int×Bool:=yre a0 a1
theorem y0e (a0:dA) (a1:Int) (hk:zjw yto (a0,a1,())):yxd a0 a1=(fun n=>some ((n.1,n.2,()),())) (ynR a0 a1):=by
 have hb:a0.2.2.1.length*80≤2^47:=hk.1.2.2.1.1
 have h1:ys9 (yQg a1 a0.2.2.1.length a0 [])=some (bif yC1 a0 a1 then .inl (yD5 ((List.range a0.2.2.1.length).foldl (fun n (i:Nat)=>n++ [yjj a0 i a1]) []))else .inr (yQu 0 false)) :=
  zhU (step:=ydX) a0.2.2.1.length (fun i s=>yrH a1 a0.2.2.1.length i a0 s) (fun(i:Nat)=>yF a0 i a1) (fun n (i:Nat)=>n++ [yjj a0 i a1]) (fun i s=>s.length=i) (fun s=> .inl (yD5 s)) _ (fun i s hi hs=>⟨by
   simp only[ydX,yrH,ysg,zkw (show(i:Int)<a0.2.2.1.length by omega),cond_true,wq ((i:Int)+1) (by omega) (by omega),Int.natCast_add,Int.natCast_one,Int.toNat_natCast,zkV,yHB a0 i a1 (zkP hi),yhN,zkF];rw[show zkj s.length ([yjj a0 i a1]:List Int).length 8=true from zkD.2 (by simp only[List.length_cons,List.length_nil]; omega)]
   cases yF a0 i a1<;>rfl,fun _=>by simp[hs]⟩) (fun s _=>by simp only[ydX,yrH,ysg,zk1 (Int.le_refl _),cond_false]) [] rfl _ (by show _<18446744073709551616; omega)
 unfold yxd ynR yre ycE;rw[h1,ykZ,List.nil_append];cases yC1 a0 a1<;>rfl
def yG3:Con:=⟨yto,yCK,fun x=>(fun n=>some ((n.1,n.2,()),())) (ynR x.1 x.2.1)⟩
theorem y0z:ConOk prog 122 yG3:=(yXC).mono (fun x r hk h=>(y0e x.1 x.2.1 hk).trans h)
def yxw:Code:=(f48.body).getD .skip
def yGj:Env:=zku TT [(122,yG3)] []
theorem yWI:FrOk prog ⟨yGj,28,fun _=>none⟩ yxw:=zky yf yg ⟨y0z,trivial⟩
def yIB:Nat→Option Seg:=fun _=>none
def yeu:Shape:=⟨[(1,false,[.ptr 0 0]),(3,false,[.int .i64])],[(0,[.int .i64,.int .i64,.int .i64,.br tM,.int .i64,.int .i64,.int .i64,.int .i64,.int .i64,.br tW,.int .i64,.bool,.bool])],[]⟩
def yjV:Shape:=⟨[(1,false,[.ptr 0 0]),(3,false,[.ci .i64 0])],[(0,[.int .i64,.int .i64,.int .i64,.br tM,.int .i64,.int .i64,.int .i64,.int .i64,.int .i64,.br tW,.int .i64,.bool,.bool])],[]⟩
def yjR:Shape:=⟨[],[],[]⟩
def yj0:Shape:=⟨[(2,false,[.bool])],[],[]⟩
abbrev yuE (v0:Int) (v1:dA):(yeu).X:=((((),()),(v0,()),()),((v1.1,v1.2.1.1,v1.2.1.2,v1.2.2.1,v1.2.2.2.1,v1.2.2.2.2.1,v1.2.2.2.2.2.1,v1.2.2.2.2.2.2.1,v1.2.2.2.2.2.2.2.1,v1.2.2.2.2.2.2.2.2.1,v1.2.2.2.2.2.2.2.2.2.1,v1.2.2.2.2.2.2.2.2.2.2.1,v1.2.2.2.2.2.2.2.2.2.2.2,()),()),())
abbrev yTY (v0:dA):(yjV).X:=((((),()),((),()),()),((v0.1,v0.2.1.1,v0.2.1.2,v0.2.2.1,v0.2.2.2.1,v0.2.2.2.2.1,v0.2.2.2.2.2.1,v0.2.2.2.2.2.2.1,v0.2.2.2.2.2.2.2.1,v0.2.2.2.2.2.2.2.2.1,v0.2.2.2.2.2.2.2.2.2.1,v0.2.2.2.2.2.2.2.2.2.2.1,v0.2.2.2.2.2.2.2.2.2.2.2,()),()),())
abbrev yTV  :(yjR).X:=((),(),())
abbrev yT2 (v0:Bool):(yj0).X:=(((v0,()),()),(),())
def yvj (v0 v1 v2 v3:Int) (v4:List dM) (v5 v6 v7 v8 v9:Int) (v10:List dW) (v11:Int) (v12 v13:Bool):Option ((yeu).X ⊕ ((yjR).X ⊕ (yj0).X)) :=bif(ltb v0 v3)then bif(ltb v0 20)then let r2:=ynR (v1,(v2,v3),v4,v5,v6,v7,v8,v9,v10,v11,v12,v13) v0;bif r2.2 then bif(r2.1 !=0)then some (.inr (.inr (((false,()),()),(),()))) else some (.inl ((((),()),((i64.wrap (v0+1)),()),()),((v1,v2,v3,v4,v5,v6,v7,v8,v9,v10,v11,v12,v13,()),()),())) else some (.inl ((((),()),((i64.wrap (v0+1)),()),()),((v1,v2,v3,v4,v5,v6,v7,v8,v9,v10,v11,v12,v13,()),()),())) else some (.inr (.inl ((),(),()))) else some (.inr (.inl ((),(),())))
def yeI (x:(yeu).X):=yvj x.1.2.1.1 x.2.1.1.1 x.2.1.1.2.1 x.2.1.1.2.2.1 x.2.1.1.2.2.2.1 x.2.1.1.2.2.2.2.1 x.2.1.1.2.2.2.2.2.1 x.2.1.1.2.2.2.2.2.2.1 x.2.1.1.2.2.2.2.2.2.2.1 x.2.1.1.2.2.2.2.2.2.2.2.1 x.2.1.1.2.2.2.2.2.2.2.2.2.1 x.2.1.1.2.2.2.2.2.2.2.2.2.2.1 x.2.1.1.2.2.2.2.2.2.2.2.2.2.2.1 x.2.1.1.2.2.2.2.2.2.2.2.2.2.2.2.1
def yFD (x:(yjV).X):(yeu).X:=((((),()),(0,()),()),((x.2.1.1.1,x.2.1.1.2.1,x.2.1.1.2.2.1,x.2.1.1.2.2.2.1,x.2.1.1.2.2.2.2.1,x.2.1.1.2.2.2.2.2.1,x.2.1.1.2.2.2.2.2.2.1,x.2.1.1.2.2.2.2.2.2.2.1,x.2.1.1.2.2.2.2.2.2.2.2.1,x.2.1.1.2.2.2.2.2.2.2.2.2.1,x.2.1.1.2.2.2.2.2.2.2.2.2.2.1,x.2.1.1.2.2.2.2.2.2.2.2.2.2.2.1,x.2.1.1.2.2.2.2.2.2.2.2.2.2.2.2.1,()),()),())
def yGY:Code:=(zeJ yxw 64 52).getD .skip
theorem yWA:zeJ yxw 64 13=some (.block 0 (.loop yGY)):=by kernel_rfl
theorem yYi (x:(yeu).X):zhu ⟨yGj,28,yIB⟩ 0 yGY 52 yeu yjR yj0 x=yeI x:=by kernel_rfl
def yFH (x:(yjV).X):Nat:=18446744073709551616
def ywi (x:(yjV).X):Option ((yjR).X ⊕ (yj0).X):=zF yeI (yFH x) (yFD x)
def yGf:Seg:=⟨yjV,yjR,yj0,ywi⟩
def yZy:Nat→Option Seg:=fun q=>bif Nat.beq q 13 then some yGf else yIB q
theorem yWJ:FrOk prog ⟨yGj,28,yZy⟩ yxw:=(yWI).loop (sg:=yGf) yeu yFD (by decide) yWA yeI yFH (by decide) (fun _=>rfl) (fun x r _ h=>h) yYi
abbrev yxz:List Par:= [.rd tA]
abbrev yGo:List OT:= [⟨false,tB,.fz⟩]
def yAi (a0:dA):Option (zaY yGo×zak yxz) :=zkr (ywi ((((),()),((),()),()),((a0.1,a0.2.1.1,a0.2.1.2,a0.2.2.1,a0.2.2.2.1,a0.2.2.2.2.1,a0.2.2.2.2.2.1,a0.2.2.2.2.2.2.1,a0.2.2.2.2.2.2.2.1,a0.2.2.2.2.2.2.2.2.1,a0.2.2.2.2.2.2.2.2.2.1,a0.2.2.2.2.2.2.2.2.2.2.1,a0.2.2.2.2.2.2.2.2.2.2.2,()),()),())) (fun y2 =>some ((true,()),())) (fun y2 =>some ((y2.1.1.1,()),()))
theorem y0t:ConOk prog 48 ⟨yxz,yGo,fun x=>yAi x.1⟩:=zkG (yWJ) func48 ntmps48.symm fun x=>by kernel_rfl
def yeR (a0:dA):Bool:=y0O a0
theorem y1D (a0:dA) (hk:zjw yxz (a0,())):yAi a0=(fun n=>some ((n,()),())) (yeR a0):=by
 have h1:ywi (yTY a0)=some (bif(List.range (min a0.2.1.2.toNat 20)).any (fun(s:Nat)=>(yre a0 s).2&&(yre a0 s).1 !=0)then .inr (yT2 false)else .inl yTV) :=
  zjh (step:=yeI) (fun i=>yuE i a0) (min a0.2.1.2.toNat 20) _ _ _ (fun i hi=>by
   simp only[yeI,yuE,yvj,zkw (show(i:Int)<a0.2.1.2 by omega),cond_true,wq ((i:Int)+1) (by omega) (by omega),Int.natCast_add,Int.natCast_one,Int.toNat_natCast,zkw (show(i:Int)<20 by omega),zkV,ynR]
   cases(yre a0 i).2<;>cases((yre a0 i).1 !=0)<;>rfl) (by
   simp only[yeI,yuE,yvj];by_cases h:a0.2.1.2≤((min a0.2.1.2.toNat 20:Nat):Int)
   ·rw[zk1 h]; rfl
   ·rw[zkw (by omega),zk1 (show(20:Int)≤((min a0.2.1.2.toNat 20:Nat):Int)by omega)]; rfl) _ (by show _<18446744073709551616; omega)
 unfold yAi yeR y0O;rw[h1,List.all_eq_not_any_not]; simp only[Bool.not_not];cases(List.range (min a0.2.1.2.toNat 20)).any (fun(s:Nat)=>(yre a0 s).2&&(yre a0 s).1 !=0)<;>rfl
def yIE:Con:=⟨yxz,yGo,fun x=>(fun n=>some ((n,()),())) (yeR x.1)⟩
theorem y1J:ConOk prog 48 yIE:=(y0t).mono (fun x r hk h=>(y1D x.1 hk).trans h)
def ysO:Code:=(f69.body).getD .skip
def yCq:Env:=zku TT [] []
theorem yTA:FrOk prog ⟨yCq,32,fun _=>none⟩ ysO:=zky yf yg trivial
def yGO:Nat→Option Seg:=fun _=>none
def yfp:Shape:=⟨[(0,false,[.fz tY]),(3,false,[.int .i64]),(4,false,[.int .i64])],[],[]⟩
def ymH:Shape:=⟨[(0,false,[.fz tY]),(3,false,[.int .i64]),(4,false,[.ci .i64 0])],[],[]⟩
def ymG:Shape:=⟨[(0,false,[.fz tY]),(3,false,[.int .i64])],[],[]⟩
def ymO:Shape:=⟨[],[],[]⟩
def yEJ (v0:List Int) (v1 v2:Int):Option ((yfp).X ⊕ ((ymG).X ⊕ (ymO).X)) :=bif(ltb v2 (v0.length:Int))then bif(ltb v2 4000)then bif(inb v2 v0.length)then some (.inl (((v0,()),((i64.wrap ((BitVec.ofInt IntKind.i64.bits (i64.wrap ((i64.wrap ((i64.wrap (v1*137))+(i64.wrap (nth v0 v2 0))))+11)) &&& BitVec.ofInt IntKind.i64.bits 1073741823).toNat:Int)),()),((i64.wrap (v2+1)),()),()),(),())) else none else some (.inr (.inl (((v0,()),(v1,()),()),(),()))) else some (.inr (.inl (((v0,()),(v1,()),()),(),())))
def ygt (x:(yfp).X):=yEJ x.1.1.1 x.1.2.1.1 x.1.2.2.1.1
def yDG (x:(ymH).X):(yfp).X:=(((x.1.1.1,()),(x.1.2.1.1,()),(0,()),()),(),())
def yFd:Code:=(zeJ ysO 64 116).getD .skip
theorem ySW:zeJ ysO 64 29=some (.block 0 (.loop yFd)):=by kernel_rfl
theorem yVH (x:(yfp).X):zhu ⟨yCq,32,yGO⟩ 0 yFd 116 yfp ymG ymO x=ygt x:=by kernel_rfl
def yDW (x:(ymH).X):Nat:=18446744073709551616
def yte (x:(ymH).X):Option ((ymG).X ⊕ (ymO).X):=zF ygt (yDW x) (yDG x)
def yED:Seg:=⟨ymH,ymG,ymO,yte⟩
def yWg:Nat→Option Seg:=fun q=>bif Nat.beq q 29 then some yED else yGO q
theorem yTB:FrOk prog ⟨yCq,32,yWg⟩ ysO:=(yTA).loop (sg:=yED) yfp yDG (by decide) ySW ygt yDW (by decide) (fun _=>rfl) (fun x r _ h=>h) yVH
abbrev ytx:List Par:= [.kp tYs .fz]
abbrev yCT:List OT:= [⟨true,tU,.fz⟩]
def ykr (a0:List Int):Option (zaY yCT×zak ytx) :=zkr (yte (((a0,()),((i64.wrap (770770+(a0.length:Int))),()),((),()),()),(),())) (fun y0 =>some (((y0.1.1.1,0,y0.1.2.1.1),()),())) (fun y0 =>none)
theorem yXL:ConOk prog 69 ⟨ytx,yCT,fun x=>ykr x.1⟩:=zkG (yTB) func69 ntmps69.symm fun x=>by kernel_rfl
def yhl (a0:List Int):List Int×Int×Int:=(((ykr a0).getD (((([]:List Int),(0:Int),(0:Int)),()),())).1).1
def ycA (u:List Int×Int×Int):Prop:=0≤u.2.1∧(u.1.length:Int)≤140737488355328
theorem y1t (a0:List Int) (hb:a0.length≤140737488355328): ∃s:Int,ykr a0=some (((a0,0,s),()),()):=by
 have hl: ∃b,yte (((a0,()),((i64.wrap (770770+(a0.length:Int))),()),((),()),()),(),())=some b∧(∃s:Int,b= .inl (((a0,()),(s,()),()),(),())):=by
  refine zji (step:=ygt) (fun x=>(a0.length-(x.1.2.2.1.1:Int).toNat)) (fun x=>(x.1.1.1:List Int)=a0∧(0:Int)≤(x.1.2.2.1.1:Int)) _ ?_ _ _ ⟨rfl,Int.le_refl _⟩ (by show a0.length-_<18446744073709551616; omega)
  rintro⟨⟨⟨(l:List Int),_⟩,⟨(s:Int),_⟩,⟨(i:Int),_⟩,_⟩,_,_⟩ ⟨h0,hi⟩
  simp only at h0 hi;subst h0;simp only[ygt,yEJ];by_cases h1:i<(l.length:Int)
  ·rw[zkw h1]
   by_cases h2:i<4000
   ·rw[zkw h2,zj4.2 ⟨hi,h1⟩]
    refine .inl ⟨_,rfl,⟨rfl,?_⟩,?_⟩
    ·show 0≤i64.wrap (i+1); rw[wr (by omega) (by omega)]; omega
    ·show l.length-(i64.wrap (i+1)).toNat<l.length-i.toNat; rw[wr (by omega) (by omega)]; omega
   ·rw[zk1 (Int.not_lt.1 h2)]
    exact .inr ⟨_,rfl,_,rfl⟩
  ·rw[zk1 (Int.not_lt.1 h1)]
   exact .inr ⟨_,rfl,_,rfl⟩
 obtain⟨b,e,s,rfl⟩:=hl;refine⟨s,?_⟩;unfold ykr;rw[e]; rfl
theorem y0m (a0:List Int) (hk:zjw ytx (a0,())):ykr a0=(fun n=>some ((n,()),())) (yhl a0):=by
 obtain⟨s,e⟩:=y1t a0 (by have:a0.length*1≤2^47:=hk.1.1; omega);unfold yhl;rw[e]; rfl
theorem y3D (a0:List Int) (hb:a0.length≤140737488355328):ycA (yhl a0):=by
 obtain⟨s,e⟩:=y1t a0 hb;unfold yhl;rw[e];exact⟨Int.le_refl _,by show(a0.length:Int)≤_; omega⟩
def ywU:Con:=⟨ytx,yCT,fun x=>(fun n=>some ((n,()),())) (yhl x.1)⟩
theorem yIL:ConOk prog 69 ywU:=(yXL).mono (fun x r hk h=>(y0m x.1 hk).trans h)
end
end Go.Tf
