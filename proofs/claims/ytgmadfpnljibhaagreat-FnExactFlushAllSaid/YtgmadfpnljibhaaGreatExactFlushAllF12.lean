/- Functions of the program, and what they come to. -/
import Derived.Test.YtgmadfpnljibhaaGreatExactFlushAllF11
namespace Go.Tf
noncomputable section
open Go.Proofs
set_option synthInstance.maxHeartbeats 400000
set_option synthInstance.maxSize 10000
set_option linter.unusedVariables false
set_option linter.unusedSimpArgs false
set_option maxRecDepth 100000
section
def ykG:Code:=(Tryz.f159.body).getD .skip
def yqZ:Env:=zki TT [(135,yn),(224,yli),(238,yH5)] []
theorem yOp:FrOk Tryz.prog ⟨yqZ,60,fun _=>none⟩ ykG:=zkp yb yc ⟨yr,ytM,y1M,trivial⟩
def yC4:Nat→Option Seg:=fun _=>none
def ybs:Shape:=⟨[(1,false,[.int .i64]),(2,false,[.ptr 0 0]),(6,false,[.br tI]),(7,false,[.int .i64])],[(0,[.br tL,.br tW,.bool,.br tI])],[]⟩
def yfS:Shape:=⟨[(1,false,[.int .i64]),(2,false,[.ptr 0 0]),(6,false,[.br tI]),(7,false,[.ci .i64 0])],[(0,[.br tL,.br tW,.bool,.br tI])],[]⟩
def yfK:Shape:=⟨[(6,false,[.br tI])],[],[]⟩
def yj6:Shape:=⟨[],[],[]⟩
abbrev yqt (v0:Int) (v1:List Int) (v2:Int) (v3:dM):(ybs).X:=(((v0,()),((),()),(v1,()),(v2,()),()),((v3.1,v3.2.1,v3.2.2.1,v3.2.2.2,()),()),())
abbrev yMH (v0:Int) (v1:List Int) (v2:dM):(yfS).X:=(((v0,()),((),()),(v1,()),((),()),()),((v2.1,v2.2.1,v2.2.2.1,v2.2.2.2,()),()),())
abbrev yzX (v0:List Int):(yfK).X:=(((v0,()),()),(),())
def yqM (v0:Int) (v1:List Int) (v2:Int) (v3:List (List Int)) (v4:List dW) (v5:Bool) (v6:List Int):Option ((ybs).X ⊕ ((yfK).X ⊕ (yj6).X)) :=
 bif (ltb v2 (v4.length:Int)) then
 bif (inb v2 v4.length) then
 bif ((nth v4 v2 (0,[])).1==v0) then
 bif (inb v2 v4.length) then
 some (.inl (((v0,()),((),()),((nth v4 v2 (0,[])).2,()),((IntKind.i64.wrap (v2+1)),()),()),((v3,v4,v5,v6,()),()),()))
 else none
 else
 some (.inl (((v0,()),((),()),(v1,()),((IntKind.i64.wrap (v2+1)),()),()),((v3,v4,v5,v6,()),()),()))
 else none
 else
 some (.inr (.inl (((v1,()),()),(),())))
def ybO (x:(ybs).X):=yqM x.1.1.1 x.1.2.2.1.1 x.1.2.2.2.1.1 x.2.1.1.1 x.2.1.1.2.1 x.2.1.1.2.2.1 x.2.1.1.2.2.2.1
def yzy (x:(yfS).X):(ybs).X:=(((x.1.1.1,()),((),()),(x.1.2.2.1.1,()),(0,()),()),((x.2.1.1.1,x.2.1.1.2.1,x.2.1.1.2.2.1,x.2.1.1.2.2.2.1,()),()),())
def yBk:Code:=(zdI ykG 64 244).getD .skip
theorem yNP:zdI ykG 64 61=some (.block 0 (.loop yBk)):=by kernel_rfl
theorem yPx (x:(ybs).X):zg7 ⟨yqZ,60,yC4⟩ 0 yBk 244 ybs yfK yj6 x=ybO x:=by kernel_rfl
def yzO (x:(yfS).X):Nat:=18446744073709551616
def yr1 (x:(yfS).X):Option ((yfK).X ⊕ (yj6).X):=zr ybO (yzO x) (yzy x)
def yAd:Seg:=⟨yfS,yfK,yj6,yr1⟩
def yC5:Nat→Option Seg:=fun q=>bif Nat.beq q 61 then some yAd else yC4 q
theorem yOq:FrOk Tryz.prog ⟨yqZ,60,yC5⟩ ykG:=(yOp).loop (sg:=yAd) ybs yzy (by decide) yNP ybO yzO (by decide) (fun _=>rfl) (fun x r _ h=>h) yPx
abbrev ygv:List Par:= [.rd tM,.rd tI]
abbrev yri:List OT:= [⟨false,tL,(.ow .fz)⟩,⟨false,tB,.fz⟩]
def ymI (a0:dM) (a1:Int):Option (ResD yri×MutD ygv) :=
 let r1:=ya2 a0
 bif (!(!r1)) then
 bif (!a0.2.2.1) then
 let r2:=ya a1 0 (IntKind.i64.wrap ((a0.1.length:Int) - 1))
 bif (!(!r2)) then
 let r3:=yqz a0.2.2.2 a1
 bif r3 then
 some ((([]:List Int),false,()),())
 else
 bif (inb a1 a0.1.length) then
 zjw (yr1 (((a1,()),((),()),((nth a0.1 a1 []),()),((),()),()),((a0.1,a0.2.1,a0.2.2.1,a0.2.2.2,()),()),())) (fun y3 =>
 bif (zj4 ([]:List Int).length y3.1.1.1.length 8) then
 some (((([]:List Int)++y3.1.1.1),true,()),())
 else none) (fun y3 =>
 none)
 else none
 else
 some ((([]:List Int),false,()),())
 else
 some ((([]:List Int),false,()),())
 else
 some ((([]:List Int),false,()),())
theorem yXM (x:InD ygv):zjH ⟨yqZ,60,yC5⟩ Tryz.f159.results.toList ykG ygv yri x=ymI x.1 x.2.1:=by kernel_rfl
theorem ySs:ConOk Tryz.prog 159 ⟨ygv,yri,fun x=>ymI x.1 x.2.1⟩:=zkh (yOq) Tryz.func159 (by kernel_rfl) (by kernel_rfl) Tryz.ntmps159.symm (by decide) (fun x r h=>(yXM x).trans h)
def ylu (a0:dM) (a1:Int):List Int×Bool:=ynI a0 a1
theorem yVC (a0:dM) (a1:Int) (hk:zi9 ygv (a0,a1,())):ymI a0 a1=(fun n=>some ((n.1,n.2,()),())) (ylu a0 a1):=by
 have hb1:a0.1.length * 24≤2 ^ 47:=hk.1.1.1
 have hb2:a0.2.1.length * 32≤2 ^ 47:=hk.1.2.1.1
 have h1: ∀ s,yr1 (yMH a1 s a0)=some (.inl (yzX (yMP a1 a0.2.1 s))):=fun s =>
  zkk (step:=ybO) a0.2.1 (0,[]) (fun i s=>yqt a1 s i a0) (fun s w=>bif w.1==a1 then w.2 else s) (fun _ _=>True) (fun s=> .inl (yzX s)) (fun i s hi _=>⟨by
   simp only [ybO,yqt,yqM,zjI (show (i:Int) < a0.2.1.length by omega),cond_true,wr (show -9223372036854775808≤(i:Int)+1 by omega) (by omega),Int.natCast_add,Int.natCast_one,Int.toNat_natCast,zkO hi,zjW]
   cases ((a0.2.1.getD i (0,[])).1==a1)<;>rfl,trivial⟩) (fun s _=>by simp only [ybO,yqt,yqM,zkm (Int.le_refl _),cond_false]) s trivial _ (by show _ < 18446744073709551616; omega)
 unfold ymI ylu ynI yXt
 rw [ywn (show a0.1.length≤1152921504606846976 by omega)]
 unfold ya2 yqz
 simp only [h1,zkJ,List.nil_append]
 cases yu a0
 ·rfl
 cases a0.2.2.1
 ·cases hi:inb a1 a0.1.length
  ·rfl
  ·cases a0.2.2.2.any (· ==a1)
   ·have hs:(yMP a1 a0.2.1 (nth a0.1 a1 [])).length * 8≤2 ^ 47 :=
     yVj (P:=fun s=>s.length * 8≤2 ^ 47) (yYJ (P:=fun s:List Int=>s.length * 8≤2 ^ 47) hi fun x hx=>(hk.1.1.2 x hx).1) fun w hw=>(hk.1.2.1.2 w hw).2.1
    simp only [Bool.not_true,Bool.not_false,cond_true,cond_false,Bool.true_and,show zj4 ([]:List Int).length (yMP a1 a0.2.1 (nth a0.1 a1 [])).length 8=true from zkw.2 (by rw [List.length_nil]; omega)]
   ·rfl
 ·rfl
def yDI:Con:=⟨ygv,yri,fun x=>(fun n=>some ((n.1,n.2,()),())) (ylu x.1 x.2.1)⟩
theorem yWy:ConOk Tryz.prog 159 yDI:=(ySs).mono (fun x r hk h=>(yVC x.1 x.2.1 hk).trans h)
end
section
def yJs:Code:=(Tryz.f215.body).getD .skip
def yJR:Env:=zki TT [(48,ywa),(141,yv8),(159,yDI)] []
theorem yRd:FrOk Tryz.prog ⟨yJR,36,fun _=>none⟩ yJs:=zkp yb yc ⟨yIu,yIt,yWy,trivial⟩
def yTy:Nat→Option Seg:=fun _=>none
abbrev yhP:List Par:= [.rd tA,.rd tI,.rd tI]
abbrev yty:List OT:= [⟨false,tI,.fz⟩,⟨false,tB,.fz⟩]
def ypv (a0:dA) (a1 a2:Int):Option (ResD yty×MutD yhP) :=
 let r1:=ydM a0 a1 a2
 bif (!r1) then
 some ((0,false,()),())
 else
 bif (inb a1 a0.2.2.1.length) then
 let r2:=yfx a2
 let r3:=ylu ((nth a0.2.2.1 a1 ([],[],false,[])).1,((nth a0.2.2.1 a1 ([],[],false,[])).2).1,(((nth a0.2.2.1 a1 ([],[],false,[])).2).2)) r2
 bif (!(!r3.2)) then
 bif ((r3.1.length:Int) !=1) then
 some ((0,false,()),())
 else
 bif (inb 0 r3.1.length) then
 some (((nth r3.1 0 0),true,()),())
 else none
 else
 some ((0,false,()),())
 else none
theorem y0J (x:InD yhP):zjH ⟨yJR,36,yTy⟩ Tryz.f215.results.toList yJs yhP yty x=ypv x.1 x.2.1 x.2.2.1:=by kernel_rfl
theorem yWh:ConOk Tryz.prog 215 ⟨yhP,yty,fun x=>ypv x.1 x.2.1 x.2.2.1⟩:=zkh (yRd) Tryz.func215 (by kernel_rfl) (by kernel_rfl) Tryz.ntmps215.symm (by decide) (fun x r h=>(y0J x).trans h)
def ynC (a0:dA) (a1 a2:Int):Int×Bool:=(yNo a0 a1 a2,yF a0 a1 a2)
theorem yYD (a0:dA) (a1 a2:Int) (hk:zi9 yhP (a0,a1,a2,())):ypv a0 a1 a2=(fun n=>some ((n.1,n.2,()),())) (ynC a0 a1 a2):=by
 unfold ypv ynC yNo ydM
 simp only [zkV,yyz,ylu]
 rw [show yF a0 a1 a2=(yf3 a0 a1 a2&&((yrQ a0 a1 a2).2&&((yrQ a0 a1 a2).1.length:Int)==1)) from rfl]
 rw [show ynI (nth a0.2.2.1 a1 ([],[],false,[])) (ysI a2)=yrQ a0 a1 a2 from rfl]
 cases hl:yf3 a0 a1 a2
 ·rfl
 ·rw [show inb a1 a0.2.2.1.length=true by unfold yf3 at hl; exact (Bool.and_eq_true_iff.1 hl).1]
  cases (yrQ a0 a1 a2).2
  ·rfl
  ·rw [bne]
   cases h1:(((yrQ a0 a1 a2).1.length:Int)==1)
   ·rfl
   ·rw [show inb 0 (yrQ a0 a1 a2).1.length=true from zjP.2 (by have:=beq_iff_eq.1 h1; omega)]; rfl
def yGx:Con:=⟨yhP,yty,fun x=>(fun n=>some ((n.1,n.2,()),())) (ynC x.1 x.2.1 x.2.2.1)⟩
theorem yZC:ConOk Tryz.prog 215 yGx:=(yWh).mono (fun x r hk h=>(yYD x.1 x.2.1 x.2.2.1 hk).trans h)
end
section
def yet:Code:=(Tryz.f262.body).getD .skip
def yib:Env:=zki TT [] []
theorem yIi:FrOk Tryz.prog ⟨yib,23,fun _=>none⟩ yet:=zkp yb yc trivial
def yu1:Nat→Option Seg:=fun _=>none
def yY:Shape:=⟨[(0,false,[.br tI]),(1,false,[.int .i64]),(5,false,[.int .i64]),(6,false,[.int .i64])],[],[]⟩
def ycs:Shape:=⟨[(0,false,[.br tI]),(1,false,[.int .i64]),(5,false,[.ci .i64 0]),(6,false,[.ci .i64 0])],[],[]⟩
def ycr:Shape:=⟨[(5,false,[.int .i64])],[],[]⟩
def yfe:Shape:=⟨[],[],[]⟩
abbrev yjB (v0:List Int) (v1 v2 v3:Int):(yY).X:=(((v0,()),(v1,()),(v2,()),(v3,()),()),(),())
abbrev yGZ (v0:List Int) (v1:Int):(ycs).X:=(((v0,()),(v1,()),((),()),((),()),()),(),())
abbrev yGY (v0:Int):(ycr).X:=(((v0,()),()),(),())
def yjE (v0:List Int) (v1 v2 v3:Int):Option ((yY).X ⊕ ((ycr).X ⊕ (yfe).X)) :=
 bif (ltb v3 (v0.length:Int)) then
 bif (v3 !=v1) then
 bif (inb v3 v0.length) then
 some (.inl (((v0,()),(v1,()),((IntKind.i64.wrap ((BitVec.ofInt IntKind.i64.bits v2 ^^^ BitVec.ofInt IntKind.i64.bits (nth v0 v3 0)).toNat:Int)),()),((IntKind.i64.wrap (v3+1)),()),()),(),()))
 else none
 else
 some (.inl (((v0,()),(v1,()),(v2,()),((IntKind.i64.wrap (v3+1)),()),()),(),()))
 else
 some (.inr (.inl (((v2,()),()),(),())))
def yah (x:(yY).X):=yjE x.1.1.1 x.1.2.1.1 x.1.2.2.1.1 x.1.2.2.2.1.1
def ysJ (x:(ycs).X):(yY).X:=(((x.1.1.1,()),(x.1.2.1.1,()),(0,()),(0,()),()),(),())
def yuQ:Code:=(zdI yet 64 116).getD .skip
theorem yHL:zdI yet 64 29=some (.block 0 (.loop yuQ)):=by kernel_rfl
theorem yIy (x:(yY).X):zg7 ⟨yib,23,yu1⟩ 0 yuQ 116 yY ycr yfe x=yah x:=by kernel_rfl
def ysK (x:(ycs).X):Nat:=18446744073709551616
def ykK (x:(ycs).X):Option ((ycr).X ⊕ (yfe).X):=zr yah (ysK x) (ysJ x)
def ysO:Seg:=⟨ycs,ycr,yfe,ykK⟩
def yu2:Nat→Option Seg:=fun q=>bif Nat.beq q 29 then some ysO else yu1 q
theorem yIj:FrOk Tryz.prog ⟨yib,23,yu2⟩ yet:=(yIi).loop (sg:=ysO) yY ysJ (by decide) yHL yah ysK (by decide) (fun _=>rfl) (fun x r _ h=>h) yIy
abbrev yck:List Par:= [.rd tL,.rd tI]
abbrev yiW:List OT:= [⟨false,tI,.fz⟩]
def ygi (a0:List Int) (a1:Int):Option (ResD yiW×MutD yck) :=
 zjw (ykK (((a0,()),(a1,()),((),()),((),()),()),(),())) (fun y0 =>
 some ((y0.1.1.1,()),())) (fun y0 =>
 none)
theorem yLQ (x:InD yck):zjH ⟨yib,23,yu2⟩ Tryz.f262.results.toList yet yck yiW x=ygi x.1 x.2.1:=by kernel_rfl
theorem yIZ:ConOk Tryz.prog 262 ⟨yck,yiW,fun x=>ygi x.1 x.2.1⟩:=zkh (yIj) Tryz.func262 (by kernel_rfl) (by kernel_rfl) Tryz.ntmps262.symm (by decide) (fun x r h=>(yLQ x).trans h)
def yeQ (a0:List Int) (a1:Int):Int:=yx8 a0 a1
theorem yKz (a0:List Int) (a1:Int) (hk:zi9 yck (a0,a1,())):ygi a0 a1=(fun n=>some ((n,()),())) (yeQ a0 a1):=by
 have hb:a0.length * 8≤2 ^ 47:=hk.1.1
 have h1:=zks (step:=yah) a0.length (fun i s=>yjB a0 a1 s i) (fun n (i:Nat)=>bif (i:Int) !=a1 then xw n (nth a0 i 0) else n) (fun _ _=>True) (fun s=> .inl (yGY s)) (fun i s hi _=>⟨by
  simp only [yah,yjB,yjE,zjI (show (i:Int) < a0.length by omega),cond_true,wr (show -9223372036854775808≤(i:Int)+1 by omega) (by omega),Int.natCast_add,Int.natCast_one,Int.toNat_natCast,zkO hi]
  cases ((i:Int) !=a1)<;>rfl,trivial⟩) (fun s _=>by simp only [yah,yjB,yjE,zkm (Int.le_refl _),cond_false]) 0 trivial 18446744073709551616 (by omega)
 rw [y32]at h1
 unfold ygi yeQ
 rw [show ykK (yGZ a0 a1)=_ from h1]; rfl
def ywb:Con:=⟨yck,yiW,fun x=>(fun n=>some ((n,()),())) (yeQ x.1 x.2.1)⟩
theorem yKH:ConOk Tryz.prog 262 ywb:=(yIZ).mono (fun x r hk h=>(yKz x.1 x.2.1 hk).trans h)
end
section
def ykJ:Code:=(Tryz.f206.body).getD .skip
def yq2:Env:=zki TT [(215,yGx),(262,ywb)] []
theorem yOw:FrOk Tryz.prog ⟨yq2,45,fun _=>none⟩ ykJ:=zkp yb yc ⟨yZC,yKH,trivial⟩
def yDa:Nat→Option Seg:=fun _=>none
def ybv:Shape:=⟨[(1,false,[.int .i64]),(2,false,[.ptr 0 0]),(6,false,[.at 800000000]),(7,false,[.int .i64]),(8,false,[.int .i64])],[(0,[.int .i64,.int .i64,.int .i64,.br tM,.int .i64,.int .i64,.int .i64,.int .i64,.int .i64,.br tW,.int .i64,.bool,.bool])],[(800000000,tI,.fz)]⟩
def yfV:Shape:=⟨[(1,false,[.int .i64]),(2,false,[.ptr 0 0]),(6,false,[.at 800000000]),(7,false,[.ci .i64 (-1)]),(8,false,[.ci .i64 0])],[(0,[.int .i64,.int .i64,.int .i64,.br tM,.int .i64,.int .i64,.int .i64,.int .i64,.int .i64,.br tW,.int .i64,.bool,.bool])],[(800000000,tI,.fz)]⟩
def yfN:Shape:=⟨[(6,false,[.at 800000000]),(7,false,[.int .i64])],[],[(800000000,tI,.fz)]⟩
def yfZ:Shape:=⟨[(4,false,[.at 800000000]),(5,false,[.bool])],[],[(800000000,tI,.fz)]⟩
abbrev yqw (v0 v1 v2:Int) (v3:dA) (v4:List Int):(ybv).X:=(((v0,()),((),()),((),()),(v1,()),(v2,()),()),((v3.1,v3.2.1.1,v3.2.1.2,v3.2.2.1,v3.2.2.2.1,v3.2.2.2.2.1,v3.2.2.2.2.2.1,v3.2.2.2.2.2.2.1,v3.2.2.2.2.2.2.2.1,v3.2.2.2.2.2.2.2.2.1,v3.2.2.2.2.2.2.2.2.2.1,v3.2.2.2.2.2.2.2.2.2.2.1,v3.2.2.2.2.2.2.2.2.2.2.2,()),()),(v4,()))
abbrev yMK (v0:Int) (v1:dA) (v2:List Int):(yfV).X:=(((v0,()),((),()),((),()),((),()),((),()),()),((v1.1,v1.2.1.1,v1.2.1.2,v1.2.2.1,v1.2.2.2.1,v1.2.2.2.2.1,v1.2.2.2.2.2.1,v1.2.2.2.2.2.2.1,v1.2.2.2.2.2.2.2.1,v1.2.2.2.2.2.2.2.2.1,v1.2.2.2.2.2.2.2.2.2.1,v1.2.2.2.2.2.2.2.2.2.2.1,v1.2.2.2.2.2.2.2.2.2.2.2,()),()),(v2,()))
abbrev yMC (v0:Int) (v1:List Int):(yfN).X:=((((),()),(v0,()),()),(),(v1,()))
abbrev yMN (v0:Bool) (v1:List Int):(yfZ).X:=((((),()),(v0,()),()),(),(v1,()))
def yqQ (v0 v1 v2 v3 v4 v5:Int) (v6:List dM) (v7 v8 v9 v10 v11:Int) (v12:List dW) (v13:Int) (v14 v15:Bool) (v16:List Int):Option ((ybv).X ⊕ ((yfN).X ⊕ (yfZ).X)) :=
 bif (ltb v2 v4) then
 let r2:=ynC (v3,(v4,v5),v6,v7,v8,v9,v10,v11,v12,v13,v14,v15) v2 v0
 bif (!r2.2) then
 bif (leb 0 v1) then
 some (.inr (.inr ((((),()),(false,()),()),(),(([]:List Int),()))))
 else
 bif (zj4 v16.length ([r2.1]:List Int).length 8) then
 some (.inl (((v0,()),((),()),((),()),(v2,()),((IntKind.i64.wrap (v2+1)),()),()),((v3,v4,v5,v6,v7,v8,v9,v10,v11,v12,v13,v14,v15,()),()),((v16++([r2.1]:List Int)),())))
 else none
 else
 bif (zj4 v16.length ([r2.1]:List Int).length 8) then
 some (.inl (((v0,()),((),()),((),()),(v1,()),((IntKind.i64.wrap (v2+1)),()),()),((v3,v4,v5,v6,v7,v8,v9,v10,v11,v12,v13,v14,v15,()),()),((v16++([r2.1]:List Int)),())))
 else none
 else
 some (.inr (.inl ((((),()),(v1,()),()),(),(v16,()))))
def ybS (x:(ybv).X):=yqQ x.1.1.1 x.1.2.2.2.1.1 x.1.2.2.2.2.1.1 x.2.1.1.1 x.2.1.1.2.1 x.2.1.1.2.2.1 x.2.1.1.2.2.2.1 x.2.1.1.2.2.2.2.1 x.2.1.1.2.2.2.2.2.1 x.2.1.1.2.2.2.2.2.2.1 x.2.1.1.2.2.2.2.2.2.2.1 x.2.1.1.2.2.2.2.2.2.2.2.1 x.2.1.1.2.2.2.2.2.2.2.2.2.1 x.2.1.1.2.2.2.2.2.2.2.2.2.2.1 x.2.1.1.2.2.2.2.2.2.2.2.2.2.2.1 x.2.1.1.2.2.2.2.2.2.2.2.2.2.2.2.1 x.2.2.1
def yzC (x:(yfV).X):(ybv).X:=(((x.1.1.1,()),((),()),((),()),((-1),()),(0,()),()),((x.2.1.1.1,x.2.1.1.2.1,x.2.1.1.2.2.1,x.2.1.1.2.2.2.1,x.2.1.1.2.2.2.2.1,x.2.1.1.2.2.2.2.2.1,x.2.1.1.2.2.2.2.2.2.1,x.2.1.1.2.2.2.2.2.2.2.1,x.2.1.1.2.2.2.2.2.2.2.2.1,x.2.1.1.2.2.2.2.2.2.2.2.2.1,x.2.1.1.2.2.2.2.2.2.2.2.2.2.1,x.2.1.1.2.2.2.2.2.2.2.2.2.2.2.1,x.2.1.1.2.2.2.2.2.2.2.2.2.2.2.2.1,()),()),(x.2.2.1,()))
def yBo:Code:=(zdI ykJ 64 244).getD .skip
theorem yNT:zdI ykJ 64 61=some (.block 0 (.loop yBo)):=by kernel_rfl
theorem yPB (x:(ybv).X):zg7 ⟨yq2,45,yDa⟩ 0 yBo 244 ybv yfN yfZ x=ybS x:=by kernel_rfl
def yzS (x:(yfV).X):Nat:=18446744073709551616
def yr5 (x:(yfV).X):Option ((yfN).X ⊕ (yfZ).X):=zr ybS (yzS x) (yzC x)
def yAh:Seg:=⟨yfV,yfN,yfZ,yr5⟩
def yDb:Nat→Option Seg:=fun q=>bif Nat.beq q 61 then some yAh else yDa q
theorem yOx:FrOk Tryz.prog ⟨yq2,45,yDb⟩ ykJ:=(yOw).loop (sg:=yAh) ybv yzC (by decide) yNT ybS yzS (by decide) (fun _=>rfl) (fun x r _ h=>h) yPB
abbrev yd3:List Par:= [.rd tA,.rd tI]
abbrev ylc:List OT:= [⟨false,tL,(.ow .fz)⟩,⟨false,tB,.fz⟩]
def ymL (a0:dA) (a1:Int):Option (ResD ylc×MutD yd3) :=
 zjw (yr5 (((a1,()),((),()),((),()),((),()),((),()),()),((a0.1,a0.2.1.1,a0.2.1.2,a0.2.2.1,a0.2.2.2.1,a0.2.2.2.2.1,a0.2.2.2.2.2.1,a0.2.2.2.2.2.2.1,a0.2.2.2.2.2.2.2.1,a0.2.2.2.2.2.2.2.2.1,a0.2.2.2.2.2.2.2.2.2.1,a0.2.2.2.2.2.2.2.2.2.2.1,a0.2.2.2.2.2.2.2.2.2.2.2,()),()),(([]:List Int),()))) (fun y2 =>
 bif (leb 0 y2.1.2.1.1) then
 let r4:=yeQ y2.2.2.1 y2.1.2.1.1
 bif (inb y2.1.2.1.1 y2.2.2.1.length) then
 some (((y2.2.2.1.set (y2.1.2.1.1).toNat r4),true,()),())
 else none
 else
 some ((y2.2.2.1,true,()),())) (fun y2 =>
 some ((y2.2.2.1,y2.1.2.1.1,()),()))
theorem yXQ (x:InD yd3):zjH ⟨yq2,45,yDb⟩ Tryz.f206.results.toList ykJ yd3 ylc x=ymL x.1 x.2.1:=by kernel_rfl
theorem ySw:ConOk Tryz.prog 206 ⟨yd3,ylc,fun x=>ymL x.1 x.2.1⟩:=zkh (yOx) Tryz.func206 (by kernel_rfl) (by kernel_rfl) Tryz.ntmps206.symm (by decide) (fun x r h=>(yXQ x).trans h)
def ylx (a0:dA) (a1:Int):List Int×Bool:=yhw a0 a1
def yye (a0:dA) (a1:Int):Bool:=yf a0.2.1
theorem yVG (a0:dA) (a1:Int) (hk:zi9 yd3 (a0,a1,())) (hq:yye a0 a1=true):ymL a0 a1=(fun n=>some ((n.1,n.2,()),())) (ylx a0 a1):=by
 have hg:=yo.1 hq
 have h1:yr5 (yMK a1 a0 [])=some (bif y1X (fun (i:Nat)=>yF a0 i a1) a0.2.1.1.toNat then .inr (yMN false []) else .inl (yMC (yV (fun (i:Nat)=>yF a0 i a1) a0.2.1.1.toNat) (ya4 a0 a1 a0.2.1.1.toNat))) :=
  zf4 (step:=ybS) (fun i=>yqw a1 (yV (fun (i:Nat)=>yF a0 i a1) i) i a0 (ya4 a0 a1 i)) a0.2.1.1.toNat (fun i=> !yF a0 i a1&&leb 0 (yV (fun (i:Nat)=>yF a0 i a1) i)) _ _ (fun i hi=>by
   simp only [ybS,yqw,yqQ,zjI (show (i:Int) < a0.2.1.1 by omega),cond_true,wr (show -9223372036854775808≤(i:Int)+1 by omega) (by omega),Int.natCast_add,Int.natCast_one,Int.toNat_natCast,zkV,ynC,yV]
   rw [zkw.2 (show ((ya4 a0 a1 i).length+ [yNo a0 i a1].length) * 8≤140737488355328 by simp only [List.length_cons,List.length_nil,yw2]; omega),y1V]
   cases yF a0 i a1<;>cases leb 0 (yV (fun (i:Nat)=>yF a0 i a1) i)<;>rfl) (by simp only [ybS,yqw,yqQ,zkm (show a0.2.1.1≤(a0.2.1.1.toNat:Int) by omega),cond_false]) _ (by show _ < 18446744073709551616; omega)
 unfold ymL ylx yhw
 rw [h1]
 cases y1X (fun (i:Nat)=>yF a0 i a1) a0.2.1.1.toNat
 ·simp only [cond_false,zkJ,yeQ]
  cases hm:leb 0 (yV (fun (i:Nat)=>yF a0 i a1) a0.2.1.1.toNat)
  ·rfl
  ·obtain ⟨h2,h3⟩:=y33 a0 a1 a0.2.1.1.toNat hm
   rw [h2,h3]; rfl
 ·rfl
def yrw (a0:dA) (a1:Int):Option (ResD ylc×MutD yd3):=bif yye a0 a1 then (fun n=>some ((n.1,n.2,()),())) (ylx a0 a1) else none
theorem yWG (a0:dA) (a1:Int) (h:yye a0 a1=true):yrw a0 a1=(fun n=>some ((n.1,n.2,()),())) (ylx a0 a1):=by unfold yrw; rw [h]; rfl
def yDL:Con:=⟨yd3,ylc,fun x=>yrw x.1 x.2.1⟩
theorem yWB:ConOk Tryz.prog 206 yDL:=(ySw).mono (fun x r hk h=>zkW h (fun hq=>yVG x.1 x.2.1 hk hq))
end
section
def yFe:Code:=(Tryz.f288.body).getD .skip
def yFT:Env:=zki TT [(134,ylh),(135,yn)] []
theorem yMr:FrOk Tryz.prog ⟨yFT,14,fun _=>none⟩ yFe:=zkp yb yc ⟨ytL,yr,trivial⟩
def yND:Nat→Option Seg:=fun _=>none
abbrev yie:List Par:= [.rd tG,.rd tI]
abbrev yoS:List OT:= [⟨false,tB,.fz⟩]
def ysl (a0:dG) (a1:Int):Option (ResD yoS×MutD yie) :=
 let r1:=yf a0
 bif r1 then
 let r2:=ya a1 0 (IntKind.i64.wrap (a0.2 - 1))
 some ((r2,()),())
 else
 some ((false,()),())
theorem yUg (x:InD yie):zjH ⟨yFT,14,yND⟩ Tryz.f288.results.toList yFe yie yoS x=ysl x.1 x.2.1:=by kernel_rfl
theorem yPe:ConOk Tryz.prog 288 ⟨yie,yoS,fun x=>ysl x.1 x.2.1⟩:=zkh (yMr) Tryz.func288 (by kernel_rfl) (by kernel_rfl) Tryz.ntmps288.symm (by decide) (fun x r h=>(yUg x).trans h)
def yfj (a0:dG) (a1:Int):Bool :=
 let r1:=yf a0
 bif r1 then
 let r2:=ya a1 0 (IntKind.i64.wrap (a0.2 - 1))
 r2
 else
 false
def yr8:Con:=⟨yie,yoS,fun x=>(fun n=>some ((n,()),())) (yfj x.1 x.2.1)⟩
theorem ySa (a0:dG) (a1:Int):ysl a0 a1=(fun n=>some ((n,()),())) (yfj a0 a1):=zkS (p:=fun (n:Bool)=>((n,()),())) (zkx (p:=fun (n:Bool)=>((n,()),())) rfl rfl)
theorem yEC:ConOk Tryz.prog 288 yr8:=(yPe).mono (fun x r _ h=>(ySa x.1 x.2.1).trans h)
theorem yPQ (g:dG) (s:Int):yfj g s=yK g s:=by
 unfold yfj yK
 cases hg:yf g
 ·rfl
 have:=yo.1 hg
 rw [yff,wr (by omega) (by omega)]; rfl
end
section
def yFa:Code:=(Tryz.f272.body).getD .skip
def yFP:Env:=zki TT [(288,yr8)] []
theorem yMn:FrOk Tryz.prog ⟨yFP,17,fun _=>none⟩ yFa:=zkp yb yc ⟨yEC,trivial⟩
def yNz:Nat→Option Seg:=fun _=>none
abbrev ye8:List Par:= [.rd tG,.rd tI]
abbrev yoO:List OT:= [⟨false,tI,.fz⟩]
def ykt (a0:dG) (a1:Int):Option (ResD yoO×MutD ye8) :=
 let r1:=yfj a0 a1
 bif (!r1) then
 some (((-1),()),())
 else
 bif (a0.1 !=0) then
 some (((IntKind.i64.wrap ((IntKind.i64.wrap (a0.1 - 1)) - (a1.tmod a0.1))),()),())
 else none
theorem yUc (x:InD ye8):zjH ⟨yFP,17,yNz⟩ Tryz.f272.results.toList yFa ye8 yoO x=ykt x.1 x.2.1:=by kernel_rfl
theorem yPa:ConOk Tryz.prog 272 ⟨ye8,yoO,fun x=>ykt x.1 x.2.1⟩:=zkh (yMn) Tryz.func272 (by kernel_rfl) (by kernel_rfl) Tryz.ntmps272.symm (by decide) (fun x r h=>(yUc x).trans h)
def ydd (a0:dG) (a1:Int):Int:=yg a0 a1
theorem yR6 (a0:dG) (a1:Int) (hk:zi9 ye8 (a0,a1,())):ykt a0 a1=(fun n=>some ((n,()),())) (ydd a0 a1):=by
 unfold ykt ydd
 rw [yPQ]
 cases hs:yK a0 a1
 ·unfold yg; rw [hs]; rfl
 ·have h1:=ycv.1 hs
  have h2:=yo.1 h1.1
  have h3:=yqA hs
  have h4:yg a0 a1=a0.1 - 1 - a1.tmod a0.1:=by unfold yg; rw [hs]; rfl
  rw [show (a0.1 !=0)=true from bne_iff_ne.2 (by omega),wr (show -9223372036854775808≤a0.1 - 1 by omega) (by omega),wr (show -9223372036854775808≤a0.1 - 1 - a1.tmod a0.1 by omega) (by omega),h4]; rfl
def yr7:Con:=⟨ye8,yoO,fun x=>(fun n=>some ((n,()),())) (ydd x.1 x.2.1)⟩
theorem yEB:ConOk Tryz.prog 272 yr7:=(yPa).mono (fun x r hk h=>(yR6 x.1 x.2.1 hk).trans h)
end
end
end Go.Tf
