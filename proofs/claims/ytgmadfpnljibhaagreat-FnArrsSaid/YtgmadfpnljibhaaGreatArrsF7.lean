/- Functions of the program, and what they come to. -/
import Derived.Test.YtgmadfpnljibhaaGreatArrsF6
namespace Go.Tf
noncomputable section
open Go.Proofs
set_option synthInstance.maxHeartbeats 400000
set_option synthInstance.maxSize 10000
set_option linter.unusedVariables false
set_option linter.unusedSimpArgs false
set_option maxRecDepth 100000
section
def yHr:Code:=(Tryz.f148.body).getD .skip
def yHY:Env:=zj2 TT [(116,yeD),(126,yv),(231,yzM)] []
theorem yOH:FrOk Tryz.prog ⟨yHY,28,fun _=>none⟩ yHr:=zj6 yc yd ⟨yjP,yB,yQR,trivial⟩
def yRh:Nat→Option Seg:=fun _=>none
abbrev yhG:List Par:= [.rd tG,.rd tI,.rd tI]
abbrev yse:List OT:= [⟨false,tI,.fz⟩]
def yoy (a0:dG) (a1 a2:Int):Option (ResD yse×MutD yhG) :=
 let r1:=yam a0 a1
 bif (!(!r1)) then
 let r2:=yf a2 0 (IntKind.i64.wrap (a0.1 - 2))
 bif (!r2) then
 some (((-1),()),())
 else
 let r3:=yja a0 a1
 bif (a0.1 !=0) then
 some ((((IntKind.i64.wrap ((IntKind.i64.wrap (r3+1))+a2)).tmod a0.1),()),())
 else none
 else
 some (((-1),()),())
theorem yX1 (x:InD yhG):zjx ⟨yHY,28,yRh⟩ Tryz.f148.results.toList yHr yhG yse x=yoy x.1 x.2.1 x.2.2.1:=by kernel_rfl
theorem yTS:ConOk Tryz.prog 148 ⟨yhG,yse,fun x=>yoy x.1 x.2.1 x.2.2.1⟩:=zj1 (yOH) Tryz.func148 (by kernel_rfl) (by kernel_rfl) Tryz.ntmps148.symm (by decide) (fun x r h=>(yX1 x).trans h)
def ymS (a0:dG) (a1 a2:Int):Int:=yc1 a0 a1 a2
theorem yV4 (a0:dG) (a1 a2:Int) (hk:zi2 yhG (a0,a1,a2,())):yoy a0 a1 a2=(fun n=>some ((n,()),())) (ymS a0 a1 a2):=by
 unfold yoy ymS yc1 yja
 rw [yE7]
 cases hs:yaM a0 a1
 ·rfl
 ·have h1:=ybC.1 hs
  have h2:=yi.1 h1.1
  have h3:=ytW hs
  rw [yP,ybX,wr (show -9223372036854775808≤a0.1 - 2 by omega) (by omega)]
  cases hi:(leb 0 a2&&leb a2 (a0.1 - 2))
  ·rfl
  ·rw [Bool.and_eq_true,zjE,zjE]at hi
   rw [show (a0.1 !=0)=true from bne_iff_ne.2 (by omega)]
   show some (((IntKind.i64.wrap (IntKind.i64.wrap (yn a0 a1+1)+a2)).tmod a0.1,()),())=some (((yn a0 a1+1+a2).tmod a0.1,()),())
   rw [wr (show -9223372036854775808≤yn a0 a1+1 by omega) (by omega),wr (show -9223372036854775808≤yn a0 a1+1+a2 by omega) (by omega)]
def yEm:Con:=⟨yhG,yse,fun x=>(fun n=>some ((n,()),())) (ymS x.1 x.2.1 x.2.2.1)⟩
theorem yW3:ConOk Tryz.prog 148 yEm:=(yTS).mono (fun x r hk h=>(yV4 x.1 x.2.1 x.2.2.1 hk).trans h)
end
section
def yma:Code:=(Tryz.f55.body).getD .skip
def yr1:Env:=zj2 TT [(106,yGl),(148,yEm)] []
theorem yOF:FrOk Tryz.prog ⟨yr1,39,fun _=>none⟩ yma:=zj6 yc yd ⟨yY3,yW3,trivial⟩
def yDq:Nat→Option Seg:=fun _=>none
def ybn:Shape:=⟨[(1,false,[.int .i64]),(2,false,[.ptr 0 0]),(6,false,[.at 800000000]),(8,false,[.at 800000001]),(22,false,[.int .i64]),(23,false,[.int .i64])],[(0,[.int .i64,.int .i64,.int .i64,.br tM,.int .i64,.int .i64,.int .i64,.int .i64,.int .i64,.br tW,.int .i64,.bool,.bool])],[(800000000,tI,.fz),(800000001,tI,.fz)]⟩
def yfM:Shape:=⟨[(1,false,[.int .i64]),(2,false,[.ptr 0 0]),(6,false,[.at 800000000]),(8,false,[.at 800000001]),(22,false,[.int .i64]),(23,false,[.ci .i64 0])],[(0,[.int .i64,.int .i64,.int .i64,.br tM,.int .i64,.int .i64,.int .i64,.int .i64,.int .i64,.br tW,.int .i64,.bool,.bool])],[(800000000,tI,.fz),(800000001,tI,.fz)]⟩
def yfC:Shape:=⟨[(8,false,[.at 800000000])],[],[(800000000,tI,.fz)]⟩
def yjB:Shape:=⟨[],[],[]⟩
abbrev ypC (v0 v1 v2:Int) (v3:dA) (v4 v5:List Int):(ybn).X:=(((v0,()),((),()),((),()),((),()),(v1,()),(v2,()),()),((v3.1,v3.2.1.1,v3.2.1.2,v3.2.2.1,v3.2.2.2.1,v3.2.2.2.2.1,v3.2.2.2.2.2.1,v3.2.2.2.2.2.2.1,v3.2.2.2.2.2.2.2.1,v3.2.2.2.2.2.2.2.2.1,v3.2.2.2.2.2.2.2.2.2.1,v3.2.2.2.2.2.2.2.2.2.2.1,v3.2.2.2.2.2.2.2.2.2.2.2,()),()),(v4,v5,()))
abbrev yKT (v0 v1:Int) (v2:dA) (v3 v4:List Int):(yfM).X:=(((v0,()),((),()),((),()),((),()),(v1,()),((),()),()),((v2.1,v2.2.1.1,v2.2.1.2,v2.2.2.1,v2.2.2.2.1,v2.2.2.2.2.1,v2.2.2.2.2.2.1,v2.2.2.2.2.2.2.1,v2.2.2.2.2.2.2.2.1,v2.2.2.2.2.2.2.2.2.1,v2.2.2.2.2.2.2.2.2.2.1,v2.2.2.2.2.2.2.2.2.2.2.1,v2.2.2.2.2.2.2.2.2.2.2.2,()),()),(v3,v4,()))
abbrev yyn (v0:List Int):(yfC).X:=((((),()),()),(),(v0,()))
def ypU (v0 v1 v2 v3 v4 v5:Int) (v6:List dM) (v7 v8 v9 v10 v11:Int) (v12:List dW) (v13:Int) (v14 v15:Bool) (v16 v17:List Int):Option ((ybn).X ⊕ ((yfC).X ⊕ (yjB).X)) :=
 bif (ltb v2 v1) then
 let r3:=ymS (v4,v5) v0 v2
 bif (inb r3 v16.length) then
 bif (zjR v17.length ([(nth v16 r3 0)]:List Int).length 8) then
 some (.inl (((v0,()),((),()),((),()),((),()),(v1,()),((IntKind.i64.wrap (v2+1)),()),()),((v3,v4,v5,v6,v7,v8,v9,v10,v11,v12,v13,v14,v15,()),()),(v16,(v17++([(nth v16 r3 0)]:List Int)),())))
 else none
 else none
 else
 some (.inr (.inl ((((),()),()),(),(v17,()))))
def ybF (x:(ybn).X):=ypU x.1.1.1 x.1.2.2.2.2.1.1 x.1.2.2.2.2.2.1.1 x.2.1.1.1 x.2.1.1.2.1 x.2.1.1.2.2.1 x.2.1.1.2.2.2.1 x.2.1.1.2.2.2.2.1 x.2.1.1.2.2.2.2.2.1 x.2.1.1.2.2.2.2.2.2.1 x.2.1.1.2.2.2.2.2.2.2.1 x.2.1.1.2.2.2.2.2.2.2.2.1 x.2.1.1.2.2.2.2.2.2.2.2.2.1 x.2.1.1.2.2.2.2.2.2.2.2.2.2.1 x.2.1.1.2.2.2.2.2.2.2.2.2.2.2.1 x.2.1.1.2.2.2.2.2.2.2.2.2.2.2.2.1 x.2.2.1 x.2.2.2.1
def yxY (x:(yfM).X):(ybn).X:=(((x.1.1.1,()),((),()),((),()),((),()),(x.1.2.2.2.2.1.1,()),(0,()),()),((x.2.1.1.1,x.2.1.1.2.1,x.2.1.1.2.2.1,x.2.1.1.2.2.2.1,x.2.1.1.2.2.2.2.1,x.2.1.1.2.2.2.2.2.1,x.2.1.1.2.2.2.2.2.2.1,x.2.1.1.2.2.2.2.2.2.2.1,x.2.1.1.2.2.2.2.2.2.2.2.1,x.2.1.1.2.2.2.2.2.2.2.2.2.1,x.2.1.1.2.2.2.2.2.2.2.2.2.2.1,x.2.1.1.2.2.2.2.2.2.2.2.2.2.2.1,x.2.1.1.2.2.2.2.2.2.2.2.2.2.2.2.1,()),()),(x.2.2.1,x.2.2.2.1,()))
def yzv:Code:=(zdD yma 64 500).getD .skip
theorem yLW:zdD yma 64 125=some (.block 0 (.loop yzv)):=by kernel_rfl
theorem yNE (x:(ybn).X):zg0 ⟨yr1,39,yDq⟩ 0 yzv 500 ybn yfC yjB x=ybF x:=by kernel_rfl
def yyb (x:(yfM).X):Nat:=18446744073709551616
def yq3 (x:(yfM).X):Option ((yfC).X ⊕ (yjB).X):=zz ybF (yyb x) (yxY x)
def yyx:Seg:=⟨yfM,yfC,yjB,yq3⟩
def yDr:Nat→Option Seg:=fun q=>bif Nat.beq q 125 then some yyx else yDq q
theorem yOG:FrOk Tryz.prog ⟨yr1,39,yDr⟩ yma:=(yOF).loop (sg:=yyx) ybn yxY (by decide) yLW ybF yyb (by decide) (fun _=>rfl) (fun x r _ h=>h) yNE
abbrev yhF:List Par:= [.rd tA,.rd tI]
abbrev ysd:List OT:= [⟨false,tL,(.ow .fz)⟩,⟨false,tB,.fz⟩]
def yox (a0:dA) (a1:Int):Option (ResD ysd×MutD yhF) :=
 let r1:=ypM a0 a1
 bif (!r1.2) then
 some (([],false,()),())
 else
 zkh (yq3 (((a1,()),((),()),((),()),((),()),((IntKind.i64.wrap (a0.2.1.1 - 1)),()),((),()),()),((a0.1,a0.2.1.1,a0.2.1.2,a0.2.2.1,a0.2.2.2.1,a0.2.2.2.2.1,a0.2.2.2.2.2.1,a0.2.2.2.2.2.2.1,a0.2.2.2.2.2.2.2.1,a0.2.2.2.2.2.2.2.2.1,a0.2.2.2.2.2.2.2.2.2.1,a0.2.2.2.2.2.2.2.2.2.2.1,a0.2.2.2.2.2.2.2.2.2.2.2,()),()),(r1.1,([]:List Int),()))) (fun y3 =>
 some ((y3.2.2.1,true,()),())) (fun y3 =>
 none)
theorem yX0 (x:InD yhF):zjx ⟨yr1,39,yDr⟩ Tryz.f55.results.toList yma yhF ysd x=yox x.1 x.2.1:=by kernel_rfl
theorem yTR:ConOk Tryz.prog 55 ⟨yhF,ysd,fun x=>yox x.1 x.2.1⟩:=zj1 (yOG) Tryz.func55 (by kernel_rfl) (by kernel_rfl) Tryz.ntmps55.symm (by decide) (fun x r h=>(yX0 x).trans h)
def ymR (a0:dA) (a1:Int):List Int×Bool:=yBK a0 a1
theorem yV3 (a0:dA) (a1:Int) (hk:zi2 yhF (a0,a1,())):yox a0 a1=(fun n=>some ((n.1,n.2,()),())) (ymR a0 a1):=by
 unfold yox ymR yBK ypM
 cases hc:(yV a0&&(!a0.2.2.2.2.2.2.2.2.2.2.2&&yaM a0.2.1 a1))
 ·rfl
 simp only [Bool.and_eq_true]at hc
 have hg:=yi.1 (ypu hc.1)
 have hs:=hc.2.2
 unfold yAE
 simp only [cond_true]
 cases hw:(yN a0 a1).2
 ·rfl
 ·have hL:=yLw hw
  have h1:yq3 (yKT a1 (a0.2.1.1 - 1) a0 (yN a0 a1).1 [])=some (.inl (yyn ((List.range (a0.2.1.1 - 1).toNat).foldl (fun l (i:Nat)=>l++ [nth (yN a0 a1).1 (yc1 a0.2.1 a1 i) 0]) []))) :=
   zj8 (step:=ybF) (a0.2.1.1 - 1).toNat (fun i s=>ypC a1 (a0.2.1.1 - 1) i a0 (yN a0 a1).1 s) (fun l (i:Nat)=>l++ [nth (yN a0 a1).1 (yc1 a0.2.1 a1 i) 0]) (fun i s=>s.length=i) (fun s=> .inl (yyn s)) (fun i s hi hs2=>⟨by
    have hd:=y0N hs (show (0:Int)≤i by omega) (show (i:Int)≤a0.2.1.1 - 2 by omega)
    simp only [ybF,ypC,ypU,zj4 (show (i:Int) < a0.2.1.1 - 1 by omega),cond_true,wr (show -9223372036854775808≤(i:Int)+1 by omega) (by omega),Int.natCast_add,Int.natCast_one,Int.toNat_natCast,zkr,ymS,zjD.2 (show 0≤yc1 a0.2.1 a1 i∧yc1 a0.2.1 a1 i < (yN a0 a1).1.length by omega)]
    rw [zka.2 (show (s.length+ [nth (yN a0 a1).1 (yc1 a0.2.1 a1 i) 0].length) * 8≤140737488355328 by simp only [List.length_cons,List.length_nil]; omega)]; rfl,by simp [hs2]⟩) (fun s hs2=>by simp only [ybF,ypC,ypU,zkx (show a0.2.1.1 - 1≤((a0.2.1.1 - 1).toNat:Int) by omega),cond_false]) [] rfl _ (by show _ < 18446744073709551616; omega)
  simp only [wr (show -9223372036854775808≤a0.2.1.1 - 1 by omega) (by omega)]
  rw [h1,yqA]; rfl
def yEl:Con:=⟨yhF,ysd,fun x=>(fun n=>some ((n.1,n.2,()),())) (ymR x.1 x.2.1)⟩
theorem yW2:ConOk Tryz.prog 55 yEl:=(yTR).mono (fun x r hk h=>(yV3 x.1 x.2.1 hk).trans h)
end
section
def yFk:Code:=(Tryz.f248.body).getD .skip
def yF2:Env:=zj2 TT [] []
theorem yMn:FrOk Tryz.prog ⟨yF2,8,fun _=>none⟩ yFk:=zj6 yc yd trivial
def yN1:Nat→Option Seg:=fun _=>none
abbrev ykr:List Par:= [.rd tW,.rp tI]
abbrev yqi:List OT:= [⟨false,tB,.fz⟩]
def ytw (a0:dW) (a1:Int):Option (ResD yqi×MutD ykr) :=
 some (((a0.1==a1),()),())
theorem yVw (x:InD ykr):zjx ⟨yF2,8,yN1⟩ Tryz.f248.results.toList yFk ykr yqi x=ytw x.1 x.2.1:=by kernel_rfl
theorem yQt:ConOk Tryz.prog 248 ⟨ykr,yqi,fun x=>ytw x.1 x.2.1⟩:=zj1 (yMn) Tryz.func248 (by kernel_rfl) (by kernel_rfl) Tryz.ntmps248.symm (by decide) (fun x r h=>(yVw x).trans h)
def yqC (a0:dW) (a1:Int):Bool :=
 (a0.1==a1)
def yBz:Con:=⟨ykr,yqi,fun x=>(fun n=>some ((n,()),())) (yqC x.1 x.2.1)⟩
theorem yTy (a0:dW) (a1:Int):ytw a0 a1=(fun n=>some ((n,()),())) (yqC a0 a1):=zkp (p:=fun (n:Bool)=>((n,()),())) rfl
theorem yUu:ConOk Tryz.prog 248 yBz:=(yQt).mono (fun x r _ h=>(yTy x.1 x.2.1).trans h)
end
section
def ybR:Code:=(Tryz.f247.body).getD .skip
def yef:Env:=zj2 TT [(248,yBz)] []
theorem yAF:FrOk Tryz.prog ⟨yef,19,fun _=>none⟩ ybR:=zj6 yc yd ⟨yUu,trivial⟩
def yo1:Nat→Option Seg:=fun _=>none
def yI:Shape:=⟨[(0,false,[.br tW]),(1,false,[.fx 248 tI]),(7,false,[.int .i64]),(8,false,[.int .i64])],[],[]⟩
def yaG:Shape:=⟨[(0,false,[.br tW]),(1,false,[.fx 248 tI]),(7,false,[.int .i64]),(8,false,[.ci .i64 0])],[],[]⟩
def yaE:Shape:=⟨[],[],[]⟩
def yaI:Shape:=⟨[(4,false,[.int .i64])],[],[]⟩
abbrev yfn (v0:List dW) (v1 v2 v3:Int):(yI).X:=(((v0,()),(v1,()),(v2,()),(v3,()),()),(),())
abbrev yyS (v0:List dW) (v1 v2:Int):(yaG).X:=(((v0,()),(v1,()),(v2,()),((),()),()),(),())
abbrev yyQ  :(yaE).X:=((),(),())
abbrev ymN (v0:Int):(yaI).X:=(((v0,()),()),(),())
def yfv (v0:List dW) (v1 v2 v3:Int):Option ((yI).X ⊕ ((yaE).X ⊕ (yaI).X)) :=
 bif (ltb v3 v2) then
 bif (inb v3 v0.length) then
 let r2:=yqC (nth v0 v3 (0,[])) v1
 bif r2 then
 some (.inr (.inr (((v3,()),()),(),())))
 else
 some (.inl (((v0,()),(v1,()),(v2,()),((IntKind.i64.wrap (v3+1)),()),()),(),()))
 else none
 else
 some (.inr (.inl ((),(),())))
def yQ (x:(yI).X):=yfv x.1.1.1 x.1.2.1.1 x.1.2.2.1.1 x.1.2.2.2.1.1
def ymI (x:(yaG).X):(yI).X:=(((x.1.1.1,()),(x.1.2.1.1,()),(x.1.2.2.1.1,()),(0,()),()),(),())
def yoh:Code:=(zdD ybR 64 52).getD .skip
theorem yAC:zdD ybR 64 13=some (.block 0 (.loop yoh)):=by kernel_rfl
theorem yAL (x:(yI).X):zg0 ⟨yef,19,yo1⟩ 0 yoh 52 yI yaE yaI x=yQ x:=by kernel_rfl
def ymK (x:(yaG).X):Nat:=18446744073709551616
def yf5 (x:(yaG).X):Option ((yaE).X ⊕ (yaI).X):=zz yQ (ymK x) (ymI x)
def ym9:Seg:=⟨yaG,yaE,yaI,yf5⟩
def yo2:Nat→Option Seg:=fun q=>bif Nat.beq q 13 then some ym9 else yo1 q
theorem yAG:FrOk Tryz.prog ⟨yef,19,yo2⟩ ybR:=(yAF).loop (sg:=ym9) yI ymI (by decide) yAC yQ ymK (by decide) (fun _=>rfl) (fun x r _ h=>h) yAL
abbrev yat:List Par:= [.rd tWs,.fn 248 tI]
abbrev yeh:List OT:= [⟨false,tI,.fz⟩]
def yc8 (a0:List dW) (a1:Int):Option (ResD yeh×MutD yat) :=
 zkh (yf5 (((a0,()),(a1,()),((a0.length:Int),()),((),()),()),(),())) (fun y2 =>
 some (((-1),()),())) (fun y2 =>
 some ((y2.1.1.1,()),()))
theorem yE3 (x:InD yat):zjx ⟨yef,19,yo2⟩ Tryz.f247.results.toList ybR yat yeh x=yc8 x.1 x.2.1:=by kernel_rfl
theorem yCs:ConOk Tryz.prog 247 ⟨yat,yeh,fun x=>yc8 x.1 x.2.1⟩:=zj1 (yAG) Tryz.func247 (by kernel_rfl) (by kernel_rfl) Tryz.ntmps247.symm (by decide) (fun x r h=>(yE3 x).trans h)
def yej (a0:List dW) (a1:Int):Int:=yC a0 a1
theorem yC3 (a0:List dW) (a1:Int) (hk:zi2 yat (a0,a1,())):yc8 a0 a1=(fun n=>some ((n,()),())) (yej a0 a1):=by
 have hb:a0.length * 32≤2 ^ 47:=hk.1.1
 have h1:yf5 (yyS a0 a1 a0.length)=some (bif leb 0 (yC a0 a1) then .inr (ymN (yC a0 a1)) else .inl yyQ) :=
  yKL (step:=yQ) a0 (0,[]) (fun i=>yfn a0 a1 a0.length i) (fun e:dW=>e.1==a1) (fun i=> .inr (ymN i)) _ (fun i hi=>by
   simp only [yQ,yfn,yfv,zj4 (show (i:Int) < a0.length by omega),cond_true,wr (show -9223372036854775808≤(i:Int)+1 by omega) (by omega),Int.natCast_add,Int.natCast_one,Int.toNat_natCast,zkl hi,zkm,yqC]
   cases ((a0.getD i (0,[])).1==a1)<;>rfl) (by simp only [yQ,yfn,yfv,zkx (Int.le_refl _),cond_false]) _ (by show _ < 18446744073709551616; omega)
 unfold yc8 yej
 rw [h1]
 cases h:leb 0 (yC a0 a1)
 ·rw [show yC a0 a1= -1 from yLC h]; rfl
 ·rfl
def ypx:Con:=⟨yat,yeh,fun x=>(fun n=>some ((n,()),())) (yej x.1 x.2.1)⟩
theorem yC6:ConOk Tryz.prog 247 ypx:=(yCs).mono (fun x r hk h=>(yC3 x.1 x.2.1 hk).trans h)
end
section
def yJq:Code:=(Tryz.f183.body).getD .skip
def yJJ:Env:=zj2 TT [(247,ypx)] []
theorem ySH:FrOk Tryz.prog ⟨yJJ,9,fun _=>none⟩ yJq:=zj6 yc yd ⟨yC6,trivial⟩
def yU8:Nat→Option Seg:=fun _=>none
abbrev ykq:List Par:= [.rd tA,.rd tI]
abbrev yuH:List OT:= [⟨false,tI,.fz⟩]
def yxj (a0:dA) (a1:Int):Option (ResD yuH×MutD ykq) :=
 let r1:=yej a0.2.2.2.2.2.2.2.2.1 a1
 some ((r1,()),())
theorem yZC (x:InD ykq):zjx ⟨yJJ,9,yU8⟩ Tryz.f183.results.toList yJq ykq yuH x=yxj x.1 x.2.1:=by kernel_rfl
theorem yWF:ConOk Tryz.prog 183 ⟨ykq,yuH,fun x=>yxj x.1 x.2.1⟩:=zj1 (ySH) Tryz.func183 (by kernel_rfl) (by kernel_rfl) Tryz.ntmps183.symm (by decide) (fun x r h=>(yZC x).trans h)
def yvA (a0:dA) (a1:Int):Int:=yC a0.2.2.2.2.2.2.2.2.1 a1
theorem yYK (a0:dA) (a1:Int) (hk:zi2 ykq (a0,a1,())):yxj a0 a1=(fun n=>some ((n,()),())) (yvA a0 a1):=rfl
def yGn:Con:=⟨ykq,yuH,fun x=>(fun n=>some ((n,()),())) (yvA x.1 x.2.1)⟩
theorem yY5:ConOk Tryz.prog 183 yGn:=(yWF).mono (fun x r hk h=>(yYK x.1 x.2.1 hk).trans h)
end
section
def yFj:Code:=(Tryz.f172.body).getD .skip
def yF1:Env:=zj2 TT [(55,yEl),(183,yGn),(200,ydd)] []
theorem yMk:FrOk Tryz.prog ⟨yF1,24,fun _=>none⟩ yFj:=zj6 yc yd ⟨yW2,yY5,yho,trivial⟩
def yN0:Nat→Option Seg:=fun _=>none
abbrev ygh:List Par:= [.rd tA,.rd tI]
abbrev yqh:List OT:= [⟨false,tL,(.ow .fz)⟩,⟨false,tB,.fz⟩]
def ylR (a0:dA) (a1:Int):Option (ResD yqh×MutD ygh) :=
 let r1:=yvA a0 a1
 bif (leb 0 r1) then
 bif (inb r1 a0.2.2.2.2.2.2.2.2.1.length) then
 let r2:=yu ((nth a0.2.2.2.2.2.2.2.2.1 r1 (0,[])).2)
 some ((r2,true,()),())
 else none
 else
 let r3:=ymR a0 a1
 some ((r3.1,r3.2,()),())
theorem yVu (x:InD ygh):zjx ⟨yF1,24,yN0⟩ Tryz.f172.results.toList yFj ygh yqh x=ylR x.1 x.2.1:=by kernel_rfl
theorem yQr:ConOk Tryz.prog 172 ⟨ygh,yqh,fun x=>ylR x.1 x.2.1⟩:=zj1 (yMk) Tryz.func172 (by kernel_rfl) (by kernel_rfl) Tryz.ntmps172.symm (by decide) (fun x r h=>(yVu x).trans h)
def ygr (a0:dA) (a1:Int):List Int×Bool:=bif leb 0 (yC a0.2.2.2.2.2.2.2.2.1 a1) then ((nth a0.2.2.2.2.2.2.2.2.1 (yC a0.2.2.2.2.2.2.2.2.1 a1) (0,[])).2,true) else yBK a0 a1
theorem yTw (a0:dA) (a1:Int) (hk:zi2 ygh (a0,a1,())):ylR a0 a1=(fun n=>some ((n.1,n.2,()),())) (ygr a0 a1):=by
 unfold ylR ygr yvA ymR yu
 simp only []
 cases h:leb 0 (yC a0.2.2.2.2.2.2.2.2.1 a1)
 ·rfl
 ·rw [show inb (yC a0.2.2.2.2.2.2.2.2.1 a1) a0.2.2.2.2.2.2.2.2.1.length=true from (ytc (d:=((0,[]):dW)) h).1]; rfl
theorem y00 {a:dA} {s:Int} (h:yV a=true) (hs:yaM a.2.1 s=true):ygr a s=yY a s:=by
 unfold ygr yY yBK
 rw [h,hs]
 cases a.2.2.2.2.2.2.2.2.2.2.2<;>rfl
def yBx:Con:=⟨ygh,yqh,fun x=>(fun n=>some ((n.1,n.2,()),())) (ygr x.1 x.2.1)⟩
theorem yUs:ConOk Tryz.prog 172 yBx:=(yQr).mono (fun x r hk h=>(yTw x.1 x.2.1 hk).trans h)
end
end
end Go.Tf
