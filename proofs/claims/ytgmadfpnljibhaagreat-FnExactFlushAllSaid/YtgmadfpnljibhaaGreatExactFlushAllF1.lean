/- Functions of the program, and what they come to. -/
import Derived.Test.YtgmadfpnljibhaaGreatExactFlushAllF0
namespace Go.Tf
noncomputable section
open Go.Proofs
set_option synthInstance.maxHeartbeats 400000
set_option synthInstance.maxSize 10000
set_option linter.unusedVariables false
set_option linter.unusedSimpArgs false
set_option maxRecDepth 100000
section
def yaS:Code:=(Tryz.f224.body).getD .skip
def yev:Env:=zki TT [(135,yn),(269,yx3)] []
theorem yUQ:FrOk Tryz.prog ⟨yev,91,fun _=>none⟩ yaS:=zkp yb yc ⟨yr,yJ3,trivial⟩
def yHo:Nat→Option Seg:=fun _=>none
def ycV:Shape:=⟨[(1,false,[.ptr 0 0]),(3,false,[.int .i64]),(4,false,[.int .i64])],[(0,[.br tL,.br tW,.bool,.br tI])],[]⟩
def yiJ:Shape:=⟨[(1,false,[.ptr 0 0]),(3,false,[.int .i64]),(4,false,[.ci .i64 0])],[(0,[.br tL,.br tW,.bool,.br tI])],[]⟩
def yiq:Shape:=⟨[(1,false,[.ptr 0 0]),(3,false,[.int .i64])],[(0,[.br tL,.br tW,.bool,.br tI])],[]⟩
def yjc:Shape:=⟨[(2,false,[.bool])],[],[]⟩
abbrev yug (v0 v1:Int) (v2:dM):(ycV).X:=((((),()),(v0,()),(v1,()),()),((v2.1,v2.2.1,v2.2.2.1,v2.2.2.2,()),()),())
abbrev yRA (v0:Int) (v1:dM):(yiJ).X:=((((),()),(v0,()),((),()),()),((v1.1,v1.2.1,v1.2.2.1,v1.2.2.2,()),()),())
abbrev yRr (v0:Int) (v1:dM):(yiq).X:=((((),()),(v0,()),()),((v1.1,v1.2.1,v1.2.2.1,v1.2.2.2,()),()),())
abbrev yRM (v0:Bool):(yjc).X:=(((v0,()),()),(),())
def yuG (v0 v1:Int) (v2:List (List Int)) (v3:List dW) (v4:Bool) (v5:List Int):Option ((ycV).X ⊕ ((yiq).X ⊕ (yjc).X)) :=
 bif (ltb v1 v0) then
 bif (inb v1 v2.length) then
 let r2:=yg7 (nth v2 v1 [])
 bif (!r2) then
 some (.inr (.inr (((false,()),()),(),())))
 else
 some (.inl ((((),()),(v0,()),((IntKind.i64.wrap (v1+1)),()),()),((v2,v3,v4,v5,()),()),()))
 else none
 else
 some (.inr (.inl ((((),()),(v0,()),()),((v2,v3,v4,v5,()),()),())))
def ydA (x:(ycV).X):=yuG x.1.2.1.1 x.1.2.2.1.1 x.2.1.1.1 x.2.1.1.2.1 x.2.1.1.2.2.1 x.2.1.1.2.2.2.1
def yDW (x:(yiJ).X):(ycV).X:=((((),()),(x.1.2.1.1,()),(0,()),()),((x.2.1.1.1,x.2.1.1.2.1,x.2.1.1.2.2.1,x.2.1.1.2.2.2.1,()),()),())
def yF5:Code:=(zdI yaS 64 116).getD .skip
theorem yTI:zdI yaS 64 29=some (.block 0 (.loop yF5)):=by kernel_rfl
theorem yWQ (x:(ycV).X):zg7 ⟨yev,91,yHo⟩ 0 yF5 116 ycV yiq yjc x=ydA x:=by kernel_rfl
def yEd (x:(yiJ).X):Nat:=18446744073709551616
def yvn (x:(yiJ).X):Option ((yiq).X ⊕ (yjc).X):=zr ydA (yEd x) (yDW x)
def yEO:Seg:=⟨yiJ,yiq,yjc,yvn⟩
def yxT:Nat→Option Seg:=fun q=>bif Nat.beq q 29 then some yEO else yHo q
theorem yUR:FrOk Tryz.prog ⟨yev,91,yxT⟩ yaS:=(yUQ).loop (sg:=yEO) ycV yDW (by decide) yTI ydA yEd (by decide) (fun _=>rfl) (fun x r _ h=>h) yWQ
def ycW:Shape:=⟨[(1,false,[.ptr 0 0]),(3,false,[.int .i64]),(5,false,[.int .i64])],[(0,[.br tL,.br tW,.bool,.br tI])],[]⟩
def yiK:Shape:=⟨[(1,false,[.ptr 0 0]),(3,false,[.int .i64]),(5,false,[.ci .i64 0])],[(0,[.br tL,.br tW,.bool,.br tI])],[]⟩
def yir:Shape:=⟨[(1,false,[.ptr 0 0]),(3,false,[.int .i64])],[(0,[.br tL,.br tW,.bool,.br tI])],[]⟩
def yjd:Shape:=⟨[(2,false,[.bool])],[],[]⟩
abbrev yuh (v0 v1:Int) (v2:dM):(ycW).X:=((((),()),(v0,()),(v1,()),()),((v2.1,v2.2.1,v2.2.2.1,v2.2.2.2,()),()),())
abbrev yRB (v0:Int) (v1:dM):(yiK).X:=((((),()),(v0,()),((),()),()),((v1.1,v1.2.1,v1.2.2.1,v1.2.2.2,()),()),())
abbrev yRs (v0:Int) (v1:dM):(yir).X:=((((),()),(v0,()),()),((v1.1,v1.2.1,v1.2.2.1,v1.2.2.2,()),()),())
abbrev yRN (v0:Bool):(yjd).X:=(((v0,()),()),(),())
def yuH (v0 v1:Int) (v2:List (List Int)) (v3:List dW) (v4:Bool) (v5:List Int):Option ((ycW).X ⊕ ((yir).X ⊕ (yjd).X)) :=
 bif (ltb v1 (v3.length:Int)) then
 bif (inb v1 v3.length) then
 let r6:=ya ((nth v3 v1 (0,[])).1) 0 (IntKind.i64.wrap (v0 - 1))
 bif (!(!r6)) then
 bif (inb v1 v3.length) then
 let r7:=yg7 ((nth v3 v1 (0,[])).2)
 bif (!r7) then
 some (.inr (.inr (((false,()),()),(),())))
 else
 some (.inl ((((),()),(v0,()),((IntKind.i64.wrap (v1+1)),()),()),((v2,v3,v4,v5,()),()),()))
 else none
 else
 some (.inr (.inr (((false,()),()),(),())))
 else none
 else
 some (.inr (.inl ((((),()),(v0,()),()),((v2,v3,v4,v5,()),()),())))
def ydB (x:(ycW).X):=yuH x.1.2.1.1 x.1.2.2.1.1 x.2.1.1.1 x.2.1.1.2.1 x.2.1.1.2.2.1 x.2.1.1.2.2.2.1
def yDX (x:(yiK).X):(ycW).X:=((((),()),(x.1.2.1.1,()),(0,()),()),((x.2.1.1.1,x.2.1.1.2.1,x.2.1.1.2.2.1,x.2.1.1.2.2.2.1,()),()),())
def yF6:Code:=(zdI yaS 64 244).getD .skip
theorem yTJ:zdI yaS 64 61=some (.block 2 (.loop yF6)):=by kernel_rfl
theorem yWR (x:(ycW).X):zg7 ⟨yev,91,yxT⟩ 2 yF6 244 ycW yir yjd x=ydB x:=by kernel_rfl
def yEe (x:(yiK).X):Nat:=18446744073709551616
def yvo (x:(yiK).X):Option ((yir).X ⊕ (yjd).X):=zr ydB (yEe x) (yDX x)
def yEP:Seg:=⟨yiK,yir,yjd,yvo⟩
def yxU:Nat→Option Seg:=fun q=>bif Nat.beq q 61 then some yEP else yxT q
theorem yUS:FrOk Tryz.prog ⟨yev,91,yxU⟩ yaS:=(yUR).loop (sg:=yEP) ycW yDX (by decide) yTJ ydB yEe (by decide) (fun _=>rfl) (fun x r _ h=>h) yWR
def yb6:Shape:=⟨[(1,false,[.ptr 0 0]),(3,false,[.int .i64]),(6,false,[.int .i64])],[(0,[.br tL,.br tW,.bool,.br tI])],[]⟩
def ygP:Shape:=⟨[(1,false,[.ptr 0 0]),(3,false,[.int .i64]),(6,false,[.ci .i64 0])],[(0,[.br tL,.br tW,.bool,.br tI])],[]⟩
def ygI:Shape:=⟨[(1,false,[.ptr 0 0]),(3,false,[.int .i64])],[(0,[.br tL,.br tW,.bool,.br tI])],[]⟩
def ygZ:Shape:=⟨[(2,false,[.bool])],[],[]⟩
abbrev ysa (v0 v1:Int) (v2:dM):(yb6).X:=((((),()),(v0,()),(v1,()),()),((v2.1,v2.2.1,v2.2.2.1,v2.2.2.2,()),()),())
abbrev yOE (v0:Int) (v1:dM):(ygP).X:=((((),()),(v0,()),((),()),()),((v1.1,v1.2.1,v1.2.2.1,v1.2.2.2,()),()),())
abbrev yOB (v0:Int) (v1:dM):(ygI).X:=((((),()),(v0,()),()),((v1.1,v1.2.1,v1.2.2.1,v1.2.2.2,()),()),())
abbrev yOK (v0:Bool):(ygZ).X:=(((v0,()),()),(),())
def ysu (v0 v1:Int) (v2:List (List Int)) (v3:List dW) (v4:Bool) (v5:List Int):Option ((yb6).X ⊕ ((ygI).X ⊕ (ygZ).X)) :=
 bif (ltb v1 (v5.length:Int)) then
 bif (inb v1 v5.length) then
 let r10:=ya (nth v5 v1 0) 0 (IntKind.i64.wrap (v0 - 1))
 bif (!(!r10)) then
 bif (ltb 0 v1) then
 bif (inb (IntKind.i64.wrap (v1 - 1)) v5.length) then
 bif (inb v1 v5.length) then
 bif (leb (nth v5 v1 0) (nth v5 (IntKind.i64.wrap (v1 - 1)) 0)) then
 some (.inr (.inr (((false,()),()),(),())))
 else
 some (.inl ((((),()),(v0,()),((IntKind.i64.wrap (v1+1)),()),()),((v2,v3,v4,v5,()),()),()))
 else none
 else none
 else
 some (.inl ((((),()),(v0,()),((IntKind.i64.wrap (v1+1)),()),()),((v2,v3,v4,v5,()),()),()))
 else
 some (.inr (.inr (((false,()),()),(),())))
 else none
 else
 some (.inr (.inl ((((),()),(v0,()),()),((v2,v3,v4,v5,()),()),())))
def ycE (x:(yb6).X):=ysu x.1.2.1.1 x.1.2.2.1.1 x.2.1.1.1 x.2.1.1.2.1 x.2.1.1.2.2.1 x.2.1.1.2.2.2.1
def yBN (x:(ygP).X):(yb6).X:=((((),()),(x.1.2.1.1,()),(0,()),()),((x.2.1.1.1,x.2.1.1.2.1,x.2.1.1.2.2.1,x.2.1.1.2.2.2.1,()),()),())
def yDp:Code:=(zdI yaS 64 500).getD .skip
theorem yQc:zdI yaS 64 125=some (.block 4 (.loop yDp)):=by kernel_rfl
theorem yS2 (x:(yb6).X):zg7 ⟨yev,91,yxU⟩ 4 yDp 500 yb6 ygI ygZ x=ycE x:=by kernel_rfl
def yB2 (x:(ygP).X):Nat:=18446744073709551616
def ytY (x:(ygP).X):Option ((ygI).X ⊕ (ygZ).X):=zr ycE (yB2 x) (yBN x)
def yCl:Seg:=⟨ygP,ygI,ygZ,ytY⟩
def yHp:Nat→Option Seg:=fun q=>bif Nat.beq q 125 then some yCl else yxU q
theorem yUT:FrOk Tryz.prog ⟨yev,91,yHp⟩ yaS:=(yUS).loop (sg:=yCl) yb6 yBN (by decide) yQc ycE yB2 (by decide) (fun _=>rfl) (fun x r _ h=>h) yS2
abbrev ykZ:List Par:= [.rd tM]
abbrev yvS:List OT:= [⟨false,tB,.fz⟩]
def yrI (a0:dM):Option (ResD yvS×MutD ykZ) :=
 zjw (yvn ((((),()),((a0.1.length:Int),()),((),()),()),((a0.1,a0.2.1,a0.2.2.1,a0.2.2.2,()),()),())) (fun y2 =>
 zjw (yvo ((((),()),(y2.1.2.1.1,()),((),()),()),((y2.2.1.1.1,y2.2.1.1.2.1,y2.2.1.1.2.2.1,y2.2.1.1.2.2.2.1,()),()),())) (fun y7 =>
 zjw (ytY ((((),()),(y7.1.2.1.1,()),((),()),()),((y7.2.1.1.1,y7.2.1.1.2.1,y7.2.1.1.2.2.1,y7.2.1.1.2.2.2.1,()),()),())) (fun y10 =>
 let r12:=ya y10.1.2.1.1 1 20
 bif r12 then
 some (((leb (y10.2.1.1.2.1.length:Int) 60),()),())
 else
 some ((false,()),())) (fun y10 =>
 some ((y10.1.1.1,()),()))) (fun y7 =>
 some ((y7.1.1.1,()),()))) (fun y2 =>
 some ((y2.1.1.1,()),()))
theorem y2t (x:InD ykZ):zjH ⟨yev,91,yHp⟩ Tryz.f224.results.toList yaS ykZ yvS x=yrI x.1:=by kernel_rfl
theorem yY7:ConOk Tryz.prog 224 ⟨ykZ,yvS,fun x=>yrI x.1⟩:=zkh (yUT) Tryz.func224 (by kernel_rfl) (by kernel_rfl) Tryz.ntmps224.symm (by decide) (fun x r h=>(y2t x).trans h)
def ya2 (a0:dM):Bool:=yu a0
theorem y1e (a0:dM) (hk:zi9 ykZ (a0,())):yrI a0=(fun n=>some ((n,()),())) (ya2 a0):=by
 have hb1:a0.1.length * 24≤2 ^ 47:=hk.1.1.1
 have hb2:a0.2.1.length * 32≤2 ^ 47:=hk.1.2.1.1
 have hb3:a0.2.2.2.length * 8≤2 ^ 47:=hk.1.2.2.2.1
 have h1:yvn (yRA a0.1.length a0)=some (bif a0.1.all ybA then .inl (yRr a0.1.length a0) else .inr (yRM false)) :=
  zjS (step:=ydA) a0.1 [] (fun i=>yug a0.1.length i a0) ybA _ _ (fun i hi=>by
   simp only [ydA,yug,yuG,zjI (show (i:Int) < a0.1.length by omega),cond_true,wr (show -9223372036854775808≤(i:Int)+1 by omega) (by omega),Int.natCast_add,Int.natCast_one,Int.toNat_natCast,zkO hi,zjW,yG0]
   cases ybA (a0.1.getD i [])<;>rfl) (by simp only [ydA,yug,yuG,zkm (Int.le_refl _),cond_false]) _ (by show _ < 18446744073709551616; omega)
 have h2:yvo (yRB a0.1.length a0)=some (bif a0.2.1.all (yyA a0.1.length) then .inl (yRs a0.1.length a0) else .inr (yRN false)) :=
  zjS (step:=ydB) a0.2.1 (0,[]) (fun i=>yuh a0.1.length i a0) (yyA a0.1.length) _ _ (fun i hi=>by
   simp only [ydB,yuh,yuH,zjI (show (i:Int) < a0.2.1.length by omega),cond_true,wr (show -9223372036854775808≤(i:Int)+1 by omega) (by omega),Int.natCast_add,Int.natCast_one,Int.toNat_natCast,zkO hi,zjW,yG0,ywn (show a0.1.length≤1152921504606846976 by omega),yyA]
   cases inb (a0.2.1.getD i (0,[])).1 a0.1.length<;>cases ybA (a0.2.1.getD i (0,[])).2<;>rfl) (by simp only [ydB,yuh,yuH,zkm (Int.le_refl _),cond_false]) _ (by show _ < 18446744073709551616; omega)
 have h3:ytY (yOE a0.1.length a0)=some (bif (List.range a0.2.2.2.length).any (yFV a0.1.length a0.2.2.2) then .inr (yOK false) else .inl (yOB a0.1.length a0)) :=
  zf4 (step:=ycE) (fun i=>ysa a0.1.length i a0) a0.2.2.2.length (yFV a0.1.length a0.2.2.2) _ _ (fun i hi=>by
   simp only [ycE,ysa,ysu,zjI (show (i:Int) < a0.2.2.2.length by omega),cond_true,wr (show -9223372036854775808≤(i:Int)+1 by omega) (by omega),Int.natCast_add,Int.natCast_one,Int.toNat_natCast,zkO hi,zjW,ywn (show a0.1.length≤1152921504606846976 by omega),yFV]
   rcases Nat.eq_zero_or_pos i with rfl | h0
   ·cases inb (a0.2.2.2.getD 0 0) a0.1.length<;>rfl
   ·rw [show IntKind.i64.wrap ((i:Int) - 1)=((i - 1:Nat):Int) by rw [wr (by omega) (by omega)]; omega,zkO (show i - 1 < a0.2.2.2.length by omega),zjW,zjI (show (0:Int) < i by omega),decide_eq_true h0]
    cases inb (a0.2.2.2.getD i 0) a0.1.length<;>cases leb (a0.2.2.2.getD i 0) (a0.2.2.2.getD (i - 1) 0)<;>rfl) (by simp only [ycE,ysa,ysu,zkm (Int.le_refl _),cond_false]) _ (by show _ < 18446744073709551616; omega)
 unfold yrI ya2 yu
 rw [h1]
 cases a0.1.all ybA
 ·rfl
 simp only [cond_true,zkJ,h2]
 cases a0.2.1.all (yyA a0.1.length)
 ·rfl
 simp only [cond_true,zkJ,h3,yZR,yff]
 cases yvZ a0.1.length a0.2.2.2
 ·rfl
 simp only [Bool.not_true,cond_false,zkJ]
 cases leb 1 (a0.1.length:Int)<;>cases leb (a0.1.length:Int) 20<;>rfl
def yli:Con:=⟨ykZ,yvS,fun x=>(fun n=>some ((n,()),())) (ya2 x.1)⟩
theorem ytM:ConOk Tryz.prog 224 yli:=(yY7).mono (fun x r hk h=>(y1e x.1 hk).trans h)
end
section
def ym1:Code:=(Tryz.f136.body).getD .skip
def ysZ:Env:=zki TT [(139,yGw),(224,yli)] []
theorem yRa:FrOk Tryz.prog ⟨ysZ,51,fun _=>none⟩ ym1:=zkp yb yc ⟨yZB,ytM,trivial⟩
def yFC:Nat→Option Seg:=fun _=>none
def ycb:Shape:=⟨[(1,false,[.ptr 0 0]),(3,false,[.int .i64])],[(0,[.int .i64,.int .i64,.int .i64,.br tM,.int .i64,.int .i64,.int .i64,.int .i64,.int .i64,.br tW,.int .i64,.bool,.bool])],[]⟩
def ygU:Shape:=⟨[(1,false,[.ptr 0 0]),(3,false,[.ci .i64 0])],[(0,[.int .i64,.int .i64,.int .i64,.br tM,.int .i64,.int .i64,.int .i64,.int .i64,.int .i64,.br tW,.int .i64,.bool,.bool])],[]⟩
def ygN:Shape:=⟨[(1,false,[.ptr 0 0])],[(0,[.int .i64,.int .i64,.int .i64,.br tM,.int .i64,.int .i64,.int .i64,.int .i64,.int .i64,.br tW,.int .i64,.bool,.bool])],[]⟩
def yg0:Shape:=⟨[(2,false,[.bool])],[],[]⟩
abbrev yse (v0:Int) (v1:dA):(ycb).X:=((((),()),(v0,()),()),((v1.1,v1.2.1.1,v1.2.1.2,v1.2.2.1,v1.2.2.2.1,v1.2.2.2.2.1,v1.2.2.2.2.2.1,v1.2.2.2.2.2.2.1,v1.2.2.2.2.2.2.2.1,v1.2.2.2.2.2.2.2.2.1,v1.2.2.2.2.2.2.2.2.2.1,v1.2.2.2.2.2.2.2.2.2.2.1,v1.2.2.2.2.2.2.2.2.2.2.2,()),()),())
abbrev yOI (v0:dA):(ygU).X:=((((),()),((),()),()),((v0.1,v0.2.1.1,v0.2.1.2,v0.2.2.1,v0.2.2.2.1,v0.2.2.2.2.1,v0.2.2.2.2.2.1,v0.2.2.2.2.2.2.1,v0.2.2.2.2.2.2.2.1,v0.2.2.2.2.2.2.2.2.1,v0.2.2.2.2.2.2.2.2.2.1,v0.2.2.2.2.2.2.2.2.2.2.1,v0.2.2.2.2.2.2.2.2.2.2.2,()),()),())
abbrev yOD (v0:dA):(ygN).X:=((((),()),()),((v0.1,v0.2.1.1,v0.2.1.2,v0.2.2.1,v0.2.2.2.1,v0.2.2.2.2.1,v0.2.2.2.2.2.1,v0.2.2.2.2.2.2.1,v0.2.2.2.2.2.2.2.1,v0.2.2.2.2.2.2.2.2.1,v0.2.2.2.2.2.2.2.2.2.1,v0.2.2.2.2.2.2.2.2.2.2.1,v0.2.2.2.2.2.2.2.2.2.2.2,()),()),())
abbrev yOL (v0:Bool):(yg0).X:=(((v0,()),()),(),())
def ysy (v0 v1 v2 v3:Int) (v4:List dM) (v5 v6 v7 v8 v9:Int) (v10:List dW) (v11:Int) (v12 v13:Bool):Option ((ycb).X ⊕ ((ygN).X ⊕ (yg0).X)) :=
 bif (ltb v0 (v4.length:Int)) then
 bif (inb v0 v4.length) then
 let r3:=ya2 ((nth v4 v0 ([],[],false,[])).1,((nth v4 v0 ([],[],false,[])).2).1,(((nth v4 v0 ([],[],false,[])).2).2))
 bif (!(!r3)) then
 let r4:=ytH (v2,v3)
 bif (!((((nth v4 v0 ([],[],false,[])).1).length:Int) !=r4)) then
 bif (((nth v4 v0 ([],[],false,[])).2).2).1 then
 bif (v0 !=v5) then
 bif (!v13) then
 some (.inr (.inr (((false,()),()),(),())))
 else
 some (.inl ((((),()),((IntKind.i64.wrap (v0+1)),()),()),((v1,v2,v3,v4,v5,v6,v7,v8,v9,v10,v11,v12,v13,()),()),()))
 else
 some (.inl ((((),()),((IntKind.i64.wrap (v0+1)),()),()),((v1,v2,v3,v4,v5,v6,v7,v8,v9,v10,v11,v12,v13,()),()),()))
 else
 some (.inl ((((),()),((IntKind.i64.wrap (v0+1)),()),()),((v1,v2,v3,v4,v5,v6,v7,v8,v9,v10,v11,v12,v13,()),()),()))
 else
 some (.inr (.inr (((false,()),()),(),())))
 else
 some (.inr (.inr (((false,()),()),(),())))
 else none
 else
 some (.inr (.inl ((((),()),()),((v1,v2,v3,v4,v5,v6,v7,v8,v9,v10,v11,v12,v13,()),()),())))
def ycI (x:(ycb).X):=ysy x.1.2.1.1 x.2.1.1.1 x.2.1.1.2.1 x.2.1.1.2.2.1 x.2.1.1.2.2.2.1 x.2.1.1.2.2.2.2.1 x.2.1.1.2.2.2.2.2.1 x.2.1.1.2.2.2.2.2.2.1 x.2.1.1.2.2.2.2.2.2.2.1 x.2.1.1.2.2.2.2.2.2.2.2.1 x.2.1.1.2.2.2.2.2.2.2.2.2.1 x.2.1.1.2.2.2.2.2.2.2.2.2.2.1 x.2.1.1.2.2.2.2.2.2.2.2.2.2.2.1 x.2.1.1.2.2.2.2.2.2.2.2.2.2.2.2.1
def yBS (x:(ygU).X):(ycb).X:=((((),()),(0,()),()),((x.2.1.1.1,x.2.1.1.2.1,x.2.1.1.2.2.1,x.2.1.1.2.2.2.1,x.2.1.1.2.2.2.2.1,x.2.1.1.2.2.2.2.2.1,x.2.1.1.2.2.2.2.2.2.1,x.2.1.1.2.2.2.2.2.2.2.1,x.2.1.1.2.2.2.2.2.2.2.2.1,x.2.1.1.2.2.2.2.2.2.2.2.2.1,x.2.1.1.2.2.2.2.2.2.2.2.2.2.1,x.2.1.1.2.2.2.2.2.2.2.2.2.2.2.1,x.2.1.1.2.2.2.2.2.2.2.2.2.2.2.2.1,()),()),())
def yDu:Code:=(zdI ym1 64 52).getD .skip
theorem yQh:zdI ym1 64 13=some (.block 0 (.loop yDu)):=by kernel_rfl
theorem yS7 (x:(ycb).X):zg7 ⟨ysZ,51,yFC⟩ 0 yDu 52 ycb ygN yg0 x=ycI x:=by kernel_rfl
def yB7 (x:(ygU).X):Nat:=18446744073709551616
def yt2 (x:(ygU).X):Option ((ygN).X ⊕ (yg0).X):=zr ycI (yB7 x) (yBS x)
def yCq:Seg:=⟨ygU,ygN,yg0,yt2⟩
def yFD:Nat→Option Seg:=fun q=>bif Nat.beq q 13 then some yCq else yFC q
theorem yRb:FrOk Tryz.prog ⟨ysZ,51,yFD⟩ ym1:=(yRa).loop (sg:=yCq) ycb yBS (by decide) yQh ycI yB7 (by decide) (fun _=>rfl) (fun x r _ h=>h) yS7
abbrev yfp:List Par:= [.rd tA]
abbrev ynm:List OT:= [⟨false,tB,.fz⟩]
def ypu (a0:dA):Option (ResD ynm×MutD yfp) :=
 zjw (yt2 ((((),()),((),()),()),((a0.1,a0.2.1.1,a0.2.1.2,a0.2.2.1,a0.2.2.2.1,a0.2.2.2.2.1,a0.2.2.2.2.2.1,a0.2.2.2.2.2.2.1,a0.2.2.2.2.2.2.2.1,a0.2.2.2.2.2.2.2.2.1,a0.2.2.2.2.2.2.2.2.2.1,a0.2.2.2.2.2.2.2.2.2.2.1,a0.2.2.2.2.2.2.2.2.2.2.2,()),()),())) (fun y4 =>
 some ((((y4.2.1.1.2.2.2.1.length:Int)==y4.2.1.1.2.1),()),())) (fun y4 =>
 some ((y4.1.1.1,()),()))
theorem y0H (x:InD yfp):zjH ⟨ysZ,51,yFD⟩ Tryz.f136.results.toList ym1 yfp ynm x=ypu x.1:=by kernel_rfl
theorem yWf:ConOk Tryz.prog 136 ⟨yfp,ynm,fun x=>ypu x.1⟩:=zkh (yRb) Tryz.func136 (by kernel_rfl) (by kernel_rfl) Tryz.ntmps136.symm (by decide) (fun x r h=>(y0H x).trans h)
def ynB (a0:dA):Bool:=ynt a0
def yAx (a0:dA):Bool:=yf a0.2.1
theorem yYB (a0:dA) (hk:zi9 yfp (a0,())) (hq:yAx a0=true):ypu a0=(fun n=>some ((n,()),())) (ynB a0):=by
 have hb:a0.2.2.1.length * 80≤2 ^ 47:=hk.1.2.2.1.1
 have hg:=yo.1 hq
 have h1:yt2 (yOI a0)=some (bif (List.range a0.2.2.1.length).any (yg2 a0) then .inr (yOL false) else .inl (yOD a0)) :=
  zf4 (step:=ycI) (fun i=>yse i a0) a0.2.2.1.length (yg2 a0) _ _ (fun i hi=>by
   simp only [ycI,yse,ysy,zjI (show (i:Int) < a0.2.2.1.length by omega),cond_true,wr (show -9223372036854775808≤(i:Int)+1 by omega) (by omega),Int.natCast_add,Int.natCast_one,Int.toNat_natCast,zkO hi,zkV,ya2,yg2,ytH,wr (show -9223372036854775808≤6+a0.2.1.2 by omega) (by omega),yh]
   cases yu (nth a0.2.2.1 i ([],[],false,[]))<;>cases (((nth a0.2.2.1 i ([],[],false,[])).1.length:Int) !=6+a0.2.1.2)<;>cases (nth a0.2.2.1 i ([],[],false,[])).2.2.1<;>cases ((i:Int) !=a0.2.2.2.1)<;>cases a0.2.2.2.2.2.2.2.2.2.2.2<;>rfl) (by simp only [ycI,yse,ysy,zkm (Int.le_refl _),cond_false]) _ (by show _ < 18446744073709551616; omega)
 unfold ypu ynB ynt
 rw [h1]
 cases (List.range a0.2.2.1.length).any (yg2 a0)<;>rfl
def ytK (a0:dA):Option (ResD ynm×MutD yfp):=bif yAx a0 then (fun n=>some ((n,()),())) (ynB a0) else none
theorem yZI (a0:dA) (h:yAx a0=true):ytK a0=(fun n=>some ((n,()),())) (ynB a0):=by unfold ytK; rw [h]; rfl
def yGv:Con:=⟨yfp,ynm,fun x=>ytK x.1⟩
theorem yZA:ConOk Tryz.prog 136 yGv:=(yWf).mono (fun x r hk h=>zkW h (fun hq=>yYB x.1 hk hq))
end
section
def ykI:Code:=(Tryz.f137.body).getD .skip
def yq1:Env:=zki TT [(135,yn),(225,yg1)] []
theorem yOu:FrOk Tryz.prog ⟨yq1,57,fun _=>none⟩ ykI:=zkp yb yc ⟨yr,ypc,trivial⟩
def yC8:Nat→Option Seg:=fun _=>none
def ybu:Shape:=⟨[(1,false,[.ptr 0 0]),(3,false,[.int .i64])],[(0,[.int .i64,.int .i64,.int .i64,.br tM,.int .i64,.int .i64,.int .i64,.int .i64,.int .i64,.br tW,.int .i64,.bool,.bool])],[]⟩
def yfU:Shape:=⟨[(1,false,[.ptr 0 0]),(3,false,[.ci .i64 0])],[(0,[.int .i64,.int .i64,.int .i64,.br tM,.int .i64,.int .i64,.int .i64,.int .i64,.int .i64,.br tW,.int .i64,.bool,.bool])],[]⟩
def yfM:Shape:=⟨[],[],[]⟩
def yfY:Shape:=⟨[(2,false,[.bool])],[],[]⟩
abbrev yqv (v0:Int) (v1:dA):(ybu).X:=((((),()),(v0,()),()),((v1.1,v1.2.1.1,v1.2.1.2,v1.2.2.1,v1.2.2.2.1,v1.2.2.2.2.1,v1.2.2.2.2.2.1,v1.2.2.2.2.2.2.1,v1.2.2.2.2.2.2.2.1,v1.2.2.2.2.2.2.2.2.1,v1.2.2.2.2.2.2.2.2.2.1,v1.2.2.2.2.2.2.2.2.2.2.1,v1.2.2.2.2.2.2.2.2.2.2.2,()),()),())
abbrev yMJ (v0:dA):(yfU).X:=((((),()),((),()),()),((v0.1,v0.2.1.1,v0.2.1.2,v0.2.2.1,v0.2.2.2.1,v0.2.2.2.2.1,v0.2.2.2.2.2.1,v0.2.2.2.2.2.2.1,v0.2.2.2.2.2.2.2.1,v0.2.2.2.2.2.2.2.2.1,v0.2.2.2.2.2.2.2.2.2.1,v0.2.2.2.2.2.2.2.2.2.2.1,v0.2.2.2.2.2.2.2.2.2.2.2,()),()),())
abbrev yMB  :(yfM).X:=((),(),())
abbrev yMM (v0:Bool):(yfY).X:=(((v0,()),()),(),())
def yqP (v0 v1 v2 v3:Int) (v4:List dM) (v5 v6 v7 v8 v9:Int) (v10:List dW) (v11:Int) (v12 v13:Bool):Option ((ybu).X ⊕ ((yfM).X ⊕ (yfY).X)) :=
 bif (ltb v0 (v10.length:Int)) then
 bif (inb v0 v10.length) then
 let r3:=ya ((nth v10 v0 (0,[])).1) 0 (IntKind.i64.wrap (v3 - 1))
 bif (!(!r3)) then
 bif (!((((nth v10 v0 (0,[])).2).length:Int) !=(IntKind.i64.wrap (v2 - 1)))) then
 let r4:=yH ((nth v10 v0 (0,[])).2)
 bif (!(!r4)) then
 bif (ltb 0 v0) then
 bif (inb (IntKind.i64.wrap (v0 - 1)) v10.length) then
 bif (leb ((nth v10 v0 (0,[])).1) ((nth v10 (IntKind.i64.wrap (v0 - 1)) (0,[])).1)) then
 some (.inr (.inr (((false,()),()),(),())))
 else
 some (.inl ((((),()),((IntKind.i64.wrap (v0+1)),()),()),((v1,v2,v3,v4,v5,v6,v7,v8,v9,v10,v11,v12,v13,()),()),()))
 else none
 else
 some (.inl ((((),()),((IntKind.i64.wrap (v0+1)),()),()),((v1,v2,v3,v4,v5,v6,v7,v8,v9,v10,v11,v12,v13,()),()),()))
 else
 some (.inr (.inr (((false,()),()),(),())))
 else
 some (.inr (.inr (((false,()),()),(),())))
 else
 some (.inr (.inr (((false,()),()),(),())))
 else none
 else
 some (.inr (.inl ((),(),())))
def ybR (x:(ybu).X):=yqP x.1.2.1.1 x.2.1.1.1 x.2.1.1.2.1 x.2.1.1.2.2.1 x.2.1.1.2.2.2.1 x.2.1.1.2.2.2.2.1 x.2.1.1.2.2.2.2.2.1 x.2.1.1.2.2.2.2.2.2.1 x.2.1.1.2.2.2.2.2.2.2.1 x.2.1.1.2.2.2.2.2.2.2.2.1 x.2.1.1.2.2.2.2.2.2.2.2.2.1 x.2.1.1.2.2.2.2.2.2.2.2.2.2.1 x.2.1.1.2.2.2.2.2.2.2.2.2.2.2.1 x.2.1.1.2.2.2.2.2.2.2.2.2.2.2.2.1
def yzB (x:(yfU).X):(ybu).X:=((((),()),(0,()),()),((x.2.1.1.1,x.2.1.1.2.1,x.2.1.1.2.2.1,x.2.1.1.2.2.2.1,x.2.1.1.2.2.2.2.1,x.2.1.1.2.2.2.2.2.1,x.2.1.1.2.2.2.2.2.2.1,x.2.1.1.2.2.2.2.2.2.2.1,x.2.1.1.2.2.2.2.2.2.2.2.1,x.2.1.1.2.2.2.2.2.2.2.2.2.1,x.2.1.1.2.2.2.2.2.2.2.2.2.2.1,x.2.1.1.2.2.2.2.2.2.2.2.2.2.2.1,x.2.1.1.2.2.2.2.2.2.2.2.2.2.2.2.1,()),()),())
def yBn:Code:=(zdI ykI 64 52).getD .skip
theorem yNS:zdI ykI 64 13=some (.block 0 (.loop yBn)):=by kernel_rfl
theorem yPA (x:(ybu).X):zg7 ⟨yq1,57,yC8⟩ 0 yBn 52 ybu yfM yfY x=ybR x:=by kernel_rfl
def yzR (x:(yfU).X):Nat:=18446744073709551616
def yr4 (x:(yfU).X):Option ((yfM).X ⊕ (yfY).X):=zr ybR (yzR x) (yzB x)
def yAg:Seg:=⟨yfU,yfM,yfY,yr4⟩
def yC9:Nat→Option Seg:=fun q=>bif Nat.beq q 13 then some yAg else yC8 q
theorem yOv:FrOk Tryz.prog ⟨yq1,57,yC9⟩ ykI:=(yOu).loop (sg:=yAg) ybu yzB (by decide) yNS ybR yzR (by decide) (fun _=>rfl) (fun x r _ h=>h) yPA
abbrev yd2:List Par:= [.rd tA]
abbrev ylb:List OT:= [⟨false,tB,.fz⟩]
def ymK (a0:dA):Option (ResD ylb×MutD yd2) :=
 zjw (yr4 ((((),()),((),()),()),((a0.1,a0.2.1.1,a0.2.1.2,a0.2.2.1,a0.2.2.2.1,a0.2.2.2.2.1,a0.2.2.2.2.2.1,a0.2.2.2.2.2.2.1,a0.2.2.2.2.2.2.2.1,a0.2.2.2.2.2.2.2.2.1,a0.2.2.2.2.2.2.2.2.2.1,a0.2.2.2.2.2.2.2.2.2.2.1,a0.2.2.2.2.2.2.2.2.2.2.2,()),()),())) (fun y4 =>
 some ((true,()),())) (fun y4 =>
 some ((y4.1.1.1,()),()))
theorem yXP (x:InD yd2):zjH ⟨yq1,57,yC9⟩ Tryz.f137.results.toList ykI yd2 ylb x=ymK x.1:=by kernel_rfl
theorem ySv:ConOk Tryz.prog 137 ⟨yd2,ylb,fun x=>ymK x.1⟩:=zkh (yOv) Tryz.func137 (by kernel_rfl) (by kernel_rfl) Tryz.ntmps137.symm (by decide) (fun x r h=>(yXP x).trans h)
def ylw (a0:dA):Bool:=yaK a0.2.1 a0.2.2.2.2.2.2.2.2.1
def yyd (a0:dA):Bool:=yf a0.2.1
theorem yhY (l:List Int):yH l=l.all isW:=by
 unfold yH
 rw [show yX=isW from funext fun x=>by unfold yX; rw [yff]; rfl]
theorem yVF (a0:dA) (hk:zi9 yd2 (a0,())) (hq:yyd a0=true):ymK a0=(fun n=>some ((n,()),())) (ylw a0):=by
 have hb:a0.2.2.2.2.2.2.2.2.1.length * 32≤2 ^ 47:=hk.1.2.2.2.2.2.2.2.2.1.1
 have hg:=yo.1 hq
 have h1:yr4 (yMJ a0)=some (bif (List.range a0.2.2.2.2.2.2.2.2.1.length).any (yhS a0.2.1 a0.2.2.2.2.2.2.2.2.1) then .inr (yMM false) else .inl yMB) :=
  zf4 (step:=ybR) (fun i=>yqv i a0) a0.2.2.2.2.2.2.2.2.1.length (yhS a0.2.1 a0.2.2.2.2.2.2.2.2.1) _ _ (fun i hi=>by
   simp only [ybR,yqv,yqP,zjI (show (i:Int) < a0.2.2.2.2.2.2.2.2.1.length by omega),cond_true,wr (show -9223372036854775808≤(i:Int)+1 by omega) (by omega),Int.natCast_add,Int.natCast_one,Int.toNat_natCast,zkO hi,yff,yhY,wr (show -9223372036854775808≤a0.2.1.2 - 1 by omega) (by omega),wr (show -9223372036854775808≤a0.2.1.1 - 1 by omega) (by omega),yhS]
   rcases Nat.eq_zero_or_pos i with rfl | h0
   ·cases (leb 0 (nth a0.2.2.2.2.2.2.2.2.1 ((0:Nat):Int) (0,[])).1&&leb (nth a0.2.2.2.2.2.2.2.2.1 ((0:Nat):Int) (0,[])).1 (a0.2.1.2 - 1))<;>cases (((nth a0.2.2.2.2.2.2.2.2.1 ((0:Nat):Int) (0,[])).2.length:Int) !=a0.2.1.1 - 1)<;>cases ((nth a0.2.2.2.2.2.2.2.2.1 ((0:Nat):Int) (0,[])).2.all isW)<;>rfl
   ·rw [show IntKind.i64.wrap ((i:Int) - 1)=((i - 1:Nat):Int) by rw [wr (by omega) (by omega)]; omega,zkO (show i - 1 < a0.2.2.2.2.2.2.2.2.1.length by omega),zjI (show (0:Int) < i by omega),decide_eq_true h0]
    cases (leb 0 (nth a0.2.2.2.2.2.2.2.2.1 (i:Int) (0,[])).1&&leb (nth a0.2.2.2.2.2.2.2.2.1 (i:Int) (0,[])).1 (a0.2.1.2 - 1))<;>cases (((nth a0.2.2.2.2.2.2.2.2.1 (i:Int) (0,[])).2.length:Int) !=a0.2.1.1 - 1)<;>cases ((nth a0.2.2.2.2.2.2.2.2.1 (i:Int) (0,[])).2.all isW)<;>cases leb (nth a0.2.2.2.2.2.2.2.2.1 (i:Int) (0,[])).1 (nth a0.2.2.2.2.2.2.2.2.1 ((i - 1:Nat):Int) (0,[])).1<;>rfl) (by simp only [ybR,yqv,yqP,zkm (Int.le_refl _),cond_false]) _ (by show _ < 18446744073709551616; omega)
 unfold ymK ylw yaK
 rw [h1]
 cases (List.range a0.2.2.2.2.2.2.2.2.1.length).any (yhS a0.2.1 a0.2.2.2.2.2.2.2.2.1)<;>rfl
def yrv (a0:dA):Option (ResD ylb×MutD yd2):=bif yyd a0 then (fun n=>some ((n,()),())) (ylw a0) else none
theorem yWF (a0:dA) (h:yyd a0=true):yrv a0=(fun n=>some ((n,()),())) (ylw a0):=by unfold yrv; rw [h]; rfl
def yDK:Con:=⟨yd2,ylb,fun x=>yrv x.1⟩
theorem yWA:ConOk Tryz.prog 137 yDK:=(ySv).mono (fun x r hk h=>zkW h (fun hq=>yVF x.1 hk hq))
end
section
def yK1:Code:=(Tryz.f46.body).getD .skip
def yLq:Env:=zki TT [(134,ylh),(135,yn),(136,yGv),(137,yDK)] []
theorem yUO:FrOk Tryz.prog ⟨yLq,78,fun _=>none⟩ yK1:=zkp yb yc ⟨ytL,yr,yZA,yWA,trivial⟩
def yXi:Nat→Option Seg:=fun _=>none
abbrev ykY:List Par:= [.rd tA]
abbrev yvQ:List OT:= [⟨false,tB,.fz⟩]
def yrH (a0:dA):Option (ResD yvQ×MutD ykY) :=
 let r1:=yf a0.2.1
 bif (!(!r1)) then
 let r2:=ya a0.1 1 60000
 bif (!(!r2)) then
 bnd (ytK a0) fun r3 =>
 bif (!(!r3.1.1)) then
 bnd (yrv a0) fun r4 =>
 bif (!r4.1.1) then
 some ((false,()),())
 else
 let r5:=ya a0.2.2.2.1 (-1) (IntKind.i64.wrap (a0.2.1.1 - 1))
 bif (!(!r5)) then
 let r6:=ya a0.2.2.2.2.1 0 a0.2.1.2
 bif (!(!r6)) then
 bif (a0.2.2.2.1==(-1)) then
 bif (a0.2.2.2.2.1 !=0) then
 some ((false,()),())
 else
 let r7:=ya a0.2.2.2.2.2.2.1 0 60000
 bif r7 then
 let r8:=ya a0.2.2.2.2.2.1 a0.2.2.2.2.2.2.1 60000
 bif r8 then
 bif (leb a0.2.2.2.2.2.1 (IntKind.i64.wrap (a0.2.2.2.2.2.2.1+4))) then
 let r9:=ya a0.2.2.2.2.2.2.2.1 0 60000
 bif r9 then
 let r10:=ya a0.2.2.2.2.2.2.2.2.2.1 (-1) 1000
 some ((r10,()),())
 else
 some ((false,()),())
 else
 some ((false,()),())
 else
 some ((false,()),())
 else
 some ((false,()),())
 else
 let r11:=ya a0.2.2.2.2.2.2.1 0 60000
 bif r11 then
 let r12:=ya a0.2.2.2.2.2.1 a0.2.2.2.2.2.2.1 60000
 bif r12 then
 bif (leb a0.2.2.2.2.2.1 (IntKind.i64.wrap (a0.2.2.2.2.2.2.1+4))) then
 let r13:=ya a0.2.2.2.2.2.2.2.1 0 60000
 bif r13 then
 let r14:=ya a0.2.2.2.2.2.2.2.2.2.1 (-1) 1000
 some ((r14,()),())
 else
 some ((false,()),())
 else
 some ((false,()),())
 else
 some ((false,()),())
 else
 some ((false,()),())
 else
 some ((false,()),())
 else
 some ((false,()),())
 else
 some ((false,()),())
 else
 some ((false,()),())
 else
 some ((false,()),())
theorem y2r (x:InD ykY):zjH ⟨yLq,78,yXi⟩ Tryz.f46.results.toList yK1 ykY yvQ x=yrH x.1:=by kernel_rfl
theorem yY5:ConOk Tryz.prog 46 ⟨ykY,yvQ,fun x=>yrH x.1⟩:=zkh (yUO) Tryz.func46 (by kernel_rfl) (by kernel_rfl) Tryz.ntmps46.symm (by decide) (fun x r h=>(y2r x).trans h)
def yan (a0:dA):Bool:=yp a0
theorem y1c (a0:dA) (hk:zi9 ykY (a0,())):yrH a0=(fun n=>some ((n,()),())) (yan a0):=by
 unfold yrH yan yp
 simp only [yff]
 cases hg:yf a0.2.1
 ·rfl
 have hg2:=yo.1 hg
 rw [yZI a0 hg,yWF a0 hg,wr (show -9223372036854775808≤a0.2.1.1 - 1 by omega) (by omega)]
 simp only [zky,ynB,ylw,Bool.not_not,cond_true]
 cases (leb 1 a0.1&&leb a0.1 60000)
 ·rfl
 cases ynt a0
 ·rfl
 cases yaK a0.2.1 a0.2.2.2.2.2.2.2.2.1
 ·rfl
 cases (leb (-1) a0.2.2.2.1&&leb a0.2.2.2.1 (a0.2.1.1 - 1))
 ·rfl
 cases (leb 0 a0.2.2.2.2.1&&leb a0.2.2.2.2.1 a0.2.1.2)
 ·rfl
 have ht:(leb 0 a0.2.2.2.2.2.2.1&&leb a0.2.2.2.2.2.2.1 60000)=true→IntKind.i64.wrap (a0.2.2.2.2.2.2.1+4)=a0.2.2.2.2.2.2.1+4:=fun h=>by
  rw [Bool.and_eq_true,zjQ,zjQ]at h
  exact wr (by omega) (by omega)
 cases hT:(leb 0 a0.2.2.2.2.2.2.1&&leb a0.2.2.2.2.2.2.1 60000)
 ·cases (a0.2.2.2.1== -1)<;>cases (a0.2.2.2.2.1 !=0)<;>rfl
 rw [ht hT]
 cases (leb a0.2.2.2.2.2.2.1 a0.2.2.2.2.2.1&&leb a0.2.2.2.2.2.1 60000)
 ·cases (a0.2.2.2.1== -1)<;>cases (a0.2.2.2.2.1 !=0)<;>rfl
 cases leb a0.2.2.2.2.2.1 (a0.2.2.2.2.2.2.1+4)
 ·cases (a0.2.2.2.1== -1)<;>cases (a0.2.2.2.2.1 !=0)<;>rfl
 cases (leb 0 a0.2.2.2.2.2.2.2.1&&leb a0.2.2.2.2.2.2.2.1 60000)<;>cases (a0.2.2.2.1== -1)<;>cases (a0.2.2.2.2.1 !=0)<;>rfl
def yx2:Con:=⟨ykY,yvQ,fun x=>(fun n=>some ((n,()),())) (yan x.1)⟩
theorem yJ2:ConOk Tryz.prog 46 yx2:=(yY5).mono (fun x r hk h=>(y1c x.1 hk).trans h)
end
section
def yG3:Code:=(Tryz.f100.body).getD .skip
def yHC:Env:=zki TT [] []
theorem yN8:FrOk Tryz.prog ⟨yHC,6,fun _=>none⟩ yG3:=zkp yb yc trivial
def yPU:Nat→Option Seg:=fun _=>none
abbrev ykR:List Par:= [.rd tG]
abbrev yq7:List OT:= [⟨false,tI,.fz⟩]
def yus (a0:dG):Option (ResD yq7×MutD ykR) :=
 some (((IntKind.i64.wrap (6+a0.2)),()),())
theorem yXB (x:InD ykR):zjH ⟨yHC,6,yPU⟩ Tryz.f100.results.toList yG3 ykR yq7 x=yus x.1:=by kernel_rfl
theorem ySh:ConOk Tryz.prog 100 ⟨ykR,yq7,fun x=>yus x.1⟩:=zkh (yN8) Tryz.func100 (by kernel_rfl) (by kernel_rfl) Tryz.ntmps100.symm (by decide) (fun x r h=>(yXB x).trans h)
def yrs (a0:dG):Int :=
 (IntKind.i64.wrap (6+a0.2))
def yDz:Con:=⟨ykR,yq7,fun x=>(fun n=>some ((n,()),())) (yrs x.1)⟩
theorem yVr (a0:dG):yus a0=(fun n=>some ((n,()),())) (yrs a0):=zkS (p:=fun (n:Int)=>((n,()),())) rfl
theorem yWq:ConOk Tryz.prog 100 yDz:=(ySh).mono (fun x r _ h=>(yVr x.1).trans h)
end
section
def yJi:Code:=(Tryz.f126.body).getD .skip
def yJH:Env:=zki TT [] []
theorem yQD:FrOk Tryz.prog ⟨yJH,15,fun _=>none⟩ yJi:=zkp yb yc trivial
def yTo:Nat→Option Seg:=fun _=>none
abbrev ynd:List Par:= [.rd tI,.rd tI,.rd tI]
abbrev yte:List OT:= [⟨false,tB,.fz⟩]
def ywO (a0 a1 a2:Int):Option (ResD yte×MutD ynd) :=
 bif (leb a1 a0) then
 some (((leb a0 a2),()),())
 else
 some ((false,()),())
theorem y0n (x:InD ynd):zjH ⟨yJH,15,yTo⟩ Tryz.f126.results.toList yJi ynd yte x=ywO x.1 x.2.1 x.2.2.1:=by kernel_rfl
theorem yVV:ConOk Tryz.prog 126 ⟨ynd,yte,fun x=>ywO x.1 x.2.1 x.2.2.1⟩:=zkh (yQD) Tryz.func126 (by kernel_rfl) (by kernel_rfl) Tryz.ntmps126.symm (by decide) (fun x r h=>(y0n x).trans h)
def ye (a0 a1 a2:Int):Bool :=
 bif (leb a1 a0) then
 (leb a0 a2)
 else
 false
def yw:Con:=⟨ynd,yte,fun x=>(fun n=>some ((n,()),())) (ye x.1 x.2.1 x.2.2.1)⟩
theorem yYh (a0 a1 a2:Int):ywO a0 a1 a2=(fun n=>some ((n,()),())) (ye a0 a1 a2):=zkS (p:=fun (n:Bool)=>((n,()),())) (zkx (p:=fun (n:Bool)=>((n,()),())) rfl rfl)
theorem yQ:ConOk Tryz.prog 126 yw:=(yVV).mono (fun x r _ h=>(yYh x.1 x.2.1 x.2.2.1).trans h)
theorem yaH (a b c:Int):ye a b c=ya a b c:=by kernel_rfl
end
end
end Go.Tf
