/- Functions of the program, and what they come to. -/
import Derived.Test.YtgmadfpnljibhaaGreatExactSetBlockF0
namespace Go.Tf
noncomputable section
open Go.Proofs
set_option synthInstance.maxHeartbeats 400000
set_option synthInstance.maxSize 10000
set_option linter.unusedVariables false
set_option linter.unusedSimpArgs false
set_option maxRecDepth 100000
section
def yal:Code:=(Tryz.f224.body).getD .skip
def ycV:Env:=zki TT [(135,yl),(269,yAK)] []
theorem yK7:FrOk Tryz.prog ⟨ycV,91,fun _=>none⟩ yal:=zkp yb yc ⟨yv,yRb,trivial⟩
def yAb:Nat→Option Seg:=fun _=>none
def ybV:Shape:=⟨[(1,false,[.ptr 0 0]),(3,false,[.int .i64]),(4,false,[.int .i64])],[(0,[.br tL,.br tW,.bool,.br tI])],[]⟩
def ygb:Shape:=⟨[(1,false,[.ptr 0 0]),(3,false,[.int .i64]),(4,false,[.ci .i64 0])],[(0,[.br tL,.br tW,.bool,.br tI])],[]⟩
def yfW:Shape:=⟨[(1,false,[.ptr 0 0]),(3,false,[.int .i64])],[(0,[.br tL,.br tW,.bool,.br tI])],[]⟩
def ygu:Shape:=⟨[(2,false,[.bool])],[],[]⟩
abbrev ypG (v0 v1:Int) (v2:dM):(ybV).X:=((((),()),(v0,()),(v1,()),()),((v2.1,v2.2.1,v2.2.2.1,v2.2.2.2,()),()),())
abbrev yIh (v0:Int) (v1:dM):(ygb).X:=((((),()),(v0,()),((),()),()),((v1.1,v1.2.1,v1.2.2.1,v1.2.2.2,()),()),())
abbrev yH8 (v0:Int) (v1:dM):(yfW).X:=((((),()),(v0,()),()),((v1.1,v1.2.1,v1.2.2.1,v1.2.2.2,()),()),())
abbrev yIp (v0:Bool):(ygu).X:=(((v0,()),()),(),())
def ypY (v0 v1:Int) (v2:List (List Int)) (v3:List dW) (v4:Bool) (v5:List Int):Option ((ybV).X ⊕ ((yfW).X ⊕ (ygu).X)) :=
 bif (ltb v1 v0) then
 bif (inb v1 v2.length) then
 let r2:=yis (nth v2 v1 [])
 bif (!r2) then
 some (.inr (.inr (((false,()),()),(),())))
 else
 some (.inl ((((),()),(v0,()),((IntKind.i64.wrap (v1+1)),()),()),((v2,v3,v4,v5,()),()),()))
 else none
 else
 some (.inr (.inl ((((),()),(v0,()),()),((v2,v3,v4,v5,()),()),())))
def ycm (x:(ybV).X):=ypY x.1.2.1.1 x.1.2.2.1.1 x.2.1.1.1 x.2.1.1.2.1 x.2.1.1.2.2.1 x.2.1.1.2.2.2.1
def yxf (x:(ygb).X):(ybV).X:=((((),()),(x.1.2.1.1,()),(0,()),()),((x.2.1.1.1,x.2.1.1.2.1,x.2.1.1.2.2.1,x.2.1.1.2.2.2.1,()),()),())
def yyY:Code:=(zdI yal 64 116).getD .skip
theorem yJ5:zdI yal 64 29=some (.block 0 (.loop yyY)):=by kernel_rfl
theorem yMP (x:(ybV).X):zg7 ⟨ycV,91,yAb⟩ 0 yyY 116 ybV yfW ygu x=ycm x:=by kernel_rfl
def yxt (x:(ygb).X):Nat:=18446744073709551616
def yqA (x:(ygb).X):Option ((yfW).X ⊕ (ygu).X):=zr ycm (yxt x) (yxf x)
def yxR:Seg:=⟨ygb,yfW,ygu,yqA⟩
def yr9:Nat→Option Seg:=fun q=>bif Nat.beq q 29 then some yxR else yAb q
theorem yK8:FrOk Tryz.prog ⟨ycV,91,yr9⟩ yal:=(yK7).loop (sg:=yxR) ybV yxf (by decide) yJ5 ycm yxt (by decide) (fun _=>rfl) (fun x r _ h=>h) yMP
def ybW:Shape:=⟨[(1,false,[.ptr 0 0]),(3,false,[.int .i64]),(5,false,[.int .i64])],[(0,[.br tL,.br tW,.bool,.br tI])],[]⟩
def ygc:Shape:=⟨[(1,false,[.ptr 0 0]),(3,false,[.int .i64]),(5,false,[.ci .i64 0])],[(0,[.br tL,.br tW,.bool,.br tI])],[]⟩
def yfX:Shape:=⟨[(1,false,[.ptr 0 0]),(3,false,[.int .i64])],[(0,[.br tL,.br tW,.bool,.br tI])],[]⟩
def ygv:Shape:=⟨[(2,false,[.bool])],[],[]⟩
abbrev ypH (v0 v1:Int) (v2:dM):(ybW).X:=((((),()),(v0,()),(v1,()),()),((v2.1,v2.2.1,v2.2.2.1,v2.2.2.2,()),()),())
abbrev yIi (v0:Int) (v1:dM):(ygc).X:=((((),()),(v0,()),((),()),()),((v1.1,v1.2.1,v1.2.2.1,v1.2.2.2,()),()),())
abbrev yH9 (v0:Int) (v1:dM):(yfX).X:=((((),()),(v0,()),()),((v1.1,v1.2.1,v1.2.2.1,v1.2.2.2,()),()),())
abbrev yIq (v0:Bool):(ygv).X:=(((v0,()),()),(),())
def ypZ (v0 v1:Int) (v2:List (List Int)) (v3:List dW) (v4:Bool) (v5:List Int):Option ((ybW).X ⊕ ((yfX).X ⊕ (ygv).X)) :=
 bif (ltb v1 (v3.length:Int)) then
 bif (inb v1 v3.length) then
 let r6:=ya ((nth v3 v1 (0,[])).1) 0 (IntKind.i64.wrap (v0 - 1))
 bif (!(!r6)) then
 bif (inb v1 v3.length) then
 let r7:=yis ((nth v3 v1 (0,[])).2)
 bif (!r7) then
 some (.inr (.inr (((false,()),()),(),())))
 else
 some (.inl ((((),()),(v0,()),((IntKind.i64.wrap (v1+1)),()),()),((v2,v3,v4,v5,()),()),()))
 else none
 else
 some (.inr (.inr (((false,()),()),(),())))
 else none
 else
 some (.inr (.inl ((((),()),(v0,()),()),((v2,v3,v4,v5,()),()),())))
def ycn (x:(ybW).X):=ypZ x.1.2.1.1 x.1.2.2.1.1 x.2.1.1.1 x.2.1.1.2.1 x.2.1.1.2.2.1 x.2.1.1.2.2.2.1
def yxg (x:(ygc).X):(ybW).X:=((((),()),(x.1.2.1.1,()),(0,()),()),((x.2.1.1.1,x.2.1.1.2.1,x.2.1.1.2.2.1,x.2.1.1.2.2.2.1,()),()),())
def yyZ:Code:=(zdI yal 64 244).getD .skip
theorem yJ6:zdI yal 64 61=some (.block 2 (.loop yyZ)):=by kernel_rfl
theorem yMQ (x:(ybW).X):zg7 ⟨ycV,91,yr9⟩ 2 yyZ 244 ybW yfX ygv x=ycn x:=by kernel_rfl
def yxu (x:(ygc).X):Nat:=18446744073709551616
def yqB (x:(ygc).X):Option ((yfX).X ⊕ (ygv).X):=zr ycn (yxu x) (yxg x)
def yxS:Seg:=⟨ygc,yfX,ygv,yqB⟩
def ysa:Nat→Option Seg:=fun q=>bif Nat.beq q 61 then some yxS else yr9 q
theorem yK9:FrOk Tryz.prog ⟨ycV,91,ysa⟩ yal:=(yK8).loop (sg:=yxS) ybW yxg (by decide) yJ6 ycn yxu (by decide) (fun _=>rfl) (fun x r _ h=>h) yMQ
def ybd:Shape:=⟨[(1,false,[.ptr 0 0]),(3,false,[.int .i64]),(6,false,[.int .i64])],[(0,[.br tL,.br tW,.bool,.br tI])],[]⟩
def yeL:Shape:=⟨[(1,false,[.ptr 0 0]),(3,false,[.int .i64]),(6,false,[.ci .i64 0])],[(0,[.br tL,.br tW,.bool,.br tI])],[]⟩
def yeE:Shape:=⟨[(1,false,[.ptr 0 0]),(3,false,[.int .i64])],[(0,[.br tL,.br tW,.bool,.br tI])],[]⟩
def yeS:Shape:=⟨[(2,false,[.bool])],[],[]⟩
abbrev ynP (v0 v1:Int) (v2:dM):(ybd).X:=((((),()),(v0,()),(v1,()),()),((v2.1,v2.2.1,v2.2.2.1,v2.2.2.2,()),()),())
abbrev yFI (v0:Int) (v1:dM):(yeL).X:=((((),()),(v0,()),((),()),()),((v1.1,v1.2.1,v1.2.2.1,v1.2.2.2,()),()),())
abbrev yFE (v0:Int) (v1:dM):(yeE).X:=((((),()),(v0,()),()),((v1.1,v1.2.1,v1.2.2.1,v1.2.2.2,()),()),())
abbrev yFO (v0:Bool):(yeS).X:=(((v0,()),()),(),())
def yn8 (v0 v1:Int) (v2:List (List Int)) (v3:List dW) (v4:Bool) (v5:List Int):Option ((ybd).X ⊕ ((yeE).X ⊕ (yeS).X)) :=
 bif (ltb v1 (v5.length:Int)) then
 bif (inb v1 v5.length) then
 let r10:=ya (nth v5 v1 0) 0 (IntKind.i64.wrap (v0 - 1))
 bif (!(!r10)) then
 bif (ltb 0 v1) then
 bif (inb (IntKind.i64.wrap (v1 - 1)) v5.length) then
 bif (inb v1 v5.length) then
 bif (leb (nth v5 v1 0) (nth v5 (IntKind.i64.wrap (v1 - 1)) 0)) then
 some (.inr (.inr (((false,()),()),(),())))
 else
 some (.inl ((((),()),(v0,()),((IntKind.i64.wrap (v1+1)),()),()),((v2,v3,v4,v5,()),()),()))
 else none
 else none
 else
 some (.inl ((((),()),(v0,()),((IntKind.i64.wrap (v1+1)),()),()),((v2,v3,v4,v5,()),()),()))
 else
 some (.inr (.inr (((false,()),()),(),())))
 else none
 else
 some (.inr (.inl ((((),()),(v0,()),()),((v2,v3,v4,v5,()),()),())))
def ybJ (x:(ybd).X):=yn8 x.1.2.1.1 x.1.2.2.1.1 x.2.1.1.1 x.2.1.1.2.1 x.2.1.1.2.2.1 x.2.1.1.2.2.2.1
def yu8 (x:(yeL).X):(ybd).X:=((((),()),(x.1.2.1.1,()),(0,()),()),((x.2.1.1.1,x.2.1.1.2.1,x.2.1.1.2.2.1,x.2.1.1.2.2.2.1,()),()),())
def ywF:Code:=(zdI yal 64 500).getD .skip
theorem yG2:zdI yal 64 125=some (.block 4 (.loop ywF)):=by kernel_rfl
theorem yJt (x:(ybd).X):zg7 ⟨ycV,91,ysa⟩ 4 ywF 500 ybd yeE yeS x=ybJ x:=by kernel_rfl
def yvn (x:(yeL).X):Nat:=18446744073709551616
def yps (x:(yeL).X):Option ((yeE).X ⊕ (yeS).X):=zr ybJ (yvn x) (yu8 x)
def yvF:Seg:=⟨yeL,yeE,yeS,yps⟩
def yAc:Nat→Option Seg:=fun q=>bif Nat.beq q 125 then some yvF else ysa q
theorem yLa:FrOk Tryz.prog ⟨ycV,91,yAc⟩ yal:=(yK9).loop (sg:=yvF) ybd yu8 (by decide) yG2 ybJ yvn (by decide) (fun _=>rfl) (fun x r _ h=>h) yJt
abbrev yh6:List Par:= [.rd tM]
abbrev yq1:List OT:= [⟨false,tB,.fz⟩]
def ynq (a0:dM):Option (ResD yq1×MutD yh6) :=
 zjw (yqA ((((),()),((a0.1.length:Int),()),((),()),()),((a0.1,a0.2.1,a0.2.2.1,a0.2.2.2,()),()),())) (fun y2 =>
 zjw (yqB ((((),()),(y2.1.2.1.1,()),((),()),()),((y2.2.1.1.1,y2.2.1.1.2.1,y2.2.1.1.2.2.1,y2.2.1.1.2.2.2.1,()),()),())) (fun y7 =>
 zjw (yps ((((),()),(y7.1.2.1.1,()),((),()),()),((y7.2.1.1.1,y7.2.1.1.2.1,y7.2.1.1.2.2.1,y7.2.1.1.2.2.2.1,()),()),())) (fun y10 =>
 let r12:=ya y10.1.2.1.1 1 20
 bif r12 then
 some (((leb (y10.2.1.1.2.1.length:Int) 60),()),())
 else
 some ((false,()),())) (fun y10 =>
 some ((y10.1.1.1,()),()))) (fun y7 =>
 some ((y7.1.1.1,()),()))) (fun y2 =>
 some ((y2.1.1.1,()),()))
theorem yRG (x:InD yh6):zjH ⟨ycV,91,yAc⟩ Tryz.f224.results.toList yal yh6 yq1 x=ynq x.1:=by kernel_rfl
theorem yOR:ConOk Tryz.prog 224 ⟨yh6,yq1,fun x=>ynq x.1⟩:=zkh (yLa) Tryz.func224 (by kernel_rfl) (by kernel_rfl) Tryz.ntmps224.symm (by decide) (fun x r h=>(yRG x).trans h)
def ye1 (a0:dM):Bool:=yK a0
theorem yQI (a0:dM) (hk:zi9 yh6 (a0,())):ynq a0=(fun n=>some ((n,()),())) (ye1 a0):=by
 have hb1:a0.1.length * 24≤2 ^ 47:=hk.1.1.1
 have hb2:a0.2.1.length * 32≤2 ^ 47:=hk.1.2.1.1
 have hb3:a0.2.2.2.length * 8≤2 ^ 47:=hk.1.2.2.2.1
 have h1:yqA (yIh a0.1.length a0)=some (bif a0.1.all ybO then .inl (yH8 a0.1.length a0) else .inr (yIp false)) :=
  zjS (step:=ycm) a0.1 [] (fun i=>ypG a0.1.length i a0) ybO _ _ (fun i hi=>by
   simp only [ycm,ypG,ypY,zjI (show (i:Int) < a0.1.length by omega),cond_true,wr (show -9223372036854775808≤(i:Int)+1 by omega) (by omega),Int.natCast_add,Int.natCast_one,Int.toNat_natCast,zkO hi,zjW,yGI]
   cases ybO (a0.1.getD i [])<;>rfl) (by simp only [ycm,ypG,ypY,zkm (Int.le_refl _),cond_false]) _ (by show _ < 18446744073709551616; omega)
 have h2:yqB (yIi a0.1.length a0)=some (bif a0.2.1.all (ysE a0.1.length) then .inl (yH9 a0.1.length a0) else .inr (yIq false)) :=
  zjS (step:=ycn) a0.2.1 (0,[]) (fun i=>ypH a0.1.length i a0) (ysE a0.1.length) _ _ (fun i hi=>by
   simp only [ycn,ypH,ypZ,zjI (show (i:Int) < a0.2.1.length by omega),cond_true,wr (show -9223372036854775808≤(i:Int)+1 by omega) (by omega),Int.natCast_add,Int.natCast_one,Int.toNat_natCast,zkO hi,zjW,yGI,yrh (show a0.1.length≤1152921504606846976 by omega),ysE]
   cases inb (a0.2.1.getD i (0,[])).1 a0.1.length<;>cases ybO (a0.2.1.getD i (0,[])).2<;>rfl) (by simp only [ycn,ypH,ypZ,zkm (Int.le_refl _),cond_false]) _ (by show _ < 18446744073709551616; omega)
 have h3:yps (yFI a0.1.length a0)=some (bif (List.range a0.2.2.2.length).any (yyP a0.1.length a0.2.2.2) then .inr (yFO false) else .inl (yFE a0.1.length a0)) :=
  zf4 (step:=ybJ) (fun i=>ynP a0.1.length i a0) a0.2.2.2.length (yyP a0.1.length a0.2.2.2) _ _ (fun i hi=>by
   simp only [ybJ,ynP,yn8,zjI (show (i:Int) < a0.2.2.2.length by omega),cond_true,wr (show -9223372036854775808≤(i:Int)+1 by omega) (by omega),Int.natCast_add,Int.natCast_one,Int.toNat_natCast,zkO hi,zjW,yrh (show a0.1.length≤1152921504606846976 by omega),yyP]
   rcases Nat.eq_zero_or_pos i with rfl | h0
   ·cases inb (a0.2.2.2.getD 0 0) a0.1.length<;>rfl
   ·rw [show IntKind.i64.wrap ((i:Int) - 1)=((i - 1:Nat):Int) by rw [wr (by omega) (by omega)]; omega,zkO (show i - 1 < a0.2.2.2.length by omega),zjW,zjI (show (0:Int) < i by omega),decide_eq_true h0]
    cases inb (a0.2.2.2.getD i 0) a0.1.length<;>cases leb (a0.2.2.2.getD i 0) (a0.2.2.2.getD (i - 1) 0)<;>rfl) (by simp only [ybJ,ynP,yn8,zkm (Int.le_refl _),cond_false]) _ (by show _ < 18446744073709551616; omega)
 unfold ynq ye1 yK
 rw [h1]
 cases a0.1.all ybO
 ·rfl
 simp only [cond_true,zkJ,h2]
 cases a0.2.1.all (ysE a0.1.length)
 ·rfl
 simp only [cond_true,zkJ,h3,yPv,ydr]
 cases yq5 a0.1.length a0.2.2.2
 ·rfl
 simp only [Bool.not_true,cond_false,zkJ]
 cases leb 1 (a0.1.length:Int)<;>cases leb (a0.1.length:Int) 20<;>rfl
def ysf:Con:=⟨yh6,yq1,fun x=>(fun n=>some ((n,()),())) (ye1 x.1)⟩
theorem yCi:ConOk Tryz.prog 224 ysf:=(yOR).mono (fun x r hk h=>(yQI x.1 hk).trans h)
end
section
def yjB:Code:=(Tryz.f136.body).getD .skip
def yoD:Env:=zki TT [(139,yzo),(224,ysf)] []
theorem yHV:FrOk Tryz.prog ⟨yoD,51,fun _=>none⟩ yjB:=zkp yb yc ⟨yPi,yCi,trivial⟩
def yyC:Nat→Option Seg:=fun _=>none
def ybi:Shape:=⟨[(1,false,[.ptr 0 0]),(3,false,[.int .i64])],[(0,[.int .i64,.int .i64,.int .i64,.br tM,.int .i64,.int .i64,.int .i64,.int .i64,.int .i64,.br tW,.int .i64,.bool,.bool])],[]⟩
def yeQ:Shape:=⟨[(1,false,[.ptr 0 0]),(3,false,[.ci .i64 0])],[(0,[.int .i64,.int .i64,.int .i64,.br tM,.int .i64,.int .i64,.int .i64,.int .i64,.int .i64,.br tW,.int .i64,.bool,.bool])],[]⟩
def yeJ:Shape:=⟨[(1,false,[.ptr 0 0])],[(0,[.int .i64,.int .i64,.int .i64,.br tM,.int .i64,.int .i64,.int .i64,.int .i64,.int .i64,.br tW,.int .i64,.bool,.bool])],[]⟩
def yeT:Shape:=⟨[(2,false,[.bool])],[],[]⟩
abbrev ynT (v0:Int) (v1:dA):(ybi).X:=((((),()),(v0,()),()),((v1.1,v1.2.1.1,v1.2.1.2,v1.2.2.1,v1.2.2.2.1,v1.2.2.2.2.1,v1.2.2.2.2.2.1,v1.2.2.2.2.2.2.1,v1.2.2.2.2.2.2.2.1,v1.2.2.2.2.2.2.2.2.1,v1.2.2.2.2.2.2.2.2.2.1,v1.2.2.2.2.2.2.2.2.2.2.1,v1.2.2.2.2.2.2.2.2.2.2.2,()),()),())
abbrev yFM (v0:dA):(yeQ).X:=((((),()),((),()),()),((v0.1,v0.2.1.1,v0.2.1.2,v0.2.2.1,v0.2.2.2.1,v0.2.2.2.2.1,v0.2.2.2.2.2.1,v0.2.2.2.2.2.2.1,v0.2.2.2.2.2.2.2.1,v0.2.2.2.2.2.2.2.2.1,v0.2.2.2.2.2.2.2.2.2.1,v0.2.2.2.2.2.2.2.2.2.2.1,v0.2.2.2.2.2.2.2.2.2.2.2,()),()),())
abbrev yFG (v0:dA):(yeJ).X:=((((),()),()),((v0.1,v0.2.1.1,v0.2.1.2,v0.2.2.1,v0.2.2.2.1,v0.2.2.2.2.1,v0.2.2.2.2.2.1,v0.2.2.2.2.2.2.1,v0.2.2.2.2.2.2.2.1,v0.2.2.2.2.2.2.2.2.1,v0.2.2.2.2.2.2.2.2.2.1,v0.2.2.2.2.2.2.2.2.2.2.1,v0.2.2.2.2.2.2.2.2.2.2.2,()),()),())
abbrev yFP (v0:Bool):(yeT).X:=(((v0,()),()),(),())
def yoc (v0 v1 v2 v3:Int) (v4:List dM) (v5 v6 v7 v8 v9:Int) (v10:List dW) (v11:Int) (v12 v13:Bool):Option ((ybi).X ⊕ ((yeJ).X ⊕ (yeT).X)) :=
 bif (ltb v0 (v4.length:Int)) then
 bif (inb v0 v4.length) then
 let r3:=ye1 ((nth v4 v0 ([],[],false,[])).1,((nth v4 v0 ([],[],false,[])).2).1,(((nth v4 v0 ([],[],false,[])).2).2))
 bif (!(!r3)) then
 let r4:=ypc (v2,v3)
 bif (!((((nth v4 v0 ([],[],false,[])).1).length:Int) !=r4)) then
 bif (((nth v4 v0 ([],[],false,[])).2).2).1 then
 bif (v0 !=v5) then
 bif (!v13) then
 some (.inr (.inr (((false,()),()),(),())))
 else
 some (.inl ((((),()),((IntKind.i64.wrap (v0+1)),()),()),((v1,v2,v3,v4,v5,v6,v7,v8,v9,v10,v11,v12,v13,()),()),()))
 else
 some (.inl ((((),()),((IntKind.i64.wrap (v0+1)),()),()),((v1,v2,v3,v4,v5,v6,v7,v8,v9,v10,v11,v12,v13,()),()),()))
 else
 some (.inl ((((),()),((IntKind.i64.wrap (v0+1)),()),()),((v1,v2,v3,v4,v5,v6,v7,v8,v9,v10,v11,v12,v13,()),()),()))
 else
 some (.inr (.inr (((false,()),()),(),())))
 else
 some (.inr (.inr (((false,()),()),(),())))
 else none
 else
 some (.inr (.inl ((((),()),()),((v1,v2,v3,v4,v5,v6,v7,v8,v9,v10,v11,v12,v13,()),()),())))
def ybN (x:(ybi).X):=yoc x.1.2.1.1 x.2.1.1.1 x.2.1.1.2.1 x.2.1.1.2.2.1 x.2.1.1.2.2.2.1 x.2.1.1.2.2.2.2.1 x.2.1.1.2.2.2.2.2.1 x.2.1.1.2.2.2.2.2.2.1 x.2.1.1.2.2.2.2.2.2.2.1 x.2.1.1.2.2.2.2.2.2.2.2.1 x.2.1.1.2.2.2.2.2.2.2.2.2.1 x.2.1.1.2.2.2.2.2.2.2.2.2.2.1 x.2.1.1.2.2.2.2.2.2.2.2.2.2.2.1 x.2.1.1.2.2.2.2.2.2.2.2.2.2.2.2.1
def yvd (x:(yeQ).X):(ybi).X:=((((),()),(0,()),()),((x.2.1.1.1,x.2.1.1.2.1,x.2.1.1.2.2.1,x.2.1.1.2.2.2.1,x.2.1.1.2.2.2.2.1,x.2.1.1.2.2.2.2.2.1,x.2.1.1.2.2.2.2.2.2.1,x.2.1.1.2.2.2.2.2.2.2.1,x.2.1.1.2.2.2.2.2.2.2.2.1,x.2.1.1.2.2.2.2.2.2.2.2.2.1,x.2.1.1.2.2.2.2.2.2.2.2.2.2.1,x.2.1.1.2.2.2.2.2.2.2.2.2.2.2.1,x.2.1.1.2.2.2.2.2.2.2.2.2.2.2.2.1,()),()),())
def ywK:Code:=(zdI yjB 64 52).getD .skip
theorem yG7:zdI yjB 64 13=some (.block 0 (.loop ywK)):=by kernel_rfl
theorem yJy (x:(ybi).X):zg7 ⟨yoD,51,yyC⟩ 0 ywK 52 ybi yeJ yeT x=ybN x:=by kernel_rfl
def yvs (x:(yeQ).X):Nat:=18446744073709551616
def ypw (x:(yeQ).X):Option ((yeJ).X ⊕ (yeT).X):=zr ybN (yvs x) (yvd x)
def yvK:Seg:=⟨yeQ,yeJ,yeT,ypw⟩
def yyD:Nat→Option Seg:=fun q=>bif Nat.beq q 13 then some yvK else yyC q
theorem yHW:FrOk Tryz.prog ⟨yoD,51,yyD⟩ yjB:=(yHV).loop (sg:=yvK) ybi yvd (by decide) yG7 ybN yvs (by decide) (fun _=>rfl) (fun x r _ h=>h) yJy
abbrev ydA:List Par:= [.rd tA]
abbrev yjT:List OT:= [⟨false,tB,.fz⟩]
def yll (a0:dA):Option (ResD yjT×MutD ydA) :=
 zjw (ypw ((((),()),((),()),()),((a0.1,a0.2.1.1,a0.2.1.2,a0.2.2.1,a0.2.2.2.1,a0.2.2.2.2.1,a0.2.2.2.2.2.1,a0.2.2.2.2.2.2.1,a0.2.2.2.2.2.2.2.1,a0.2.2.2.2.2.2.2.2.1,a0.2.2.2.2.2.2.2.2.2.1,a0.2.2.2.2.2.2.2.2.2.2.1,a0.2.2.2.2.2.2.2.2.2.2.2,()),()),())) (fun y4 =>
 some ((((y4.2.1.1.2.2.2.1.length:Int)==y4.2.1.1.2.1),()),())) (fun y4 =>
 some ((y4.1.1.1,()),()))
theorem yQd (x:InD ydA):zjH ⟨yoD,51,yyD⟩ Tryz.f136.results.toList yjB ydA yjT x=yll x.1:=by kernel_rfl
theorem yMe:ConOk Tryz.prog 136 ⟨ydA,yjT,fun x=>yll x.1⟩:=zkh (yHW) Tryz.func136 (by kernel_rfl) (by kernel_rfl) Tryz.ntmps136.symm (by decide) (fun x r h=>(yQd x).trans h)
def yj9 (a0:dA):Bool:=yri a0
def yt9 (a0:dA):Bool:=yd a0.2.1
theorem yOo (a0:dA) (hk:zi9 ydA (a0,())) (hq:yt9 a0=true):yll a0=(fun n=>some ((n,()),())) (yj9 a0):=by
 have hb:a0.2.2.1.length * 80≤2 ^ 47:=hk.1.2.2.1.1
 have hg:=yo.1 hq
 have h1:ypw (yFM a0)=some (bif (List.range a0.2.2.1.length).any (ygC a0) then .inr (yFP false) else .inl (yFG a0)) :=
  zf4 (step:=ybN) (fun i=>ynT i a0) a0.2.2.1.length (ygC a0) _ _ (fun i hi=>by
   simp only [ybN,ynT,yoc,zjI (show (i:Int) < a0.2.2.1.length by omega),cond_true,wr (show -9223372036854775808≤(i:Int)+1 by omega) (by omega),Int.natCast_add,Int.natCast_one,Int.toNat_natCast,zkO hi,zkV,ye1,ygC,ypc,wr (show -9223372036854775808≤6+a0.2.1.2 by omega) (by omega),yf]
   cases yK (nth a0.2.2.1 i ([],[],false,[]))<;>cases (((nth a0.2.2.1 i ([],[],false,[])).1.length:Int) !=6+a0.2.1.2)<;>cases (nth a0.2.2.1 i ([],[],false,[])).2.2.1<;>cases ((i:Int) !=a0.2.2.2.1)<;>cases a0.2.2.2.2.2.2.2.2.2.2.2<;>rfl) (by simp only [ybN,ynT,yoc,zkm (Int.le_refl _),cond_false]) _ (by show _ < 18446744073709551616; omega)
 unfold yll yj9 yri
 rw [h1]
 cases (List.range a0.2.2.1.length).any (ygC a0)<;>rfl
def ypf (a0:dA):Option (ResD yjT×MutD ydA):=bif yt9 a0 then (fun n=>some ((n,()),())) (yj9 a0) else none
theorem yPn (a0:dA) (h:yt9 a0=true):ypf a0=(fun n=>some ((n,()),())) (yj9 a0):=by unfold ypf; rw [h]; rfl
def yzn:Con:=⟨ydA,yjT,fun x=>ypf x.1⟩
theorem yPh:ConOk Tryz.prog 136 yzn:=(yMe).mono (fun x r hk h=>zkW h (fun hq=>yOo x.1 hk hq))
end
section
def yhP:Code:=(Tryz.f137.body).getD .skip
def ymM:Env:=zki TT [(135,yl),(225,yeU)] []
theorem yFz:FrOk Tryz.prog ⟨ymM,57,fun _=>none⟩ yhP:=zkp yb yc ⟨yv,yk3,trivial⟩
def ywo:Nat→Option Seg:=fun _=>none
def yaJ:Shape:=⟨[(1,false,[.ptr 0 0]),(3,false,[.int .i64])],[(0,[.int .i64,.int .i64,.int .i64,.br tM,.int .i64,.int .i64,.int .i64,.int .i64,.int .i64,.br tW,.int .i64,.bool,.bool])],[]⟩
def ydX:Shape:=⟨[(1,false,[.ptr 0 0]),(3,false,[.ci .i64 0])],[(0,[.int .i64,.int .i64,.int .i64,.br tM,.int .i64,.int .i64,.int .i64,.int .i64,.int .i64,.br tW,.int .i64,.bool,.bool])],[]⟩
def ydN:Shape:=⟨[],[],[]⟩
def yd0:Shape:=⟨[(2,false,[.bool])],[],[]⟩
abbrev yl7 (v0:Int) (v1:dA):(yaJ).X:=((((),()),(v0,()),()),((v1.1,v1.2.1.1,v1.2.1.2,v1.2.2.1,v1.2.2.2.1,v1.2.2.2.2.1,v1.2.2.2.2.2.1,v1.2.2.2.2.2.2.1,v1.2.2.2.2.2.2.2.1,v1.2.2.2.2.2.2.2.2.1,v1.2.2.2.2.2.2.2.2.2.1,v1.2.2.2.2.2.2.2.2.2.2.1,v1.2.2.2.2.2.2.2.2.2.2.2,()),()),())
abbrev yEb (v0:dA):(ydX).X:=((((),()),((),()),()),((v0.1,v0.2.1.1,v0.2.1.2,v0.2.2.1,v0.2.2.2.1,v0.2.2.2.2.1,v0.2.2.2.2.2.1,v0.2.2.2.2.2.2.1,v0.2.2.2.2.2.2.2.1,v0.2.2.2.2.2.2.2.2.1,v0.2.2.2.2.2.2.2.2.2.1,v0.2.2.2.2.2.2.2.2.2.2.1,v0.2.2.2.2.2.2.2.2.2.2.2,()),()),())
abbrev yD1  :(ydN).X:=((),(),())
abbrev yEe (v0:Bool):(yd0).X:=(((v0,()),()),(),())
def ymy (v0 v1 v2 v3:Int) (v4:List dM) (v5 v6 v7 v8 v9:Int) (v10:List dW) (v11:Int) (v12 v13:Bool):Option ((yaJ).X ⊕ ((ydN).X ⊕ (yd0).X)) :=
 bif (ltb v0 (v10.length:Int)) then
 bif (inb v0 v10.length) then
 let r3:=ya ((nth v10 v0 (0,[])).1) 0 (IntKind.i64.wrap (v3 - 1))
 bif (!(!r3)) then
 bif (!((((nth v10 v0 (0,[])).2).length:Int) !=(IntKind.i64.wrap (v2 - 1)))) then
 let r4:=yy ((nth v10 v0 (0,[])).2)
 bif (!(!r4)) then
 bif (ltb 0 v0) then
 bif (inb (IntKind.i64.wrap (v0 - 1)) v10.length) then
 bif (leb ((nth v10 v0 (0,[])).1) ((nth v10 (IntKind.i64.wrap (v0 - 1)) (0,[])).1)) then
 some (.inr (.inr (((false,()),()),(),())))
 else
 some (.inl ((((),()),((IntKind.i64.wrap (v0+1)),()),()),((v1,v2,v3,v4,v5,v6,v7,v8,v9,v10,v11,v12,v13,()),()),()))
 else none
 else
 some (.inl ((((),()),((IntKind.i64.wrap (v0+1)),()),()),((v1,v2,v3,v4,v5,v6,v7,v8,v9,v10,v11,v12,v13,()),()),()))
 else
 some (.inr (.inr (((false,()),()),(),())))
 else
 some (.inr (.inr (((false,()),()),(),())))
 else
 some (.inr (.inr (((false,()),()),(),())))
 else none
 else
 some (.inr (.inl ((),(),())))
def ya6 (x:(yaJ).X):=ymy x.1.2.1.1 x.2.1.1.1 x.2.1.1.2.1 x.2.1.1.2.2.1 x.2.1.1.2.2.2.1 x.2.1.1.2.2.2.2.1 x.2.1.1.2.2.2.2.2.1 x.2.1.1.2.2.2.2.2.2.1 x.2.1.1.2.2.2.2.2.2.2.1 x.2.1.1.2.2.2.2.2.2.2.2.1 x.2.1.1.2.2.2.2.2.2.2.2.2.1 x.2.1.1.2.2.2.2.2.2.2.2.2.2.1 x.2.1.1.2.2.2.2.2.2.2.2.2.2.2.1 x.2.1.1.2.2.2.2.2.2.2.2.2.2.2.2.1
def ytl (x:(ydX).X):(yaJ).X:=((((),()),(0,()),()),((x.2.1.1.1,x.2.1.1.2.1,x.2.1.1.2.2.1,x.2.1.1.2.2.2.1,x.2.1.1.2.2.2.2.1,x.2.1.1.2.2.2.2.2.1,x.2.1.1.2.2.2.2.2.2.1,x.2.1.1.2.2.2.2.2.2.2.1,x.2.1.1.2.2.2.2.2.2.2.2.1,x.2.1.1.2.2.2.2.2.2.2.2.2.1,x.2.1.1.2.2.2.2.2.2.2.2.2.2.1,x.2.1.1.2.2.2.2.2.2.2.2.2.2.2.1,x.2.1.1.2.2.2.2.2.2.2.2.2.2.2.2.1,()),()),())
def yuL:Code:=(zdI yhP 64 52).getD .skip
theorem yEZ:zdI yhP 64 13=some (.block 0 (.loop yuL)):=by kernel_rfl
theorem yGu (x:(yaJ).X):zg7 ⟨ymM,57,ywo⟩ 0 yuL 52 yaJ ydN yd0 x=ya6 x:=by kernel_rfl
def ytD (x:(ydX).X):Nat:=18446744073709551616
def ynK (x:(ydX).X):Option ((ydN).X ⊕ (yd0).X):=zr ya6 (ytD x) (ytl x)
def yt1:Seg:=⟨ydX,ydN,yd0,ynK⟩
def ywp:Nat→Option Seg:=fun q=>bif Nat.beq q 13 then some yt1 else ywo q
theorem yFA:FrOk Tryz.prog ⟨ymM,57,ywp⟩ yhP:=(yFz).loop (sg:=yt1) yaJ ytl (by decide) yEZ ya6 ytD (by decide) (fun _=>rfl) (fun x r _ h=>h) yGu
abbrev ycy:List Par:= [.rd tA]
abbrev yic:List OT:= [⟨false,tB,.fz⟩]
def yjn (a0:dA):Option (ResD yic×MutD ycy) :=
 zjw (ynK ((((),()),((),()),()),((a0.1,a0.2.1.1,a0.2.1.2,a0.2.2.1,a0.2.2.2.1,a0.2.2.2.2.1,a0.2.2.2.2.2.1,a0.2.2.2.2.2.2.1,a0.2.2.2.2.2.2.2.1,a0.2.2.2.2.2.2.2.2.1,a0.2.2.2.2.2.2.2.2.2.1,a0.2.2.2.2.2.2.2.2.2.2.1,a0.2.2.2.2.2.2.2.2.2.2.2,()),()),())) (fun y4 =>
 some ((true,()),())) (fun y4 =>
 some ((y4.1.1.1,()),()))
theorem yNG (x:InD ycy):zjH ⟨ymM,57,ywp⟩ Tryz.f137.results.toList yhP ycy yic x=yjn x.1:=by kernel_rfl
theorem yI4:ConOk Tryz.prog 137 ⟨ycy,yic,fun x=>yjn x.1⟩:=zkh (yFA) Tryz.func137 (by kernel_rfl) (by kernel_rfl) Tryz.ntmps137.symm (by decide) (fun x r h=>(yNG x).trans h)
def yit (a0:dA):Bool:=yar a0.2.1 a0.2.2.2.2.2.2.2.2.1
def ysk (a0:dA):Bool:=yd a0.2.1
theorem yue (l:List Int):yy l=l.all isW:=by
 unfold yy
 rw [show yh=isW from funext fun x=>by unfold yh; rw [ydr]; rfl]
theorem yLJ (a0:dA) (hk:zi9 ycy (a0,())) (hq:ysk a0=true):yjn a0=(fun n=>some ((n,()),())) (yit a0):=by
 have hb:a0.2.2.2.2.2.2.2.2.1.length * 32≤2 ^ 47:=hk.1.2.2.2.2.2.2.2.2.1.1
 have hg:=yo.1 hq
 have h1:ynK (yEb a0)=some (bif (List.range a0.2.2.2.2.2.2.2.2.1.length).any (yfu a0.2.1 a0.2.2.2.2.2.2.2.2.1) then .inr (yEe false) else .inl yD1) :=
  zf4 (step:=ya6) (fun i=>yl7 i a0) a0.2.2.2.2.2.2.2.2.1.length (yfu a0.2.1 a0.2.2.2.2.2.2.2.2.1) _ _ (fun i hi=>by
   simp only [ya6,yl7,ymy,zjI (show (i:Int) < a0.2.2.2.2.2.2.2.2.1.length by omega),cond_true,wr (show -9223372036854775808≤(i:Int)+1 by omega) (by omega),Int.natCast_add,Int.natCast_one,Int.toNat_natCast,zkO hi,ydr,yue,wr (show -9223372036854775808≤a0.2.1.2 - 1 by omega) (by omega),wr (show -9223372036854775808≤a0.2.1.1 - 1 by omega) (by omega),yfu]
   rcases Nat.eq_zero_or_pos i with rfl | h0
   ·cases (leb 0 (nth a0.2.2.2.2.2.2.2.2.1 ((0:Nat):Int) (0,[])).1&&leb (nth a0.2.2.2.2.2.2.2.2.1 ((0:Nat):Int) (0,[])).1 (a0.2.1.2 - 1))<;>cases (((nth a0.2.2.2.2.2.2.2.2.1 ((0:Nat):Int) (0,[])).2.length:Int) !=a0.2.1.1 - 1)<;>cases ((nth a0.2.2.2.2.2.2.2.2.1 ((0:Nat):Int) (0,[])).2.all isW)<;>rfl
   ·rw [show IntKind.i64.wrap ((i:Int) - 1)=((i - 1:Nat):Int) by rw [wr (by omega) (by omega)]; omega,zkO (show i - 1 < a0.2.2.2.2.2.2.2.2.1.length by omega),zjI (show (0:Int) < i by omega),decide_eq_true h0]
    cases (leb 0 (nth a0.2.2.2.2.2.2.2.2.1 (i:Int) (0,[])).1&&leb (nth a0.2.2.2.2.2.2.2.2.1 (i:Int) (0,[])).1 (a0.2.1.2 - 1))<;>cases (((nth a0.2.2.2.2.2.2.2.2.1 (i:Int) (0,[])).2.length:Int) !=a0.2.1.1 - 1)<;>cases ((nth a0.2.2.2.2.2.2.2.2.1 (i:Int) (0,[])).2.all isW)<;>cases leb (nth a0.2.2.2.2.2.2.2.2.1 (i:Int) (0,[])).1 (nth a0.2.2.2.2.2.2.2.2.1 ((i - 1:Nat):Int) (0,[])).1<;>rfl) (by simp only [ya6,yl7,ymy,zkm (Int.le_refl _),cond_false]) _ (by show _ < 18446744073709551616; omega)
 unfold yjn yit yar
 rw [h1]
 cases (List.range a0.2.2.2.2.2.2.2.2.1.length).any (yfu a0.2.1 a0.2.2.2.2.2.2.2.2.1)<;>rfl
def ynd (a0:dA):Option (ResD yic×MutD ycy):=bif ysk a0 then (fun n=>some ((n,()),())) (yit a0) else none
theorem yMF (a0:dA) (h:ysk a0=true):ynd a0=(fun n=>some ((n,()),())) (yit a0):=by unfold ynd; rw [h]; rfl
def yw4:Con:=⟨ycy,yic,fun x=>ynd x.1⟩
theorem yMC:ConOk Tryz.prog 137 yw4:=(yI4).mono (fun x r hk h=>zkW h (fun hq=>yLJ x.1 hk hq))
end
section
def yCQ:Code:=(Tryz.f46.body).getD .skip
def yDb:Env:=zki TT [(134,yif),(135,yl),(136,yzn),(137,yw4)] []
theorem yK5:FrOk Tryz.prog ⟨yDb,78,fun _=>none⟩ yCQ:=zkp yb yc ⟨ypg,yv,yPh,yMC,trivial⟩
def yNd:Nat→Option Seg:=fun _=>none
abbrev yh5:List Par:= [.rd tA]
abbrev yqZ:List OT:= [⟨false,tB,.fz⟩]
def ynp (a0:dA):Option (ResD yqZ×MutD yh5) :=
 let r1:=yd a0.2.1
 bif (!(!r1)) then
 let r2:=ya a0.1 1 60000
 bif (!(!r2)) then
 bnd (ypf a0) fun r3 =>
 bif (!(!r3.1.1)) then
 bnd (ynd a0) fun r4 =>
 bif (!r4.1.1) then
 some ((false,()),())
 else
 let r5:=ya a0.2.2.2.1 (-1) (IntKind.i64.wrap (a0.2.1.1 - 1))
 bif (!(!r5)) then
 let r6:=ya a0.2.2.2.2.1 0 a0.2.1.2
 bif (!(!r6)) then
 bif (a0.2.2.2.1==(-1)) then
 bif (a0.2.2.2.2.1 !=0) then
 some ((false,()),())
 else
 let r7:=ya a0.2.2.2.2.2.2.1 0 60000
 bif r7 then
 let r8:=ya a0.2.2.2.2.2.1 a0.2.2.2.2.2.2.1 60000
 bif r8 then
 bif (leb a0.2.2.2.2.2.1 (IntKind.i64.wrap (a0.2.2.2.2.2.2.1+4))) then
 let r9:=ya a0.2.2.2.2.2.2.2.1 0 60000
 bif r9 then
 let r10:=ya a0.2.2.2.2.2.2.2.2.2.1 (-1) 1000
 some ((r10,()),())
 else
 some ((false,()),())
 else
 some ((false,()),())
 else
 some ((false,()),())
 else
 some ((false,()),())
 else
 let r11:=ya a0.2.2.2.2.2.2.1 0 60000
 bif r11 then
 let r12:=ya a0.2.2.2.2.2.1 a0.2.2.2.2.2.2.1 60000
 bif r12 then
 bif (leb a0.2.2.2.2.2.1 (IntKind.i64.wrap (a0.2.2.2.2.2.2.1+4))) then
 let r13:=ya a0.2.2.2.2.2.2.2.1 0 60000
 bif r13 then
 let r14:=ya a0.2.2.2.2.2.2.2.2.2.1 (-1) 1000
 some ((r14,()),())
 else
 some ((false,()),())
 else
 some ((false,()),())
 else
 some ((false,()),())
 else
 some ((false,()),())
 else
 some ((false,()),())
 else
 some ((false,()),())
 else
 some ((false,()),())
 else
 some ((false,()),())
 else
 some ((false,()),())
theorem yRE (x:InD yh5):zjH ⟨yDb,78,yNd⟩ Tryz.f46.results.toList yCQ yh5 yqZ x=ynp x.1:=by kernel_rfl
theorem yOP:ConOk Tryz.prog 46 ⟨yh5,yqZ,fun x=>ynp x.1⟩:=zkh (yK5) Tryz.func46 (by kernel_rfl) (by kernel_rfl) Tryz.ntmps46.symm (by decide) (fun x r h=>(yRE x).trans h)
def yb3 (a0:dA):Bool:=yI a0
theorem yQG (a0:dA) (hk:zi9 yh5 (a0,())):ynp a0=(fun n=>some ((n,()),())) (yb3 a0):=by
 unfold ynp yb3 yI
 simp only [ydr]
 cases hg:yd a0.2.1
 ·rfl
 have hg2:=yo.1 hg
 rw [yPn a0 hg,yMF a0 hg,wr (show -9223372036854775808≤a0.2.1.1 - 1 by omega) (by omega)]
 simp only [zky,yj9,yit,Bool.not_not,cond_true]
 cases (leb 1 a0.1&&leb a0.1 60000)
 ·rfl
 cases yri a0
 ·rfl
 cases yar a0.2.1 a0.2.2.2.2.2.2.2.2.1
 ·rfl
 cases (leb (-1) a0.2.2.2.1&&leb a0.2.2.2.1 (a0.2.1.1 - 1))
 ·rfl
 cases (leb 0 a0.2.2.2.2.1&&leb a0.2.2.2.2.1 a0.2.1.2)
 ·rfl
 have ht:(leb 0 a0.2.2.2.2.2.2.1&&leb a0.2.2.2.2.2.2.1 60000)=true→IntKind.i64.wrap (a0.2.2.2.2.2.2.1+4)=a0.2.2.2.2.2.2.1+4:=fun h=>by
  rw [Bool.and_eq_true,zjQ,zjQ]at h
  exact wr (by omega) (by omega)
 cases hT:(leb 0 a0.2.2.2.2.2.2.1&&leb a0.2.2.2.2.2.2.1 60000)
 ·cases (a0.2.2.2.1== -1)<;>cases (a0.2.2.2.2.1 !=0)<;>rfl
 rw [ht hT]
 cases (leb a0.2.2.2.2.2.2.1 a0.2.2.2.2.2.1&&leb a0.2.2.2.2.2.1 60000)
 ·cases (a0.2.2.2.1== -1)<;>cases (a0.2.2.2.2.1 !=0)<;>rfl
 cases leb a0.2.2.2.2.2.1 (a0.2.2.2.2.2.2.1+4)
 ·cases (a0.2.2.2.1== -1)<;>cases (a0.2.2.2.2.1 !=0)<;>rfl
 cases (leb 0 a0.2.2.2.2.2.2.2.1&&leb a0.2.2.2.2.2.2.2.1 60000)<;>cases (a0.2.2.2.1== -1)<;>cases (a0.2.2.2.2.1 !=0)<;>rfl
def yse:Con:=⟨yh5,yqZ,fun x=>(fun n=>some ((n,()),())) (yb3 x.1)⟩
theorem yCh:ConOk Tryz.prog 46 yse:=(yOP).mono (fun x r hk h=>(yQG x.1 hk).trans h)
end
section
def yzS:Code:=(Tryz.f100.body).getD .skip
def yAk:Env:=zki TT [] []
theorem yFe:FrOk Tryz.prog ⟨yAk,6,fun _=>none⟩ yzS:=zkp yb yc trivial
def yGO:Nat→Option Seg:=fun _=>none
abbrev yhZ:List Par:= [.rd tG]
abbrev ymU:List OT:= [⟨false,tI,.fz⟩]
def ypM (a0:dG):Option (ResD ymU×MutD yhZ) :=
 some (((IntKind.i64.wrap (6+a0.2)),()),())
theorem yNt (x:InD yhZ):zjH ⟨yAk,6,yGO⟩ Tryz.f100.results.toList yzS yhZ ymU x=ypM x.1:=by kernel_rfl
theorem yIR:ConOk Tryz.prog 100 ⟨yhZ,ymU,fun x=>ypM x.1⟩:=zkh (yFe) Tryz.func100 (by kernel_rfl) (by kernel_rfl) Tryz.ntmps100.symm (by decide) (fun x r h=>(yNt x).trans h)
def yna (a0:dG):Int :=
 (IntKind.i64.wrap (6+a0.2))
def ywS:Con:=⟨yhZ,ymU,fun x=>(fun n=>some ((n,()),())) (yna x.1)⟩
theorem yLw (a0:dG):ypM a0=(fun n=>some ((n,()),())) (yna a0):=zkS (p:=fun (n:Int)=>((n,()),())) rfl
theorem yMr:ConOk Tryz.prog 100 ywS:=(yIR).mono (fun x r _ h=>(yLw x.1).trans h)
end
section
def yBA:Code:=(Tryz.f126.body).getD .skip
def yBX:Env:=zki TT [] []
theorem yHo:FrOk Tryz.prog ⟨yBX,15,fun _=>none⟩ yBA:=zkp yb yc trivial
def yJK:Nat→Option Seg:=fun _=>none
abbrev yjI:List Par:= [.rd tI,.rd tI,.rd tI]
abbrev yoN:List OT:= [⟨false,tB,.fz⟩]
def yry (a0 a1 a2:Int):Option (ResD yoN×MutD yjI) :=
 bif (leb a1 a0) then
 some (((leb a0 a2),()),())
 else
 some ((false,()),())
theorem yPT (x:InD yjI):zjH ⟨yBX,15,yJK⟩ Tryz.f126.results.toList yBA yjI yoN x=yry x.1 x.2.1 x.2.2.1:=by kernel_rfl
theorem yLU:ConOk Tryz.prog 126 ⟨yjI,yoN,fun x=>yry x.1 x.2.1 x.2.2.1⟩:=zkh (yHo) Tryz.func126 (by kernel_rfl) (by kernel_rfl) Tryz.ntmps126.symm (by decide) (fun x r h=>(yPT x).trans h)
def ye (a0 a1 a2:Int):Bool :=
 bif (leb a1 a0) then
 (leb a0 a2)
 else
 false
def yp:Con:=⟨yjI,yoN,fun x=>(fun n=>some ((n,()),())) (ye x.1 x.2.1 x.2.2.1)⟩
theorem yN4 (a0 a1 a2:Int):yry a0 a1 a2=(fun n=>some ((n,()),())) (ye a0 a1 a2):=zkS (p:=fun (n:Bool)=>((n,()),())) (zkx (p:=fun (n:Bool)=>((n,()),())) rfl rfl)
theorem yF:ConOk Tryz.prog 126 yp:=(yLU).mono (fun x r _ h=>(yN4 x.1 x.2.1 x.2.2.1).trans h)
theorem yaf (a b c:Int):ye a b c=ya a b c:=by kernel_rfl
end
end
end Go.Tf
