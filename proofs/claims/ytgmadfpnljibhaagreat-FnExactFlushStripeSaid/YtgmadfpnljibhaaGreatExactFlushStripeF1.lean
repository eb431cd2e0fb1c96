/- Functions of the program, and what they come to. -/
import Derived.Test.YtgmadfpnljibhaaGreatExactFlushStripeF0
namespace Go.Tf
noncomputable section
open Go.Proofs
set_option synthInstance.maxHeartbeats 400000
set_option synthInstance.maxSize 10000
set_option linter.unusedVariables false
set_option linter.unusedSimpArgs false
set_option maxRecDepth 100000
section
def yaM:Code:=(Tryz.f224.body).getD .skip
def yej:Env:=zki TT [(135,yl),(269,yw8)] []
theorem yTg:FrOk Tryz.prog ⟨yej,91,fun _=>none⟩ yaM:=zkp yb yc ⟨yp,yIL,trivial⟩
def yGc:Nat→Option Seg:=fun _=>none
def ycL:Shape:=⟨[(1,false,[.ptr 0 0]),(3,false,[.int .i64]),(4,false,[.int .i64])],[(0,[.br tL,.br tW,.bool,.br tI])],[]⟩
def yir:Shape:=⟨[(1,false,[.ptr 0 0]),(3,false,[.int .i64]),(4,false,[.ci .i64 0])],[(0,[.br tL,.br tW,.bool,.br tI])],[]⟩
def yh8:Shape:=⟨[(1,false,[.ptr 0 0]),(3,false,[.int .i64])],[(0,[.br tL,.br tW,.bool,.br tI])],[]⟩
def yiT:Shape:=⟨[(2,false,[.bool])],[],[]⟩
abbrev ytA (v0 v1:Int) (v2:dM):(ycL).X:=((((),()),(v0,()),(v1,()),()),((v2.1,v2.2.1,v2.2.2.1,v2.2.2.2,()),()),())
abbrev yP8 (v0:Int) (v1:dM):(yir).X:=((((),()),(v0,()),((),()),()),((v1.1,v1.2.1,v1.2.2.1,v1.2.2.2,()),()),())
abbrev yPZ (v0:Int) (v1:dM):(yh8).X:=((((),()),(v0,()),()),((v1.1,v1.2.1,v1.2.2.1,v1.2.2.2,()),()),())
abbrev yQk (v0:Bool):(yiT).X:=(((v0,()),()),(),())
def yt0 (v0 v1:Int) (v2:List (List Int)) (v3:List dW) (v4:Bool) (v5:List Int):Option ((ycL).X ⊕ ((yh8).X ⊕ (yiT).X)) :=
 bif (ltb v1 v0) then
 bif (inb v1 v2.length) then
 let r2:=ygR (nth v2 v1 [])
 bif (!r2) then
 some (.inr (.inr (((false,()),()),(),())))
 else
 some (.inl ((((),()),(v0,()),((IntKind.i64.wrap (v1+1)),()),()),((v2,v3,v4,v5,()),()),()))
 else none
 else
 some (.inr (.inl ((((),()),(v0,()),()),((v2,v3,v4,v5,()),()),())))
def ydp (x:(ycL).X):=yt0 x.1.2.1.1 x.1.2.2.1.1 x.2.1.1.1 x.2.1.1.2.1 x.2.1.1.2.2.1 x.2.1.1.2.2.2.1
def yCW (x:(yir).X):(ycL).X:=((((),()),(x.1.2.1.1,()),(0,()),()),((x.2.1.1.1,x.2.1.1.2.1,x.2.1.1.2.2.1,x.2.1.1.2.2.2.1,()),()),())
def yE0:Code:=(zdI yaM 64 116).getD .skip
theorem ySc:zdI yaM 64 29=some (.block 0 (.loop yE0)):=by kernel_rfl
theorem yVd (x:(ycL).X):zg7 ⟨yej,91,yGc⟩ 0 yE0 116 ycL yh8 yiT x=ydp x:=by kernel_rfl
def yDe (x:(yir).X):Nat:=18446744073709551616
def yuF (x:(yir).X):Option ((yh8).X ⊕ (yiT).X):=zr ydp (yDe x) (yCW x)
def yDN:Seg:=⟨yir,yh8,yiT,yuF⟩
def yw1:Nat→Option Seg:=fun q=>bif Nat.beq q 29 then some yDN else yGc q
theorem yTh:FrOk Tryz.prog ⟨yej,91,yw1⟩ yaM:=(yTg).loop (sg:=yDN) ycL yCW (by decide) ySc ydp yDe (by decide) (fun _=>rfl) (fun x r _ h=>h) yVd
def ycM:Shape:=⟨[(1,false,[.ptr 0 0]),(3,false,[.int .i64]),(5,false,[.int .i64])],[(0,[.br tL,.br tW,.bool,.br tI])],[]⟩
def yis:Shape:=⟨[(1,false,[.ptr 0 0]),(3,false,[.int .i64]),(5,false,[.ci .i64 0])],[(0,[.br tL,.br tW,.bool,.br tI])],[]⟩
def yh9:Shape:=⟨[(1,false,[.ptr 0 0]),(3,false,[.int .i64])],[(0,[.br tL,.br tW,.bool,.br tI])],[]⟩
def yiU:Shape:=⟨[(2,false,[.bool])],[],[]⟩
abbrev ytB (v0 v1:Int) (v2:dM):(ycM).X:=((((),()),(v0,()),(v1,()),()),((v2.1,v2.2.1,v2.2.2.1,v2.2.2.2,()),()),())
abbrev yP9 (v0:Int) (v1:dM):(yis).X:=((((),()),(v0,()),((),()),()),((v1.1,v1.2.1,v1.2.2.1,v1.2.2.2,()),()),())
abbrev yP0 (v0:Int) (v1:dM):(yh9).X:=((((),()),(v0,()),()),((v1.1,v1.2.1,v1.2.2.1,v1.2.2.2,()),()),())
abbrev yQl (v0:Bool):(yiU).X:=(((v0,()),()),(),())
def yt1 (v0 v1:Int) (v2:List (List Int)) (v3:List dW) (v4:Bool) (v5:List Int):Option ((ycM).X ⊕ ((yh9).X ⊕ (yiU).X)) :=
 bif (ltb v1 (v3.length:Int)) then
 bif (inb v1 v3.length) then
 let r6:=ya ((nth v3 v1 (0,[])).1) 0 (IntKind.i64.wrap (v0 - 1))
 bif (!(!r6)) then
 bif (inb v1 v3.length) then
 let r7:=ygR ((nth v3 v1 (0,[])).2)
 bif (!r7) then
 some (.inr (.inr (((false,()),()),(),())))
 else
 some (.inl ((((),()),(v0,()),((IntKind.i64.wrap (v1+1)),()),()),((v2,v3,v4,v5,()),()),()))
 else none
 else
 some (.inr (.inr (((false,()),()),(),())))
 else none
 else
 some (.inr (.inl ((((),()),(v0,()),()),((v2,v3,v4,v5,()),()),())))
def ydq (x:(ycM).X):=yt1 x.1.2.1.1 x.1.2.2.1.1 x.2.1.1.1 x.2.1.1.2.1 x.2.1.1.2.2.1 x.2.1.1.2.2.2.1
def yCX (x:(yis).X):(ycM).X:=((((),()),(x.1.2.1.1,()),(0,()),()),((x.2.1.1.1,x.2.1.1.2.1,x.2.1.1.2.2.1,x.2.1.1.2.2.2.1,()),()),())
def yE1:Code:=(zdI yaM 64 244).getD .skip
theorem ySd:zdI yaM 64 61=some (.block 2 (.loop yE1)):=by kernel_rfl
theorem yVe (x:(ycM).X):zg7 ⟨yej,91,yw1⟩ 2 yE1 244 ycM yh9 yiU x=ydq x:=by kernel_rfl
def yDf (x:(yis).X):Nat:=18446744073709551616
def yuG (x:(yis).X):Option ((yh9).X ⊕ (yiU).X):=zr ydq (yDf x) (yCX x)
def yDO:Seg:=⟨yis,yh9,yiU,yuG⟩
def yw2:Nat→Option Seg:=fun q=>bif Nat.beq q 61 then some yDO else yw1 q
theorem yTi:FrOk Tryz.prog ⟨yej,91,yw2⟩ yaM:=(yTh).loop (sg:=yDO) ycM yCX (by decide) ySd ydq yDf (by decide) (fun _=>rfl) (fun x r _ h=>h) yVe
def ybV:Shape:=⟨[(1,false,[.ptr 0 0]),(3,false,[.int .i64]),(6,false,[.int .i64])],[(0,[.br tL,.br tW,.bool,.br tI])],[]⟩
def ygx:Shape:=⟨[(1,false,[.ptr 0 0]),(3,false,[.int .i64]),(6,false,[.ci .i64 0])],[(0,[.br tL,.br tW,.bool,.br tI])],[]⟩
def ygq:Shape:=⟨[(1,false,[.ptr 0 0]),(3,false,[.int .i64])],[(0,[.br tL,.br tW,.bool,.br tI])],[]⟩
def ygH:Shape:=⟨[(2,false,[.bool])],[],[]⟩
abbrev yrA (v0 v1:Int) (v2:dM):(ybV).X:=((((),()),(v0,()),(v1,()),()),((v2.1,v2.2.1,v2.2.2.1,v2.2.2.2,()),()),())
abbrev yNf (v0:Int) (v1:dM):(ygx).X:=((((),()),(v0,()),((),()),()),((v1.1,v1.2.1,v1.2.2.1,v1.2.2.2,()),()),())
abbrev yNc (v0:Int) (v1:dM):(ygq).X:=((((),()),(v0,()),()),((v1.1,v1.2.1,v1.2.2.1,v1.2.2.2,()),()),())
abbrev yNl (v0:Bool):(ygH).X:=(((v0,()),()),(),())
def yrU (v0 v1:Int) (v2:List (List Int)) (v3:List dW) (v4:Bool) (v5:List Int):Option ((ybV).X ⊕ ((ygq).X ⊕ (ygH).X)) :=
 bif (ltb v1 (v5.length:Int)) then
 bif (inb v1 v5.length) then
 let r10:=ya (nth v5 v1 0) 0 (IntKind.i64.wrap (v0 - 1))
 bif (!(!r10)) then
 bif (ltb 0 v1) then
 bif (inb (IntKind.i64.wrap (v1 - 1)) v5.length) then
 bif (inb v1 v5.length) then
 bif (leb (nth v5 v1 0) (nth v5 (IntKind.i64.wrap (v1 - 1)) 0)) then
 some (.inr (.inr (((false,()),()),(),())))
 else
 some (.inl ((((),()),(v0,()),((IntKind.i64.wrap (v1+1)),()),()),((v2,v3,v4,v5,()),()),()))
 else none
 else none
 else
 some (.inl ((((),()),(v0,()),((IntKind.i64.wrap (v1+1)),()),()),((v2,v3,v4,v5,()),()),()))
 else
 some (.inr (.inr (((false,()),()),(),())))
 else none
 else
 some (.inr (.inl ((((),()),(v0,()),()),((v2,v3,v4,v5,()),()),())))
def ycu (x:(ybV).X):=yrU x.1.2.1.1 x.1.2.2.1.1 x.2.1.1.1 x.2.1.1.2.1 x.2.1.1.2.2.1 x.2.1.1.2.2.2.1
def yAN (x:(ygx).X):(ybV).X:=((((),()),(x.1.2.1.1,()),(0,()),()),((x.2.1.1.1,x.2.1.1.2.1,x.2.1.1.2.2.1,x.2.1.1.2.2.2.1,()),()),())
def yCn:Code:=(zdI yaM 64 500).getD .skip
theorem yOK:zdI yaM 64 125=some (.block 4 (.loop yCn)):=by kernel_rfl
theorem yRw (x:(ybV).X):zg7 ⟨yej,91,yw2⟩ 4 yCn 500 ybV ygq ygH x=ycu x:=by kernel_rfl
def yA2 (x:(ygx).X):Nat:=18446744073709551616
def ytm (x:(ygx).X):Option ((ygq).X ⊕ (ygH).X):=zr ycu (yA2 x) (yAN x)
def yBl:Seg:=⟨ygx,ygq,ygH,ytm⟩
def yGd:Nat→Option Seg:=fun q=>bif Nat.beq q 125 then some yBl else yw2 q
theorem yTj:FrOk Tryz.prog ⟨yej,91,yGd⟩ yaM:=(yTi).loop (sg:=yBl) ybV yAN (by decide) yOK ycu yA2 (by decide) (fun _=>rfl) (fun x r _ h=>h) yRw
abbrev ykD:List Par:= [.rd tM]
abbrev yva:List OT:= [⟨false,tB,.fz⟩]
def yq9 (a0:dM):Option (ResD yva×MutD ykD) :=
 zjw (yuF ((((),()),((a0.1.length:Int),()),((),()),()),((a0.1,a0.2.1,a0.2.2.1,a0.2.2.2,()),()),())) (fun y2 =>
 zjw (yuG ((((),()),(y2.1.2.1.1,()),((),()),()),((y2.2.1.1.1,y2.2.1.1.2.1,y2.2.1.1.2.2.1,y2.2.1.1.2.2.2.1,()),()),())) (fun y7 =>
 zjw (ytm ((((),()),(y7.1.2.1.1,()),((),()),()),((y7.2.1.1.1,y7.2.1.1.2.1,y7.2.1.1.2.2.1,y7.2.1.1.2.2.2.1,()),()),())) (fun y10 =>
 let r12:=ya y10.1.2.1.1 1 20
 bif r12 then
 some (((leb (y10.2.1.1.2.1.length:Int) 60),()),())
 else
 some ((false,()),())) (fun y10 =>
 some ((y10.1.1.1,()),()))) (fun y7 =>
 some ((y7.1.1.1,()),()))) (fun y2 =>
 some ((y2.1.1.1,()),()))
theorem y0M (x:InD ykD):zjH ⟨yej,91,yGd⟩ Tryz.f224.results.toList yaM ykD yva x=yq9 x.1:=by kernel_rfl
theorem yXs:ConOk Tryz.prog 224 ⟨ykD,yva,fun x=>yq9 x.1⟩:=zkh (yTj) Tryz.func224 (by kernel_rfl) (by kernel_rfl) Tryz.ntmps224.symm (by decide) (fun x r h=>(y0M x).trans h)
def yaT (a0:dM):Bool:=yr a0
theorem yZA (a0:dM) (hk:zi9 ykD (a0,())):yq9 a0=(fun n=>some ((n,()),())) (yaT a0):=by
 have hb1:a0.1.length * 24≤2 ^ 47:=hk.1.1.1
 have hb2:a0.2.1.length * 32≤2 ^ 47:=hk.1.2.1.1
 have hb3:a0.2.2.2.length * 8≤2 ^ 47:=hk.1.2.2.2.1
 have h1:yuF (yP8 a0.1.length a0)=some (bif a0.1.all ybp then .inl (yPZ a0.1.length a0) else .inr (yQk false)) :=
  zjS (step:=ydp) a0.1 [] (fun i=>ytA a0.1.length i a0) ybp _ _ (fun i hi=>by
   simp only [ydp,ytA,yt0,zjI (show (i:Int) < a0.1.length by omega),cond_true,wr (show -9223372036854775808≤(i:Int)+1 by omega) (by omega),Int.natCast_add,Int.natCast_one,Int.toNat_natCast,zkO hi,zjW,yFO]
   cases ybp (a0.1.getD i [])<;>rfl) (by simp only [ydp,ytA,yt0,zkm (Int.le_refl _),cond_false]) _ (by show _ < 18446744073709551616; omega)
 have h2:yuG (yP9 a0.1.length a0)=some (bif a0.2.1.all (yxF a0.1.length) then .inl (yP0 a0.1.length a0) else .inr (yQl false)) :=
  zjS (step:=ydq) a0.2.1 (0,[]) (fun i=>ytB a0.1.length i a0) (yxF a0.1.length) _ _ (fun i hi=>by
   simp only [ydq,ytB,yt1,zjI (show (i:Int) < a0.2.1.length by omega),cond_true,wr (show -9223372036854775808≤(i:Int)+1 by omega) (by omega),Int.natCast_add,Int.natCast_one,Int.toNat_natCast,zkO hi,zjW,yFO,yvF (show a0.1.length≤1152921504606846976 by omega),yxF]
   cases inb (a0.2.1.getD i (0,[])).1 a0.1.length<;>cases ybp (a0.2.1.getD i (0,[])).2<;>rfl) (by simp only [ydq,ytB,yt1,zkm (Int.le_refl _),cond_false]) _ (by show _ < 18446744073709551616; omega)
 have h3:ytm (yNf a0.1.length a0)=some (bif (List.range a0.2.2.2.length).any (yEQ a0.1.length a0.2.2.2) then .inr (yNl false) else .inl (yNc a0.1.length a0)) :=
  zf4 (step:=ycu) (fun i=>yrA a0.1.length i a0) a0.2.2.2.length (yEQ a0.1.length a0.2.2.2) _ _ (fun i hi=>by
   simp only [ycu,yrA,yrU,zjI (show (i:Int) < a0.2.2.2.length by omega),cond_true,wr (show -9223372036854775808≤(i:Int)+1 by omega) (by omega),Int.natCast_add,Int.natCast_one,Int.toNat_natCast,zkO hi,zjW,yvF (show a0.1.length≤1152921504606846976 by omega),yEQ]
   rcases Nat.eq_zero_or_pos i with rfl | h0
   ·cases inb (a0.2.2.2.getD 0 0) a0.1.length<;>rfl
   ·rw [show IntKind.i64.wrap ((i:Int) - 1)=((i - 1:Nat):Int) by rw [wr (by omega) (by omega)]; omega,zkO (show i - 1 < a0.2.2.2.length by omega),zjW,zjI (show (0:Int) < i by omega),decide_eq_true h0]
    cases inb (a0.2.2.2.getD i 0) a0.1.length<;>cases leb (a0.2.2.2.getD i 0) (a0.2.2.2.getD (i - 1) 0)<;>rfl) (by simp only [ycu,yrA,yrU,zkm (Int.le_refl _),cond_false]) _ (by show _ < 18446744073709551616; omega)
 unfold yq9 yaT yr
 rw [h1]
 cases a0.1.all ybp
 ·rfl
 simp only [cond_true,zkJ,h2]
 cases a0.2.1.all (yxF a0.1.length)
 ·rfl
 simp only [cond_true,zkJ,h3,yYb,ye1]
 cases yvh a0.1.length a0.2.2.2
 ·rfl
 simp only [Bool.not_true,cond_false,zkJ]
 cases leb 1 (a0.1.length:Int)<;>cases leb (a0.1.length:Int) 20<;>rfl
def ykT:Con:=⟨ykD,yva,fun x=>(fun n=>some ((n,()),())) (yaT x.1)⟩
theorem yta:ConOk Tryz.prog 224 ykT:=(yXs).mono (fun x r hk h=>(yZA x.1 hk).trans h)
end
section
def ymy:Code:=(Tryz.f136.body).getD .skip
def ysn:Env:=zki TT [(139,yFs),(224,ykT)] []
theorem yPI:FrOk Tryz.prog ⟨ysn,51,fun _=>none⟩ ymy:=zkp yb yc ⟨yXW,yta,trivial⟩
def yEy:Nat→Option Seg:=fun _=>none
def yb0:Shape:=⟨[(1,false,[.ptr 0 0]),(3,false,[.int .i64])],[(0,[.int .i64,.int .i64,.int .i64,.br tM,.int .i64,.int .i64,.int .i64,.int .i64,.int .i64,.br tW,.int .i64,.bool,.bool])],[]⟩
def ygC:Shape:=⟨[(1,false,[.ptr 0 0]),(3,false,[.ci .i64 0])],[(0,[.int .i64,.int .i64,.int .i64,.br tM,.int .i64,.int .i64,.int .i64,.int .i64,.int .i64,.br tW,.int .i64,.bool,.bool])],[]⟩
def ygv:Shape:=⟨[(1,false,[.ptr 0 0])],[(0,[.int .i64,.int .i64,.int .i64,.br tM,.int .i64,.int .i64,.int .i64,.int .i64,.int .i64,.br tW,.int .i64,.bool,.bool])],[]⟩
def ygI:Shape:=⟨[(2,false,[.bool])],[],[]⟩
abbrev yrE (v0:Int) (v1:dA):(yb0).X:=((((),()),(v0,()),()),((v1.1,v1.2.1.1,v1.2.1.2,v1.2.2.1,v1.2.2.2.1,v1.2.2.2.2.1,v1.2.2.2.2.2.1,v1.2.2.2.2.2.2.1,v1.2.2.2.2.2.2.2.1,v1.2.2.2.2.2.2.2.2.1,v1.2.2.2.2.2.2.2.2.2.1,v1.2.2.2.2.2.2.2.2.2.2.1,v1.2.2.2.2.2.2.2.2.2.2.2,()),()),())
abbrev yNj (v0:dA):(ygC).X:=((((),()),((),()),()),((v0.1,v0.2.1.1,v0.2.1.2,v0.2.2.1,v0.2.2.2.1,v0.2.2.2.2.1,v0.2.2.2.2.2.1,v0.2.2.2.2.2.2.1,v0.2.2.2.2.2.2.2.1,v0.2.2.2.2.2.2.2.2.1,v0.2.2.2.2.2.2.2.2.2.1,v0.2.2.2.2.2.2.2.2.2.2.1,v0.2.2.2.2.2.2.2.2.2.2.2,()),()),())
abbrev yNe (v0:dA):(ygv).X:=((((),()),()),((v0.1,v0.2.1.1,v0.2.1.2,v0.2.2.1,v0.2.2.2.1,v0.2.2.2.2.1,v0.2.2.2.2.2.1,v0.2.2.2.2.2.2.1,v0.2.2.2.2.2.2.2.1,v0.2.2.2.2.2.2.2.2.1,v0.2.2.2.2.2.2.2.2.2.1,v0.2.2.2.2.2.2.2.2.2.2.1,v0.2.2.2.2.2.2.2.2.2.2.2,()),()),())
abbrev yNm (v0:Bool):(ygI).X:=(((v0,()),()),(),())
def yrY (v0 v1 v2 v3:Int) (v4:List dM) (v5 v6 v7 v8 v9:Int) (v10:List dW) (v11:Int) (v12 v13:Bool):Option ((yb0).X ⊕ ((ygv).X ⊕ (ygI).X)) :=
 bif (ltb v0 (v4.length:Int)) then
 bif (inb v0 v4.length) then
 let r3:=yaT ((nth v4 v0 ([],[],false,[])).1,((nth v4 v0 ([],[],false,[])).2).1,(((nth v4 v0 ([],[],false,[])).2).2))
 bif (!(!r3)) then
 let r4:=ys5 (v2,v3)
 bif (!((((nth v4 v0 ([],[],false,[])).1).length:Int) !=r4)) then
 bif (((nth v4 v0 ([],[],false,[])).2).2).1 then
 bif (v0 !=v5) then
 bif (!v13) then
 some (.inr (.inr (((false,()),()),(),())))
 else
 some (.inl ((((),()),((IntKind.i64.wrap (v0+1)),()),()),((v1,v2,v3,v4,v5,v6,v7,v8,v9,v10,v11,v12,v13,()),()),()))
 else
 some (.inl ((((),()),((IntKind.i64.wrap (v0+1)),()),()),((v1,v2,v3,v4,v5,v6,v7,v8,v9,v10,v11,v12,v13,()),()),()))
 else
 some (.inl ((((),()),((IntKind.i64.wrap (v0+1)),()),()),((v1,v2,v3,v4,v5,v6,v7,v8,v9,v10,v11,v12,v13,()),()),()))
 else
 some (.inr (.inr (((false,()),()),(),())))
 else
 some (.inr (.inr (((false,()),()),(),())))
 else none
 else
 some (.inr (.inl ((((),()),()),((v1,v2,v3,v4,v5,v6,v7,v8,v9,v10,v11,v12,v13,()),()),())))
def ycy (x:(yb0).X):=yrY x.1.2.1.1 x.2.1.1.1 x.2.1.1.2.1 x.2.1.1.2.2.1 x.2.1.1.2.2.2.1 x.2.1.1.2.2.2.2.1 x.2.1.1.2.2.2.2.2.1 x.2.1.1.2.2.2.2.2.2.1 x.2.1.1.2.2.2.2.2.2.2.1 x.2.1.1.2.2.2.2.2.2.2.2.1 x.2.1.1.2.2.2.2.2.2.2.2.2.1 x.2.1.1.2.2.2.2.2.2.2.2.2.2.1 x.2.1.1.2.2.2.2.2.2.2.2.2.2.2.1 x.2.1.1.2.2.2.2.2.2.2.2.2.2.2.2.1
def yAS (x:(ygC).X):(yb0).X:=((((),()),(0,()),()),((x.2.1.1.1,x.2.1.1.2.1,x.2.1.1.2.2.1,x.2.1.1.2.2.2.1,x.2.1.1.2.2.2.2.1,x.2.1.1.2.2.2.2.2.1,x.2.1.1.2.2.2.2.2.2.1,x.2.1.1.2.2.2.2.2.2.2.1,x.2.1.1.2.2.2.2.2.2.2.2.1,x.2.1.1.2.2.2.2.2.2.2.2.2.1,x.2.1.1.2.2.2.2.2.2.2.2.2.2.1,x.2.1.1.2.2.2.2.2.2.2.2.2.2.2.1,x.2.1.1.2.2.2.2.2.2.2.2.2.2.2.2.1,()),()),())
def yCs:Code:=(zdI ymy 64 52).getD .skip
theorem yOP:zdI ymy 64 13=some (.block 0 (.loop yCs)):=by kernel_rfl
theorem yRB (x:(yb0).X):zg7 ⟨ysn,51,yEy⟩ 0 yCs 52 yb0 ygv ygI x=ycy x:=by kernel_rfl
def yA7 (x:(ygC).X):Nat:=18446744073709551616
def ytq (x:(ygC).X):Option ((ygv).X ⊕ (ygI).X):=zr ycy (yA7 x) (yAS x)
def yBq:Seg:=⟨ygC,ygv,ygI,ytq⟩
def yEz:Nat→Option Seg:=fun q=>bif Nat.beq q 13 then some yBq else yEy q
theorem yPJ:FrOk Tryz.prog ⟨ysn,51,yEz⟩ ymy:=(yPI).loop (sg:=yBq) yb0 yAS (by decide) yOP ycy yA7 (by decide) (fun _=>rfl) (fun x r _ h=>h) yRB
abbrev yfa:List Par:= [.rd tA]
abbrev ymT:List OT:= [⟨false,tB,.fz⟩]
def yoX (a0:dA):Option (ResD ymT×MutD yfa) :=
 zjw (ytq ((((),()),((),()),()),((a0.1,a0.2.1.1,a0.2.1.2,a0.2.2.1,a0.2.2.2.1,a0.2.2.2.2.1,a0.2.2.2.2.2.1,a0.2.2.2.2.2.2.1,a0.2.2.2.2.2.2.2.1,a0.2.2.2.2.2.2.2.2.1,a0.2.2.2.2.2.2.2.2.2.1,a0.2.2.2.2.2.2.2.2.2.2.1,a0.2.2.2.2.2.2.2.2.2.2.2,()),()),())) (fun y4 =>
 some ((((y4.2.1.1.2.2.2.1.length:Int)==y4.2.1.1.2.1),()),())) (fun y4 =>
 some ((y4.1.1.1,()),()))
theorem yY2 (x:InD yfa):zjH ⟨ysn,51,yEz⟩ Tryz.f136.results.toList ymy yfa ymT x=yoX x.1:=by kernel_rfl
theorem yUy:ConOk Tryz.prog 136 ⟨yfa,ymT,fun x=>yoX x.1⟩:=zkh (yPJ) Tryz.func136 (by kernel_rfl) (by kernel_rfl) Tryz.ntmps136.symm (by decide) (fun x r h=>(yY2 x).trans h)
def ym9 (a0:dA):Bool:=ym0 a0
def yzB (a0:dA):Bool:=yf a0.2.1
theorem yWW (a0:dA) (hk:zi9 yfa (a0,())) (hq:yzB a0=true):yoX a0=(fun n=>some ((n,()),())) (ym9 a0):=by
 have hb:a0.2.2.1.length * 80≤2 ^ 47:=hk.1.2.2.1.1
 have hg:=ym.1 hq
 have h1:ytq (yNj a0)=some (bif (List.range a0.2.2.1.length).any (ygK a0) then .inr (yNm false) else .inl (yNe a0)) :=
  zf4 (step:=ycy) (fun i=>yrE i a0) a0.2.2.1.length (ygK a0) _ _ (fun i hi=>by
   simp only [ycy,yrE,yrY,zjI (show (i:Int) < a0.2.2.1.length by omega),cond_true,wr (show -9223372036854775808≤(i:Int)+1 by omega) (by omega),Int.natCast_add,Int.natCast_one,Int.toNat_natCast,zkO hi,zkV,yaT,ygK,ys5,wr (show -9223372036854775808≤6+a0.2.1.2 by omega) (by omega),yh]
   cases yr (nth a0.2.2.1 i ([],[],false,[]))<;>cases (((nth a0.2.2.1 i ([],[],false,[])).1.length:Int) !=6+a0.2.1.2)<;>cases (nth a0.2.2.1 i ([],[],false,[])).2.2.1<;>cases ((i:Int) !=a0.2.2.2.1)<;>cases a0.2.2.2.2.2.2.2.2.2.2.2<;>rfl) (by simp only [ycy,yrE,yrY,zkm (Int.le_refl _),cond_false]) _ (by show _ < 18446744073709551616; omega)
 unfold yoX ym9 ym0
 rw [h1]
 cases (List.range a0.2.2.1.length).any (ygK a0)<;>rfl
def ys8 (a0:dA):Option (ResD ymT×MutD yfa):=bif yzB a0 then (fun n=>some ((n,()),())) (ym9 a0) else none
theorem yX3 (a0:dA) (h:yzB a0=true):ys8 a0=(fun n=>some ((n,()),())) (ym9 a0):=by unfold ys8; rw [h]; rfl
def yFr:Con:=⟨yfa,ymT,fun x=>ys8 x.1⟩
theorem yXV:ConOk Tryz.prog 136 yFr:=(yUy).mono (fun x r hk h=>zkW h (fun hq=>yWW x.1 hk hq))
end
section
def ykm:Code:=(Tryz.f137.body).getD .skip
def yqs:Env:=zki TT [(135,yl),(225,ygJ)] []
theorem yM5:FrOk Tryz.prog ⟨yqs,57,fun _=>none⟩ ykm:=zkp yb yc ⟨yp,yoF,trivial⟩
def yB6:Nat→Option Seg:=fun _=>none
def ybk:Shape:=⟨[(1,false,[.ptr 0 0]),(3,false,[.int .i64])],[(0,[.int .i64,.int .i64,.int .i64,.br tM,.int .i64,.int .i64,.int .i64,.int .i64,.int .i64,.br tW,.int .i64,.bool,.bool])],[]⟩
def yfE:Shape:=⟨[(1,false,[.ptr 0 0]),(3,false,[.ci .i64 0])],[(0,[.int .i64,.int .i64,.int .i64,.br tM,.int .i64,.int .i64,.int .i64,.int .i64,.int .i64,.br tW,.int .i64,.bool,.bool])],[]⟩
def yfw:Shape:=⟨[],[],[]⟩
def yfI:Shape:=⟨[(2,false,[.bool])],[],[]⟩
abbrev ypV (v0:Int) (v1:dA):(ybk).X:=((((),()),(v0,()),()),((v1.1,v1.2.1.1,v1.2.1.2,v1.2.2.1,v1.2.2.2.1,v1.2.2.2.2.1,v1.2.2.2.2.2.1,v1.2.2.2.2.2.2.1,v1.2.2.2.2.2.2.2.1,v1.2.2.2.2.2.2.2.2.1,v1.2.2.2.2.2.2.2.2.2.1,v1.2.2.2.2.2.2.2.2.2.2.1,v1.2.2.2.2.2.2.2.2.2.2.2,()),()),())
abbrev yLn (v0:dA):(yfE).X:=((((),()),((),()),()),((v0.1,v0.2.1.1,v0.2.1.2,v0.2.2.1,v0.2.2.2.1,v0.2.2.2.2.1,v0.2.2.2.2.2.1,v0.2.2.2.2.2.2.1,v0.2.2.2.2.2.2.2.1,v0.2.2.2.2.2.2.2.2.1,v0.2.2.2.2.2.2.2.2.2.1,v0.2.2.2.2.2.2.2.2.2.2.1,v0.2.2.2.2.2.2.2.2.2.2.2,()),()),())
abbrev yLf  :(yfw).X:=((),(),())
abbrev yLq (v0:Bool):(yfI).X:=(((v0,()),()),(),())
def yqg (v0 v1 v2 v3:Int) (v4:List dM) (v5 v6 v7 v8 v9:Int) (v10:List dW) (v11:Int) (v12 v13:Bool):Option ((ybk).X ⊕ ((yfw).X ⊕ (yfI).X)) :=
 bif (ltb v0 (v10.length:Int)) then
 bif (inb v0 v10.length) then
 let r3:=ya ((nth v10 v0 (0,[])).1) 0 (IntKind.i64.wrap (v3 - 1))
 bif (!(!r3)) then
 bif (!((((nth v10 v0 (0,[])).2).length:Int) !=(IntKind.i64.wrap (v2 - 1)))) then
 let r4:=yF ((nth v10 v0 (0,[])).2)
 bif (!(!r4)) then
 bif (ltb 0 v0) then
 bif (inb (IntKind.i64.wrap (v0 - 1)) v10.length) then
 bif (leb ((nth v10 v0 (0,[])).1) ((nth v10 (IntKind.i64.wrap (v0 - 1)) (0,[])).1)) then
 some (.inr (.inr (((false,()),()),(),())))
 else
 some (.inl ((((),()),((IntKind.i64.wrap (v0+1)),()),()),((v1,v2,v3,v4,v5,v6,v7,v8,v9,v10,v11,v12,v13,()),()),()))
 else none
 else
 some (.inl ((((),()),((IntKind.i64.wrap (v0+1)),()),()),((v1,v2,v3,v4,v5,v6,v7,v8,v9,v10,v11,v12,v13,()),()),()))
 else
 some (.inr (.inr (((false,()),()),(),())))
 else
 some (.inr (.inr (((false,()),()),(),())))
 else
 some (.inr (.inr (((false,()),()),(),())))
 else none
 else
 some (.inr (.inl ((),(),())))
def ybG (x:(ybk).X):=yqg x.1.2.1.1 x.2.1.1.1 x.2.1.1.2.1 x.2.1.1.2.2.1 x.2.1.1.2.2.2.1 x.2.1.1.2.2.2.2.1 x.2.1.1.2.2.2.2.2.1 x.2.1.1.2.2.2.2.2.2.1 x.2.1.1.2.2.2.2.2.2.2.1 x.2.1.1.2.2.2.2.2.2.2.2.1 x.2.1.1.2.2.2.2.2.2.2.2.2.1 x.2.1.1.2.2.2.2.2.2.2.2.2.2.1 x.2.1.1.2.2.2.2.2.2.2.2.2.2.2.1 x.2.1.1.2.2.2.2.2.2.2.2.2.2.2.2.1
def yyF (x:(yfE).X):(ybk).X:=((((),()),(0,()),()),((x.2.1.1.1,x.2.1.1.2.1,x.2.1.1.2.2.1,x.2.1.1.2.2.2.1,x.2.1.1.2.2.2.2.1,x.2.1.1.2.2.2.2.2.1,x.2.1.1.2.2.2.2.2.2.1,x.2.1.1.2.2.2.2.2.2.2.1,x.2.1.1.2.2.2.2.2.2.2.2.1,x.2.1.1.2.2.2.2.2.2.2.2.2.1,x.2.1.1.2.2.2.2.2.2.2.2.2.2.1,x.2.1.1.2.2.2.2.2.2.2.2.2.2.2.1,x.2.1.1.2.2.2.2.2.2.2.2.2.2.2.2.1,()),()),())
def yAp:Code:=(zdI ykm 64 52).getD .skip
theorem yMt:zdI ykm 64 13=some (.block 0 (.loop yAp)):=by kernel_rfl
theorem yN9 (x:(ybk).X):zg7 ⟨yqs,57,yB6⟩ 0 yAp 52 ybk yfw yfI x=ybG x:=by kernel_rfl
def yyV (x:(yfE).X):Nat:=18446744073709551616
def yru (x:(yfE).X):Option ((yfw).X ⊕ (yfI).X):=zr ybG (yyV x) (yyF x)
def yzk:Seg:=⟨yfE,yfw,yfI,yru⟩
def yB7:Nat→Option Seg:=fun q=>bif Nat.beq q 13 then some yzk else yB6 q
theorem yM6:FrOk Tryz.prog ⟨yqs,57,yB7⟩ ykm:=(yM5).loop (sg:=yzk) ybk yyF (by decide) yMt ybG yyV (by decide) (fun _=>rfl) (fun x r _ h=>h) yN9
abbrev ydT:List Par:= [.rd tA]
abbrev ykN:List OT:= [⟨false,tB,.fz⟩]
def ymh (a0:dA):Option (ResD ykN×MutD ydT) :=
 zjw (yru ((((),()),((),()),()),((a0.1,a0.2.1.1,a0.2.1.2,a0.2.2.1,a0.2.2.2.1,a0.2.2.2.2.1,a0.2.2.2.2.2.1,a0.2.2.2.2.2.2.1,a0.2.2.2.2.2.2.2.1,a0.2.2.2.2.2.2.2.2.1,a0.2.2.2.2.2.2.2.2.2.1,a0.2.2.2.2.2.2.2.2.2.2.1,a0.2.2.2.2.2.2.2.2.2.2.2,()),()),())) (fun y4 =>
 some ((true,()),())) (fun y4 =>
 some ((y4.1.1.1,()),()))
theorem yWa (x:InD ydT):zjH ⟨yqs,57,yB7⟩ Tryz.f137.results.toList ykm ydT ykN x=ymh x.1:=by kernel_rfl
theorem yQ1:ConOk Tryz.prog 137 ⟨ydT,ykN,fun x=>ymh x.1⟩:=zkh (yM6) Tryz.func137 (by kernel_rfl) (by kernel_rfl) Tryz.ntmps137.symm (by decide) (fun x r h=>(yWa x).trans h)
def yk6 (a0:dA):Bool:=yaE a0.2.1 a0.2.2.2.2.2.2.2.2.1
def yxi (a0:dA):Bool:=yf a0.2.1
theorem yne (l:List Int):yF l=l.all isW:=by
 unfold yF
 rw [show yW=isW from funext fun x=>by unfold yW; rw [ye1]; rfl]
theorem yTY (a0:dA) (hk:zi9 ydT (a0,())) (hq:yxi a0=true):ymh a0=(fun n=>some ((n,()),())) (yk6 a0):=by
 have hb:a0.2.2.2.2.2.2.2.2.1.length * 32≤2 ^ 47:=hk.1.2.2.2.2.2.2.2.2.1.1
 have hg:=ym.1 hq
 have h1:yru (yLn a0)=some (bif (List.range a0.2.2.2.2.2.2.2.2.1.length).any (yhC a0.2.1 a0.2.2.2.2.2.2.2.2.1) then .inr (yLq false) else .inl yLf) :=
  zf4 (step:=ybG) (fun i=>ypV i a0) a0.2.2.2.2.2.2.2.2.1.length (yhC a0.2.1 a0.2.2.2.2.2.2.2.2.1) _ _ (fun i hi=>by
   simp only [ybG,ypV,yqg,zjI (show (i:Int) < a0.2.2.2.2.2.2.2.2.1.length by omega),cond_true,wr (show -9223372036854775808≤(i:Int)+1 by omega) (by omega),Int.natCast_add,Int.natCast_one,Int.toNat_natCast,zkO hi,ye1,yne,wr (show -9223372036854775808≤a0.2.1.2 - 1 by omega) (by omega),wr (show -9223372036854775808≤a0.2.1.1 - 1 by omega) (by omega),yhC]
   rcases Nat.eq_zero_or_pos i with rfl | h0
   ·cases (leb 0 (nth a0.2.2.2.2.2.2.2.2.1 ((0:Nat):Int) (0,[])).1&&leb (nth a0.2.2.2.2.2.2.2.2.1 ((0:Nat):Int) (0,[])).1 (a0.2.1.2 - 1))<;>cases (((nth a0.2.2.2.2.2.2.2.2.1 ((0:Nat):Int) (0,[])).2.length:Int) !=a0.2.1.1 - 1)<;>cases ((nth a0.2.2.2.2.2.2.2.2.1 ((0:Nat):Int) (0,[])).2.all isW)<;>rfl
   ·rw [show IntKind.i64.wrap ((i:Int) - 1)=((i - 1:Nat):Int) by rw [wr (by omega) (by omega)]; omega,zkO (show i - 1 < a0.2.2.2.2.2.2.2.2.1.length by omega),zjI (show (0:Int) < i by omega),decide_eq_true h0]
    cases (leb 0 (nth a0.2.2.2.2.2.2.2.2.1 (i:Int) (0,[])).1&&leb (nth a0.2.2.2.2.2.2.2.2.1 (i:Int) (0,[])).1 (a0.2.1.2 - 1))<;>cases (((nth a0.2.2.2.2.2.2.2.2.1 (i:Int) (0,[])).2.length:Int) !=a0.2.1.1 - 1)<;>cases ((nth a0.2.2.2.2.2.2.2.2.1 (i:Int) (0,[])).2.all isW)<;>cases leb (nth a0.2.2.2.2.2.2.2.2.1 (i:Int) (0,[])).1 (nth a0.2.2.2.2.2.2.2.2.1 ((i - 1:Nat):Int) (0,[])).1<;>rfl) (by simp only [ybG,ypV,yqg,zkm (Int.le_refl _),cond_false]) _ (by show _ < 18446744073709551616; omega)
 unfold ymh yk6 yaE
 rw [h1]
 cases (List.range a0.2.2.2.2.2.2.2.2.1.length).any (yhC a0.2.1 a0.2.2.2.2.2.2.2.2.1)<;>rfl
def yqW (a0:dA):Option (ResD ykN×MutD ydT):=bif yxi a0 then (fun n=>some ((n,()),())) (yk6 a0) else none
theorem yU1 (a0:dA) (h:yxi a0=true):yqW a0=(fun n=>some ((n,()),())) (yk6 a0):=by unfold yqW; rw [h]; rfl
def yCJ:Con:=⟨ydT,ykN,fun x=>yqW x.1⟩
theorem yUV:ConOk Tryz.prog 137 yCJ:=(yQ1).mono (fun x r hk h=>zkW h (fun hq=>yTY x.1 hk hq))
end
section
def yJI:Code:=(Tryz.f46.body).getD .skip
def yJ7:Env:=zki TT [(134,ykS),(135,yl),(136,yFr),(137,yCJ)] []
theorem yTe:FrOk Tryz.prog ⟨yJ7,78,fun _=>none⟩ yJI:=zkp yb yc ⟨ys9,yp,yXV,yUV,trivial⟩
def yVF:Nat→Option Seg:=fun _=>none
abbrev ykC:List Par:= [.rd tA]
abbrev yu8:List OT:= [⟨false,tB,.fz⟩]
def yq8 (a0:dA):Option (ResD yu8×MutD ykC) :=
 let r1:=yf a0.2.1
 bif (!(!r1)) then
 let r2:=ya a0.1 1 60000
 bif (!(!r2)) then
 bnd (ys8 a0) fun r3 =>
 bif (!(!r3.1.1)) then
 bnd (yqW a0) fun r4 =>
 bif (!r4.1.1) then
 some ((false,()),())
 else
 let r5:=ya a0.2.2.2.1 (-1) (IntKind.i64.wrap (a0.2.1.1 - 1))
 bif (!(!r5)) then
 let r6:=ya a0.2.2.2.2.1 0 a0.2.1.2
 bif (!(!r6)) then
 bif (a0.2.2.2.1==(-1)) then
 bif (a0.2.2.2.2.1 !=0) then
 some ((false,()),())
 else
 let r7:=ya a0.2.2.2.2.2.2.1 0 60000
 bif r7 then
 let r8:=ya a0.2.2.2.2.2.1 a0.2.2.2.2.2.2.1 60000
 bif r8 then
 bif (leb a0.2.2.2.2.2.1 (IntKind.i64.wrap (a0.2.2.2.2.2.2.1+4))) then
 let r9:=ya a0.2.2.2.2.2.2.2.1 0 60000
 bif r9 then
 let r10:=ya a0.2.2.2.2.2.2.2.2.2.1 (-1) 1000
 some ((r10,()),())
 else
 some ((false,()),())
 else
 some ((false,()),())
 else
 some ((false,()),())
 else
 some ((false,()),())
 else
 let r11:=ya a0.2.2.2.2.2.2.1 0 60000
 bif r11 then
 let r12:=ya a0.2.2.2.2.2.1 a0.2.2.2.2.2.2.1 60000
 bif r12 then
 bif (leb a0.2.2.2.2.2.1 (IntKind.i64.wrap (a0.2.2.2.2.2.2.1+4))) then
 let r13:=ya a0.2.2.2.2.2.2.2.1 0 60000
 bif r13 then
 let r14:=ya a0.2.2.2.2.2.2.2.2.2.1 (-1) 1000
 some ((r14,()),())
 else
 some ((false,()),())
 else
 some ((false,()),())
 else
 some ((false,()),())
 else
 some ((false,()),())
 else
 some ((false,()),())
 else
 some ((false,()),())
 else
 some ((false,()),())
 else
 some ((false,()),())
 else
 some ((false,()),())
theorem y0K (x:InD ykC):zjH ⟨yJ7,78,yVF⟩ Tryz.f46.results.toList yJI ykC yu8 x=yq8 x.1:=by kernel_rfl
theorem yXq:ConOk Tryz.prog 46 ⟨ykC,yu8,fun x=>yq8 x.1⟩:=zkh (yTe) Tryz.func46 (by kernel_rfl) (by kernel_rfl) Tryz.ntmps46.symm (by decide) (fun x r h=>(y0K x).trans h)
def ybM (a0:dA):Bool:=yB a0
theorem yZy (a0:dA) (hk:zi9 ykC (a0,())):yq8 a0=(fun n=>some ((n,()),())) (ybM a0):=by
 unfold yq8 ybM yB
 simp only [ye1]
 cases hg:yf a0.2.1
 ·rfl
 have hg2:=ym.1 hg
 rw [yX3 a0 hg,yU1 a0 hg,wr (show -9223372036854775808≤a0.2.1.1 - 1 by omega) (by omega)]
 simp only [zky,ym9,yk6,Bool.not_not,cond_true]
 cases (leb 1 a0.1&&leb a0.1 60000)
 ·rfl
 cases ym0 a0
 ·rfl
 cases yaE a0.2.1 a0.2.2.2.2.2.2.2.2.1
 ·rfl
 cases (leb (-1) a0.2.2.2.1&&leb a0.2.2.2.1 (a0.2.1.1 - 1))
 ·rfl
 cases (leb 0 a0.2.2.2.2.1&&leb a0.2.2.2.2.1 a0.2.1.2)
 ·rfl
 have ht:(leb 0 a0.2.2.2.2.2.2.1&&leb a0.2.2.2.2.2.2.1 60000)=true→IntKind.i64.wrap (a0.2.2.2.2.2.2.1+4)=a0.2.2.2.2.2.2.1+4:=fun h=>by
  rw [Bool.and_eq_true,zjQ,zjQ]at h
  exact wr (by omega) (by omega)
 cases hT:(leb 0 a0.2.2.2.2.2.2.1&&leb a0.2.2.2.2.2.2.1 60000)
 ·cases (a0.2.2.2.1== -1)<;>cases (a0.2.2.2.2.1 !=0)<;>rfl
 rw [ht hT]
 cases (leb a0.2.2.2.2.2.2.1 a0.2.2.2.2.2.1&&leb a0.2.2.2.2.2.1 60000)
 ·cases (a0.2.2.2.1== -1)<;>cases (a0.2.2.2.2.1 !=0)<;>rfl
 cases leb a0.2.2.2.2.2.1 (a0.2.2.2.2.2.2.1+4)
 ·cases (a0.2.2.2.1== -1)<;>cases (a0.2.2.2.2.1 !=0)<;>rfl
 cases (leb 0 a0.2.2.2.2.2.2.2.1&&leb a0.2.2.2.2.2.2.2.1 60000)<;>cases (a0.2.2.2.1== -1)<;>cases (a0.2.2.2.2.1 !=0)<;>rfl
def yw7:Con:=⟨ykC,yu8,fun x=>(fun n=>some ((n,()),())) (ybM x.1)⟩
theorem yIK:ConOk Tryz.prog 46 yw7:=(yXq).mono (fun x r hk h=>(yZy x.1 hk).trans h)
end
section
def yFR:Code:=(Tryz.f100.body).getD .skip
def yGo:Env:=zki TT [] []
theorem yMJ:FrOk Tryz.prog ⟨yGo,6,fun _=>none⟩ yFR:=zkp yb yc trivial
def yOt:Nat→Option Seg:=fun _=>none
abbrev ykv:List Par:= [.rd tG]
abbrev yqy:List OT:= [⟨false,tI,.fz⟩]
def ytM (a0:dG):Option (ResD yqy×MutD ykv) :=
 some (((IntKind.i64.wrap (6+a0.2)),()),())
theorem yVW (x:InD ykv):zjH ⟨yGo,6,yOt⟩ Tryz.f100.results.toList yFR ykv yqy x=ytM x.1:=by kernel_rfl
theorem yQN:ConOk Tryz.prog 100 ⟨ykv,yqy,fun x=>ytM x.1⟩:=zkh (yMJ) Tryz.func100 (by kernel_rfl) (by kernel_rfl) Tryz.ntmps100.symm (by decide) (fun x r h=>(yVW x).trans h)
def yqS (a0:dG):Int :=
 (IntKind.i64.wrap (6+a0.2))
def yCx:Con:=⟨ykv,yqy,fun x=>(fun n=>some ((n,()),())) (yqS x.1)⟩
theorem yTK (a0:dG):ytM a0=(fun n=>some ((n,()),())) (yqS a0):=zkS (p:=fun (n:Int)=>((n,()),())) rfl
theorem yUJ:ConOk Tryz.prog 100 yCx:=(yQN).mono (fun x r _ h=>(yTK x.1).trans h)
end
section
def yH3:Code:=(Tryz.f126.body).getD .skip
def yIs:Env:=zki TT [] []
theorem yPb:FrOk Tryz.prog ⟨yIs,15,fun _=>none⟩ yH3:=zkp yb yc trivial
def yRS:Nat→Option Seg:=fun _=>none
abbrev ymK:List Par:= [.rd tI,.rd tI,.rd tI]
abbrev ysC:List OT:= [⟨false,tB,.fz⟩]
def yv2 (a0 a1 a2:Int):Option (ResD ysC×MutD ymK) :=
 bif (leb a1 a0) then
 some (((leb a0 a2),()),())
 else
 some ((false,()),())
theorem yYI (x:InD ymK):zjH ⟨yIs,15,yRS⟩ Tryz.f126.results.toList yH3 ymK ysC x=yv2 x.1 x.2.1 x.2.2.1:=by kernel_rfl
theorem yUe:ConOk Tryz.prog 126 ⟨ymK,ysC,fun x=>yv2 x.1 x.2.1 x.2.2.1⟩:=zkh (yPb) Tryz.func126 (by kernel_rfl) (by kernel_rfl) Tryz.ntmps126.symm (by decide) (fun x r h=>(yYI x).trans h)
def ye (a0 a1 a2:Int):Bool :=
 bif (leb a1 a0) then
 (leb a0 a2)
 else
 false
def yv:Con:=⟨ymK,ysC,fun x=>(fun n=>some ((n,()),())) (ye x.1 x.2.1 x.2.2.1)⟩
theorem yWC (a0 a1 a2:Int):yv2 a0 a1 a2=(fun n=>some ((n,()),())) (ye a0 a1 a2):=zkS (p:=fun (n:Bool)=>((n,()),())) (zkx (p:=fun (n:Bool)=>((n,()),())) rfl rfl)
theorem yP:ConOk Tryz.prog 126 yv:=(yUe).mono (fun x r _ h=>(yWC x.1 x.2.1 x.2.2.1).trans h)
theorem yaB (a b c:Int):ye a b c=ya a b c:=by kernel_rfl
end
end
end Go.Tf
