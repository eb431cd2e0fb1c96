/- Functions of the program, and what they come to. -/
import Derived.Test.YtgmadfpnljibhaaGreatFallsBentF0
namespace Go.Tf
noncomputable section
open Go.Proofs
set_option synthInstance.maxHeartbeats 400000
set_option synthInstance.maxSize 10000
set_option linter.unusedVariables false
set_option linter.unusedSimpArgs false
set_option maxRecDepth 100000
section
def yQC:Code:=(Tryz.f221.body).getD .skip
def yQU:Env:=zj2 TT [(228,yoC)] []
theorem y1R:FrOk Tryz.prog ⟨yQU,10,fun _=>none⟩ yQC:=zj6 yc yd ⟨yAe,trivial⟩
def y4z:Nat→Option Seg:=fun _=>none
abbrev ysP:List Par:= [.rd tL]
abbrev yy1:List OT:= [⟨false,tB,.fz⟩]
def yCp (a0:List Int):Option (ResD yy1×MutD ysP) :=
 bif (leb (a0.length:Int) 12) then
 let r1:=yaf a0
 some ((r1,()),())
 else
 some ((false,()),())
theorem y9o (x:InD ysP):zjw ⟨yQU,10,y4z⟩ Tryz.f221.results.toList yQC ysP yy1 x=yCp x.1:=by kernel_rfl
theorem y6i:ConOk Tryz.prog 221 ⟨ysP,yy1,fun x=>yCp x.1⟩:=zj1 (y1R) Tryz.func221 (by kernel_rfl) (by kernel_rfl) Tryz.ntmps221.symm (by decide) (fun x r h=>(y9o x).trans h)
def yjh (a0:List Int):Bool :=
 bif (leb (a0.length:Int) 12) then
 let r1:=yaf a0
 r1
 else
 false
def yBY:Con:=⟨ysP,yy1,fun x=>(fun n=>some ((n,()),())) (yjh x.1)⟩
theorem y8B (a0:List Int):yCp a0=(fun n=>some ((n,()),())) (yjh a0):=zkp (p:=fun (n:Bool)=>((n,()),())) (zkb (p:=fun (n:Bool)=>((n,()),())) rfl rfl)
theorem yPp:ConOk Tryz.prog 221 yBY:=(y6i).mono (fun x r _ h=>(y8B x.1).trans h)
theorem yLu:yjh=yal:=funext fun s=>by
 unfold yjh yal yaf
 rw [show yap=isW from funext fun x=>by unfold yap; rw [yah,ybr]; rfl]
 cases leb (s.length:Int) 12<;>rfl
end
section
def ybt:Code:=(Tryz.f133.body).getD .skip
def yfX:Env:=zj2 TT [(126,yF),(220,yrR),(221,yBY)] []
theorem y1M:FrOk Tryz.prog ⟨yfX,76,fun _=>none⟩ ybt:=zj6 yc yd ⟨yS,yCa,yPp,trivial⟩
def yLW:Nat→Option Seg:=fun _=>none
def ydT:Shape:=⟨[(1,false,[.ptr 0 0]),(10,false,[.br tL]),(11,false,[.int .i64]),(12,false,[.int .i64])],[(0,[.br tL,.br tW,.bool,.br tI])],[]⟩
def ykG:Shape:=⟨[(1,false,[.ptr 0 0]),(10,false,[.br tL]),(11,false,[.int .i64]),(12,false,[.ci .i64 0])],[(0,[.br tL,.br tW,.bool,.br tI])],[]⟩
def ykr:Shape:=⟨[(1,false,[.ptr 0 0])],[(0,[.br tL,.br tW,.bool,.br tI])],[]⟩
def yk8:Shape:=⟨[(2,false,[.bool])],[],[]⟩
abbrev yxv (v0:List (List Int)) (v1 v2:Int) (v3:dM):(ydT).X:=((((),()),(v0,()),(v1,()),(v2,()),()),((v3.1,v3.2.1,v3.2.2.1,v3.2.2.2,()),()),())
abbrev yYn (v0:List (List Int)) (v1:Int) (v2:dM):(ykG).X:=((((),()),(v0,()),(v1,()),((),()),()),((v2.1,v2.2.1,v2.2.2.1,v2.2.2.2,()),()),())
abbrev yYe (v0:dM):(ykr).X:=((((),()),()),((v0.1,v0.2.1,v0.2.2.1,v0.2.2.2,()),()),())
abbrev yYB (v0:Bool):(yk8).X:=(((v0,()),()),(),())
def yxX (v0:List (List Int)) (v1 v2:Int) (v3:List (List Int)) (v4:List dW) (v5:Bool) (v6:List Int):Option ((ydT).X ⊕ ((ykr).X ⊕ (yk8).X)) :=
 bif (ltb v2 v1) then
 bif (inb v2 v0.length) then
 let r2:=yjh (nth v0 v2 [])
 bif (!r2) then
 some (.inr (.inr (((false,()),()),(),())))
 else
 some (.inl ((((),()),(v0,()),(v1,()),((IntKind.i64.wrap (v2+1)),()),()),((v3,v4,v5,v6,()),()),()))
 else none
 else
 some (.inr (.inl ((((),()),()),((v3,v4,v5,v6,()),()),())))
def yev (x:(ydT).X):=yxX x.1.2.1.1 x.1.2.2.1.1 x.1.2.2.2.1.1 x.2.1.1.1 x.2.1.1.2.1 x.2.1.1.2.2.1 x.2.1.1.2.2.2.1
def yHJ (x:(ykG).X):(ydT).X:=((((),()),(x.1.2.1.1,()),(x.1.2.2.1.1,()),(0,()),()),((x.2.1.1.1,x.2.1.1.2.1,x.2.1.1.2.2.1,x.2.1.1.2.2.2.1,()),()),())
def yKd:Code:=(zdD ybt 64 52).getD .skip
theorem y0Q:zdD ybt 64 13=some (.block 0 (.loop yKd)):=by kernel_rfl
theorem y4g (x:(ydT).X):zg0 ⟨yfX,76,yLW⟩ 0 yKd 52 ydT ykr yk8 x=yev x:=by kernel_rfl
def yHZ (x:(ykG).X):Nat:=18446744073709551616
def yyI (x:(ykG).X):Option ((ykr).X ⊕ (yk8).X):=zz yev (yHZ x) (yHJ x)
def yIK:Seg:=⟨ykG,ykr,yk8,yyI⟩
def yBN:Nat→Option Seg:=fun q=>bif Nat.beq q 13 then some yIK else yLW q
theorem y1N:FrOk Tryz.prog ⟨yfX,76,yBN⟩ ybt:=(y1M).loop (sg:=yIK) ydT yHJ (by decide) y0Q yev yHZ (by decide) (fun _=>rfl) (fun x r _ h=>h) y4g
def ydU:Shape:=⟨[(1,false,[.ptr 0 0]),(21,false,[.br tW]),(22,false,[.int .i64]),(23,false,[.int .i64])],[(0,[.br tL,.br tW,.bool,.br tI])],[]⟩
def ykH:Shape:=⟨[(1,false,[.ptr 0 0]),(21,false,[.br tW]),(22,false,[.int .i64]),(23,false,[.ci .i64 0])],[(0,[.br tL,.br tW,.bool,.br tI])],[]⟩
def yks:Shape:=⟨[(1,false,[.ptr 0 0])],[(0,[.br tL,.br tW,.bool,.br tI])],[]⟩
def yk9:Shape:=⟨[(2,false,[.bool])],[],[]⟩
abbrev yxw (v0:List dW) (v1 v2:Int) (v3:dM):(ydU).X:=((((),()),(v0,()),(v1,()),(v2,()),()),((v3.1,v3.2.1,v3.2.2.1,v3.2.2.2,()),()),())
abbrev yYo (v0:List dW) (v1:Int) (v2:dM):(ykH).X:=((((),()),(v0,()),(v1,()),((),()),()),((v2.1,v2.2.1,v2.2.2.1,v2.2.2.2,()),()),())
abbrev yYf (v0:dM):(yks).X:=((((),()),()),((v0.1,v0.2.1,v0.2.2.1,v0.2.2.2,()),()),())
abbrev yYC (v0:Bool):(yk9).X:=(((v0,()),()),(),())
def yxY (v0:List dW) (v1 v2:Int) (v3:List (List Int)) (v4:List dW) (v5:Bool) (v6:List Int):Option ((ydU).X ⊕ ((yks).X ⊕ (yk9).X)) :=
 bif (ltb v2 v1) then
 bif (inb v2 v0.length) then
 let r6:=ybM (v3,v4,v5,v6) ((nth v0 v2 (0,[])).1)
 bif (!(!r6)) then
 let r7:=yjh ((nth v0 v2 (0,[])).2)
 bif (!r7) then
 some (.inr (.inr (((false,()),()),(),())))
 else
 some (.inl ((((),()),(v0,()),(v1,()),((IntKind.i64.wrap (v2+1)),()),()),((v3,v4,v5,v6,()),()),()))
 else
 some (.inr (.inr (((false,()),()),(),())))
 else none
 else
 some (.inr (.inl ((((),()),()),((v3,v4,v5,v6,()),()),())))
def yew (x:(ydU).X):=yxY x.1.2.1.1 x.1.2.2.1.1 x.1.2.2.2.1.1 x.2.1.1.1 x.2.1.1.2.1 x.2.1.1.2.2.1 x.2.1.1.2.2.2.1
def yHK (x:(ykH).X):(ydU).X:=((((),()),(x.1.2.1.1,()),(x.1.2.2.1.1,()),(0,()),()),((x.2.1.1.1,x.2.1.1.2.1,x.2.1.1.2.2.1,x.2.1.1.2.2.2.1,()),()),())
def yKe:Code:=(zdD ybt 64 116).getD .skip
theorem y0R:zdD ybt 64 29=some (.block 2 (.loop yKe)):=by kernel_rfl
theorem y4h (x:(ydU).X):zg0 ⟨yfX,76,yBN⟩ 2 yKe 116 ydU yks yk9 x=yew x:=by kernel_rfl
def yH0 (x:(ykH).X):Nat:=18446744073709551616
def yyJ (x:(ykH).X):Option ((yks).X ⊕ (yk9).X):=zz yew (yH0 x) (yHK x)
def yIL:Seg:=⟨ykH,yks,yk9,yyJ⟩
def yBO:Nat→Option Seg:=fun q=>bif Nat.beq q 29 then some yIL else yBN q
theorem y1O:FrOk Tryz.prog ⟨yfX,76,yBO⟩ ybt:=(y1N).loop (sg:=yIL) ydU yHK (by decide) y0R yew yH0 (by decide) (fun _=>rfl) (fun x r _ h=>h) y4h
def ydV:Shape:=⟨[(1,false,[.ptr 0 0]),(40,false,[.br tI]),(41,false,[.int .i64]),(42,false,[.int .i64])],[(0,[.br tL,.br tW,.bool,.br tI])],[]⟩
def ykI:Shape:=⟨[(1,false,[.ptr 0 0]),(40,false,[.br tI]),(41,false,[.int .i64]),(42,false,[.ci .i64 0])],[(0,[.br tL,.br tW,.bool,.br tI])],[]⟩
def ykt:Shape:=⟨[(1,false,[.ptr 0 0])],[(0,[.br tL,.br tW,.bool,.br tI])],[]⟩
def yla:Shape:=⟨[(2,false,[.bool])],[],[]⟩
abbrev yxx (v0:List Int) (v1 v2:Int) (v3:dM):(ydV).X:=((((),()),(v0,()),(v1,()),(v2,()),()),((v3.1,v3.2.1,v3.2.2.1,v3.2.2.2,()),()),())
abbrev yYp (v0:List Int) (v1:Int) (v2:dM):(ykI).X:=((((),()),(v0,()),(v1,()),((),()),()),((v2.1,v2.2.1,v2.2.2.1,v2.2.2.2,()),()),())
abbrev yYg (v0:dM):(ykt).X:=((((),()),()),((v0.1,v0.2.1,v0.2.2.1,v0.2.2.2,()),()),())
abbrev yYD (v0:Bool):(yla).X:=(((v0,()),()),(),())
def yxZ (v0:List Int) (v1 v2:Int) (v3:List (List Int)) (v4:List dW) (v5:Bool) (v6:List Int):Option ((ydV).X ⊕ ((ykt).X ⊕ (yla).X)) :=
 bif (ltb v2 v1) then
 bif (inb v2 v0.length) then
 let r10:=ybM (v3,v4,v5,v6) (nth v0 v2 0)
 bif (!(!r10)) then
 bif (ltb 0 v2) then
 bif (inb (IntKind.i64.wrap (v2 - 1)) v6.length) then
 bif (leb (nth v0 v2 0) (nth v6 (IntKind.i64.wrap (v2 - 1)) 0)) then
 some (.inr (.inr (((false,()),()),(),())))
 else
 some (.inl ((((),()),(v0,()),(v1,()),((IntKind.i64.wrap (v2+1)),()),()),((v3,v4,v5,v6,()),()),()))
 else none
 else
 some (.inl ((((),()),(v0,()),(v1,()),((IntKind.i64.wrap (v2+1)),()),()),((v3,v4,v5,v6,()),()),()))
 else
 some (.inr (.inr (((false,()),()),(),())))
 else none
 else
 some (.inr (.inl ((((),()),()),((v3,v4,v5,v6,()),()),())))
def yex (x:(ydV).X):=yxZ x.1.2.1.1 x.1.2.2.1.1 x.1.2.2.2.1.1 x.2.1.1.1 x.2.1.1.2.1 x.2.1.1.2.2.1 x.2.1.1.2.2.2.1
def yHL (x:(ykI).X):(ydV).X:=((((),()),(x.1.2.1.1,()),(x.1.2.2.1.1,()),(0,()),()),((x.2.1.1.1,x.2.1.1.2.1,x.2.1.1.2.2.1,x.2.1.1.2.2.2.1,()),()),())
def yKf:Code:=(zdD ybt 64 244).getD .skip
theorem y0S:zdD ybt 64 61=some (.block 4 (.loop yKf)):=by kernel_rfl
theorem y4i (x:(ydV).X):zg0 ⟨yfX,76,yBO⟩ 4 yKf 244 ydV ykt yla x=yex x:=by kernel_rfl
def yH1 (x:(ykI).X):Nat:=18446744073709551616
def yyK (x:(ykI).X):Option ((ykt).X ⊕ (yla).X):=zz yex (yH1 x) (yHL x)
def yIM:Seg:=⟨ykI,ykt,yla,yyK⟩
def yLX:Nat→Option Seg:=fun q=>bif Nat.beq q 61 then some yIM else yBO q
theorem y1P:FrOk Tryz.prog ⟨yfX,76,yLX⟩ ybt:=(y1O).loop (sg:=yIM) ydV yHL (by decide) y0S yex yH1 (by decide) (fun _=>rfl) (fun x r _ h=>h) y4i
abbrev ym1:List Par:= [.rd tM]
abbrev yyZ:List OT:= [⟨false,tB,.fz⟩]
def yuF (a0:dM):Option (ResD yyZ×MutD ym1) :=
 zjY (yyI ((((),()),(a0.1,()),((a0.1.length:Int),()),((),()),()),((a0.1,a0.2.1,a0.2.2.1,a0.2.2.2,()),()),())) (fun y2 =>
 zjY (yyJ ((((),()),(y2.2.1.1.2.1,()),((y2.2.1.1.2.1.length:Int),()),((),()),()),((y2.2.1.1.1,y2.2.1.1.2.1,y2.2.1.1.2.2.1,y2.2.1.1.2.2.2.1,()),()),())) (fun y7 =>
 zjY (yyK ((((),()),(y7.2.1.1.2.2.2.1,()),((y7.2.1.1.2.2.2.1.length:Int),()),((),()),()),((y7.2.1.1.1,y7.2.1.1.2.1,y7.2.1.1.2.2.1,y7.2.1.1.2.2.2.1,()),()),())) (fun y10 =>
 let r12:=yg (y10.2.1.1.1.length:Int) 1 20
 bif r12 then
 some (((leb (y10.2.1.1.2.1.length:Int) 60),()),())
 else
 some ((false,()),())) (fun y10 =>
 some ((y10.1.1.1,()),()))) (fun y7 =>
 some ((y7.1.1.1,()),()))) (fun y2 =>
 some ((y2.1.1.1,()),()))
theorem y9m (x:InD ym1):zjw ⟨yfX,76,yLX⟩ Tryz.f133.results.toList ybt ym1 yyZ x=yuF x.1:=by kernel_rfl
theorem y6g:ConOk Tryz.prog 133 ⟨ym1,yyZ,fun x=>yuF x.1⟩:=zj1 (y1P) Tryz.func133 (by kernel_rfl) (by kernel_rfl) Tryz.ntmps133.symm (by decide) (fun x r h=>(y9m x).trans h)
def yaa (a0:dM):Bool:=yu a0
theorem y8z (a0:dM) (hk:zi1 ym1 (a0,())):yuF a0=(fun n=>some ((n,()),())) (yaa a0):=by
 have hb1:a0.1.length * 24≤2 ^ 47:=hk.1.1.1
 have hb2:a0.2.1.length * 32≤2 ^ 47:=hk.1.2.1.1
 have hb3:a0.2.2.2.length * 8≤2 ^ 47:=hk.1.2.2.2.1
 have h1:yyI (yYn a0.1 a0.1.length a0)=some (bif a0.1.all yal then .inl (yYe a0) else .inr (yYB false)) :=
  zjF (step:=yev) a0.1 [] (fun i=>yxv a0.1 a0.1.length i a0) yal _ _ (fun i hi=>by
   simp only [yev,yxv,yxX,zj4 (show (i:Int) < a0.1.length by omega),cond_true,wr (show -9223372036854775808≤(i:Int)+1 by omega) (by omega),Int.natCast_add,Int.natCast_one,Int.toNat_natCast,zkl hi,zkm,yLu]
   cases yal (a0.1.getD i [])<;>rfl) (by simp only [yev,yxv,yxX,zkx (Int.le_refl _),cond_false]) _ (by show _ < 18446744073709551616; omega)
 have h2:yyJ (yYo a0.2.1 a0.2.1.length a0)=some (bif a0.2.1.all (yAN a0.1.length) then .inl (yYf a0) else .inr (yYC false)) :=
  zjF (step:=yew) a0.2.1 (0,[]) (fun i=>yxw a0.2.1 a0.2.1.length i a0) (yAN a0.1.length) _ _ (fun i hi=>by
   simp only [yew,yxw,yxY,zj4 (show (i:Int) < a0.2.1.length by omega),cond_true,wr (show -9223372036854775808≤(i:Int)+1 by omega) (by omega),Int.natCast_add,Int.natCast_one,Int.toNat_natCast,zkl hi,zkm,yLu,ybM,yah,yvZ (show a0.1.length≤1152921504606846976 by omega),yAN]
   cases inb (a0.2.1.getD i (0,[])).1 a0.1.length<;>cases yal (a0.2.1.getD i (0,[])).2<;>rfl) (by simp only [yew,yxw,yxY,zkx (Int.le_refl _),cond_false]) _ (by show _ < 18446744073709551616; omega)
 have h3:yyK (yYp a0.2.2.2 a0.2.2.2.length a0)=some (bif (List.range a0.2.2.2.length).any (yKa a0.1.length a0.2.2.2) then .inr (yYD false) else .inl (yYg a0)) :=
  ziN (step:=yex) (fun i=>yxx a0.2.2.2 a0.2.2.2.length i a0) a0.2.2.2.length (yKa a0.1.length a0.2.2.2) _ _ (fun i hi=>by
   simp only [yex,yxx,yxZ,zj4 (show (i:Int) < a0.2.2.2.length by omega),cond_true,wr (show -9223372036854775808≤(i:Int)+1 by omega) (by omega),Int.natCast_add,Int.natCast_one,Int.toNat_natCast,zkl hi,zkm,ybM,yah,yvZ (show a0.1.length≤1152921504606846976 by omega),yKa]
   rcases Nat.eq_zero_or_pos i with rfl | h0
   ·cases inb (a0.2.2.2.getD 0 0) a0.1.length<;>rfl
   ·rw [show IntKind.i64.wrap ((i:Int) - 1)=((i - 1:Nat):Int) by rw [wr (by omega) (by omega)]; omega,zkl (show i - 1 < a0.2.2.2.length by omega),zkm,zj4 (show (0:Int) < i by omega),decide_eq_true h0]
    cases inb (a0.2.2.2.getD i 0) a0.1.length<;>cases leb (a0.2.2.2.getD i 0) (a0.2.2.2.getD (i - 1) 0)<;>rfl) (by simp only [yex,yxx,yxZ,zkx (Int.le_refl _),cond_false]) _ (by show _ < 18446744073709551616; omega)
 unfold yuF yaa yu
 rw [h1]
 cases a0.1.all yal
 ·rfl
 simp only [cond_true,zkh,h2]
 cases a0.2.1.all (yAN a0.1.length)
 ·rfl
 simp only [cond_true,zkh,h3,y7b,yah,ybr]
 cases yuq a0.1.length a0.2.2.2
 ·rfl
 simp only [Bool.not_true,cond_false,zkh]
 cases leb 1 (a0.1.length:Int)<;>cases leb (a0.1.length:Int) 20<;>rfl
def yfA:Con:=⟨ym1,yyZ,fun x=>(fun n=>some ((n,()),())) (yaa x.1)⟩
theorem yj0:ConOk Tryz.prog 133 yfA:=(y6g).mono (fun x r hk h=>(y8z x.1 hk).trans h)
end
section
def ysq:Code:=(Tryz.f45.body).getD .skip
def yyx:Env:=zj2 TT [(100,yHu),(122,yus),(126,yF),(131,yzq),(132,yHt),(133,yfA)] []
theorem y1J:FrOk Tryz.prog ⟨yyx,103,fun _=>none⟩ ysq:=zj6 yc yd ⟨y3Y,yEu,yS,yM9,y3X,yj0,trivial⟩
def yLU:Nat→Option Seg:=fun _=>none
def ydS:Shape:=⟨[(1,false,[.ptr 0 0]),(41,false,[.br tM]),(42,false,[.int .i64]),(43,false,[.int .i64])],[(0,[.int .i64,.int .i64,.int .i64,.br tM,.int .i64,.int .i64,.int .i64,.int .i64,.int .i64,.br tW,.int .i64,.bool,.bool])],[]⟩
def ykF:Shape:=⟨[(1,false,[.ptr 0 0]),(41,false,[.br tM]),(42,false,[.int .i64]),(43,false,[.ci .i64 0])],[(0,[.int .i64,.int .i64,.int .i64,.br tM,.int .i64,.int .i64,.int .i64,.int .i64,.int .i64,.br tW,.int .i64,.bool,.bool])],[]⟩
def ykq:Shape:=⟨[(1,false,[.ptr 0 0])],[(0,[.int .i64,.int .i64,.int .i64,.br tM,.int .i64,.int .i64,.int .i64,.int .i64,.int .i64,.br tW,.int .i64,.bool,.bool])],[]⟩
def yk4:Shape:=⟨[(2,false,[.bool])],[],[]⟩
abbrev yxu (v0:List dM) (v1 v2:Int) (v3:dA):(ydS).X:=((((),()),(v0,()),(v1,()),(v2,()),()),((v3.1,v3.2.1.1,v3.2.1.2,v3.2.2.1,v3.2.2.2.1,v3.2.2.2.2.1,v3.2.2.2.2.2.1,v3.2.2.2.2.2.2.1,v3.2.2.2.2.2.2.2.1,v3.2.2.2.2.2.2.2.2.1,v3.2.2.2.2.2.2.2.2.2.1,v3.2.2.2.2.2.2.2.2.2.2.1,v3.2.2.2.2.2.2.2.2.2.2.2,()),()),())
abbrev yYm (v0:List dM) (v1:Int) (v2:dA):(ykF).X:=((((),()),(v0,()),(v1,()),((),()),()),((v2.1,v2.2.1.1,v2.2.1.2,v2.2.2.1,v2.2.2.2.1,v2.2.2.2.2.1,v2.2.2.2.2.2.1,v2.2.2.2.2.2.2.1,v2.2.2.2.2.2.2.2.1,v2.2.2.2.2.2.2.2.2.1,v2.2.2.2.2.2.2.2.2.2.1,v2.2.2.2.2.2.2.2.2.2.2.1,v2.2.2.2.2.2.2.2.2.2.2.2,()),()),())
abbrev yYd (v0:dA):(ykq).X:=((((),()),()),((v0.1,v0.2.1.1,v0.2.1.2,v0.2.2.1,v0.2.2.2.1,v0.2.2.2.2.1,v0.2.2.2.2.2.1,v0.2.2.2.2.2.2.1,v0.2.2.2.2.2.2.2.1,v0.2.2.2.2.2.2.2.2.1,v0.2.2.2.2.2.2.2.2.2.1,v0.2.2.2.2.2.2.2.2.2.2.1,v0.2.2.2.2.2.2.2.2.2.2.2,()),()),())
abbrev yYA (v0:Bool):(yk4).X:=(((v0,()),()),(),())
def yxW (v0:List dM) (v1 v2 v3 v4 v5:Int) (v6:List dM) (v7 v8 v9 v10 v11:Int) (v12:List dW) (v13:Int) (v14 v15:Bool):Option ((ydS).X ⊕ ((ykq).X ⊕ (yk4).X)) :=
 bif (ltb v2 v1) then
 bif (inb v2 v0.length) then
 let r7:=yaa ((nth v0 v2 ([],[],false,[])).1,((nth v0 v2 ([],[],false,[])).2).1,(((nth v0 v2 ([],[],false,[])).2).2))
 bif (!(!r7)) then
 let r8:=yuv (v4,v5)
 bif (!((((nth v0 v2 ([],[],false,[])).1).length:Int) !=r8)) then
 bif (((nth v0 v2 ([],[],false,[])).2).2).1 then
 bif (v7 !=v2) then
 bif (!v15) then
 some (.inr (.inr (((false,()),()),(),())))
 else
 some (.inl ((((),()),(v0,()),(v1,()),((IntKind.i64.wrap (v2+1)),()),()),((v3,v4,v5,v6,v7,v8,v9,v10,v11,v12,v13,v14,v15,()),()),()))
 else
 some (.inl ((((),()),(v0,()),(v1,()),((IntKind.i64.wrap (v2+1)),()),()),((v3,v4,v5,v6,v7,v8,v9,v10,v11,v12,v13,v14,v15,()),()),()))
 else
 some (.inl ((((),()),(v0,()),(v1,()),((IntKind.i64.wrap (v2+1)),()),()),((v3,v4,v5,v6,v7,v8,v9,v10,v11,v12,v13,v14,v15,()),()),()))
 else
 some (.inr (.inr (((false,()),()),(),())))
 else
 some (.inr (.inr (((false,()),()),(),())))
 else none
 else
 some (.inr (.inl ((((),()),()),((v3,v4,v5,v6,v7,v8,v9,v10,v11,v12,v13,v14,v15,()),()),())))
def yeu (x:(ydS).X):=yxW x.1.2.1.1 x.1.2.2.1.1 x.1.2.2.2.1.1 x.2.1.1.1 x.2.1.1.2.1 x.2.1.1.2.2.1 x.2.1.1.2.2.2.1 x.2.1.1.2.2.2.2.1 x.2.1.1.2.2.2.2.2.1 x.2.1.1.2.2.2.2.2.2.1 x.2.1.1.2.2.2.2.2.2.2.1 x.2.1.1.2.2.2.2.2.2.2.2.1 x.2.1.1.2.2.2.2.2.2.2.2.2.1 x.2.1.1.2.2.2.2.2.2.2.2.2.2.1 x.2.1.1.2.2.2.2.2.2.2.2.2.2.2.1 x.2.1.1.2.2.2.2.2.2.2.2.2.2.2.2.1
def yHI (x:(ykF).X):(ydS).X:=((((),()),(x.1.2.1.1,()),(x.1.2.2.1.1,()),(0,()),()),((x.2.1.1.1,x.2.1.1.2.1,x.2.1.1.2.2.1,x.2.1.1.2.2.2.1,x.2.1.1.2.2.2.2.1,x.2.1.1.2.2.2.2.2.1,x.2.1.1.2.2.2.2.2.2.1,x.2.1.1.2.2.2.2.2.2.2.1,x.2.1.1.2.2.2.2.2.2.2.2.1,x.2.1.1.2.2.2.2.2.2.2.2.2.1,x.2.1.1.2.2.2.2.2.2.2.2.2.2.1,x.2.1.1.2.2.2.2.2.2.2.2.2.2.2.1,x.2.1.1.2.2.2.2.2.2.2.2.2.2.2.2.1,()),()),())
def yKc:Code:=(zdD ysq 64 116).getD .skip
theorem y0P:zdD ysq 64 29=some (.block 0 (.loop yKc)):=by kernel_rfl
theorem y4f (x:(ydS).X):zg0 ⟨yyx,103,yLU⟩ 0 yKc 116 ydS ykq yk4 x=yeu x:=by kernel_rfl
def yHY (x:(ykF).X):Nat:=18446744073709551616
def yyH (x:(ykF).X):Option ((ykq).X ⊕ (yk4).X):=zz yeu (yHY x) (yHI x)
def yIJ:Seg:=⟨ykF,ykq,yk4,yyH⟩
def yLV:Nat→Option Seg:=fun q=>bif Nat.beq q 29 then some yIJ else yLU q
theorem y1K:FrOk Tryz.prog ⟨yyx,103,yLV⟩ ysq:=(y1J).loop (sg:=yIJ) ydS yHI (by decide) y0P yeu yHY (by decide) (fun _=>rfl) (fun x r _ h=>h) y4f
abbrev ym0:List Par:= [.rd tA]
abbrev yyX:List OT:= [⟨false,tB,.fz⟩]
def yuE (a0:dA):Option (ResD yyX×MutD ym0) :=
 let r1:=ygq a0.2.1
 bif (!(!r1)) then
 bif (!((a0.2.2.1.length:Int) !=a0.2.1.1)) then
 let r2:=yg a0.1 1 60000
 bif (!(!r2)) then
 let r3:=yg9 a0.2.1 a0.2.2.2.1 a0.2.2.2.2.1
 bif (!(!r3)) then
 bnd (yuz a0) fun r4 =>
 bif (!r4.1.1) then
 some ((false,()),())
 else
 zjY (yyH ((((),()),(a0.2.2.1,()),((a0.2.2.1.length:Int),()),((),()),()),((a0.1,a0.2.1.1,a0.2.1.2,a0.2.2.1,a0.2.2.2.1,a0.2.2.2.2.1,a0.2.2.2.2.2.1,a0.2.2.2.2.2.2.1,a0.2.2.2.2.2.2.2.1,a0.2.2.2.2.2.2.2.2.1,a0.2.2.2.2.2.2.2.2.2.1,a0.2.2.2.2.2.2.2.2.2.2.1,a0.2.2.2.2.2.2.2.2.2.2.2,()),()),())) (fun y8 =>
 let r10:=yg y8.2.1.1.2.2.2.2.2.2.1 0 60000
 bif r10 then
 let r11:=yg y8.2.1.1.2.2.2.2.2.2.2.1 0 60000
 bif r11 then
 let r12:=yg y8.2.1.1.2.2.2.2.2.2.2.2.1 0 60000
 bif r12 then
 let r13:=yg (IntKind.i64.wrap (y8.2.1.1.2.2.2.2.2.2.1 - y8.2.1.1.2.2.2.2.2.2.2.1)) 0 4
 bif r13 then
 let r14:=yg y8.2.1.1.2.2.2.2.2.2.2.2.2.2.1 (-1) 1000
 some ((r14,()),())
 else
 some ((false,()),())
 else
 some ((false,()),())
 else
 some ((false,()),())
 else
 some ((false,()),())) (fun y8 =>
 some ((y8.1.1.1,()),()))
 else
 some ((false,()),())
 else
 some ((false,()),())
 else
 some ((false,()),())
 else
 some ((false,()),())
theorem y9k (x:InD ym0):zjw ⟨yyx,103,yLV⟩ Tryz.f45.results.toList ysq ym0 yyX x=yuE x.1:=by kernel_rfl
theorem y6e:ConOk Tryz.prog 45 ⟨ym0,yyX,fun x=>yuE x.1⟩:=zj1 (y1K) Tryz.func45 (by kernel_rfl) (by kernel_rfl) Tryz.ntmps45.symm (by decide) (fun x r h=>(y9k x).trans h)
theorem yack {S T G F z TS le:Bool} (h1:T=true→TS=true→S=true) (h2:S=true→T=true→z=(TS&&le)) :
  (bif S then bif T then bif G then bif z then some ((F,()),()) else some ((false,()),()) else some ((false,()),()) else some ((false,()),()) else some ((false,()),()))=some (((T&&(TS&&(le&&(G&&F)))),()),()):=by
 cases S
 ·cases T
  ·rfl
  ·cases TS
   ·rfl
   ·exact absurd (h1 rfl rfl) Bool.false_ne_true
 ·cases T
  ·cases G<;>rfl
  ·rw [h2 rfl rfl]
   cases TS<;>cases le<;>cases G<;>rfl
def ybI (a0:dA):Bool:=yE a0
theorem y8x (a0:dA) (hk:zi1 ym0 (a0,())):yuE a0=(fun n=>some ((n,()),())) (ybI a0):=by
 have hb:a0.2.2.1.length * 80≤2 ^ 47:=hk.1.2.2.1.1
 unfold yuE ybI yE
 simp only [y2w,yah,ybr]
 cases hg:yf a0.2.1
 ·rfl
 have hg2:=yk.1 hg
 have h1:yyH (yYm a0.2.2.1 a0.2.2.1.length a0)=some (bif (List.range a0.2.2.1.length).any (yjf a0) then .inr (yYA false) else .inl (yYd a0)) :=
  ziN (step:=yeu) (fun i=>yxu a0.2.2.1 a0.2.2.1.length i a0) a0.2.2.1.length (yjf a0) _ _ (fun i hi=>by
   simp only [yeu,yxu,yxW,zj4 (show (i:Int) < a0.2.2.1.length by omega),cond_true,wr (show -9223372036854775808≤(i:Int)+1 by omega) (by omega),Int.natCast_add,Int.natCast_one,Int.toNat_natCast,zkl hi,zkr,yaa,yjf,yuv,wr (show -9223372036854775808≤6+a0.2.1.2 by omega) (by omega),noMem]
   rw [show (a0.2.2.2.1 !=(i:Int))=((i:Int) !=a0.2.2.2.1) from bne_comm]
   cases yu (nth a0.2.2.1 i ([],[],false,[]))<;>cases (((nth a0.2.2.1 i ([],[],false,[])).1.length:Int) !=6+a0.2.1.2)<;>cases (nth a0.2.2.1 i ([],[],false,[])).2.2.1<;>cases ((i:Int) !=a0.2.2.2.1)<;>cases a0.2.2.2.2.2.2.2.2.2.2.2<;>rfl) (by simp only [yeu,yxu,yxW,zkx (Int.le_refl _),cond_false]) _ (by show _ < 18446744073709551616; omega)
 rw [y4a a0 hg,h1]
 simp only [zkc,ynQ,yg9,yah,ybr,wr (show -9223372036854775808≤a0.2.1.1 - 1 by omega) (by omega),yp4]
 have hw:(leb 0 a0.2.2.2.2.2.1&&leb a0.2.2.2.2.2.1 60000)=true→(leb 0 a0.2.2.2.2.2.2.1&&leb a0.2.2.2.2.2.2.1 60000)=true→IntKind.i64.wrap (a0.2.2.2.2.2.1 - a0.2.2.2.2.2.2.1)=a0.2.2.2.2.2.1 - a0.2.2.2.2.2.2.1:=fun h h'=>by
  rw [Bool.and_eq_true,zjD,zjD]at h h'
  exact wr (by omega) (by omega)
 simp only [bne,Bool.not_not,cond_true,Bool.true_and]
 have h2:(leb 0 a0.2.2.2.2.2.1&&leb a0.2.2.2.2.2.1 60000)=true→(leb 0 a0.2.2.2.2.2.2.1&&leb a0.2.2.2.2.2.2.1 60000)=true→(leb 0 (IntKind.i64.wrap (a0.2.2.2.2.2.1 - a0.2.2.2.2.2.2.1))&&leb (IntKind.i64.wrap (a0.2.2.2.2.2.1 - a0.2.2.2.2.2.2.1)) 4)=((leb a0.2.2.2.2.2.2.1 a0.2.2.2.2.2.1&&leb a0.2.2.2.2.2.1 60000)&&leb a0.2.2.2.2.2.1 (a0.2.2.2.2.2.2.1+4)):=fun h h'=>by
  rw [hw h h',Bool.eq_iff_iff]
  simp only [Bool.and_eq_true,zjD]at h h' ⊢
  omega
 have h3:(leb 0 a0.2.2.2.2.2.2.1&&leb a0.2.2.2.2.2.2.1 60000)=true→(leb a0.2.2.2.2.2.2.1 a0.2.2.2.2.2.1&&leb a0.2.2.2.2.2.1 60000)=true→(leb 0 a0.2.2.2.2.2.1&&leb a0.2.2.2.2.2.1 60000)=true:=fun h h'=>by
  simp only [Bool.and_eq_true,zjD]at h h' ⊢
  omega
 cases ((a0.2.2.1.length:Int)==a0.2.1.1)
 ·cases (leb 1 a0.1&&leb a0.1 60000)<;>cases (List.range a0.2.2.1.length).any (yjf a0)<;>rfl
 cases (leb 1 a0.1&&leb a0.1 60000)
 ·rfl
 cases (leb (-1) a0.2.2.2.1&&leb a0.2.2.2.1 (a0.2.1.1 - 1))
 ·cases (List.range a0.2.2.1.length).any (yjf a0)<;>cases yaA a0.2.1 a0.2.2.2.2.2.2.2.2.1<;>rfl
 cases (leb 0 a0.2.2.2.2.1&&leb a0.2.2.2.2.1 a0.2.1.2)
 ·cases (List.range a0.2.2.1.length).any (yjf a0)<;>cases yaA a0.2.1 a0.2.2.2.2.2.2.2.2.1<;>rfl
 cases yaA a0.2.1 a0.2.2.2.2.2.2.2.2.1
 ·cases (List.range a0.2.2.1.length).any (yjf a0)<;>cases (a0.2.2.2.1== -1)<;>cases (a0.2.2.2.2.1==0)<;>rfl
 cases (List.range a0.2.2.1.length).any (yjf a0)
 ·cases (a0.2.2.2.1== -1)<;>cases (a0.2.2.2.2.1==0)
  case true.false=>rfl
  all_goals exact yack h3 h2
 ·cases (a0.2.2.2.1== -1)<;>cases (a0.2.2.2.2.1==0)<;>rfl
def yur:Con:=⟨ym0,yyX,fun x=>(fun n=>some ((n,()),())) (ybI x.1)⟩
theorem yEt:ConOk Tryz.prog 45 yur:=(y6e).mono (fun x r hk h=>(y8x x.1 hk).trans h)
end
section
def yJb:Code:=(Tryz.f200.body).getD .skip
def yJW:Env:=zj2 TT [] []
theorem yRK:FrOk Tryz.prog ⟨yJW,6,fun _=>none⟩ yJb:=zj6 yc yd trivial
def yTx:Nat→Option Seg:=fun _=>none
abbrev ygE:List Par:= [.rd tL]
abbrev yrp:List OT:= [⟨false,tL,(.ow .fz)⟩]
def ymv (a0:List Int):Option (ResD yrp×MutD ygE) :=
 bif (zjQ ([]:List Int).length a0.length 8) then
 some (((([]:List Int)++a0),()),())
 else none
theorem y1l (x:InD ygE):zjw ⟨yJW,6,yTx⟩ Tryz.f200.results.toList yJb ygE yrp x=ymv x.1:=by kernel_rfl
theorem yVw:ConOk Tryz.prog 200 ⟨ygE,yrp,fun x=>ymv x.1⟩:=zj1 (yRK) Tryz.func200 (by kernel_rfl) (by kernel_rfl) Tryz.ntmps200.symm (by decide) (fun x r h=>(y1l x).trans h)
def yo (a0:List Int):List Int:=a0
theorem yYS (a0:List Int) (hk:zi1 ygE (a0,())):ymv a0=(fun n=>some ((n,()),())) (yo a0):=by
 have hb:a0.length * 8≤2 ^ 47:=hk.1.1
 unfold ymv yo
 rw [show zjQ ([]:List Int).length a0.length 8=true by rw [zka,List.length_nil]; omega]
 rfl
def yaX:Con:=⟨ygE,yrp,fun x=>(fun n=>some ((n,()),())) (yo x.1)⟩
theorem ydd:ConOk Tryz.prog 200 yaX:=(yVw).mono (fun x r hk h=>(yYS x.1 hk).trans h)
end
section
def yfV:Code:=(Tryz.f275.body).getD .skip
def yke:Env:=zj2 TT [] []
theorem yMS:FrOk Tryz.prog ⟨yke,19,fun _=>none⟩ yfV:=zj6 yc yd trivial
def yyq:Nat→Option Seg:=fun _=>none
def yas:Shape:=⟨[(0,false,[.br tI]),(1,false,[.int .i64]),(7,false,[.int .i64]),(8,false,[.int .i64])],[],[]⟩
def ydp:Shape:=⟨[(0,false,[.br tI]),(1,false,[.int .i64]),(7,false,[.int .i64]),(8,false,[.ci .i64 0])],[],[]⟩
def ydn:Shape:=⟨[],[],[]⟩
def ydr:Shape:=⟨[(4,false,[.int .i64])],[],[]⟩
abbrev ylN (v0:List Int) (v1 v2 v3:Int):(yas).X:=(((v0,()),(v1,()),(v2,()),(v3,()),()),(),())
abbrev yLx (v0:List Int) (v1 v2:Int):(ydp).X:=(((v0,()),(v1,()),(v2,()),((),()),()),(),())
abbrev yLv  :(ydn).X:=((),(),())
abbrev yv0 (v0:Int):(ydr).X:=(((v0,()),()),(),())
def ylT (v0:List Int) (v1 v2 v3:Int):Option ((yas).X ⊕ ((ydn).X ⊕ (ydr).X)) :=
 bif (ltb v3 v2) then
 bif (inb v3 v0.length) then
 bif (v1==(nth v0 v3 0)) then
 some (.inr (.inr (((v3,()),()),(),())))
 else
 some (.inl (((v0,()),(v1,()),(v2,()),((IntKind.i64.wrap (v3+1)),()),()),(),()))
 else none
 else
 some (.inr (.inl ((),(),())))
def yaC (x:(yas).X):=ylT x.1.1.1 x.1.2.1.1 x.1.2.2.1.1 x.1.2.2.2.1.1
def yvV (x:(ydp).X):(yas).X:=(((x.1.1.1,()),(x.1.2.1.1,()),(x.1.2.2.1.1,()),(0,()),()),(),())
def yyc:Code:=(zdD yfV 64 52).getD .skip
theorem yMB:zdD yfV 64 13=some (.block 0 (.loop yyc)):=by kernel_rfl
theorem yNl (x:(yas).X):zg0 ⟨yke,19,yyq⟩ 0 yyc 52 yas ydn ydr x=yaC x:=by kernel_rfl
def yvX (x:(ydp).X):Nat:=18446744073709551616
def ymY (x:(ydp).X):Option ((ydn).X ⊕ (ydr).X):=zz yaC (yvX x) (yvV x)
def yv2:Seg:=⟨ydp,ydn,ydr,ymY⟩
def yyr:Nat→Option Seg:=fun q=>bif Nat.beq q 13 then some yv2 else yyq q
theorem yMT:FrOk Tryz.prog ⟨yke,19,yyr⟩ yfV:=(yMS).loop (sg:=yv2) yas yvV (by decide) yMB yaC yvX (by decide) (fun _=>rfl) (fun x r _ h=>h) yNl
abbrev ydk:List Par:= [.rd tL,.rd tI]
abbrev ykX:List OT:= [⟨false,tI,.fz⟩]
def yh3 (a0:List Int) (a1:Int):Option (ResD ykX×MutD ydk) :=
 zjY (ymY (((a0,()),(a1,()),((a0.length:Int),()),((),()),()),(),())) (fun y0 =>
 some (((-1),()),())) (fun y0 =>
 some ((y0.1.1.1,()),()))
theorem yRp (x:InD ydk):zjw ⟨yke,19,yyr⟩ Tryz.f275.results.toList yfV ydk ykX x=yh3 x.1 x.2.1:=by kernel_rfl
theorem yN0:ConOk Tryz.prog 275 ⟨ydk,ykX,fun x=>yh3 x.1 x.2.1⟩:=zj1 (yMT) Tryz.func275 (by kernel_rfl) (by kernel_rfl) Tryz.ntmps275.symm (by decide) (fun x r h=>(yRp x).trans h)
def y5B (l:List Int) (x:Int):Int:=bif l.any (· ==x) then ((l.takeWhile (· !=x)).length:Int) else -1
def ygr (a0:List Int) (a1:Int):Int:=y5B a0 a1
theorem yaa1 {A B α:Type} {step:A→Option (A ⊕ B)} (l:List α) (d:α) (f:Nat→A) (p:α→Bool) (b:Nat→B) (c:B)
  (h: ∀ i,i < l.length→step (f i)=some (bif p (l.getD i d) then .inr (b i) else .inl (f (i+1)))) (e:step (f l.length)=some (.inr c)) (fuel:Nat) (hf:l.length < fuel) :
  zz step fuel (f 0)=some (bif l.any p then b (l.takeWhile (fun x=> !p x)).length else c):=by
 have: ∀ (t q:List α) (fuel:Nat),q++t=l→t.length < fuel→zz step fuel (f q.length)=some (bif t.any p then b (q.length+(t.takeWhile (fun x=> !p x)).length) else c):=by
  intro t
  induction t with
  | nil =>
   intro q fuel hq hf
   obtain ⟨fuel,rfl⟩: ∃ m,fuel=m+1:=⟨fuel - 1,by omega⟩
   rw [List.append_nil]at hq
   subst hq
   simp only [zz,e,List.any_nil,cond_false]
  | cons x t ih =>
   intro q fuel hq hf
   obtain ⟨fuel,rfl⟩: ∃ m,fuel=m+1:=⟨fuel - 1,by omega⟩
   have hx:l.getD q.length d=x:=by
    subst hq
    rw [zkd (by simp)]; simp
   have hs:=h q.length (by rw [← hq]; simp)
   rw [hx]at hs
   cases hp:p x
   ·rw [hp]at hs
    have:=ih (q++ [x]) fuel (by rw [← hq]; simp) (by simp at hf; omega)
    simp only [List.length_append,List.length_cons,List.length_nil]at this
    simp only [zz,hs,cond_false]
    simp only [List.any_cons,hp,Bool.false_or,List.takeWhile_cons,Bool.not_false,if_true,List.length_cons]
    rw [show q.length+((t.takeWhile (fun x=> !p x)).length+1)=q.length+(0+1)+(t.takeWhile (fun x=> !p x)).length by omega]
    exact this
   ·rw [hp]at hs
    simp only [zz,hs,cond_true,List.any_cons,hp,Bool.true_or,List.takeWhile_cons,Bool.not_true,Bool.false_eq_true,if_false,List.length_nil,Nat.add_zero]
 have:=this l [] fuel rfl hf
 simpa using this
theorem yQf (a0:List Int) (a1:Int) (hk:zi1 ydk (a0,a1,())):yh3 a0 a1=(fun n=>some ((n,()),())) (ygr a0 a1):=by
 have hb:a0.length * 8≤2 ^ 47:=hk.1.1
 have h1:ymY (yLx a0 a1 a0.length)=some (bif a0.any (· ==a1) then .inr (yv0 ((a0.takeWhile (fun x=> !(x==a1))).length:Int)) else .inl yLv) :=
  yaa1 (step:=yaC) a0 0 (fun i=>ylN a0 a1 a0.length i) (· ==a1) (fun i=> .inr (yv0 (i:Int))) _ (fun i hi=>by
   simp only [yaC,ylN,ylT,zj4 (show (i:Int) < a0.length by omega),cond_true,wr (show -9223372036854775808≤(i:Int)+1 by omega) (by omega),Int.natCast_add,Int.natCast_one,Int.toNat_natCast,zkl hi,zkm]
   rw [show (a1==a0.getD i 0)=(a0.getD i 0==a1) by rw [Bool.eq_iff_iff,beq_iff_eq,beq_iff_eq]; exact eq_comm]
   cases (a0.getD i 0==a1)<;>rfl) (by simp only [yaC,ylN,ylT,zkx (Int.le_refl _),cond_false]) _ (by show _ < 18446744073709551616; omega)
 unfold yh3 ygr y5B
 rw [h1]
 cases a0.any (· ==a1)<;>rfl
def yzr:Con:=⟨ydk,ykX,fun x=>(fun n=>some ((n,()),())) (ygr x.1 x.2.1)⟩
theorem yQn:ConOk Tryz.prog 275 yzr:=(yN0).mono (fun x r hk h=>(yQf x.1 x.2.1 hk).trans h)
end
section
def yya:Code:=(Tryz.f236.body).getD .skip
def yyb:Env:=zj2 TT [(275,yzr)] []
theorem yHX:FrOk Tryz.prog ⟨yyb,9,fun _=>none⟩ yya:=zj6 yc yd ⟨yQn,trivial⟩
def yI1:Nat→Option Seg:=fun _=>none
abbrev ybe:List Par:= [.rd tL,.rd tI]
abbrev ygS:List OT:= [⟨false,tB,.fz⟩]
def yeT (a0:List Int) (a1:Int):Option (ResD ygS×MutD ybe) :=
 let r1:=ygr a0 a1
 some (((leb 0 r1),()),())
theorem yMQ (x:InD ybe):zjw ⟨yyb,9,yI1⟩ Tryz.f236.results.toList yya ybe ygS x=yeT x.1 x.2.1:=by kernel_rfl
theorem yI4:ConOk Tryz.prog 236 ⟨ybe,ygS,fun x=>yeT x.1 x.2.1⟩:=zj1 (yHX) Tryz.func236 (by kernel_rfl) (by kernel_rfl) Tryz.ntmps236.symm (by decide) (fun x r h=>(yMQ x).trans h)
def ydv (a0:List Int) (a1:Int):Bool:=a0.any (· ==a1)
theorem yLz (a0:List Int) (a1:Int) (hk:zi1 ybe (a0,a1,())):yeT a0 a1=(fun n=>some ((n,()),())) (ydv a0 a1):=by
 unfold yeT ydv ygr y5B
 cases a0.any (· ==a1)
 ·rfl
 ·simp only [cond_true]
  rw [zkw (show (0:Int)≤((a0.takeWhile (· !=a1)).length:Int) by omega)]
def yuS:Con:=⟨ybe,ygS,fun x=>(fun n=>some ((n,()),())) (ydv x.1 x.2.1)⟩
theorem yLA:ConOk Tryz.prog 236 yuS:=(yI4).mono (fun x r hk h=>(yLz x.1 x.2.1 hk).trans h)
end
section
def ymN:Code:=(Tryz.f156.body).getD .skip
def ytR:Env:=zj2 TT [(133,yfA),(200,yaX),(220,yrR),(236,yuS)] []
theorem yUb:FrOk Tryz.prog ⟨ytR,49,fun _=>none⟩ ymN:=zj6 yc yd ⟨yj0,ydd,yCa,yLA,trivial⟩
def yGI:Nat→Option Seg:=fun _=>none
def yb8:Shape:=⟨[(1,false,[.int .i64]),(6,false,[.br tI]),(34,false,[.br tW]),(35,false,[.int .i64]),(36,false,[.int .i64])],[],[]⟩
def yhz:Shape:=⟨[(1,false,[.int .i64]),(6,false,[.br tI]),(34,false,[.br tW]),(35,false,[.int .i64]),(36,false,[.ci .i64 0])],[],[]⟩
def yhk:Shape:=⟨[(6,false,[.br tI])],[],[]⟩
def yl4:Shape:=⟨[],[],[]⟩
abbrev ytc (v0:Int) (v1:List Int) (v2:List dW) (v3 v4:Int):(yb8).X:=(((v0,()),(v1,()),(v2,()),(v3,()),(v4,()),()),(),())
abbrev ySp (v0:Int) (v1:List Int) (v2:List dW) (v3:Int):(yhz).X:=(((v0,()),(v1,()),(v2,()),(v3,()),((),()),()),(),())
abbrev yDT (v0:List Int):(yhk).X:=(((v0,()),()),(),())
def ytz (v0:Int) (v1:List Int) (v2:List dW) (v3 v4:Int):Option ((yb8).X ⊕ ((yhk).X ⊕ (yl4).X)) :=
 bif (ltb v4 v3) then
 bif (inb v4 v2.length) then
 bif ((nth v2 v4 (0,[])).1==v0) then
 some (.inl (((v0,()),((nth v2 v4 (0,[])).2,()),(v2,()),(v3,()),((IntKind.i64.wrap (v4+1)),()),()),(),()))
 else
 some (.inl (((v0,()),(v1,()),(v2,()),(v3,()),((IntKind.i64.wrap (v4+1)),()),()),(),()))
 else none
 else
 some (.inr (.inl (((v1,()),()),(),())))
def ycx (x:(yb8).X):=ytz x.1.1.1 x.1.2.1.1 x.1.2.2.1.1 x.1.2.2.2.1.1 x.1.2.2.2.2.1.1
def yDj (x:(yhz).X):(yb8).X:=(((x.1.1.1,()),(x.1.2.1.1,()),(x.1.2.2.1.1,()),(x.1.2.2.2.1.1,()),(0,()),()),(),())
def yFb:Code:=(zdD ymN 64 244).getD .skip
theorem yTM:zdD ymN 64 61=some (.block 0 (.loop yFb)):=by kernel_rfl
theorem yV1 (x:(yb8).X):zg0 ⟨ytR,49,yGI⟩ 0 yFb 244 yb8 yhk yl4 x=ycx x:=by kernel_rfl
def yDB (x:(yhz).X):Nat:=18446744073709551616
def yuV (x:(yhz).X):Option ((yhk).X ⊕ (yl4).X):=zz ycx (yDB x) (yDj x)
def yD4:Seg:=⟨yhz,yhk,yl4,yuV⟩
def yGJ:Nat→Option Seg:=fun q=>bif Nat.beq q 61 then some yD4 else yGI q
theorem yUc:FrOk Tryz.prog ⟨ytR,49,yGJ⟩ ymN:=(yUb).loop (sg:=yD4) yb8 yDj (by decide) yTM ycx yDB (by decide) (fun _=>rfl) (fun x r _ h=>h) yV1
abbrev yia:List Par:= [.rd tM,.rd tI]
abbrev yt3:List OT:= [⟨false,tL,(.ow .fz)⟩,⟨false,tB,.fz⟩]
def yoX (a0:dM) (a1:Int):Option (ResD yt3×MutD yia) :=
 let r1:=yaa a0
 bif (!(!r1)) then
 bif (!a0.2.2.1) then
 let r2:=ybM a0 a1
 bif (!(!r2)) then
 let r3:=ydv a0.2.2.2 a1
 bif r3 then
 some (([],false,()),())
 else
 bif (inb a1 a0.1.length) then
 zjY (yuV (((a1,()),((nth a0.1 a1 []),()),(a0.2.1,()),((a0.2.1.length:Int),()),((),()),()),(),())) (fun y3 =>
 let r5:=yo y3.1.1.1
 some ((r5,true,()),())) (fun y3 =>
 none)
 else none
 else
 some (([],false,()),())
 else
 some (([],false,()),())
 else
 some (([],false,()),())
theorem y4W (x:InD yia):zjw ⟨ytR,49,yGJ⟩ Tryz.f156.results.toList ymN yia yt3 x=yoX x.1 x.2.1:=by kernel_rfl
theorem yZc:ConOk Tryz.prog 156 ⟨yia,yt3,fun x=>yoX x.1 x.2.1⟩:=zj1 (yUc) Tryz.func156 (by kernel_rfl) (by kernel_rfl) Tryz.ntmps156.symm (by decide) (fun x r h=>(y4W x).trans h)
def yfD (a0:dM) (a1:Int):List Int×Bool:=yr a0 a1
theorem y2M (a0:dM) (a1:Int) (hk:zi1 yia (a0,a1,())):yoX a0 a1=(fun n=>some ((n.1,n.2,()),())) (yfD a0 a1):=by
 have hb1:a0.1.length * 24≤2 ^ 47:=hk.1.1.1
 have hb2:a0.2.1.length * 32≤2 ^ 47:=hk.1.2.1.1
 have h1: ∀ s,yuV (ySp a1 s a0.2.1 a0.2.1.length)=some (.inl (yDT (yM3 a1 a0.2.1 s))):=fun s =>
  zj3 (step:=ycx) a0.2.1 (0,[]) (fun i s=>ytc a1 s a0.2.1 a0.2.1.length i) (fun s w=>bif w.1==a1 then w.2 else s) (fun _ _=>True) (fun s=> .inl (yDT s)) (fun i s hi _=>⟨by
   simp only [ycx,ytc,ytz,zj4 (show (i:Int) < a0.2.1.length by omega),cond_true,wr (show -9223372036854775808≤(i:Int)+1 by omega) (by omega),Int.natCast_add,Int.natCast_one,Int.toNat_natCast,zkl hi,zkm]
   cases ((a0.2.1.getD i (0,[])).1==a1)<;>rfl,trivial⟩) (fun s _=>by simp only [ycx,ytc,ytz,zkx (Int.le_refl _),cond_false]) s trivial _ (by show _ < 18446744073709551616; omega)
 unfold yoX yfD yr yGy ybM
 rw [yah,yvZ (show a0.1.length≤1152921504606846976 by omega)]
 unfold yaa ydv yo
 simp only [h1,zkh]
 cases yu a0
 ·rfl
 cases a0.2.2.1
 ·cases inb a1 a0.1.length
  ·rfl
  ·cases a0.2.2.2.any (· ==a1)<;>rfl
 ·rfl
def yxk:Con:=⟨yia,yt3,fun x=>(fun n=>some ((n.1,n.2,()),())) (yfD x.1 x.2.1)⟩
theorem yK6:ConOk Tryz.prog 156 yxk:=(yZc).mono (fun x r hk h=>(y2M x.1 x.2.1 hk).trans h)
end
section
def yLE:Code:=(Tryz.f218.body).getD .skip
def yMl:Env:=zj2 TT [(122,yus),(126,yF),(131,yzq)] []
theorem yUe:FrOk Tryz.prog ⟨yMl,44,fun _=>none⟩ yLE:=zj6 yc yd ⟨yEu,yS,yM9,trivial⟩
def yWy:Nat→Option Seg:=fun _=>none
abbrev ym2:List Par:= [.rd tS]
abbrev yt5:List OT:= [⟨false,tB,.fz⟩]
def yxO (a0:dS):Option (ResD yt5×MutD ym2) :=
 let r1:=yg a0.1 1 60000
 bif r1 then
 let r2:=yg a0.2.1 0 60000
 bif r2 then
 let r3:=yg a0.2.2.2.2.2.1 0 60000
 bif r3 then
 let r4:=ygq (a0.2.2.2.1,a0.2.2.2.2.1)
 bif r4 then
 let r5:=yg a0.2.2.1 0 (IntKind.i64.wrap (a0.2.2.2.1 - 1))
 bif r5 then
 let r6:=yg9 (a0.2.2.2.1,a0.2.2.2.2.1) a0.2.2.2.2.2.2.1 a0.2.2.2.2.2.2.2
 some ((r6,()),())
 else
 some ((false,()),())
 else
 some ((false,()),())
 else
 some ((false,()),())
 else
 some ((false,()),())
 else
 some ((false,()),())
theorem y4Y (x:InD ym2):zjw ⟨yMl,44,yWy⟩ Tryz.f218.results.toList yLE ym2 yt5 x=yxO x.1:=by kernel_rfl
theorem yZe:ConOk Tryz.prog 218 ⟨ym2,yt5,fun x=>yxO x.1⟩:=zj1 (yUe) Tryz.func218 (by kernel_rfl) (by kernel_rfl) Tryz.ntmps218.symm (by decide) (fun x r h=>(y4Y x).trans h)
def yfE (a0:dS):Bool :=
 let r1:=yg a0.1 1 60000
 bif r1 then
 let r2:=yg a0.2.1 0 60000
 bif r2 then
 let r3:=yg a0.2.2.2.2.2.1 0 60000
 bif r3 then
 let r4:=ygq (a0.2.2.2.1,a0.2.2.2.2.1)
 bif r4 then
 let r5:=yg a0.2.2.1 0 (IntKind.i64.wrap (a0.2.2.2.1 - 1))
 bif r5 then
 let r6:=yg9 (a0.2.2.2.1,a0.2.2.2.2.1) a0.2.2.2.2.2.2.1 a0.2.2.2.2.2.2.2
 r6
 else
 false
 else
 false
 else
 false
 else
 false
 else
 false
def yxl:Con:=⟨ym2,yt5,fun x=>(fun n=>some ((n,()),())) (yfE x.1)⟩
theorem y2O (a0:dS):yxO a0=(fun n=>some ((n,()),())) (yfE a0):=zkp (p:=fun (n:Bool)=>((n,()),())) (zkb (p:=fun (n:Bool)=>((n,()),())) (zkb (p:=fun (n:Bool)=>((n,()),())) (zkb (p:=fun (n:Bool)=>((n,()),())) (zkb (p:=fun (n:Bool)=>((n,()),())) (zkb (p:=fun (n:Bool)=>((n,()),())) rfl rfl) rfl) rfl) rfl) rfl)
theorem yK7:ConOk Tryz.prog 218 yxl:=(yZe).mono (fun x r _ h=>(y2O x.1).trans h)
theorem yPn (s:dS):yfE s=yC s:=by
 rw [Bool.eq_iff_iff,yaaz]
 unfold yfE yg9
 simp only [y2w,yah]
 cases hg:yf (s.2.2.2.1,s.2.2.2.2.1)
 ·cases ya s.1 1 60000<;>cases ya s.2.1 0 60000<;>cases ya s.2.2.2.2.2.1 0 60000<;>simp
 have hg2:=yk.1 hg
 simp only at hg2
 rw [wr (show -9223372036854775808≤s.2.2.2.1 - 1 by omega) (by omega)]
 simp only [← yzY]
 cases ya s.1 1 60000
 ·simp
 cases ya s.2.1 0 60000
 ·simp
 cases ya s.2.2.2.2.2.1 0 60000
 ·simp
 cases ya s.2.2.1 0 (s.2.2.2.1 - 1)
 ·simp
 cases hl:ya s.2.2.2.2.2.2.1 (-1) (s.2.2.2.1 - 1)
 ·simp
 cases ya s.2.2.2.2.2.2.2 0 s.2.2.2.2.1
 ·simp
 have:=yzY.1 hl
 by_cases h0:s.2.2.2.2.2.2.2=0
 ·simp [h0]
 ·simp [h0]; omega
end
section
def yI6:Code:=(Tryz.f270.body).getD .skip
def yJR:Env:=zj2 TT [(218,yxl)] []
theorem yRF:FrOk Tryz.prog ⟨yJR,46,fun _=>none⟩ yI6:=zj6 yc yd ⟨yK7,trivial⟩
def yTs:Nat→Option Seg:=fun _=>none
abbrev ygA:List Par:= [.rd tL]
abbrev yrk:List OT:= [⟨false,tS,(.pr .fz (.pr .fz (.pr .fz (.pr .fz (.pr .fz (.pr .fz (.pr .fz .fz)))))))⟩,⟨false,tB,.fz⟩]
def ymr (a0:List Int):Option (ResD yrk×MutD ygA) :=
 bif (!((a0.length:Int) !=9)) then
 bif (inb 0 a0.length) then
 bif ((nth a0 0 0) !=21317) then
 some (((0,0,0,0,0,0,0,0),false,()),())
 else
 bif (inb 1 a0.length) then
 bif (inb 2 a0.length) then
 bif (inb 3 a0.length) then
 bif (inb 4 a0.length) then
 bif (inb 5 a0.length) then
 bif (inb 6 a0.length) then
 bif (inb 7 a0.length) then
 bif (inb 8 a0.length) then
 let r1:=yfE ((nth a0 1 0),(nth a0 2 0),(nth a0 3 0),(nth a0 4 0),(nth a0 5 0),(nth a0 6 0),(IntKind.i64.wrap ((nth a0 7 0) - 1)),(nth a0 8 0))
 bif (!r1) then
 some (((0,0,0,0,0,0,0,0),false,()),())
 else
 some ((((nth a0 1 0),(nth a0 2 0),(nth a0 3 0),(nth a0 4 0),(nth a0 5 0),(nth a0 6 0),(IntKind.i64.wrap ((nth a0 7 0) - 1)),(nth a0 8 0)),true,()),())
 else none
 else none
 else none
 else none
 else none
 else none
 else none
 else none
 else none
 else
 some (((0,0,0,0,0,0,0,0),false,()),())
theorem y1g (x:InD ygA):zjw ⟨yJR,46,yTs⟩ Tryz.f270.results.toList yI6 ygA yrk x=ymr x.1:=by kernel_rfl
theorem yVr:ConOk Tryz.prog 270 ⟨ygA,yrk,fun x=>ymr x.1⟩:=zj1 (yRF) Tryz.func270 (by kernel_rfl) (by kernel_rfl) Tryz.ntmps270.symm (by decide) (fun x r h=>(y1g x).trans h)
def yls (a0:List Int):dS×Bool:=yee a0
theorem yYN (a0:List Int) (hk:zi1 ygA (a0,())):ymr a0=(fun n=>some ((n.1,n.2,()),())) (yls a0):=by
 unfold ymr yls yee
 by_cases h:(a0.length:Int)=9
 ·simp only [bne,h,yPn,beq_self_eq_true,zjC.2 (show (0:Int)≤0∧(0:Int) < a0.length by omega),zjC.2 (show (0:Int)≤1∧(1:Int) < a0.length by omega),zjC.2 (show (0:Int)≤2∧(2:Int) < a0.length by omega),zjC.2 (show (0:Int)≤3∧(3:Int) < a0.length by omega),zjC.2 (show (0:Int)≤4∧(4:Int) < a0.length by omega),zjC.2 (show (0:Int)≤5∧(5:Int) < a0.length by omega),zjC.2 (show (0:Int)≤6∧(6:Int) < a0.length by omega),zjC.2 (show (0:Int)≤7∧(7:Int) < a0.length by omega),zjC.2 (show (0:Int)≤8∧(8:Int) < a0.length by omega)]
  rw [show yC (nth a0 1 0,nth a0 2 0,nth a0 3 0,nth a0 4 0,nth a0 5 0,nth a0 6 0,IntKind.i64.wrap (nth a0 7 0 - 1),nth a0 8 0)=yC (yGz a0) from rfl]
  cases (nth a0 0 0==21317)<;>cases yC (yGz a0)<;>rfl
 ·rw [show ((a0.length:Int) !=9)=true from bne_iff_ne.2 h,show ((a0.length:Int)==9)=false from beq_eq_false_iff_ne.2 h]; rfl
def yFt:Con:=⟨ygA,yrk,fun x=>(fun n=>some ((n.1,n.2,()),())) (yls x.1)⟩
theorem yZI:ConOk Tryz.prog 270 yFt:=(yVr).mono (fun x r hk h=>(yYN x.1 hk).trans h)
end
section
def yiw:Code:=(Tryz.f227.body).getD .skip
def yof:Env:=zj2 TT [(156,yxk),(270,yFt)] []
theorem yPR:FrOk Tryz.prog ⟨yof,60,fun _=>none⟩ yiw:=zj6 yc yd ⟨yK6,yZI,trivial⟩
def yCL:Nat→Option Seg:=fun _=>none
def ya1:Shape:=⟨[(1,false,[.int .i64]),(2,false,[.ptr 0 0]),(4,false,[.ptr 64 0]),(6,false,[.ptr 4160 0]),(7,false,[.bool]),(14,false,[.int .i64])],[(0,[.br tL,.br tW,.bool,.br tI]),(64,[.int .i64,.int .i64,.int .i64,.int .i64,.int .i64,.int .i64,.int .i64,.int .i64]),(4160,[.int .i64,.int .i64,.int .i64,.int .i64,.int .i64,.int .i64,.int .i64,.int .i64])],[]⟩
def ye7:Shape:=⟨[(1,false,[.int .i64]),(2,false,[.ptr 0 0]),(4,false,[.ptr 64 0]),(6,false,[.ptr 4160 0]),(7,false,[.cb false]),(14,false,[.ci .i64 0])],[(0,[.br tL,.br tW,.bool,.br tI]),(64,[.int .i64,.int .i64,.int .i64,.int .i64,.int .i64,.int .i64,.int .i64,.int .i64]),(4160,[.int .i64,.int .i64,.int .i64,.int .i64,.int .i64,.int .i64,.int .i64,.int .i64])],[]⟩
def yeY:Shape:=⟨[(4,false,[.ptr 64 0]),(6,false,[.ptr 4160 0]),(7,false,[.bool])],[(64,[.int .i64,.int .i64,.int .i64,.int .i64,.int .i64,.int .i64,.int .i64,.int .i64]),(4160,[.int .i64,.int .i64,.int .i64,.int .i64,.int .i64,.int .i64,.int .i64,.int .i64])],[]⟩
def yjs:Shape:=⟨[],[],[]⟩
abbrev yoJ (v0:Int) (v1:Bool) (v2:Int) (v3:dM) (v4 v5:dS):(ya1).X:=(((v0,()),((),()),((),()),((),()),(v1,()),(v2,()),()),((v3.1,v3.2.1,v3.2.2.1,v3.2.2.2,()),(v4.1,v4.2.1,v4.2.2.1,v4.2.2.2.1,v4.2.2.2.2.1,v4.2.2.2.2.2.1,v4.2.2.2.2.2.2.1,v4.2.2.2.2.2.2.2,()),(v5.1,v5.2.1,v5.2.2.1,v5.2.2.2.1,v5.2.2.2.2.1,v5.2.2.2.2.2.1,v5.2.2.2.2.2.2.1,v5.2.2.2.2.2.2.2,()),()),())
abbrev yNQ (v0:Int) (v1:dM) (v2 v3:dS):(ye7).X:=(((v0,()),((),()),((),()),((),()),((),()),((),()),()),((v1.1,v1.2.1,v1.2.2.1,v1.2.2.2,()),(v2.1,v2.2.1,v2.2.2.1,v2.2.2.2.1,v2.2.2.2.2.1,v2.2.2.2.2.2.1,v2.2.2.2.2.2.2.1,v2.2.2.2.2.2.2.2,()),(v3.1,v3.2.1,v3.2.2.1,v3.2.2.2.1,v3.2.2.2.2.1,v3.2.2.2.2.2.1,v3.2.2.2.2.2.2.1,v3.2.2.2.2.2.2.2,()),()),())
abbrev yNK (v0:Bool) (v1 v2:dS):(yeY).X:=((((),()),((),()),(v0,()),()),((v1.1,v1.2.1,v1.2.2.1,v1.2.2.2.1,v1.2.2.2.2.1,v1.2.2.2.2.2.1,v1.2.2.2.2.2.2.1,v1.2.2.2.2.2.2.2,()),(v2.1,v2.2.1,v2.2.2.1,v2.2.2.2.1,v2.2.2.2.2.1,v2.2.2.2.2.2.1,v2.2.2.2.2.2.2.1,v2.2.2.2.2.2.2.2,()),()),())
def ypi (v0:Int) (v1:Bool) (v2:Int) (v3:List (List Int)) (v4:List dW) (v5:Bool) (v6:List Int) (v7 v8 v9 v10 v11 v12 v13 v14 v15 v16 v17 v18 v19 v20 v21 v22:Int):Option ((ya1).X ⊕ ((yeY).X ⊕ (yjs).X)) :=
 bif (ltb v2 2) then
 let r3:=yfD (v3,v4,v5,v6) v2
 let r4:=yls r3.1
 bif r3.2 then
 bif r4.2 then
 bif (r4.1.1==v0) then
 bif ((r4.1.2.1.tmod 2)==v2) then
 bif (!(!v1)) then
 bif (ltb v16 r4.1.2.1) then
 some (.inl (((v0,()),((),()),((),()),((),()),(true,()),((IntKind.i64.wrap (v2+1)),()),()),((v3,v4,v5,v6,()),(v7,v8,v9,v10,v11,v12,v13,v14,()),(r4.1.1,r4.1.2.1,r4.1.2.2.1,r4.1.2.2.2.1,r4.1.2.2.2.2.1,r4.1.2.2.2.2.2.1,r4.1.2.2.2.2.2.2.1,r4.1.2.2.2.2.2.2.2,()),()),()))
 else
 some (.inl (((v0,()),((),()),((),()),((),()),(v1,()),((IntKind.i64.wrap (v2+1)),()),()),((v3,v4,v5,v6,()),(v7,v8,v9,v10,v11,v12,v13,v14,()),(v15,v16,v17,v18,v19,v20,v21,v22,()),()),()))
 else
 some (.inl (((v0,()),((),()),((),()),((),()),(true,()),((IntKind.i64.wrap (v2+1)),()),()),((v3,v4,v5,v6,()),(v7,v8,v9,v10,v11,v12,v13,v14,()),(r4.1.1,r4.1.2.1,r4.1.2.2.1,r4.1.2.2.2.1,r4.1.2.2.2.2.1,r4.1.2.2.2.2.2.1,r4.1.2.2.2.2.2.2.1,r4.1.2.2.2.2.2.2.2,()),()),()))
 else
 some (.inl (((v0,()),((),()),((),()),((),()),(v1,()),((IntKind.i64.wrap (v2+1)),()),()),((v3,v4,v5,v6,()),(v7,v8,v9,v10,v11,v12,v13,v14,()),(v15,v16,v17,v18,v19,v20,v21,v22,()),()),()))
 else
 some (.inl (((v0,()),((),()),((),()),((),()),(v1,()),((IntKind.i64.wrap (v2+1)),()),()),((v3,v4,v5,v6,()),(v7,v8,v9,v10,v11,v12,v13,v14,()),(v15,v16,v17,v18,v19,v20,v21,v22,()),()),()))
 else
 some (.inl (((v0,()),((),()),((),()),((),()),(v1,()),((IntKind.i64.wrap (v2+1)),()),()),((v3,v4,v5,v6,()),(v7,v8,v9,v10,v11,v12,v13,v14,()),(v15,v16,v17,v18,v19,v20,v21,v22,()),()),()))
 else
 some (.inl (((v0,()),((),()),((),()),((),()),(v1,()),((IntKind.i64.wrap (v2+1)),()),()),((v3,v4,v5,v6,()),(v7,v8,v9,v10,v11,v12,v13,v14,()),(v15,v16,v17,v18,v19,v20,v21,v22,()),()),()))
 else
 some (.inr (.inl ((((),()),((),()),(v1,()),()),((v7,v8,v9,v10,v11,v12,v13,v14,()),(v15,v16,v17,v18,v19,v20,v21,v22,()),()),())))
def ybk (x:(ya1).X):=ypi x.1.1.1 x.1.2.2.2.2.1.1 x.1.2.2.2.2.2.1.1 x.2.1.1.1 x.2.1.1.2.1 x.2.1.1.2.2.1 x.2.1.1.2.2.2.1 x.2.1.2.1.1 x.2.1.2.1.2.1 x.2.1.2.1.2.2.1 x.2.1.2.1.2.2.2.1 x.2.1.2.1.2.2.2.2.1 x.2.1.2.1.2.2.2.2.2.1 x.2.1.2.1.2.2.2.2.2.2.1 x.2.1.2.1.2.2.2.2.2.2.2.1 x.2.1.2.2.1.1 x.2.1.2.2.1.2.1 x.2.1.2.2.1.2.2.1 x.2.1.2.2.1.2.2.2.1 x.2.1.2.2.1.2.2.2.2.1 x.2.1.2.2.1.2.2.2.2.2.1 x.2.1.2.2.1.2.2.2.2.2.2.1 x.2.1.2.2.1.2.2.2.2.2.2.2.1
def yzG (x:(ye7).X):(ya1).X:=(((x.1.1.1,()),((),()),((),()),((),()),(false,()),(0,()),()),((x.2.1.1.1,x.2.1.1.2.1,x.2.1.1.2.2.1,x.2.1.1.2.2.2.1,()),(x.2.1.2.1.1,x.2.1.2.1.2.1,x.2.1.2.1.2.2.1,x.2.1.2.1.2.2.2.1,x.2.1.2.1.2.2.2.2.1,x.2.1.2.1.2.2.2.2.2.1,x.2.1.2.1.2.2.2.2.2.2.1,x.2.1.2.1.2.2.2.2.2.2.2.1,()),(x.2.1.2.2.1.1,x.2.1.2.2.1.2.1,x.2.1.2.2.1.2.2.1,x.2.1.2.2.1.2.2.2.1,x.2.1.2.2.1.2.2.2.2.1,x.2.1.2.2.1.2.2.2.2.2.1,x.2.1.2.2.1.2.2.2.2.2.2.1,x.2.1.2.2.1.2.2.2.2.2.2.2.1,()),()),())
def yAW:Code:=(zdD yiw 64 116).getD .skip
theorem yPD:zdD yiw 64 29=some (.block 0 (.loop yAW)):=by kernel_rfl
theorem yQt (x:(ya1).X):zg0 ⟨yof,60,yCL⟩ 0 yAW 116 ya1 yeY yjs x=ybk x:=by kernel_rfl
def yzR (x:(ye7).X):Nat:=18446744073709551616
def yqw (x:(ye7).X):Option ((yeY).X ⊕ (yjs).X):=zz ybk (yzR x) (yzG x)
def yAB:Seg:=⟨ye7,yeY,yjs,yqw⟩
def yCM:Nat→Option Seg:=fun q=>bif Nat.beq q 29 then some yAB else yCL q
theorem yPS:FrOk Tryz.prog ⟨yof,60,yCM⟩ yiw:=(yPR).loop (sg:=yAB) ya1 yzG (by decide) yPD ybk yzR (by decide) (fun _=>rfl) (fun x r _ h=>h) yQt
abbrev yfj:List Par:= [.rd tM,.rd tI]
abbrev yom:List OT:= [⟨false,tS,(.pr .fz (.pr .fz (.pr .fz (.pr .fz (.pr .fz (.pr .fz (.pr .fz .fz)))))))⟩,⟨false,tB,.fz⟩]
def ylJ (a0:dM) (a1:Int):Option (ResD yom×MutD yfj) :=
 zjY (yqw (((a1,()),((),()),((),()),((),()),((),()),((),()),()),((a0.1,a0.2.1,a0.2.2.1,a0.2.2.2,()),(0,0,0,0,0,0,0,0,()),(0,0,0,0,0,0,0,0,()),()),())) (fun y4 =>
 some (((y4.2.1.2.1.1,y4.2.1.2.1.2.1,y4.2.1.2.1.2.2.1,y4.2.1.2.1.2.2.2.1,y4.2.1.2.1.2.2.2.2.1,y4.2.1.2.1.2.2.2.2.2.1,y4.2.1.2.1.2.2.2.2.2.2.1,y4.2.1.2.1.2.2.2.2.2.2.2.1),y4.1.2.2.1.1,()),())) (fun y4 =>
 none)
theorem yW7 (x:InD yfj):zjw ⟨yof,60,yCM⟩ Tryz.f227.results.toList yiw yfj yom x=ylJ x.1 x.2.1:=by kernel_rfl
theorem ySQ:ConOk Tryz.prog 227 ⟨yfj,yom,fun x=>ylJ x.1 x.2.1⟩:=zj1 (yPS) Tryz.func227 (by kernel_rfl) (by kernel_rfl) Tryz.ntmps227.symm (by decide) (fun x r h=>(yW7 x).trans h)
def yjg (a0:dM) (a1:Int):dS×Bool:=yaW a0 a1
theorem yVj (a0:dM) (a1:Int) (hk:zi1 yfj (a0,a1,())):ylJ a0 a1=(fun n=>some ((n.1,n.2,()),())) (yjg a0 a1):=by
 have h1:=zj8 (step:=ybk) 2 (fun i s=>yoJ a1 s.2 i a0 yaB s.1) (fun (s:dS×Bool) (i:Nat)=>yp0 s (yHq a0 a1 i) (yW1 a0 i)) (fun _ _=>True) (fun s=> .inl (yNK s.2 yaB s.1)) (fun i s hi _=>⟨by
  simp only [ybk,yoJ,ypi,zj4 (show (i:Int) < 2 by omega),cond_true,wr (show -9223372036854775808≤(i:Int)+1 by omega) (by omega),Int.natCast_add,Int.natCast_one,Int.toNat_natCast,zkr,yfD,yls]
  unfold yHq yp0 yW1
  cases (yr a0 i).2<;>cases (yee (yr a0 i).1).2<;>cases ((yee (yr a0 i).1).1.1==a1)<;>cases ((yee (yr a0 i).1).1.2.1.tmod 2==(i:Int))<;>cases hf:s.2<;>cases ltb s.1.2.1 (yee (yr a0 i).1).1.2.1<;>simp only [Bool.not_true,Bool.not_false,cond_true,cond_false,Bool.and_true,Bool.true_and,Bool.false_and,Bool.and_false,Bool.or_true,Bool.true_or,Bool.false_or,Bool.or_false,hf],trivial⟩) (fun s _=>by simp only [ybk,yoJ,ypi]; rfl) (yaB,false) trivial 18446744073709551616 (by omega)
 unfold ylJ yjg
 rw [show yqw (yNQ a1 a0 yaB yaB)=_ from h1]; rfl
def yDd:Con:=⟨yfj,yom,fun x=>(fun n=>some ((n.1,n.2,()),())) (yjg x.1 x.2.1)⟩
theorem yVU:ConOk Tryz.prog 227 yDd:=(ySQ).mono (fun x r hk h=>(yVj x.1 x.2.1 hk).trans h)
end
section
def yJd:Code:=(Tryz.f142.body).getD .skip
def yJY:Env:=zj2 TT [(133,yfA),(227,yDd)] []
theorem yRO:FrOk Tryz.prog ⟨yJY,35,fun _=>none⟩ yJd:=zj6 yc yd ⟨yj0,yVU,trivial⟩
def yTz:Nat→Option Seg:=fun _=>none
abbrev ygG:List Par:= [.rd tM,.rd tI,.rd tI]
abbrev yrs:List OT:= [⟨false,tS,(.pr .fz (.pr .fz (.pr .fz (.pr .fz (.pr .fz (.pr .fz (.pr .fz .fz)))))))⟩,⟨false,tB,.fz⟩]
def ymx (a0:dM) (a1 a2:Int):Option (ResD yrs×MutD ygG) :=
 let r1:=yjg a0 a2
 let r2:=yaa a0
 bif (!(!r2)) then
 bif (!a0.2.2.1) then
 bif (!(!r1.2)) then
 bif (r1.1.2.2.1 !=a1) then
 some (((0,0,0,0,0,0,0,0),false,()),())
 else
 some ((r1.1,true,()),())
 else
 some (((0,0,0,0,0,0,0,0),false,()),())
 else
 some (((0,0,0,0,0,0,0,0),false,()),())
 else
 some (((0,0,0,0,0,0,0,0),false,()),())
theorem y1o (x:InD ygG):zjw ⟨yJY,35,yTz⟩ Tryz.f142.results.toList yJd ygG yrs x=ymx x.1 x.2.1 x.2.2.1:=by kernel_rfl
theorem yVz:ConOk Tryz.prog 142 ⟨ygG,yrs,fun x=>ymx x.1 x.2.1 x.2.2.1⟩:=zj1 (yRO) Tryz.func142 (by kernel_rfl) (by kernel_rfl) Tryz.ntmps142.symm (by decide) (fun x r h=>(y1o x).trans h)
def yei (a0:dM) (a1 a2:Int):dS×Bool:=bif yoT a0 a1 a2 then ((yaW a0 a2).1,true) else (yaB,false)
theorem yYV (a0:dM) (a1 a2:Int) (hk:zi1 ygG (a0,a1,a2,())):ymx a0 a1 a2=(fun n=>some ((n.1,n.2,()),())) (yei a0 a1 a2):=by
 unfold ymx yei yoT
 simp only [yjg,yaa,bne]
 cases hb:(yaW a0 a2).2
 ·cases yu a0<;>cases a0.2.2.1<;>rfl
 ·rw [yabN hb]
  cases a0.2.2.1<;>cases ((yaW a0 a2).1.2.2.1==a1)<;>rfl
def yFy:Con:=⟨ygG,yrs,fun x=>(fun n=>some ((n.1,n.2,()),())) (yei x.1 x.2.1 x.2.2.1)⟩
theorem yZN:ConOk Tryz.prog 142 yFy:=(yVz).mono (fun x r hk h=>(yYV x.1 x.2.1 x.2.2.1 hk).trans h)
end
section
def ydh:Code:=(Tryz.f219.body).getD .skip
def yh7:Env:=zj2 TT [(200,yaX)] []
theorem yUh:FrOk Tryz.prog ⟨yh7,49,fun _=>none⟩ ydh:=zj6 yc yd ⟨ydd,trivial⟩
def yGM:Nat→Option Seg:=fun _=>none
def yca:Shape:=⟨[(1,false,[.ptr 0 0]),(2,false,[.ptr 64 0]),(3,false,[.ptr 4480 0]),(15,false,[.br tL]),(16,false,[.int .i64]),(17,false,[.int .i64])],[(0,[.br tL,.br tW,.bool,.br tI]),(64,[.nil,.nil,.bool,.nil]),(4480,[.at 800000001,.nil,.bool,.at 800000000])],[(800000001,tL,(.ow .fz)),(800000000,tI,.fz)]⟩
def yhB:Shape:=⟨[(1,false,[.ptr 0 0]),(2,false,[.ptr 64 0]),(3,false,[.ptr 4480 0]),(15,false,[.br tL]),(16,false,[.int .i64]),(17,false,[.ci .i64 0])],[(0,[.br tL,.br tW,.bool,.br tI]),(64,[.nil,.nil,.bool,.nil]),(4480,[.at 800000001,.nil,.bool,.at 800000000])],[(800000001,tL,(.ow .fz)),(800000000,tI,.fz)]⟩
def yhm:Shape:=⟨[(1,false,[.ptr 0 0]),(2,false,[.ptr 64 0]),(3,false,[.ptr 4480 0])],[(0,[.br tL,.br tW,.bool,.br tI]),(64,[.nil,.nil,.bool,.nil]),(4480,[.at 800000000,.nil,.bool,.at 800000001])],[(800000000,tL,(.ow .fz)),(800000001,tI,.fz)]⟩
def yl6:Shape:=⟨[],[],[]⟩
abbrev yte (v0:List (List Int)) (v1 v2:Int) (v3 v4 v5:dM):(yca).X:=((((),()),((),()),((),()),(v0,()),(v1,()),(v2,()),()),((v3.1,v3.2.1,v3.2.2.1,v3.2.2.2,()),((),(),v4.2.2.1,(),()),((),(),v5.2.2.1,(),()),()),(v5.1,v5.2.2.2,()))
abbrev ySr (v0:List (List Int)) (v1:Int) (v2 v3 v4:dM):(yhB).X:=((((),()),((),()),((),()),(v0,()),(v1,()),((),()),()),((v2.1,v2.2.1,v2.2.2.1,v2.2.2.2,()),((),(),v3.2.2.1,(),()),((),(),v4.2.2.1,(),()),()),(v4.1,v4.2.2.2,()))
abbrev yDU (v0 v1 v2:dM):(yhm).X:=((((),()),((),()),((),()),()),((v0.1,v0.2.1,v0.2.2.1,v0.2.2.2,()),((),(),v1.2.2.1,(),()),((),(),v2.2.2.1,(),()),()),(v2.1,v2.2.2.2,()))
def ytB (v0:List (List Int)) (v1 v2:Int) (v3:List (List Int)) (v4:List dW) (v5:Bool) (v6:List Int) (v7 v8:Bool) (v9:List (List Int)) (v10:List Int):Option ((yca).X ⊕ ((yhm).X ⊕ (yl6).X)) :=
 bif (ltb v2 v1) then
 bif (inb v2 v0.length) then
 let r4:=yo (nth v0 v2 [])
 bif (zjQ v9.length ([r4]:List (List Int)).length 24) then
 some (.inl ((((),()),((),()),((),()),(v0,()),(v1,()),((IntKind.i64.wrap (v2+1)),()),()),((v3,v4,v5,v6,()),((),(),v7,(),()),((),(),v8,(),()),()),((v9++([r4]:List (List Int))),v10,())))
 else none
 else none
 else
 some (.inr (.inl ((((),()),((),()),((),()),()),((v3,v4,v5,v6,()),((),(),v7,(),()),((),(),v8,(),()),()),(v9,v10,()))))
def ycz (x:(yca).X):=ytB x.1.2.2.2.1.1 x.1.2.2.2.2.1.1 x.1.2.2.2.2.2.1.1 x.2.1.1.1 x.2.1.1.2.1 x.2.1.1.2.2.1 x.2.1.1.2.2.2.1 x.2.1.2.1.2.2.1 x.2.1.2.2.1.2.2.1 x.2.2.1 x.2.2.2.1
def yDl (x:(yhB).X):(yca).X:=((((),()),((),()),((),()),(x.1.2.2.2.1.1,()),(x.1.2.2.2.2.1.1,()),(0,()),()),((x.2.1.1.1,x.2.1.1.2.1,x.2.1.1.2.2.1,x.2.1.1.2.2.2.1,()),((),(),x.2.1.2.1.2.2.1,(),()),((),(),x.2.1.2.2.1.2.2.1,(),()),()),(x.2.2.1,x.2.2.2.1,()))
def yFd:Code:=(zdD ydh 64 116).getD .skip
theorem yTO:zdD ydh 64 29=some (.block 0 (.loop yFd)):=by kernel_rfl
theorem yV3 (x:(yca).X):zg0 ⟨yh7,49,yGM⟩ 0 yFd 116 yca yhm yl6 x=ycz x:=by kernel_rfl
def yDD (x:(yhB).X):Nat:=18446744073709551616
def yuX (x:(yhB).X):Option ((yhm).X ⊕ (yl6).X):=zz ycz (yDD x) (yDl x)
def yD6:Seg:=⟨yhB,yhm,yl6,yuX⟩
def yw5:Nat→Option Seg:=fun q=>bif Nat.beq q 29 then some yD6 else yGM q
theorem yUi:FrOk Tryz.prog ⟨yh7,49,yw5⟩ ydh:=(yUh).loop (sg:=yD6) yca yDl (by decide) yTO ycz yDD (by decide) (fun _=>rfl) (fun x r _ h=>h) yV3
def ycb:Shape:=⟨[(2,false,[.ptr 64 0]),(3,false,[.ptr 4480 0]),(30,false,[.br tW]),(31,false,[.int .i64]),(32,false,[.int .i64])],[(64,[.nil,.nil,.bool,.nil]),(4480,[.at 800000000,.at 800000002,.bool,.at 800000001])],[(800000000,tL,(.ow .fz)),(800000002,tW,(.pr .fz (.ow .fz))),(800000001,tI,.fz)]⟩
def yhC:Shape:=⟨[(2,false,[.ptr 64 0]),(3,false,[.ptr 4480 0]),(30,false,[.br tW]),(31,false,[.int .i64]),(32,false,[.ci .i64 0])],[(64,[.nil,.nil,.bool,.nil]),(4480,[.at 800000000,.at 800000002,.bool,.at 800000001])],[(800000000,tL,(.ow .fz)),(800000002,tW,(.pr .fz (.ow .fz))),(800000001,tI,.fz)]⟩
def yhn:Shape:=⟨[(2,false,[.ptr 64 0]),(3,false,[.ptr 4480 0])],[(64,[.nil,.nil,.bool,.nil]),(4480,[.at 800000000,.at 800000001,.bool,.at 800000002])],[(800000000,tL,(.ow .fz)),(800000001,tW,(.pr .fz (.ow .fz))),(800000002,tI,.fz)]⟩
def yl7:Shape:=⟨[],[],[]⟩
abbrev ytf (v0:List dW) (v1 v2:Int) (v3 v4:dM):(ycb).X:=((((),()),((),()),(v0,()),(v1,()),(v2,()),()),(((),(),v3.2.2.1,(),()),((),(),v4.2.2.1,(),()),()),(v4.1,v4.2.1,v4.2.2.2,()))
abbrev ySs (v0:List dW) (v1:Int) (v2 v3:dM):(yhC).X:=((((),()),((),()),(v0,()),(v1,()),((),()),()),(((),(),v2.2.2.1,(),()),((),(),v3.2.2.1,(),()),()),(v3.1,v3.2.1,v3.2.2.2,()))
abbrev yDV (v0 v1:dM):(yhn).X:=((((),()),((),()),()),(((),(),v0.2.2.1,(),()),((),(),v1.2.2.1,(),()),()),(v1.1,v1.2.1,v1.2.2.2,()))
def ytC (v0:List dW) (v1 v2:Int) (v3 v4:Bool) (v5:List (List Int)) (v6:List dW) (v7:List Int):Option ((ycb).X ⊕ ((yhn).X ⊕ (yl7).X)) :=
 bif (ltb v2 v1) then
 bif (inb v2 v0.length) then
 let r8:=yo ((nth v0 v2 (0,[])).2)
 bif (zjQ v6.length ([((nth v0 v2 (0,[])).1,r8)]:List dW).length 32) then
 some (.inl ((((),()),((),()),(v0,()),(v1,()),((IntKind.i64.wrap (v2+1)),()),()),(((),(),v3,(),()),((),(),v4,(),()),()),(v5,(v6++([((nth v0 v2 (0,[])).1,r8)]:List dW)),v7,())))
 else none
 else none
 else
 some (.inr (.inl ((((),()),((),()),()),(((),(),v3,(),()),((),(),v4,(),()),()),(v5,v6,v7,()))))
def ycA (x:(ycb).X):=ytC x.1.2.2.1.1 x.1.2.2.2.1.1 x.1.2.2.2.2.1.1 x.2.1.1.2.2.1 x.2.1.2.1.2.2.1 x.2.2.1 x.2.2.2.1 x.2.2.2.2.1
def yDm (x:(yhC).X):(ycb).X:=((((),()),((),()),(x.1.2.2.1.1,()),(x.1.2.2.2.1.1,()),(0,()),()),(((),(),x.2.1.1.2.2.1,(),()),((),(),x.2.1.2.1.2.2.1,(),()),()),(x.2.2.1,x.2.2.2.1,x.2.2.2.2.1,()))
def yFe:Code:=(zdD ydh 64 244).getD .skip
theorem yTP:zdD ydh 64 61=some (.block 2 (.loop yFe)):=by kernel_rfl
theorem yV4 (x:(ycb).X):zg0 ⟨yh7,49,yw5⟩ 2 yFe 244 ycb yhn yl7 x=ycA x:=by kernel_rfl
def yDE (x:(yhC).X):Nat:=18446744073709551616
def yuY (x:(yhC).X):Option ((yhn).X ⊕ (yl7).X):=zz ycA (yDE x) (yDm x)
def yD7:Seg:=⟨yhC,yhn,yl7,yuY⟩
def yGN:Nat→Option Seg:=fun q=>bif Nat.beq q 61 then some yD7 else yw5 q
theorem yUj:FrOk Tryz.prog ⟨yh7,49,yGN⟩ ydh:=(yUi).loop (sg:=yD7) ycb yDm (by decide) yTP ycA yDE (by decide) (fun _=>rfl) (fun x r _ h=>h) yV4
abbrev yid:List Par:= [.rd tM]
abbrev yt7:List OT:= [⟨false,tM,(.pr (.ow (.ow .fz)) (.pr (.ow (.pr .fz (.ow .fz))) (.pr .fz (.ow .fz))))⟩]
def yo0 (a0:dM):Option (ResD yt7×MutD yid) :=
 let r1:=yo a0.2.2.2
 zjY (yuX ((((),()),((),()),((),()),(a0.1,()),((a0.1.length:Int),()),((),()),()),((a0.1,a0.2.1,a0.2.2.1,a0.2.2.2,()),((),(),false,(),()),((),(),a0.2.2.1,(),()),()),([],r1,()))) (fun y4 =>
 zjY (yuY ((((),()),((),()),(y4.2.1.1.2.1,()),((y4.2.1.1.2.1.length:Int),()),((),()),()),(((),(),y4.2.1.2.1.2.2.1,(),()),((),(),y4.2.1.2.2.1.2.2.1,(),()),()),(y4.2.2.1,[],y4.2.2.2.1,()))) (fun y8 =>
 some (((y8.2.2.1,y8.2.2.2.1,y8.2.1.2.1.2.2.1,y8.2.2.2.2.1),()),())) (fun y8 =>
 none)) (fun y4 =>
 none)
theorem y40 (x:InD yid):zjw ⟨yh7,49,yGN⟩ Tryz.f219.results.toList ydh yid yt7 x=yo0 x.1:=by kernel_rfl
theorem yZg:ConOk Tryz.prog 219 ⟨yid,yt7,fun x=>yo0 x.1⟩:=zj1 (yUj) Tryz.func219 (by kernel_rfl) (by kernel_rfl) Tryz.ntmps219.symm (by decide) (fun x r h=>(y40 x).trans h)
def yau (a0:dM):dM:=a0
theorem y2Q (a0:dM) (hk:zi1 yid (a0,())):yo0 a0=(fun n=>some ((n,()),())) (yau a0):=by
 have hb1:a0.1.length * 24≤2 ^ 47:=hk.1.1.1
 have hb2:a0.2.1.length * 32≤2 ^ 47:=hk.1.2.1.1
 have h1:yuX (ySr a0.1 a0.1.length a0 noMem ([],[],a0.2.2.1,a0.2.2.2))=some (.inl (yDU a0 noMem (a0.1,[],a0.2.2.1,a0.2.2.2))):=by
  have:=zj3 (step:=ycz) a0.1 [] (fun i s=>yte a0.1 a0.1.length i a0 noMem (s,[],a0.2.2.1,a0.2.2.2)) (fun s x=>s++ [x]) (fun i s=>s.length=i) (fun s=> .inl (yDU a0 noMem (s,[],a0.2.2.1,a0.2.2.2))) (fun i s hi hs2=>⟨by
   simp only [ycz,yte,ytB,zj4 (show (i:Int) < a0.1.length by omega),cond_true,wr (show -9223372036854775808≤(i:Int)+1 by omega) (by omega),Int.natCast_add,Int.natCast_one,Int.toNat_natCast,zkl hi,zkm,yo]
   rw [zka.2 (show (s.length+ [a0.1.getD i []].length) * 24≤140737488355328 by simp only [List.length_cons,List.length_nil]; omega)]; rfl,by simp [hs2]⟩) (fun s _=>by simp only [ycz,yte,ytB,zkx (Int.le_refl _),cond_false]) [] rfl 18446744073709551616 (by omega)
  rw [yxt]at this
  exact this
 have h2:yuY (ySs a0.2.1 a0.2.1.length noMem (a0.1,[],a0.2.2.1,a0.2.2.2))=some (.inl (yDV noMem a0)):=by
  have:=zj3 (step:=ycA) a0.2.1 (0,[]) (fun i s=>ytf a0.2.1 a0.2.1.length i noMem (a0.1,s,a0.2.2.1,a0.2.2.2)) (fun s x=>s++ [x]) (fun i s=>s.length=i) (fun s=> .inl (yDV noMem (a0.1,s,a0.2.2.1,a0.2.2.2))) (fun i s hi hs2=>⟨by
   simp only [ycA,ytf,ytC,zj4 (show (i:Int) < a0.2.1.length by omega),cond_true,wr (show -9223372036854775808≤(i:Int)+1 by omega) (by omega),Int.natCast_add,Int.natCast_one,Int.toNat_natCast,zkl hi,zkm,yo,zkr]
   rw [zka.2 (show (s.length+ [a0.2.1.getD i (0,[])].length) * 32≤140737488355328 by simp only [List.length_cons,List.length_nil]; omega)]; rfl,by simp [hs2]⟩) (fun s _=>by simp only [ycA,ytf,ytC,zkx (Int.le_refl _),cond_false]) [] rfl 18446744073709551616 (by omega)
  rw [yxt]at this
  exact this
 unfold yo0 yau
 simp only [yo,h1,zkh,h2]
def yjd:Con:=⟨yid,yt7,fun x=>(fun n=>some ((n,()),())) (yau x.1)⟩
theorem yr3:ConOk Tryz.prog 219 yjd:=(yZg).mono (fun x r hk h=>(y2Q x.1 hk).trans h)
end
section
def yj6:Code:=(Tryz.f143.body).getD .skip
def yq8:Env:=zj2 TT [(219,yjd)] []
theorem yRL:FrOk Tryz.prog ⟨yq8,20,fun _=>none⟩ yj6:=zj6 yc yd ⟨yr3,trivial⟩
def yEQ:Nat→Option Seg:=fun _=>none
def ybA:Shape:=⟨[(3,false,[.at 800000000]),(7,false,[.br tM]),(8,false,[.int .i64]),(9,false,[.int .i64])],[],[(800000000,tM,(.pr (.ow (.ow .fz)) (.pr (.ow (.pr .fz (.ow .fz))) (.pr .fz (.ow .fz)))))]⟩
def ygh:Shape:=⟨[(3,false,[.at 800000000]),(7,false,[.br tM]),(8,false,[.int .i64]),(9,false,[.ci .i64 0])],[],[(800000000,tM,(.pr (.ow (.ow .fz)) (.pr (.ow (.pr .fz (.ow .fz))) (.pr .fz (.ow .fz)))))]⟩
def yf6:Shape:=⟨[(3,false,[.at 800000000])],[],[(800000000,tM,(.pr (.ow (.ow .fz)) (.pr (.ow (.pr .fz (.ow .fz))) (.pr .fz (.ow .fz)))))]⟩
def ylb:Shape:=⟨[],[],[]⟩
abbrev yqI (v0:List dM) (v1 v2:Int) (v3:List dM):(ybA).X:=((((),()),(v0,()),(v1,()),(v2,()),()),(),(v3,()))
abbrev yP8 (v0:List dM) (v1:Int) (v2:List dM):(ygh).X:=((((),()),(v0,()),(v1,()),((),()),()),(),(v2,()))
abbrev yP0 (v0:List dM):(yf6).X:=((((),()),()),(),(v0,()))
def yqY (v0:List dM) (v1 v2:Int) (v3:List dM):Option ((ybA).X ⊕ ((yf6).X ⊕ (ylb).X)) :=
 bif (ltb v2 v1) then
 bif (inb v2 v0.length) then
 let r2:=yau ((nth v0 v2 ([],[],false,[])).1,((nth v0 v2 ([],[],false,[])).2).1,(((nth v0 v2 ([],[],false,[])).2).2))
 bif (zjQ v3.length ([r2]:List dM).length 80) then
 some (.inl ((((),()),(v0,()),(v1,()),((IntKind.i64.wrap (v2+1)),()),()),(),((v3++([r2]:List dM)),())))
 else none
 else none
 else
 some (.inr (.inl ((((),()),()),(),(v3,()))))
def ybZ (x:(ybA).X):=yqY x.1.2.1.1 x.1.2.2.1.1 x.1.2.2.2.1.1 x.2.2.1
def yBc (x:(ygh).X):(ybA).X:=((((),()),(x.1.2.1.1,()),(x.1.2.2.1.1,()),(0,()),()),(),(x.2.2.1,()))
def yC4:Code:=(zdD yj6 64 116).getD .skip
theorem yRc:zdD yj6 64 29=some (.block 0 (.loop yC4)):=by kernel_rfl
theorem yTa (x:(ybA).X):zg0 ⟨yq8,20,yEQ⟩ 0 yC4 116 ybA yf6 ylb x=ybZ x:=by kernel_rfl
def yBo (x:(ygh).X):Nat:=18446744073709551616
def ysH (x:(ygh).X):Option ((yf6).X ⊕ (ylb).X):=zz ybZ (yBo x) (yBc x)
def yBG:Seg:=⟨ygh,yf6,ylb,ysH⟩
def yER:Nat→Option Seg:=fun q=>bif Nat.beq q 29 then some yBG else yEQ q
theorem yRM:FrOk Tryz.prog ⟨yq8,20,yER⟩ yj6:=(yRL).loop (sg:=yBG) ybA yBc (by decide) yRc ybZ yBo (by decide) (fun _=>rfl) (fun x r _ h=>h) yTa
abbrev ygF:List Par:= [.rd tMs]
abbrev yrq:List OT:= [⟨false,tMs,(.ow (.pr (.ow (.ow .fz)) (.pr (.ow (.pr .fz (.ow .fz))) (.pr .fz (.ow .fz)))))⟩]
def ymw (a0:List dM):Option (ResD yrq×MutD ygF) :=
 zjY (ysH ((((),()),(a0,()),((a0.length:Int),()),((),()),()),(),(([]:List dM),()))) (fun y2 =>
 some ((y2.2.2.1,()),())) (fun y2 =>
 none)
theorem y1m (x:InD ygF):zjw ⟨yq8,20,yER⟩ Tryz.f143.results.toList yj6 ygF yrq x=ymw x.1:=by kernel_rfl
theorem yVx:ConOk Tryz.prog 143 ⟨ygF,yrq,fun x=>ymw x.1⟩:=zj1 (yRM) Tryz.func143 (by kernel_rfl) (by kernel_rfl) Tryz.ntmps143.symm (by decide) (fun x r h=>(y1m x).trans h)
def ygW (a0:List dM):List dM:=a0
theorem yYT (a0:List dM) (hk:zi1 ygF (a0,())):ymw a0=(fun n=>some ((n,()),())) (ygW a0):=by
 have hb:a0.length * 80≤2 ^ 47:=hk.1.1
 have h1:=zj3 (step:=ybZ) a0 noMem (fun i s=>yqI a0 a0.length i s) (fun s x=>s++ [x]) (fun i s=>s.length=i) (fun s=> .inl (yP0 s)) (fun i s hi hs=>⟨by
   simp only [ybZ,yqI,yqY,zj4 (show (i:Int) < a0.length by omega),cond_true,wr (show -9223372036854775808≤(i:Int)+1 by omega) (by omega),Int.natCast_add,Int.natCast_one,Int.toNat_natCast,zkl hi,zkm,yau,zkr]
   rw [zka.2 (show (s.length+ [a0.getD i ([],[],false,[])].length) * 80≤140737488355328 by simp only [List.length_cons,List.length_nil]; omega)]; rfl,by simp [hs]⟩) (fun s hs=>by simp only [ybZ,yqI,yqY,zkx (Int.le_refl _),cond_false]) [] rfl 18446744073709551616 (by omega)
 rw [yxt]at h1
 unfold ymw ygW
 rw [show ysH (yP8 a0 a0.length [])=_ from h1]; rfl
def yvd:Con:=⟨ygF,yrq,fun x=>(fun n=>some ((n,()),())) (ygW x.1)⟩
theorem yIu:ConOk Tryz.prog 143 yvd:=(yVx).mono (fun x r hk h=>(yYT x.1 hk).trans h)
end
section
def yco:Code:=(Tryz.f50.body).getD .skip
def ygx:Env:=zj2 TT [(45,yur),(142,yFy),(143,yvd)] []
theorem yRA:FrOk Tryz.prog ⟨ygx,109,fun _=>none⟩ yco:=zj6 yc yd ⟨yEt,yZN,yIu,trivial⟩
def yEM:Nat→Option Seg:=fun _=>none
def ybx:Shape:=⟨[(0,false,[.br tM]),(1,false,[.int .i64]),(4,false,[.ptr 0 0]),(6,false,[.ptr 4160 0]),(7,false,[.bool]),(18,false,[.br tM]),(19,false,[.int .i64]),(20,false,[.int .i64])],[(0,[.int .i64,.int .i64,.int .i64,.nil,.int .i64,.int .i64,.int .i64,.int .i64,.int .i64,.nil,.int .i64,.bool,.bool]),(4160,[.int .i64,.int .i64,.int .i64,.int .i64,.int .i64,.int .i64,.int .i64,.int .i64])],[]⟩
def yge:Shape:=⟨[(0,false,[.br tM]),(1,false,[.int .i64]),(4,false,[.ptr 0 0]),(6,false,[.ptr 4160 0]),(7,false,[.cb false]),(18,false,[.br tM]),(19,false,[.int .i64]),(20,false,[.ci .i64 0])],[(0,[.int .i64,.int .i64,.int .i64,.nil,.int .i64,.int .i64,.int .i64,.int .i64,.int .i64,.nil,.int .i64,.bool,.bool]),(4160,[.int .i64,.int .i64,.int .i64,.int .i64,.int .i64,.int .i64,.int .i64,.int .i64])],[]⟩
def yf3:Shape:=⟨[(0,false,[.br tM]),(1,false,[.int .i64]),(4,false,[.ptr 0 0]),(6,false,[.ptr 4160 0]),(7,false,[.bool])],[(0,[.int .i64,.int .i64,.int .i64,.nil,.int .i64,.int .i64,.int .i64,.int .i64,.int .i64,.nil,.int .i64,.bool,.bool]),(4160,[.int .i64,.int .i64,.int .i64,.int .i64,.int .i64,.int .i64,.int .i64,.int .i64])],[]⟩
def yk5:Shape:=⟨[],[],[]⟩
abbrev yqF (v0:List dM) (v1:Int) (v2:Bool) (v3:List dM) (v4 v5:Int) (v6:dA) (v7:dS):(ybx).X:=(((v0,()),(v1,()),((),()),((),()),(v2,()),(v3,()),(v4,()),(v5,()),()),((v6.1,v6.2.1.1,v6.2.1.2,(),v6.2.2.2.1,v6.2.2.2.2.1,v6.2.2.2.2.2.1,v6.2.2.2.2.2.2.1,v6.2.2.2.2.2.2.2.1,(),v6.2.2.2.2.2.2.2.2.2.1,v6.2.2.2.2.2.2.2.2.2.2.1,v6.2.2.2.2.2.2.2.2.2.2.2,()),(v7.1,v7.2.1,v7.2.2.1,v7.2.2.2.1,v7.2.2.2.2.1,v7.2.2.2.2.2.1,v7.2.2.2.2.2.2.1,v7.2.2.2.2.2.2.2,()),()),())
abbrev yP5 (v0:List dM) (v1:Int) (v2:List dM) (v3:Int) (v4:dA) (v5:dS):(yge).X:=(((v0,()),(v1,()),((),()),((),()),((),()),(v2,()),(v3,()),((),()),()),((v4.1,v4.2.1.1,v4.2.1.2,(),v4.2.2.2.1,v4.2.2.2.2.1,v4.2.2.2.2.2.1,v4.2.2.2.2.2.2.1,v4.2.2.2.2.2.2.2.1,(),v4.2.2.2.2.2.2.2.2.2.1,v4.2.2.2.2.2.2.2.2.2.2.1,v4.2.2.2.2.2.2.2.2.2.2.2,()),(v5.1,v5.2.1,v5.2.2.1,v5.2.2.2.1,v5.2.2.2.2.1,v5.2.2.2.2.2.1,v5.2.2.2.2.2.2.1,v5.2.2.2.2.2.2.2,()),()),())
abbrev yBv (v0:List dM) (v1:Int) (v2:Bool) (v3:dA) (v4:dS):(yf3).X:=(((v0,()),(v1,()),((),()),((),()),(v2,()),()),((v3.1,v3.2.1.1,v3.2.1.2,(),v3.2.2.2.1,v3.2.2.2.2.1,v3.2.2.2.2.2.1,v3.2.2.2.2.2.2.1,v3.2.2.2.2.2.2.2.1,(),v3.2.2.2.2.2.2.2.2.2.1,v3.2.2.2.2.2.2.2.2.2.2.1,v3.2.2.2.2.2.2.2.2.2.2.2,()),(v4.1,v4.2.1,v4.2.2.1,v4.2.2.2.1,v4.2.2.2.2.1,v4.2.2.2.2.2.1,v4.2.2.2.2.2.2.1,v4.2.2.2.2.2.2.2,()),()),())
def yqV (v0:List dM) (v1:Int) (v2:Bool) (v3:List dM) (v4 v5 v6 v7 v8 v9 v10 v11 v12 v13 v14:Int) (v15 v16:Bool) (v17 v18 v19 v20 v21 v22 v23 v24:Int):Option ((ybx).X ⊕ ((yf3).X ⊕ (yk5).X)) :=
 bif (ltb v5 v4) then
 bif (inb v5 v3.length) then
 let r2:=yei ((nth v3 v5 ([],[],false,[])).1,((nth v3 v5 ([],[],false,[])).2).1,(((nth v3 v5 ([],[],false,[])).2).2)) v5 v1
 bif r2.2 then
 bif (!(!v2)) then
 bif (ltb v18 r2.1.2.1) then
 some (.inl (((v0,()),(v1,()),((),()),((),()),(true,()),(v3,()),(v4,()),((IntKind.i64.wrap (v5+1)),()),()),((v6,v7,v8,(),v9,v10,v11,v12,v13,(),v14,v15,v16,()),(r2.1.1,r2.1.2.1,r2.1.2.2.1,r2.1.2.2.2.1,r2.1.2.2.2.2.1,r2.1.2.2.2.2.2.1,r2.1.2.2.2.2.2.2.1,r2.1.2.2.2.2.2.2.2,()),()),()))
 else
 some (.inl (((v0,()),(v1,()),((),()),((),()),(v2,()),(v3,()),(v4,()),((IntKind.i64.wrap (v5+1)),()),()),((v6,v7,v8,(),v9,v10,v11,v12,v13,(),v14,v15,v16,()),(v17,v18,v19,v20,v21,v22,v23,v24,()),()),()))
 else
 some (.inl (((v0,()),(v1,()),((),()),((),()),(true,()),(v3,()),(v4,()),((IntKind.i64.wrap (v5+1)),()),()),((v6,v7,v8,(),v9,v10,v11,v12,v13,(),v14,v15,v16,()),(r2.1.1,r2.1.2.1,r2.1.2.2.1,r2.1.2.2.2.1,r2.1.2.2.2.2.1,r2.1.2.2.2.2.2.1,r2.1.2.2.2.2.2.2.1,r2.1.2.2.2.2.2.2.2,()),()),()))
 else
 some (.inl (((v0,()),(v1,()),((),()),((),()),(v2,()),(v3,()),(v4,()),((IntKind.i64.wrap (v5+1)),()),()),((v6,v7,v8,(),v9,v10,v11,v12,v13,(),v14,v15,v16,()),(v17,v18,v19,v20,v21,v22,v23,v24,()),()),()))
 else none
 else
 some (.inr (.inl (((v0,()),(v1,()),((),()),((),()),(v2,()),()),((v6,v7,v8,(),v9,v10,v11,v12,v13,(),v14,v15,v16,()),(v17,v18,v19,v20,v21,v22,v23,v24,()),()),())))
def ybW (x:(ybx).X):=yqV x.1.1.1 x.1.2.1.1 x.1.2.2.2.2.1.1 x.1.2.2.2.2.2.1.1 x.1.2.2.2.2.2.2.1.1 x.1.2.2.2.2.2.2.2.1.1 x.2.1.1.1 x.2.1.1.2.1 x.2.1.1.2.2.1 x.2.1.1.2.2.2.2.1 x.2.1.1.2.2.2.2.2.1 x.2.1.1.2.2.2.2.2.2.1 x.2.1.1.2.2.2.2.2.2.2.1 x.2.1.1.2.2.2.2.2.2.2.2.1 x.2.1.1.2.2.2.2.2.2.2.2.2.2.1 x.2.1.1.2.2.2.2.2.2.2.2.2.2.2.1 x.2.1.1.2.2.2.2.2.2.2.2.2.2.2.2.1 x.2.1.2.1.1 x.2.1.2.1.2.1 x.2.1.2.1.2.2.1 x.2.1.2.1.2.2.2.1 x.2.1.2.1.2.2.2.2.1 x.2.1.2.1.2.2.2.2.2.1 x.2.1.2.1.2.2.2.2.2.2.1 x.2.1.2.1.2.2.2.2.2.2.2.1
def yA9 (x:(yge).X):(ybx).X:=(((x.1.1.1,()),(x.1.2.1.1,()),((),()),((),()),(false,()),(x.1.2.2.2.2.2.1.1,()),(x.1.2.2.2.2.2.2.1.1,()),(0,()),()),((x.2.1.1.1,x.2.1.1.2.1,x.2.1.1.2.2.1,(),x.2.1.1.2.2.2.2.1,x.2.1.1.2.2.2.2.2.1,x.2.1.1.2.2.2.2.2.2.1,x.2.1.1.2.2.2.2.2.2.2.1,x.2.1.1.2.2.2.2.2.2.2.2.1,(),x.2.1.1.2.2.2.2.2.2.2.2.2.2.1,x.2.1.1.2.2.2.2.2.2.2.2.2.2.2.1,x.2.1.1.2.2.2.2.2.2.2.2.2.2.2.2.1,()),(x.2.1.2.1.1,x.2.1.2.1.2.1,x.2.1.2.1.2.2.1,x.2.1.2.1.2.2.2.1,x.2.1.2.1.2.2.2.2.1,x.2.1.2.1.2.2.2.2.2.1,x.2.1.2.1.2.2.2.2.2.2.1,x.2.1.2.1.2.2.2.2.2.2.2.1,()),()),())
def yC1:Code:=(zdD yco 64 116).getD .skip
theorem yQ9:zdD yco 64 29=some (.block 0 (.loop yC1)):=by kernel_rfl
theorem yS7 (x:(ybx).X):zg0 ⟨ygx,109,yEM⟩ 0 yC1 116 ybx yf3 yk5 x=ybW x:=by kernel_rfl
def yBl (x:(yge).X):Nat:=18446744073709551616
def ysF (x:(yge).X):Option ((yf3).X ⊕ (yk5).X):=zz ybW (yBl x) (yA9 x)
def yBD:Seg:=⟨yge,yf3,yk5,ysF⟩
def yuT:Nat→Option Seg:=fun q=>bif Nat.beq q 29 then some yBD else yEM q
theorem yRB:FrOk Tryz.prog ⟨ygx,109,yuT⟩ yco:=(yRA).loop (sg:=yBD) ybx yA9 (by decide) yQ9 ybW yBl (by decide) (fun _=>rfl) (fun x r _ h=>h) yS7
def ya0:Shape:=⟨[(1,false,[.int .i64]),(4,false,[.ptr 0 0]),(12,false,[.ptr 46272 0]),(75,false,[.br tM]),(76,false,[.int .i64]),(77,false,[.int .i64])],[(0,[.int .i64,.int .i64,.int .i64,.nil,.int .i64,.int .i64,.int .i64,.int .i64,.int .i64,.nil,.int .i64,.bool,.bool]),(46272,[.int .i64,.int .i64,.int .i64,.at 800000000,.int .i64,.int .i64,.int .i64,.int .i64,.int .i64,.nil,.int .i64,.bool,.bool])],[(800000000,tM,(.pr (.ow (.ow .fz)) (.pr (.ow (.pr .fz (.ow .fz))) (.pr .fz (.ow .fz)))))]⟩
def ye6:Shape:=⟨[(1,false,[.int .i64]),(4,false,[.ptr 0 0]),(12,false,[.ptr 46272 0]),(75,false,[.br tM]),(76,false,[.int .i64]),(77,false,[.ci .i64 0])],[(0,[.int .i64,.int .i64,.int .i64,.nil,.int .i64,.int .i64,.int .i64,.int .i64,.int .i64,.nil,.int .i64,.bool,.bool]),(46272,[.int .i64,.int .i64,.int .i64,.at 800000000,.int .i64,.int .i64,.int .i64,.int .i64,.int .i64,.nil,.int .i64,.bool,.bool])],[(800000000,tM,(.pr (.ow (.ow .fz)) (.pr (.ow (.pr .fz (.ow .fz))) (.pr .fz (.ow .fz)))))]⟩
def yeX:Shape:=⟨[(4,false,[.ptr 0 0]),(12,false,[.ptr 46272 0])],[(0,[.int .i64,.int .i64,.int .i64,.nil,.int .i64,.int .i64,.int .i64,.int .i64,.int .i64,.nil,.int .i64,.bool,.bool]),(46272,[.int .i64,.int .i64,.int .i64,.at 800000000,.int .i64,.int .i64,.int .i64,.int .i64,.int .i64,.nil,.int .i64,.bool,.bool])],[(800000000,tM,(.pr (.ow (.ow .fz)) (.pr (.ow (.pr .fz (.ow .fz))) (.pr .fz (.ow .fz)))))]⟩
def yjr:Shape:=⟨[],[],[]⟩
abbrev yoI (v0:Int) (v1:List dM) (v2 v3:Int) (v4 v5:dA):(ya0).X:=(((v0,()),((),()),((),()),(v1,()),(v2,()),(v3,()),()),((v4.1,v4.2.1.1,v4.2.1.2,(),v4.2.2.2.1,v4.2.2.2.2.1,v4.2.2.2.2.2.1,v4.2.2.2.2.2.2.1,v4.2.2.2.2.2.2.2.1,(),v4.2.2.2.2.2.2.2.2.2.1,v4.2.2.2.2.2.2.2.2.2.2.1,v4.2.2.2.2.2.2.2.2.2.2.2,()),(v5.1,v5.2.1.1,v5.2.1.2,(),v5.2.2.2.1,v5.2.2.2.2.1,v5.2.2.2.2.2.1,v5.2.2.2.2.2.2.1,v5.2.2.2.2.2.2.2.1,(),v5.2.2.2.2.2.2.2.2.2.1,v5.2.2.2.2.2.2.2.2.2.2.1,v5.2.2.2.2.2.2.2.2.2.2.2,()),()),(v5.2.2.1,()))
abbrev yNP (v0:Int) (v1:List dM) (v2:Int) (v3 v4:dA):(ye6).X:=(((v0,()),((),()),((),()),(v1,()),(v2,()),((),()),()),((v3.1,v3.2.1.1,v3.2.1.2,(),v3.2.2.2.1,v3.2.2.2.2.1,v3.2.2.2.2.2.1,v3.2.2.2.2.2.2.1,v3.2.2.2.2.2.2.2.1,(),v3.2.2.2.2.2.2.2.2.2.1,v3.2.2.2.2.2.2.2.2.2.2.1,v3.2.2.2.2.2.2.2.2.2.2.2,()),(v4.1,v4.2.1.1,v4.2.1.2,(),v4.2.2.2.1,v4.2.2.2.2.1,v4.2.2.2.2.2.1,v4.2.2.2.2.2.2.1,v4.2.2.2.2.2.2.2.1,(),v4.2.2.2.2.2.2.2.2.2.1,v4.2.2.2.2.2.2.2.2.2.2.1,v4.2.2.2.2.2.2.2.2.2.2.2,()),()),(v4.2.2.1,()))
abbrev yz5 (v0 v1:dA):(yeX).X:=((((),()),((),()),()),((v0.1,v0.2.1.1,v0.2.1.2,(),v0.2.2.2.1,v0.2.2.2.2.1,v0.2.2.2.2.2.1,v0.2.2.2.2.2.2.1,v0.2.2.2.2.2.2.2.1,(),v0.2.2.2.2.2.2.2.2.2.1,v0.2.2.2.2.2.2.2.2.2.2.1,v0.2.2.2.2.2.2.2.2.2.2.2,()),(v1.1,v1.2.1.1,v1.2.1.2,(),v1.2.2.2.1,v1.2.2.2.2.1,v1.2.2.2.2.2.1,v1.2.2.2.2.2.2.1,v1.2.2.2.2.2.2.2.1,(),v1.2.2.2.2.2.2.2.2.2.1,v1.2.2.2.2.2.2.2.2.2.2.1,v1.2.2.2.2.2.2.2.2.2.2.2,()),()),(v1.2.2.1,()))
def yph (v0:Int) (v1:List dM) (v2 v3 v4 v5 v6 v7 v8 v9 v10 v11 v12:Int) (v13 v14:Bool) (v15 v16 v17 v18 v19 v20 v21 v22 v23:Int) (v24 v25:Bool) (v26:List dM):Option ((ya0).X ⊕ ((yeX).X ⊕ (yjr).X)) :=
 bif (ltb v3 v2) then
 bif (inb v3 v1.length) then
 let r6:=yei ((nth v1 v3 ([],[],false,[])).1,((nth v1 v3 ([],[],false,[])).2).1,(((nth v1 v3 ([],[],false,[])).2).2)) v3 v0
 bif r6.2 then
 some (.inl (((v0,()),((),()),((),()),(v1,()),(v2,()),((IntKind.i64.wrap (v3+1)),()),()),((v4,v5,v6,(),v7,v8,v9,v10,v11,(),v12,v13,v14,()),(v15,v16,v17,(),v18,v19,v20,v21,v22,(),v23,v24,v25,()),()),(v26,())))
 else
 bif (!(v18==(-1))) then
 bif (v18==v3) then
 some (.inl (((v0,()),((),()),((),()),(v1,()),(v2,()),((IntKind.i64.wrap (v3+1)),()),()),((v4,v5,v6,(),v7,v8,v9,v10,v11,(),v12,v13,v14,()),(v15,v16,v17,(),v3,0,v20,v21,v22,(),v23,v24,v25,()),()),(v26,())))
 else
 some (.inl (((v0,()),((),()),((),()),(v1,()),(v2,()),((IntKind.i64.wrap (v3+1)),()),()),((v4,v5,v6,(),v7,v8,v9,v10,v11,(),v12,v13,v14,()),(v15,v16,v17,(),v18,v19,v20,v21,v22,(),v23,v24,true,()),()),(v26,())))
 else
 some (.inl (((v0,()),((),()),((),()),(v1,()),(v2,()),((IntKind.i64.wrap (v3+1)),()),()),((v4,v5,v6,(),v7,v8,v9,v10,v11,(),v12,v13,v14,()),(v15,v16,v17,(),v3,0,v20,v21,v22,(),v23,v24,v25,()),()),(v26,())))
 else none
 else
 some (.inr (.inl ((((),()),((),()),()),((v4,v5,v6,(),v7,v8,v9,v10,v11,(),v12,v13,v14,()),(v15,v16,v17,(),v18,v19,v20,v21,v22,(),v23,v24,v25,()),()),(v26,()))))
def ybj (x:(ya0).X):=yph x.1.1.1 x.1.2.2.2.1.1 x.1.2.2.2.2.1.1 x.1.2.2.2.2.2.1.1 x.2.1.1.1 x.2.1.1.2.1 x.2.1.1.2.2.1 x.2.1.1.2.2.2.2.1 x.2.1.1.2.2.2.2.2.1 x.2.1.1.2.2.2.2.2.2.1 x.2.1.1.2.2.2.2.2.2.2.1 x.2.1.1.2.2.2.2.2.2.2.2.1 x.2.1.1.2.2.2.2.2.2.2.2.2.2.1 x.2.1.1.2.2.2.2.2.2.2.2.2.2.2.1 x.2.1.1.2.2.2.2.2.2.2.2.2.2.2.2.1 x.2.1.2.1.1 x.2.1.2.1.2.1 x.2.1.2.1.2.2.1 x.2.1.2.1.2.2.2.2.1 x.2.1.2.1.2.2.2.2.2.1 x.2.1.2.1.2.2.2.2.2.2.1 x.2.1.2.1.2.2.2.2.2.2.2.1 x.2.1.2.1.2.2.2.2.2.2.2.2.1 x.2.1.2.1.2.2.2.2.2.2.2.2.2.2.1 x.2.1.2.1.2.2.2.2.2.2.2.2.2.2.2.1 x.2.1.2.1.2.2.2.2.2.2.2.2.2.2.2.2.1 x.2.2.1
def yzF (x:(ye6).X):(ya0).X:=(((x.1.1.1,()),((),()),((),()),(x.1.2.2.2.1.1,()),(x.1.2.2.2.2.1.1,()),(0,()),()),((x.2.1.1.1,x.2.1.1.2.1,x.2.1.1.2.2.1,(),x.2.1.1.2.2.2.2.1,x.2.1.1.2.2.2.2.2.1,x.2.1.1.2.2.2.2.2.2.1,x.2.1.1.2.2.2.2.2.2.2.1,x.2.1.1.2.2.2.2.2.2.2.2.1,(),x.2.1.1.2.2.2.2.2.2.2.2.2.2.1,x.2.1.1.2.2.2.2.2.2.2.2.2.2.2.1,x.2.1.1.2.2.2.2.2.2.2.2.2.2.2.2.1,()),(x.2.1.2.1.1,x.2.1.2.1.2.1,x.2.1.2.1.2.2.1,(),x.2.1.2.1.2.2.2.2.1,x.2.1.2.1.2.2.2.2.2.1,x.2.1.2.1.2.2.2.2.2.2.1,x.2.1.2.1.2.2.2.2.2.2.2.1,x.2.1.2.1.2.2.2.2.2.2.2.2.1,(),x.2.1.2.1.2.2.2.2.2.2.2.2.2.2.1,x.2.1.2.1.2.2.2.2.2.2.2.2.2.2.2.1,x.2.1.2.1.2.2.2.2.2.2.2.2.2.2.2.2.1,()),()),(x.2.2.1,()))
def yAV:Code:=(zdD yco 64 1012).getD .skip
theorem yPC:zdD yco 64 253=some (.block 2 (.loop yAV)):=by kernel_rfl
theorem yQs (x:(ya0).X):zg0 ⟨ygx,109,yuT⟩ 2 yAV 1012 ya0 yeX yjr x=ybj x:=by kernel_rfl
def yzQ (x:(ye6).X):Nat:=18446744073709551616
def yqv (x:(ye6).X):Option ((yeX).X ⊕ (yjr).X):=zz ybj (yzQ x) (yzF x)
def yAA:Seg:=⟨ye6,yeX,yjr,yqv⟩
def yEN:Nat→Option Seg:=fun q=>bif Nat.beq q 253 then some yAA else yuT q
theorem yRC:FrOk Tryz.prog ⟨ygx,109,yEN⟩ yco:=(yRB).loop (sg:=yAA) ya0 yzF (by decide) yPC ybj yzQ (by decide) (fun _=>rfl) (fun x r _ h=>h) yQs
abbrev ygy:List Par:= [.rd tMs,.rd tI]
abbrev yri:List OT:= [⟨false,tA,(.pr .fz (.pr (.pr .fz .fz) (.pr (.ow (.pr (.ow (.ow .fz)) (.pr (.ow (.pr .fz (.ow .fz))) (.pr .fz (.ow .fz))))) (.pr .fz (.pr .fz (.pr .fz (.pr .fz (.pr .fz (.pr (.ow (.pr .fz (.ow .fz))) (.pr .fz (.pr .fz .fz)))))))))))⟩,⟨false,tB,.fz⟩]
def ymp (a0:List dM) (a1:Int):Option (ResD yri×MutD ygy) :=
 zjY (ysF (((a0,()),(a1,()),((),()),((),()),((),()),(a0,()),((a0.length:Int),()),((),()),()),((0,0,0,(),0,0,0,0,0,(),0,false,false,()),(0,0,0,0,0,0,0,0,()),()),())) (fun y2 =>
 bif (!(!y2.1.2.2.2.2.1.1)) then
 bif ((y2.1.1.1.length:Int) !=y2.2.1.2.1.2.2.2.1) then
 some (((0,(0,0),[],0,0,0,0,0,[],0,false,false),false,()),())
 else
 let r4:=ygW y2.1.1.1
 zjY (yqv (((y2.1.2.1.1,()),((),()),((),()),(y2.1.1.1,()),((y2.1.1.1.length:Int),()),((),()),()),((y2.2.1.1.1,y2.2.1.1.2.1,y2.2.1.1.2.2.1,(),y2.2.1.1.2.2.2.2.1,y2.2.1.1.2.2.2.2.2.1,y2.2.1.1.2.2.2.2.2.2.1,y2.2.1.1.2.2.2.2.2.2.2.1,y2.2.1.1.2.2.2.2.2.2.2.2.1,(),y2.2.1.1.2.2.2.2.2.2.2.2.2.2.1,y2.2.1.1.2.2.2.2.2.2.2.2.2.2.2.1,y2.2.1.1.2.2.2.2.2.2.2.2.2.2.2.2.1,()),(y2.1.2.1.1,y2.2.1.2.1.2.2.2.1,y2.2.1.2.1.2.2.2.2.1,(),y2.2.1.2.1.2.2.2.2.2.2.1,y2.2.1.2.1.2.2.2.2.2.2.2.1,y2.2.1.2.1.2.2.2.2.2.1,y2.2.1.2.1.2.2.2.2.2.1,y2.2.1.2.1.2.1,(),(-1),false,false,()),()),(r4,()))) (fun y6 =>
 let r8:=ybI (y6.2.1.2.1.1,(y6.2.1.2.1.2.1,y6.2.1.2.1.2.2.1),y6.2.2.1,y6.2.1.2.1.2.2.2.2.1,y6.2.1.2.1.2.2.2.2.2.1,y6.2.1.2.1.2.2.2.2.2.2.1,y6.2.1.2.1.2.2.2.2.2.2.2.1,y6.2.1.2.1.2.2.2.2.2.2.2.2.1,[],y6.2.1.2.1.2.2.2.2.2.2.2.2.2.2.1,y6.2.1.2.1.2.2.2.2.2.2.2.2.2.2.2.1,y6.2.1.2.1.2.2.2.2.2.2.2.2.2.2.2.2.1)
 bif (!r8) then
 some (((0,(0,0),[],0,0,0,0,0,[],0,false,false),false,()),())
 else
 some (((y6.2.1.2.1.1,(y6.2.1.2.1.2.1,y6.2.1.2.1.2.2.1),y6.2.2.1,y6.2.1.2.1.2.2.2.2.1,y6.2.1.2.1.2.2.2.2.2.1,y6.2.1.2.1.2.2.2.2.2.2.1,y6.2.1.2.1.2.2.2.2.2.2.2.1,y6.2.1.2.1.2.2.2.2.2.2.2.2.1,[],y6.2.1.2.1.2.2.2.2.2.2.2.2.2.2.1,y6.2.1.2.1.2.2.2.2.2.2.2.2.2.2.2.1,y6.2.1.2.1.2.2.2.2.2.2.2.2.2.2.2.2.1),true,()),())) (fun y6 =>
 none)
 else
 some (((0,(0,0),[],0,0,0,0,0,[],0,false,false),false,()),())) (fun y2 =>
 none)
theorem y1e (x:InD ygy):zjw ⟨ygx,109,yEN⟩ Tryz.f50.results.toList yco ygy yri x=ymp x.1 x.2.1:=by kernel_rfl
theorem yVp:ConOk Tryz.prog 50 ⟨ygy,yri,fun x=>ymp x.1 x.2.1⟩:=zj1 (yRC) Tryz.func50 (by kernel_rfl) (by kernel_rfl) Tryz.ntmps50.symm (by decide) (fun x r h=>(y1e x).trans h)
def yef (a0:List dM) (a1:Int):dA×Bool:=ycm a0 a1
theorem yYL (a0:List dM) (a1:Int) (hk:zi1 ygy (a0,a1,())):ymp a0 a1=(fun n=>some ((n.1,n.2,()),())) (yef a0 a1):=by
 have hb:a0.length * 80≤2 ^ 47:=hk.1.1
 have h0:ysF (yP5 a0 a1 a0 a0.length yK yaB)=some (.inl (yBv a0 a1 (yam a0 a1).2 yK (yam a0 a1).1)) :=
  zj8 (step:=ybW) a0.length (fun i (s:dS×Bool)=>yqF a0 a1 s.2 a0 a0.length i yK s.1) (fun (s:dS×Bool) (i:Nat)=>yp0 s (yoT (nth a0 i noMem) i a1) (yaW (nth a0 i noMem) a1).1) (fun _ _=>True) (fun (s:dS×Bool)=> .inl (yBv a0 a1 s.2 yK s.1)) (fun i s hi _=>⟨by
  simp only [ybW,yqF,yqV,zj4 (show (i:Int) < a0.length by omega),cond_true,wr (show -9223372036854775808≤(i:Int)+1 by omega) (by omega),Int.natCast_add,Int.natCast_one,Int.toNat_natCast,zkl hi,zkr,yei]
  cases yoT (nth a0 i noMem) i a1
  ·rfl
  simp only [cond_true]
  unfold yp0
  cases hf:s.2<;>cases ltb s.1.2.1 (yaW (nth a0 i noMem) a1).1.2.1<;>simp only [Bool.not_true,Bool.not_false,cond_true,cond_false,Bool.and_true,Bool.true_and,Bool.false_and,Bool.and_false,Bool.or_true,Bool.true_or,Bool.false_or,Bool.or_false,hf],trivial⟩) (fun s _=>by simp only [ybW,yqF,yqV,zkx (Int.le_refl _),cond_false]) (yaB,false) trivial _ (by show _ < 18446744073709551616; omega)
 have h1: ∀ (b:dS) (s:Int×Int×Bool),yqv (yNP a1 a0 a0.length yK (yjc b a0 a1 s))=some (.inl (yz5 yK (yjc b a0 a1 ((List.range a0.length).foldl (ynE a0 a1) s)))):=fun b s =>
  zj8 (step:=ybj) a0.length (fun i s=>yoI a1 a0 a0.length i yK (yjc b a0 a1 s)) (ynE a0 a1) (fun _ _=>True) (fun s=> .inl (yz5 yK (yjc b a0 a1 s))) (fun i s hi _=>⟨by
   simp only [ybj,yoI,yph,zj4 (show (i:Int) < a0.length by omega),cond_true,wr (show -9223372036854775808≤(i:Int)+1 by omega) (by omega),Int.natCast_add,Int.natCast_one,Int.toNat_natCast,zkl hi,zkr,yei,yjc]
   unfold ynE
   cases yoT (nth a0 i noMem) i a1<;>cases (s.1== -1)<;>cases (s.1==(i:Int))<;>rfl,trivial⟩) (fun s _=>by simp only [ybj,yoI,yph,zkx (Int.le_refl _),cond_false]) s trivial _ (by show _ < 18446744073709551616; omega)
 unfold ymp yef ycm yMD
 refine (congrArg (fun z=>zjY z _ _) h0).trans ?_
 simp only [zkh,ygW,bne]
 cases (yam a0 a1).2
 ·rfl
 cases ((a0.length:Int)==(yam a0 a1).1.2.2.2.1)
 ·rfl
 have h2:=h1 (yam a0 a1).1 ((yam a0 a1).1.2.2.2.2.2.2.1,(yam a0 a1).1.2.2.2.2.2.2.2,false)
 simp only [Bool.not_true,Bool.not_false,cond_true,cond_false,Bool.true_and]
 refine (congrArg (fun z=>zjY z _ _) h2).trans ?_
 simp only [zkh,ybI]
 show (bif !(yE (yjc (yam a0 a1).1 a0 a1 ((List.range a0.length).foldl (ynE a0 a1) ((yam a0 a1).1.2.2.2.2.2.2.1,(yam a0 a1).1.2.2.2.2.2.2.2,false)))) then _ else _)=_
 cases yE (yjc (yam a0 a1).1 a0 a1 ((List.range a0.length).foldl (ynE a0 a1) ((yam a0 a1).1.2.2.2.2.2.2.1,(yam a0 a1).1.2.2.2.2.2.2.2,false)))<;>rfl
def yvb:Con:=⟨ygy,yri,fun x=>(fun n=>some ((n.1,n.2,()),())) (yef x.1 x.2.1)⟩
theorem yIs:ConOk Tryz.prog 50 yvb:=(yVp).mono (fun x r hk h=>(yYL x.1 x.2.1 hk).trans h)
end
section
def yst:Code:=(Tryz.f94.body).getD .skip
def yyA:Env:=zj2 TT [] []
theorem y2b:FrOk Tryz.prog ⟨yyA,32,fun _=>none⟩ yst:=zj6 yc yd trivial
def yL6:Nat→Option Seg:=fun _=>none
def ygQ:Shape:=⟨[(0,false,[.fz tY]),(3,false,[.int .i64]),(4,false,[.int .i64])],[],[]⟩
def yrh:Shape:=⟨[(0,false,[.fz tY]),(3,false,[.int .i64]),(4,false,[.ci .i64 0])],[],[]⟩
def yrg:Shape:=⟨[(0,false,[.fz tY]),(3,false,[.int .i64])],[],[]⟩
def yrK:Shape:=⟨[],[],[]⟩
def yIY (v0:List Int) (v1 v2:Int):Option ((ygQ).X ⊕ ((yrg).X ⊕ (yrK).X)) :=
 bif (ltb v2 (v0.length:Int)) then
 bif (ltb v2 4000) then
 bif (inb v2 v0.length) then
 some (.inl (((v0,()),((IntKind.i64.wrap ((BitVec.ofInt IntKind.i64.bits (IntKind.i64.wrap ((IntKind.i64.wrap ((IntKind.i64.wrap (v1 * 137))+(IntKind.i64.wrap (nth v0 v2 0))))+11)) &&& BitVec.ofInt IntKind.i64.bits 1073741823).toNat:Int)),()),((IntKind.i64.wrap (v2+1)),()),()),(),()))
 else none
 else
 some (.inr (.inl (((v0,()),(v1,()),()),(),())))
 else
 some (.inr (.inl (((v0,()),(v1,()),()),(),())))
def yhY (x:(ygQ).X):=yIY x.1.1.1 x.1.2.1.1 x.1.2.2.1.1
def yHQ (x:(yrh).X):(ygQ).X:=(((x.1.1.1,()),(x.1.2.1.1,()),(0,()),()),(),())
def yKk:Code:=(zdD yst 64 116).getD .skip
theorem y0X:zdD yst 64 29=some (.block 0 (.loop yKk)):=by kernel_rfl
theorem y4n (x:(ygQ).X):zg0 ⟨yyA,32,yL6⟩ 0 yKk 116 ygQ yrg yrK x=yhY x:=by kernel_rfl
def yH6 (x:(yrh).X):Nat:=18446744073709551616
def yyP (x:(yrh).X):Option ((yrg).X ⊕ (yrK).X):=zz yhY (yH6 x) (yHQ x)
def yIR:Seg:=⟨yrh,yrg,yrK,yyP⟩
def yL7:Nat→Option Seg:=fun q=>bif Nat.beq q 29 then some yIR else yL6 q
theorem y2c:FrOk Tryz.prog ⟨yyA,32,yL7⟩ yst:=(y2b).loop (sg:=yIR) ygQ yHQ (by decide) y0X yhY yH6 (by decide) (fun _=>rfl) (fun x r _ h=>h) y4n
abbrev ynf:List Par:= [.kp tYs .fz]
abbrev yzb:List OT:= [⟨true,tU,.fz⟩]
def yit (a0:List Int):Option (ResD yzb×MutD ynf) :=
 zjY (yyP (((a0,()),((IntKind.i64.wrap (770770+(a0.length:Int))),()),((),()),()),(),())) (fun y0 =>
 some (((y0.1.1.1,0,y0.1.2.1.1),()),())) (fun y0 =>
 none)
theorem y9y (x:InD ynf):zjw ⟨yyA,32,yL7⟩ Tryz.f94.results.toList yst ynf yzb x=yit x.1:=by kernel_rfl
theorem y6s:ConOk Tryz.prog 94 ⟨ynf,yzb,fun x=>yit x.1⟩:=zj1 (y2c) Tryz.func94 (by kernel_rfl) (by kernel_rfl) Tryz.ntmps94.symm (by decide) (fun x r h=>(y9y x).trans h)
def yaO (a0:List Int):List Int×Int×Int:=(((yit a0).getD (((([]:List Int),(0:Int),(0:Int)),()),())).1).1
def yA (u:List Int×Int×Int):Prop:=0≤u.2.1∧(u.1.length:Int)≤140737488355328
theorem y9Q (a0:List Int) (hb:a0.length≤140737488355328): ∃ s:Int,yit a0=some (((a0,0,s),()),()):=by
 have hl: ∃ b,yyP (((a0,()),((IntKind.i64.wrap (770770+(a0.length:Int))),()),((),()),()),(),())=some b∧(∃ s:Int,b= .inl (((a0,()),(s,()),()),(),())):=by
  refine ziO (step:=yhY) (fun x=>(a0.length - (x.1.2.2.1.1:Int).toNat)) (fun x=>(x.1.1.1:List Int)=a0∧(0:Int)≤(x.1.2.2.1.1:Int)) _ ?_ _ _ ⟨rfl,Int.le_refl _⟩ (by show a0.length - _ < 18446744073709551616; omega)
  rintro ⟨⟨⟨(l:List Int),_⟩,⟨(s:Int),_⟩,⟨(i:Int),_⟩,_⟩,_,_⟩ ⟨h0,hi⟩
  simp only at h0 hi
  subst h0
  simp only [yhY,yIY]
  by_cases h1:i < (l.length:Int)
  ·rw [zj4 h1]
   by_cases h2:i < 4000
   ·rw [zj4 h2,zjC.2 ⟨hi,h1⟩]
    refine .inl ⟨_,rfl,⟨rfl,?_⟩,?_⟩
    ·show 0≤IntKind.i64.wrap (i+1); rw [wr (by omega) (by omega)]; omega
    ·show l.length - (IntKind.i64.wrap (i+1)).toNat < l.length - i.toNat; rw [wr (by omega) (by omega)]; omega
   ·rw [zkx (Int.not_lt.1 h2)]
    exact .inr ⟨_,rfl,_,rfl⟩
  ·rw [zkx (Int.not_lt.1 h1)]
   exact .inr ⟨_,rfl,_,rfl⟩
 obtain ⟨b,e,s,rfl⟩:=hl
 refine ⟨s,?_⟩
 unfold yit
 rw [e]; rfl
theorem y8J (a0:List Int) (hk:zi1 ynf (a0,())):yit a0=(fun n=>some ((n,()),())) (yaO a0):=by
 obtain ⟨s,e⟩:=y9Q a0 (by have:a0.length * 1≤2 ^ 47:=hk.1.1; omega)
 unfold yaO
 rw [e]; rfl
theorem yHH (a0:List Int) (hb:a0.length≤140737488355328):yA (yaO a0):=by
 obtain ⟨s,e⟩:=y9Q a0 hb
 unfold yaO
 rw [e]
 exact ⟨Int.le_refl _,by show (a0.length:Int)≤_; omega⟩
def yds:Con:=⟨ynf,yzb,fun x=>(fun n=>some ((n,()),())) (yaO x.1)⟩
theorem yhb:ConOk Tryz.prog 94 yds:=(y6s).mono (fun x r hk h=>(y8J x.1 hk).trans h)
end
section
def yOD:Code:=(Tryz.f96.body).getD .skip
def yPe:Env:=zj2 TT [] []
theorem yXH:FrOk Tryz.prog ⟨yPe,15,fun _=>none⟩ yOD:=zj6 yc yd trivial
def y0G:Nat→Option Seg:=fun _=>none
abbrev ypO:List Par:= [.rd tYs,.rd tI]
abbrev ywF:List OT:= [⟨false,tI,.fz⟩]
def yAu (a0:List Int) (a1:Int):Option (ResD ywF×MutD ypO) :=
 bif (ltb a1 (IntKind.i64.wrap (3+(IntKind.i64.wrap ((a0.length:Int).tdiv 12))))) then
 some ((a1,()),())
 else
 some (((IntKind.i64.wrap (3+(IntKind.i64.wrap ((a0.length:Int).tdiv 12)))),()),())
theorem y8b (x:InD ypO):zjw ⟨yPe,15,y0G⟩ Tryz.f96.results.toList yOD ypO ywF x=yAu x.1 x.2.1:=by kernel_rfl
theorem y3C:ConOk Tryz.prog 96 ⟨ypO,ywF,fun x=>yAu x.1 x.2.1⟩:=zj1 (yXH) Tryz.func96 (by kernel_rfl) (by kernel_rfl) Tryz.ntmps96.symm (by decide) (fun x r h=>(y8b x).trans h)
def yaq (a0:List Int) (a1:Int):Int :=
 bif (ltb a1 (IntKind.i64.wrap (3+(IntKind.i64.wrap ((a0.length:Int).tdiv 12))))) then
 a1
 else
 (IntKind.i64.wrap (3+(IntKind.i64.wrap ((a0.length:Int).tdiv 12))))
def ycp:Con:=⟨ypO,ywF,fun x=>(fun n=>some ((n,()),())) (yaq x.1 x.2.1)⟩
theorem y51 (a0:List Int) (a1:Int):yAu a0 a1=(fun n=>some ((n,()),())) (yaq a0 a1):=zkp (p:=fun (n:Int)=>((n,()),())) (zkb (p:=fun (n:Int)=>((n,()),())) rfl rfl)
theorem yfJ:ConOk Tryz.prog 96 ycp:=(y3C).mono (fun x r _ h=>(y51 x.1 x.2.1).trans h)
theorem yB7 (l:List Int) (n:Int) (hn:0≤n) (hl:l.length≤140737488355328):0≤yaq l n∧yaq l n≤n:=by
 unfold yaq
 have h1:0≤(l.length:Int).tdiv 12:=Int.tdiv_nonneg (by omega) (by omega)
 have h2:(l.length:Int).tdiv 12≤(l.length:Int):=by
  rw [Int.tdiv_eq_ediv_of_nonneg (by omega)]
  exact Int.ediv_le_self _ (by omega)
 rw [wr (show -9223372036854775808≤(l.length:Int).tdiv 12 by omega) (by omega),wr (show -9223372036854775808≤3+(l.length:Int).tdiv 12 by omega) (by omega)]
 by_cases h:n < 3+(l.length:Int).tdiv 12
 ·rw [zj4 h]; exact ⟨hn,Int.le_refl _⟩
 ·rw [zkx (by omega),cond_false]; omega
end
section
def yOA:Code:=(Tryz.f234.body).getD .skip
def yPb:Env:=zj2 TT [] []
theorem yXE:FrOk Tryz.prog ⟨yPb,58,fun _=>none⟩ yOA:=zj6 yc yd trivial
def y0D:Nat→Option Seg:=fun _=>none
abbrev ypL:List Par:= [.pt tU .fz]
abbrev ywC:List OT:= [⟨false,tI,.fz⟩]
def ybd (a0:dU):Option (ResD ywC×MutD ypL) :=
 bif (ltb a0.2.1 (a0.1.length:Int)) then
 bif (inb a0.2.1 a0.1.length) then
 some (((IntKind.i64.wrap ((BitVec.ofInt IntKind.i64.bits (IntKind.i64.wrap ((IntKind.i64.wrap ((BitVec.ofInt IntKind.i64.bits (IntKind.i64.wrap ((BitVec.ofInt IntKind.i64.bits ((IntKind.i64.wrap ((IntKind.i64.wrap (a0.2.2 * 6364136223846793005))+1442695040888963407)).fdiv (2 ^ (min (33:Int).toNat IntKind.i64.bits))) ^^^ BitVec.ofInt IntKind.i64.bits ((IntKind.i64.wrap ((IntKind.i64.wrap (a0.2.2 * 6364136223846793005))+1442695040888963407)).fdiv (2 ^ (min (47:Int).toNat IntKind.i64.bits)))).toNat:Int)) &&& BitVec.ofInt IntKind.i64.bits 255).toNat:Int))+(IntKind.i64.wrap (nth a0.1 a0.2.1 0)))) &&& BitVec.ofInt IntKind.i64.bits 255).toNat:Int)),()),((a0.1,(IntKind.i64.wrap (a0.2.1+1)),(IntKind.i64.wrap ((IntKind.i64.wrap (a0.2.2 * 6364136223846793005))+1442695040888963407))),()))
 else none
 else
 some (((IntKind.i64.wrap ((BitVec.ofInt IntKind.i64.bits (IntKind.i64.wrap ((BitVec.ofInt IntKind.i64.bits ((IntKind.i64.wrap ((IntKind.i64.wrap (a0.2.2 * 6364136223846793005))+1442695040888963407)).fdiv (2 ^ (min (33:Int).toNat IntKind.i64.bits))) ^^^ BitVec.ofInt IntKind.i64.bits ((IntKind.i64.wrap ((IntKind.i64.wrap (a0.2.2 * 6364136223846793005))+1442695040888963407)).fdiv (2 ^ (min (47:Int).toNat IntKind.i64.bits)))).toNat:Int)) &&& BitVec.ofInt IntKind.i64.bits 255).toNat:Int)),()),((a0.1,a0.2.1,(IntKind.i64.wrap ((IntKind.i64.wrap (a0.2.2 * 6364136223846793005))+1442695040888963407))),()))
theorem y78 (x:InD ypL):zjw ⟨yPb,58,y0D⟩ Tryz.f234.results.toList yOA ypL ywC x=ybd x.1:=by kernel_rfl
theorem y3z:ConOk Tryz.prog 234 ⟨ypL,ywC,fun x=>ybd x.1⟩:=zj1 (yXE) Tryz.func234 (by kernel_rfl) (by kernel_rfl) Tryz.ntmps234.symm (by decide) (fun x r h=>(y78 x).trans h)
def yKD:Con:=⟨ypL,ywC,fun x=>ybd x.1⟩
theorem y6Q:ConOk Tryz.prog 234 yKD:=y3z
theorem yabf (x:Int):0≤IntKind.i64.wrap ((BitVec.ofInt IntKind.i64.bits x &&& BitVec.ofInt IntKind.i64.bits 255).toNat:Int)∧IntKind.i64.wrap ((BitVec.ofInt IntKind.i64.bits x &&& BitVec.ofInt IntKind.i64.bits 255).toNat:Int)≤255:=by
 have h:(BitVec.ofInt IntKind.i64.bits x &&& BitVec.ofInt IntKind.i64.bits 255).toNat≤255:=by
  rw [BitVec.toNat_and]
  exact Nat.le_trans Nat.and_le_right (by decide)
 rw [wr (by omega) (by omega)]
 omega
theorem yTq (u:List Int×Int×Int) (h:yA u): ∃ (r:Int) (u':List Int×Int×Int),ybd u=some ((r,()),(u',()))∧(0≤r∧r≤255)∧yA u':=by
 unfold ybd
 by_cases h1:u.2.1 < (u.1.length:Int)
 ·rw [zj4 h1,zjC.2 ⟨h.1,h1⟩]
  refine ⟨_,_,rfl,yabf _,?_,h.2⟩
  show 0≤IntKind.i64.wrap (u.2.1+1)
  have:=h.1; have:=h.2
  rw [wr (by omega) (by omega)]; omega
 ·rw [zkx (Int.not_lt.1 h1)]
  exact ⟨_,_,rfl,yabf _,h⟩
end
section
def yLP:Code:=(Tryz.f150.body).getD .skip
def yMw:Env:=zj2 TT [(234,yKD)] []
theorem yUH:FrOk Tryz.prog ⟨yMw,31,fun _=>none⟩ yLP:=zj6 yc yd ⟨y6Q,trivial⟩
def yWJ:Nat→Option Seg:=fun _=>none
abbrev yne:List Par:= [.pt tU .fz,.rd tI]
abbrev yuk:List OT:= [⟨false,tI,.fz⟩]
def yb (a0:dU) (a1:Int):Option (ResD yuk×MutD yne) :=
 bif (leb a1 0) then
 some ((0,()),(a0,()))
 else
 bif (leb a1 256) then
 bnd (ybd a0) fun r1 =>
 bif (a1 !=0) then
 some (((r1.1.1.tmod a1),()),(r1.2.1,()))
 else none
 else
 bnd (ybd a0) fun r2 =>
 bnd (ybd r2.2.1) fun r3 =>
 bnd (ybd r3.2.1) fun r4 =>
 bif (a1 !=0) then
 some ((((IntKind.i64.wrap ((IntKind.i64.wrap ((IntKind.i64.wrap (r2.1.1 * 65536))+(IntKind.i64.wrap (r3.1.1 * 256))))+r4.1.1)).tmod a1),()),(r4.2.1,()))
 else none
theorem y5h (x:InD yne):zjw ⟨yMw,31,yWJ⟩ Tryz.f150.results.toList yLP yne yuk x=yb x.1 x.2.1:=by kernel_rfl
theorem yZx:ConOk Tryz.prog 150 ⟨yne,yuk,fun x=>yb x.1 x.2.1⟩:=zj1 (yUH) Tryz.func150 (by kernel_rfl) (by kernel_rfl) Tryz.ntmps150.symm (by decide) (fun x r h=>(y5h x).trans h)
def ym:Con:=⟨yne,yuk,fun x=>yb x.1 x.2.1⟩
theorem yv:ConOk Tryz.prog 150 ym:=yZx
theorem yp (u:List Int×Int×Int) (n:Int) (h:yA u): ∃ (r:Int) (u':List Int×Int×Int),yb u n=some ((r,()),(u',()))∧(0≤r∧(0 < n→r < n)∧(n≤0→r=0))∧yA u':=by
 unfold yb
 by_cases h0:n≤0
 ·rw [zkw h0]
  exact ⟨_,_,rfl,⟨Int.le_refl _,fun h=>absurd h0 (by omega),fun _=>rfl⟩,h⟩
 ·have hn:(n !=0)=true:=bne_iff_ne.2 (by omega)
  have key: ∀ x:Int,0≤x→0≤x.tmod n∧(0 < n→x.tmod n < n)∧(n≤0→x.tmod n=0):=fun x hx =>
   ⟨Int.tmod_nonneg n hx,fun hp=>Int.tmod_lt_of_pos x hp,fun hp=>absurd hp h0⟩
  rw [zkv (by omega)]
  by_cases h1:n≤256
  ·rw [zkw h1]
   obtain ⟨r1,u1,e1,q1,d1⟩:=yTq u h
   rw [e1,zkt,zku,zkc,hn]
   exact ⟨_,_,rfl,key r1 q1.1,d1⟩
  ·rw [zkv (by omega)]
   obtain ⟨r1,u1,e1,q1,d1⟩:=yTq u h
   obtain ⟨r2,u2,e2,q2,d2⟩:=yTq u1 d1
   obtain ⟨r3,u3,e3,q3,d3⟩:=yTq u2 d2
   simp only [e1,e2,e3,zkt,zkc,hn,zku]
   refine ⟨_,_,rfl,key _ ?_,d3⟩
   rw [wr (show -9223372036854775808≤r1 * 65536 by omega) (by omega),wr (show -9223372036854775808≤r2 * 256 by omega) (by omega),wr (show -9223372036854775808≤r1 * 65536+r2 * 256 by omega) (by omega),wr (by omega) (by omega)]
   omega
end
section
def yOG:Code:=(Tryz.f139.body).getD .skip
def yPh:Env:=zj2 TT [] []
theorem yXY:FrOk Tryz.prog ⟨yPh,6,fun _=>none⟩ yOG:=zj6 yc yd trivial
def y0J:Nat→Option Seg:=fun _=>none
abbrev ypT:List Par:= [.rd tG]
abbrev ywM:List OT:= [⟨false,tI,.fz⟩]
def yAw (a0:dG):Option (ResD ywM×MutD ypT) :=
 some (((IntKind.i64.wrap (6+a0.2)),()),())
theorem y8k (x:InD ypT):zjw ⟨yPh,6,y0J⟩ Tryz.f139.results.toList yOG ypT ywM x=yAw x.1:=by kernel_rfl
theorem y3L:ConOk Tryz.prog 139 ⟨ypT,ywM,fun x=>yAw x.1⟩:=zj1 (yXY) Tryz.func139 (by kernel_rfl) (by kernel_rfl) Tryz.ntmps139.symm (by decide) (fun x r h=>(y8k x).trans h)
def ycT (a0:dG):Int :=
 (IntKind.i64.wrap (6+a0.2))
def yrV:Con:=⟨ypT,ywM,fun x=>(fun n=>some ((n,()),())) (ycT x.1)⟩
theorem y57 (a0:dG):yAw a0=(fun n=>some ((n,()),())) (ycT a0):=zkp (p:=fun (n:Int)=>((n,()),())) rfl
theorem yCd:ConOk Tryz.prog 139 yrV:=(y3L).mono (fun x r _ h=>(y57 x.1).trans h)
end
section
def yOE:Code:=(Tryz.f181.body).getD .skip
def yPf:Env:=zj2 TT [(135,yq)] []
theorem yXI:FrOk Tryz.prog ⟨yPf,5,fun _=>none⟩ yOE:=zj6 yc yd ⟨yy,trivial⟩
def y0H:Nat→Option Seg:=fun _=>none
abbrev ypP:List Par:= [.rd tI]
abbrev ywG:List OT:= [⟨false,tB,.fz⟩]
def yAv (a0:Int):Option (ResD ywG×MutD ypP) :=
 let r1:=ya a0 0 65535
 some ((r1,()),())
theorem y8c (x:InD ypP):zjw ⟨yPf,5,y0H⟩ Tryz.f181.results.toList yOE ypP ywG x=yAv x.1:=by kernel_rfl
theorem y3D:ConOk Tryz.prog 181 ⟨ypP,ywG,fun x=>yAv x.1⟩:=zj1 (yXI) Tryz.func181 (by kernel_rfl) (by kernel_rfl) Tryz.ntmps181.symm (by decide) (fun x r h=>(y8c x).trans h)
def yar (a0:Int):Bool :=
 let r1:=ya a0 0 65535
 r1
def yKE:Con:=⟨ypP,ywG,fun x=>(fun n=>some ((n,()),())) (yar x.1)⟩
theorem y52 (a0:Int):yAv a0=(fun n=>some ((n,()),())) (yar a0):=zkp (p:=fun (n:Bool)=>((n,()),())) rfl
theorem y6R:ConOk Tryz.prog 181 yKE:=(y3D).mono (fun x r _ h=>(y52 x.1).trans h)
end
end
end Go.Tf
