/- Functions of the program, and what they come to. -/
import Derived.Test.YtgmadfpnljibhaaGreatExactSetBlockF8
namespace Go.Tf
noncomputable section
open Go.Proofs
set_option synthInstance.maxHeartbeats 400000
set_option synthInstance.maxSize 10000
set_option linter.unusedVariables false
set_option linter.unusedSimpArgs false
set_option maxRecDepth 100000
section
def yBG:Code:=(Tryz.f48.body).getD .skip
def yB3:Env:=zki TT [(135,yl)] []
theorem yHK:FrOk Tryz.prog ⟨yB3,34,fun _=>none⟩ yBG:=zkp yb yc ⟨yv,trivial⟩
def yJQ:Nat→Option Seg:=fun _=>none
abbrev yfq:List Par:= [.rd tA,.rd tI,.rd tI]
abbrev yo0:List OT:= [⟨false,tB,.fz⟩]
def ylh (a0:dA) (a1 a2:Int):Option (ResD yo0×MutD yfq) :=
 let r1:=ya a1 0 (IntKind.i64.wrap ((a0.2.2.1.length:Int) - 1))
 bif r1 then
 bif (inb a1 a0.2.2.1.length) then
 bif (!((((nth a0.2.2.1 a1 ([],[],false,[])).2).2).1)) then
 bif (!(a1 !=a0.2.2.2.1)) then
 some (((ltb a2 a0.2.2.2.2.1),()),())
 else
 some ((true,()),())
 else
 some ((false,()),())
 else none
 else
 some ((false,()),())
theorem yP7 (x:InD yfq):zjH ⟨yB3,34,yJQ⟩ Tryz.f48.results.toList yBG yfq yo0 x=ylh x.1 x.2.1 x.2.2.1:=by kernel_rfl
theorem yL8:ConOk Tryz.prog 48 ⟨yfq,yo0,fun x=>ylh x.1 x.2.1 x.2.2.1⟩:=zkh (yHK) Tryz.func48 (by kernel_rfl) (by kernel_rfl) Tryz.ntmps48.symm (by decide) (fun x r h=>(yP7 x).trans h)
def yj6 (a0:dA) (a1 a2:Int):Bool:=yeV a0 a1 a2
theorem yOi (a0:dA) (a1 a2:Int) (hk:zi9 yfq (a0,a1,a2,())):ylh a0 a1 a2=(fun n=>some ((n,()),())) (yj6 a0 a1 a2):=by
 have hb:a0.2.2.1.length * 80≤2 ^ 47:=hk.1.2.2.1.1
 unfold ylh yj6 yeV yf
 rw [yrh (show a0.2.2.1.length≤1152921504606846976 by omega)]
 cases inb a1 a0.2.2.1.length
 ·rfl
 ·cases (nth a0.2.2.1 a1 ([],[],false,[])).2.2.1<;>cases (a1 !=a0.2.2.2.1)<;>rfl
def yzj:Con:=⟨yfq,yo0,fun x=>(fun n=>some ((n,()),())) (yj6 x.1 x.2.1 x.2.2.1)⟩
theorem yPd:ConOk Tryz.prog 48 yzj:=(yL8).mono (fun x r hk h=>(yOi x.1 x.2.1 x.2.2.1 hk).trans h)
end
section
def ylt:Code:=(Tryz.f238.body).getD .skip
def yqq:Env:=zki TT [] []
theorem yLd:FrOk Tryz.prog ⟨yqq,18,fun _=>none⟩ ylt:=zkp yb yc trivial
def yAd:Nat→Option Seg:=fun _=>none
def ybX:Shape:=⟨[(0,false,[.br tI]),(1,false,[.int .i64]),(5,false,[.int .i64])],[],[]⟩
def ygd:Shape:=⟨[(0,false,[.br tI]),(1,false,[.int .i64]),(5,false,[.ci .i64 0])],[],[]⟩
def yfY:Shape:=⟨[],[],[]⟩
def ygw:Shape:=⟨[(4,false,[.bool])],[],[]⟩
abbrev ypI (v0:List Int) (v1 v2:Int):(ybX).X:=(((v0,()),(v1,()),(v2,()),()),(),())
abbrev yIj (v0:List Int) (v1:Int):(ygd).X:=(((v0,()),(v1,()),((),()),()),(),())
abbrev yIa  :(yfY).X:=((),(),())
abbrev yIr (v0:Bool):(ygw).X:=(((v0,()),()),(),())
def yp0 (v0:List Int) (v1 v2:Int):Option ((ybX).X ⊕ ((yfY).X ⊕ (ygw).X)) :=
 bif (ltb v2 (v0.length:Int)) then
 bif (inb v2 v0.length) then
 bif ((nth v0 v2 0)==v1) then
 some (.inr (.inr (((true,()),()),(),())))
 else
 some (.inl (((v0,()),(v1,()),((IntKind.i64.wrap (v2+1)),()),()),(),()))
 else none
 else
 some (.inr (.inl ((),(),())))
def yco (x:(ybX).X):=yp0 x.1.1.1 x.1.2.1.1 x.1.2.2.1.1
def yxh (x:(ygd).X):(ybX).X:=(((x.1.1.1,()),(x.1.2.1.1,()),(0,()),()),(),())
def yy0:Code:=(zdI ylt 64 52).getD .skip
theorem yJ7:zdI ylt 64 13=some (.block 0 (.loop yy0)):=by kernel_rfl
theorem yMR (x:(ybX).X):zg7 ⟨yqq,18,yAd⟩ 0 yy0 52 ybX yfY ygw x=yco x:=by kernel_rfl
def yxv (x:(ygd).X):Nat:=18446744073709551616
def yqC (x:(ygd).X):Option ((yfY).X ⊕ (ygw).X):=zr yco (yxv x) (yxh x)
def yxT:Seg:=⟨ygd,yfY,ygw,yqC⟩
def yAe:Nat→Option Seg:=fun q=>bif Nat.beq q 13 then some yxT else yAd q
theorem yLe:FrOk Tryz.prog ⟨yqq,18,yAe⟩ ylt:=(yLd).loop (sg:=yxT) ybX yxh (by decide) yJ7 yco yxv (by decide) (fun _=>rfl) (fun x r _ h=>h) yMR
abbrev yh8:List Par:= [.rd tL,.rd tI]
abbrev yq4:List OT:= [⟨false,tB,.fz⟩]
def ynr (a0:List Int) (a1:Int):Option (ResD yq4×MutD yh8) :=
 zjw (yqC (((a0,()),(a1,()),((),()),()),(),())) (fun y0 =>
 some ((false,()),())) (fun y0 =>
 some ((y0.1.1.1,()),()))
theorem yRJ (x:InD yh8):zjH ⟨yqq,18,yAe⟩ Tryz.f238.results.toList ylt yh8 yq4 x=ynr x.1 x.2.1:=by kernel_rfl
theorem yOU:ConOk Tryz.prog 238 ⟨yh8,yq4,fun x=>ynr x.1 x.2.1⟩:=zkh (yLe) Tryz.func238 (by kernel_rfl) (by kernel_rfl) Tryz.ntmps238.symm (by decide) (fun x r h=>(yRJ x).trans h)
def ymc (a0:List Int) (a1:Int):Bool:=a0.any (· ==a1)
theorem yQL (a0:List Int) (a1:Int) (hk:zi9 yh8 (a0,a1,())):ynr a0 a1=(fun n=>some ((n,()),())) (ymc a0 a1):=by
 have hb:a0.length * 8≤2 ^ 47:=hk.1.1
 have h1:yqC (yIj a0 a1)=some (bif a0.all (· !=a1) then .inl yIa else .inr (yIr true)) :=
  zjS (step:=yco) a0 0 (fun i=>ypI a0 a1 i) (· !=a1) _ _ (fun i hi=>by
   simp only [yco,ypI,yp0,zjI (show (i:Int) < a0.length by omega),cond_true,wr (show -9223372036854775808≤(i:Int)+1 by omega) (by omega),Int.natCast_add,Int.natCast_one,Int.toNat_natCast,zkO hi,zjW,bne]
   cases (a0.getD i 0==a1)<;>rfl) (by simp only [yco,ypI,yp0,zkm (Int.le_refl _),cond_false]) _ (by show _ < 18446744073709551616; omega)
 unfold ynr ymc
 rw [h1,show a0.any (· ==a1)= !(a0.all (· !=a1)) by simp [List.all_eq_not_any_not,bne]]
 cases a0.all (· !=a1)<;>rfl
def yAL:Con:=⟨yh8,yq4,fun x=>(fun n=>some ((n,()),())) (ymc x.1 x.2.1)⟩
theorem yRc:ConOk Tryz.prog 238 yAL:=(yOU).mono (fun x r hk h=>(yQL x.1 x.2.1 hk).trans h)
end
section
def yhN:Code:=(Tryz.f159.body).getD .skip
def ymK:Env:=zki TT [(135,yl),(224,ysf),(238,yAL)] []
theorem yFu:FrOk Tryz.prog ⟨ymK,60,fun _=>none⟩ yhN:=zkp yb yc ⟨yv,yCi,yRc,trivial⟩
def ywk:Nat→Option Seg:=fun _=>none
def yaH:Shape:=⟨[(1,false,[.int .i64]),(2,false,[.ptr 0 0]),(6,false,[.br tI]),(7,false,[.int .i64])],[(0,[.br tL,.br tW,.bool,.br tI])],[]⟩
def ydV:Shape:=⟨[(1,false,[.int .i64]),(2,false,[.ptr 0 0]),(6,false,[.br tI]),(7,false,[.ci .i64 0])],[(0,[.br tL,.br tW,.bool,.br tI])],[]⟩
def ydL:Shape:=⟨[(6,false,[.br tI])],[],[]⟩
def yhh:Shape:=⟨[],[],[]⟩
abbrev yl5 (v0:Int) (v1:List Int) (v2:Int) (v3:dM):(yaH).X:=(((v0,()),((),()),(v1,()),(v2,()),()),((v3.1,v3.2.1,v3.2.2.1,v3.2.2.2,()),()),())
abbrev yD9 (v0:Int) (v1:List Int) (v2:dM):(ydV).X:=(((v0,()),((),()),(v1,()),((),()),()),((v2.1,v2.2.1,v2.2.2.1,v2.2.2.2,()),()),())
abbrev ytK (v0:List Int):(ydL).X:=(((v0,()),()),(),())
def ymv (v0:Int) (v1:List Int) (v2:Int) (v3:List (List Int)) (v4:List dW) (v5:Bool) (v6:List Int):Option ((yaH).X ⊕ ((ydL).X ⊕ (yhh).X)) :=
 bif (ltb v2 (v4.length:Int)) then
 bif (inb v2 v4.length) then
 bif ((nth v4 v2 (0,[])).1==v0) then
 bif (inb v2 v4.length) then
 some (.inl (((v0,()),((),()),((nth v4 v2 (0,[])).2,()),((IntKind.i64.wrap (v2+1)),()),()),((v3,v4,v5,v6,()),()),()))
 else none
 else
 some (.inl (((v0,()),((),()),(v1,()),((IntKind.i64.wrap (v2+1)),()),()),((v3,v4,v5,v6,()),()),()))
 else none
 else
 some (.inr (.inl (((v1,()),()),(),())))
def ya3 (x:(yaH).X):=ymv x.1.1.1 x.1.2.2.1.1 x.1.2.2.2.1.1 x.2.1.1.1 x.2.1.1.2.1 x.2.1.1.2.2.1 x.2.1.1.2.2.2.1
def yti (x:(ydV).X):(yaH).X:=(((x.1.1.1,()),((),()),(x.1.2.2.1.1,()),(0,()),()),((x.2.1.1.1,x.2.1.1.2.1,x.2.1.1.2.2.1,x.2.1.1.2.2.2.1,()),()),())
def yuI:Code:=(zdI yhN 64 244).getD .skip
theorem yEW:zdI yhN 64 61=some (.block 0 (.loop yuI)):=by kernel_rfl
theorem yGr (x:(yaH).X):zg7 ⟨ymK,60,ywk⟩ 0 yuI 244 yaH ydL yhh x=ya3 x:=by kernel_rfl
def ytA (x:(ydV).X):Nat:=18446744073709551616
def ynH (x:(ydV).X):Option ((ydL).X ⊕ (yhh).X):=zr ya3 (ytA x) (yti x)
def ytY:Seg:=⟨ydV,ydL,yhh,ynH⟩
def ywl:Nat→Option Seg:=fun q=>bif Nat.beq q 61 then some ytY else ywk q
theorem yFv:FrOk Tryz.prog ⟨ymK,60,ywl⟩ yhN:=(yFu).loop (sg:=ytY) yaH yti (by decide) yEW ya3 ytA (by decide) (fun _=>rfl) (fun x r _ h=>h) yGr
abbrev yer:List Par:= [.rd tM,.rd tI]
abbrev ym4:List OT:= [⟨false,tL,(.ow .fz)⟩,⟨false,tB,.fz⟩]
def yjl (a0:dM) (a1:Int):Option (ResD ym4×MutD yer) :=
 let r1:=ye1 a0
 bif (!(!r1)) then
 bif (!a0.2.2.1) then
 let r2:=ya a1 0 (IntKind.i64.wrap ((a0.1.length:Int) - 1))
 bif (!(!r2)) then
 let r3:=ymc a0.2.2.2 a1
 bif r3 then
 some ((([]:List Int),false,()),())
 else
 bif (inb a1 a0.1.length) then
 zjw (ynH (((a1,()),((),()),((nth a0.1 a1 []),()),((),()),()),((a0.1,a0.2.1,a0.2.2.1,a0.2.2.2,()),()),())) (fun y3 =>
 bif (zj4 ([]:List Int).length y3.1.1.1.length 8) then
 some (((([]:List Int)++y3.1.1.1),true,()),())
 else none) (fun y3 =>
 none)
 else none
 else
 some ((([]:List Int),false,()),())
 else
 some ((([]:List Int),false,()),())
 else
 some ((([]:List Int),false,()),())
theorem yND (x:InD yer):zjH ⟨ymK,60,ywl⟩ Tryz.f159.results.toList yhN yer ym4 x=yjl x.1 x.2.1:=by kernel_rfl
theorem yI1:ConOk Tryz.prog 159 ⟨yer,ym4,fun x=>yjl x.1 x.2.1⟩:=zkh (yFv) Tryz.func159 (by kernel_rfl) (by kernel_rfl) Tryz.ntmps159.symm (by decide) (fun x r h=>(yND x).trans h)
def yiq (a0:dM) (a1:Int):List Int×Bool:=ysD a0 a1
theorem yLG (a0:dM) (a1:Int) (hk:zi9 yer (a0,a1,())):yjl a0 a1=(fun n=>some ((n.1,n.2,()),())) (yiq a0 a1):=by
 have hb1:a0.1.length * 24≤2 ^ 47:=hk.1.1.1
 have hb2:a0.2.1.length * 32≤2 ^ 47:=hk.1.2.1.1
 have h1: ∀ s,ynH (yD9 a1 s a0)=some (.inl (ytK (yA3 a1 a0.2.1 s))):=fun s =>
  zkk (step:=ya3) a0.2.1 (0,[]) (fun i s=>yl5 a1 s i a0) (fun s w=>bif w.1==a1 then w.2 else s) (fun _ _=>True) (fun s=> .inl (ytK s)) (fun i s hi _=>⟨by
   simp only [ya3,yl5,ymv,zjI (show (i:Int) < a0.2.1.length by omega),cond_true,wr (show -9223372036854775808≤(i:Int)+1 by omega) (by omega),Int.natCast_add,Int.natCast_one,Int.toNat_natCast,zkO hi,zjW]
   cases ((a0.2.1.getD i (0,[])).1==a1)<;>rfl,trivial⟩) (fun s _=>by simp only [ya3,yl5,ymv,zkm (Int.le_refl _),cond_false]) s trivial _ (by show _ < 18446744073709551616; omega)
 unfold yjl yiq ysD yNk
 rw [yrh (show a0.1.length≤1152921504606846976 by omega)]
 unfold ye1 ymc
 simp only [h1,zkJ,List.nil_append]
 cases yK a0
 ·rfl
 cases a0.2.2.1
 ·cases hi:inb a1 a0.1.length
  ·rfl
  ·cases a0.2.2.2.any (· ==a1)
   ·have hs:(yA3 a1 a0.2.1 (nth a0.1 a1 [])).length * 8≤2 ^ 47 :=
     yLo (P:=fun s=>s.length * 8≤2 ^ 47) (yOt (P:=fun s:List Int=>s.length * 8≤2 ^ 47) hi fun x hx=>(hk.1.1.2 x hx).1) fun w hw=>(hk.1.2.1.2 w hw).2.1
    simp only [Bool.not_true,Bool.not_false,cond_true,cond_false,Bool.true_and,show zj4 ([]:List Int).length (yA3 a1 a0.2.1 (nth a0.1 a1 [])).length 8=true from zkw.2 (by rw [List.length_nil]; omega)]
   ·rfl
 ·rfl
def yw2:Con:=⟨yer,ym4,fun x=>(fun n=>some ((n.1,n.2,()),())) (yiq x.1 x.2.1)⟩
theorem yMA:ConOk Tryz.prog 159 yw2:=(yI1).mono (fun x r hk h=>(yLG x.1 x.2.1 hk).trans h)
end
section
def yBK:Code:=(Tryz.f215.body).getD .skip
def yB7:Env:=zki TT [(48,yzj),(141,yzh),(159,yw2)] []
theorem yHY:FrOk Tryz.prog ⟨yB7,36,fun _=>none⟩ yBK:=zkp yb yc ⟨yPd,yPb,yMA,trivial⟩
def yJU:Nat→Option Seg:=fun _=>none
abbrev yft:List Par:= [.rd tA,.rd tI,.rd tI]
abbrev yo6:List OT:= [⟨false,tI,.fz⟩,⟨false,tB,.fz⟩]
def ylm (a0:dA) (a1 a2:Int):Option (ResD yo6×MutD yft) :=
 let r1:=yj6 a0 a1 a2
 bif (!r1) then
 some ((0,false,()),())
 else
 bif (inb a1 a0.2.2.1.length) then
 let r2:=yj4 a2
 let r3:=yiq ((nth a0.2.2.1 a1 ([],[],false,[])).1,((nth a0.2.2.1 a1 ([],[],false,[])).2).1,(((nth a0.2.2.1 a1 ([],[],false,[])).2).2)) r2
 bif (!(!r3.2)) then
 bif ((r3.1.length:Int) !=1) then
 some ((0,false,()),())
 else
 bif (inb 0 r3.1.length) then
 some (((nth r3.1 0 0),true,()),())
 else none
 else
 some ((0,false,()),())
 else none
theorem yQf (x:InD yft):zjH ⟨yB7,36,yJU⟩ Tryz.f215.results.toList yBK yft yo6 x=ylm x.1 x.2.1 x.2.2.1:=by kernel_rfl
theorem yMg:ConOk Tryz.prog 215 ⟨yft,yo6,fun x=>ylm x.1 x.2.1 x.2.2.1⟩:=zkh (yHY) Tryz.func215 (by kernel_rfl) (by kernel_rfl) Tryz.ntmps215.symm (by decide) (fun x r h=>(yQf x).trans h)
def yka (a0:dA) (a1 a2:Int):Int×Bool:=(yxX a0 a1 a2,yj a0 a1 a2)
theorem yOq (a0:dA) (a1 a2:Int) (hk:zi9 yft (a0,a1,a2,())):ylm a0 a1 a2=(fun n=>some ((n.1,n.2,()),())) (yka a0 a1 a2):=by
 unfold ylm yka yxX yj6
 simp only [zkV,yBb,yiq]
 rw [show yj a0 a1 a2=(yeV a0 a1 a2&&((ycM a0 a1 a2).2&&((ycM a0 a1 a2).1.length:Int)==1)) from rfl]
 rw [show ysD (nth a0.2.2.1 a1 ([],[],false,[])) (yw6 a2)=ycM a0 a1 a2 from rfl]
 cases hl:yeV a0 a1 a2
 ·rfl
 ·rw [show inb a1 a0.2.2.1.length=true by unfold yeV at hl; exact (Bool.and_eq_true_iff.1 hl).1]
  cases (ycM a0 a1 a2).2
  ·rfl
  ·rw [bne]
   cases h1:(((ycM a0 a1 a2).1.length:Int)==1)
   ·rfl
   ·rw [show inb 0 (ycM a0 a1 a2).1.length=true from zjP.2 (by have:=beq_iff_eq.1 h1; omega)]; rfl
def yzp:Con:=⟨yft,yo6,fun x=>(fun n=>some ((n.1,n.2,()),())) (yka x.1 x.2.1 x.2.2.1)⟩
theorem yPj:ConOk Tryz.prog 215 yzp:=(yMg).mono (fun x r hk h=>(yOq x.1 x.2.1 x.2.2.1 hk).trans h)
end
section
def ycT:Code:=(Tryz.f262.body).getD .skip
def yfH:Env:=zki TT [] []
theorem yAX:FrOk Tryz.prog ⟨yfH,23,fun _=>none⟩ ycT:=zkp yb yc trivial
def yqg:Nat→Option Seg:=fun _=>none
def yP:Shape:=⟨[(0,false,[.br tI]),(1,false,[.int .i64]),(5,false,[.int .i64]),(6,false,[.int .i64])],[],[]⟩
def ybw:Shape:=⟨[(0,false,[.br tI]),(1,false,[.int .i64]),(5,false,[.ci .i64 0]),(6,false,[.ci .i64 0])],[],[]⟩
def ybu:Shape:=⟨[(5,false,[.int .i64])],[],[]⟩
def ydq:Shape:=⟨[],[],[]⟩
abbrev ygO (v0:List Int) (v1 v2 v3:Int):(yP).X:=(((v0,()),(v1,()),(v2,()),(v3,()),()),(),())
abbrev yzL (v0:List Int) (v1:Int):(ybw).X:=(((v0,()),(v1,()),((),()),((),()),()),(),())
abbrev yzJ (v0:Int):(ybu).X:=(((v0,()),()),(),())
def ygR (v0:List Int) (v1 v2 v3:Int):Option ((yP).X ⊕ ((ybu).X ⊕ (ydq).X)) :=
 bif (ltb v3 (v0.length:Int)) then
 bif (v3 !=v1) then
 bif (inb v3 v0.length) then
 some (.inl (((v0,()),(v1,()),((IntKind.i64.wrap ((BitVec.ofInt IntKind.i64.bits v2 ^^^ BitVec.ofInt IntKind.i64.bits (nth v0 v3 0)).toNat:Int)),()),((IntKind.i64.wrap (v3+1)),()),()),(),()))
 else none
 else
 some (.inl (((v0,()),(v1,()),(v2,()),((IntKind.i64.wrap (v3+1)),()),()),(),()))
 else
 some (.inr (.inl (((v2,()),()),(),())))
def yV (x:(yP).X):=ygR x.1.1.1 x.1.2.1.1 x.1.2.2.1.1 x.1.2.2.2.1.1
def yol (x:(ybw).X):(yP).X:=(((x.1.1.1,()),(x.1.2.1.1,()),(0,()),(0,()),()),(),())
def yp5:Code:=(zdI ycT 64 116).getD .skip
theorem yAq:zdI ycT 64 29=some (.block 0 (.loop yp5)):=by kernel_rfl
theorem yA9 (x:(yP).X):zg7 ⟨yfH,23,yqg⟩ 0 yp5 116 yP ybu ydq x=yV x:=by kernel_rfl
def yon (x:(ybw).X):Nat:=18446744073709551616
def yhS (x:(ybw).X):Option ((ybu).X ⊕ (ydq).X):=zr yV (yon x) (yol x)
def yos:Seg:=⟨ybw,ybu,ydq,yhS⟩
def yqh:Nat→Option Seg:=fun q=>bif Nat.beq q 29 then some yos else yqg q
theorem yAY:FrOk Tryz.prog ⟨yfH,23,yqh⟩ ycT:=(yAX).loop (sg:=yos) yP yol (by decide) yAq yV yon (by decide) (fun _=>rfl) (fun x r _ h=>h) yA9
abbrev ybm:List Par:= [.rd tL,.rd tI]
abbrev ygh:List OT:= [⟨false,tI,.fz⟩]
def yec (a0:List Int) (a1:Int):Option (ResD ygh×MutD ybm) :=
 zjw (yhS (((a0,()),(a1,()),((),()),((),()),()),(),())) (fun y0 =>
 some ((y0.1.1.1,()),())) (fun y0 =>
 none)
theorem yDs (x:InD ybm):zjH ⟨yfH,23,yqh⟩ Tryz.f262.results.toList ycT ybm ygh x=yec x.1 x.2.1:=by kernel_rfl
theorem yBm:ConOk Tryz.prog 262 ⟨ybm,ygh,fun x=>yec x.1 x.2.1⟩:=zkh (yAY) Tryz.func262 (by kernel_rfl) (by kernel_rfl) Tryz.ntmps262.symm (by decide) (fun x r h=>(yDs x).trans h)
def yc7 (a0:List Int) (a1:Int):Int:=ylY a0 a1
theorem yCw (a0:List Int) (a1:Int) (hk:zi9 ybm (a0,a1,())):yec a0 a1=(fun n=>some ((n,()),())) (yc7 a0 a1):=by
 have hb:a0.length * 8≤2 ^ 47:=hk.1.1
 have h1:=zks (step:=yV) a0.length (fun i s=>ygO a0 a1 s i) (fun n (i:Nat)=>bif (i:Int) !=a1 then xw n (nth a0 i 0) else n) (fun _ _=>True) (fun s=> .inl (yzJ s)) (fun i s hi _=>⟨by
  simp only [yV,ygO,ygR,zjI (show (i:Int) < a0.length by omega),cond_true,wr (show -9223372036854775808≤(i:Int)+1 by omega) (by omega),Int.natCast_add,Int.natCast_one,Int.toNat_natCast,zkO hi]
  cases ((i:Int) !=a1)<;>rfl,trivial⟩) (fun s _=>by simp only [yV,ygO,ygR,zkm (Int.le_refl _),cond_false]) 0 trivial 18446744073709551616 (by omega)
 rw [ySN]at h1
 unfold yec yc7
 rw [show yhS (yzL a0 a1)=_ from h1]; rfl
def yrb:Con:=⟨ybm,ygh,fun x=>(fun n=>some ((n,()),())) (yc7 x.1 x.2.1)⟩
theorem yCz:ConOk Tryz.prog 262 yrb:=(yBm).mono (fun x r hk h=>(yCw x.1 x.2.1 hk).trans h)
end
section
def yhQ:Code:=(Tryz.f206.body).getD .skip
def ymN:Env:=zki TT [(215,yzp),(262,yrb)] []
theorem yFB:FrOk Tryz.prog ⟨ymN,45,fun _=>none⟩ yhQ:=zkp yb yc ⟨yPj,yCz,trivial⟩
def ywq:Nat→Option Seg:=fun _=>none
def yaK:Shape:=⟨[(1,false,[.int .i64]),(2,false,[.ptr 0 0]),(6,false,[.at 800000000]),(7,false,[.int .i64]),(8,false,[.int .i64])],[(0,[.int .i64,.int .i64,.int .i64,.br tM,.int .i64,.int .i64,.int .i64,.int .i64,.int .i64,.br tW,.int .i64,.bool,.bool])],[(800000000,tI,.fz)]⟩
def ydY:Shape:=⟨[(1,false,[.int .i64]),(2,false,[.ptr 0 0]),(6,false,[.at 800000000]),(7,false,[.ci .i64 (-1)]),(8,false,[.ci .i64 0])],[(0,[.int .i64,.int .i64,.int .i64,.br tM,.int .i64,.int .i64,.int .i64,.int .i64,.int .i64,.br tW,.int .i64,.bool,.bool])],[(800000000,tI,.fz)]⟩
def ydO:Shape:=⟨[(6,false,[.at 800000000]),(7,false,[.int .i64])],[],[(800000000,tI,.fz)]⟩
def yd1:Shape:=⟨[(4,false,[.at 800000000]),(5,false,[.bool])],[],[(800000000,tI,.fz)]⟩
abbrev yl8 (v0 v1 v2:Int) (v3:dA) (v4:List Int):(yaK).X:=(((v0,()),((),()),((),()),(v1,()),(v2,()),()),((v3.1,v3.2.1.1,v3.2.1.2,v3.2.2.1,v3.2.2.2.1,v3.2.2.2.2.1,v3.2.2.2.2.2.1,v3.2.2.2.2.2.2.1,v3.2.2.2.2.2.2.2.1,v3.2.2.2.2.2.2.2.2.1,v3.2.2.2.2.2.2.2.2.2.1,v3.2.2.2.2.2.2.2.2.2.2.1,v3.2.2.2.2.2.2.2.2.2.2.2,()),()),(v4,()))
abbrev yEc (v0:Int) (v1:dA) (v2:List Int):(ydY).X:=(((v0,()),((),()),((),()),((),()),((),()),()),((v1.1,v1.2.1.1,v1.2.1.2,v1.2.2.1,v1.2.2.2.1,v1.2.2.2.2.1,v1.2.2.2.2.2.1,v1.2.2.2.2.2.2.1,v1.2.2.2.2.2.2.2.1,v1.2.2.2.2.2.2.2.2.1,v1.2.2.2.2.2.2.2.2.2.1,v1.2.2.2.2.2.2.2.2.2.2.1,v1.2.2.2.2.2.2.2.2.2.2.2,()),()),(v2,()))
abbrev yD2 (v0:Int) (v1:List Int):(ydO).X:=((((),()),(v0,()),()),(),(v1,()))
abbrev yEf (v0:Bool) (v1:List Int):(yd1).X:=((((),()),(v0,()),()),(),(v1,()))
def ymz (v0 v1 v2 v3 v4 v5:Int) (v6:List dM) (v7 v8 v9 v10 v11:Int) (v12:List dW) (v13:Int) (v14 v15:Bool) (v16:List Int):Option ((yaK).X ⊕ ((ydO).X ⊕ (yd1).X)) :=
 bif (ltb v2 v4) then
 let r2:=yka (v3,(v4,v5),v6,v7,v8,v9,v10,v11,v12,v13,v14,v15) v2 v0
 bif (!r2.2) then
 bif (leb 0 v1) then
 some (.inr (.inr ((((),()),(false,()),()),(),(([]:List Int),()))))
 else
 bif (zj4 v16.length ([r2.1]:List Int).length 8) then
 some (.inl (((v0,()),((),()),((),()),(v2,()),((IntKind.i64.wrap (v2+1)),()),()),((v3,v4,v5,v6,v7,v8,v9,v10,v11,v12,v13,v14,v15,()),()),((v16++([r2.1]:List Int)),())))
 else none
 else
 bif (zj4 v16.length ([r2.1]:List Int).length 8) then
 some (.inl (((v0,()),((),()),((),()),(v1,()),((IntKind.i64.wrap (v2+1)),()),()),((v3,v4,v5,v6,v7,v8,v9,v10,v11,v12,v13,v14,v15,()),()),((v16++([r2.1]:List Int)),())))
 else none
 else
 some (.inr (.inl ((((),()),(v1,()),()),(),(v16,()))))
def ya7 (x:(yaK).X):=ymz x.1.1.1 x.1.2.2.2.1.1 x.1.2.2.2.2.1.1 x.2.1.1.1 x.2.1.1.2.1 x.2.1.1.2.2.1 x.2.1.1.2.2.2.1 x.2.1.1.2.2.2.2.1 x.2.1.1.2.2.2.2.2.1 x.2.1.1.2.2.2.2.2.2.1 x.2.1.1.2.2.2.2.2.2.2.1 x.2.1.1.2.2.2.2.2.2.2.2.1 x.2.1.1.2.2.2.2.2.2.2.2.2.1 x.2.1.1.2.2.2.2.2.2.2.2.2.2.1 x.2.1.1.2.2.2.2.2.2.2.2.2.2.2.1 x.2.1.1.2.2.2.2.2.2.2.2.2.2.2.2.1 x.2.2.1
def ytm (x:(ydY).X):(yaK).X:=(((x.1.1.1,()),((),()),((),()),((-1),()),(0,()),()),((x.2.1.1.1,x.2.1.1.2.1,x.2.1.1.2.2.1,x.2.1.1.2.2.2.1,x.2.1.1.2.2.2.2.1,x.2.1.1.2.2.2.2.2.1,x.2.1.1.2.2.2.2.2.2.1,x.2.1.1.2.2.2.2.2.2.2.1,x.2.1.1.2.2.2.2.2.2.2.2.1,x.2.1.1.2.2.2.2.2.2.2.2.2.1,x.2.1.1.2.2.2.2.2.2.2.2.2.2.1,x.2.1.1.2.2.2.2.2.2.2.2.2.2.2.1,x.2.1.1.2.2.2.2.2.2.2.2.2.2.2.2.1,()),()),(x.2.2.1,()))
def yuM:Code:=(zdI yhQ 64 244).getD .skip
theorem yE0:zdI yhQ 64 61=some (.block 0 (.loop yuM)):=by kernel_rfl
theorem yGv (x:(yaK).X):zg7 ⟨ymN,45,ywq⟩ 0 yuM 244 yaK ydO yd1 x=ya7 x:=by kernel_rfl
def ytE (x:(ydY).X):Nat:=18446744073709551616
def ynL (x:(ydY).X):Option ((ydO).X ⊕ (yd1).X):=zr ya7 (ytE x) (ytm x)
def yt2:Seg:=⟨ydY,ydO,yd1,ynL⟩
def ywr:Nat→Option Seg:=fun q=>bif Nat.beq q 61 then some yt2 else ywq q
theorem yFC:FrOk Tryz.prog ⟨ymN,45,ywr⟩ yhQ:=(yFB).loop (sg:=yt2) yaK ytm (by decide) yE0 ya7 ytE (by decide) (fun _=>rfl) (fun x r _ h=>h) yGv
abbrev ycz:List Par:= [.rd tA,.rd tI]
abbrev yid:List OT:= [⟨false,tL,(.ow .fz)⟩,⟨false,tB,.fz⟩]
def yjo (a0:dA) (a1:Int):Option (ResD yid×MutD ycz) :=
 zjw (ynL (((a1,()),((),()),((),()),((),()),((),()),()),((a0.1,a0.2.1.1,a0.2.1.2,a0.2.2.1,a0.2.2.2.1,a0.2.2.2.2.1,a0.2.2.2.2.2.1,a0.2.2.2.2.2.2.1,a0.2.2.2.2.2.2.2.1,a0.2.2.2.2.2.2.2.2.1,a0.2.2.2.2.2.2.2.2.2.1,a0.2.2.2.2.2.2.2.2.2.2.1,a0.2.2.2.2.2.2.2.2.2.2.2,()),()),(([]:List Int),()))) (fun y2 =>
 bif (leb 0 y2.1.2.1.1) then
 let r4:=yc7 y2.2.2.1 y2.1.2.1.1
 bif (inb y2.1.2.1.1 y2.2.2.1.length) then
 some (((y2.2.2.1.set (y2.1.2.1.1).toNat r4),true,()),())
 else none
 else
 some ((y2.2.2.1,true,()),())) (fun y2 =>
 some ((y2.2.2.1,y2.1.2.1.1,()),()))
theorem yNH (x:InD ycz):zjH ⟨ymN,45,ywr⟩ Tryz.f206.results.toList yhQ ycz yid x=yjo x.1 x.2.1:=by kernel_rfl
theorem yI5:ConOk Tryz.prog 206 ⟨ycz,yid,fun x=>yjo x.1 x.2.1⟩:=zkh (yFC) Tryz.func206 (by kernel_rfl) (by kernel_rfl) Tryz.ntmps206.symm (by decide) (fun x r h=>(yNH x).trans h)
def yiu (a0:dA) (a1:Int):List Int×Bool:=yaA a0 a1
def ysl (a0:dA) (a1:Int):Bool:=yd a0.2.1
theorem yLK (a0:dA) (a1:Int) (hk:zi9 ycz (a0,a1,())) (hq:ysl a0 a1=true):yjo a0 a1=(fun n=>some ((n.1,n.2,()),())) (yiu a0 a1):=by
 have hg:=yo.1 hq
 have h1:ynL (yEc a1 a0 [])=some (bif yEy (fun (i:Nat)=>yj a0 i a1) a0.2.1.1.toNat then .inr (yEf false []) else .inl (yD2 (yq (fun (i:Nat)=>yj a0 i a1) a0.2.1.1.toNat) (yS a0 a1 a0.2.1.1.toNat))) :=
  zf4 (step:=ya7) (fun i=>yl8 a1 (yq (fun (i:Nat)=>yj a0 i a1) i) i a0 (yS a0 a1 i)) a0.2.1.1.toNat (fun i=> !yj a0 i a1&&leb 0 (yq (fun (i:Nat)=>yj a0 i a1) i)) _ _ (fun i hi=>by
   simp only [ya7,yl8,ymz,zjI (show (i:Int) < a0.2.1.1 by omega),cond_true,wr (show -9223372036854775808≤(i:Int)+1 by omega) (by omega),Int.natCast_add,Int.natCast_one,Int.toNat_natCast,zkV,yka,yq]
   rw [zkw.2 (show ((yS a0 a1 i).length+ [yxX a0 i a1].length) * 8≤140737488355328 by simp only [List.length_cons,List.length_nil,ymA]; omega),yCj]
   cases yj a0 i a1<;>cases leb 0 (yq (fun (i:Nat)=>yj a0 i a1) i)<;>rfl) (by simp only [ya7,yl8,ymz,zkm (show a0.2.1.1≤(a0.2.1.1.toNat:Int) by omega),cond_false]) _ (by show _ < 18446744073709551616; omega)
 unfold yjo yiu yaA
 rw [h1]
 cases yEy (fun (i:Nat)=>yj a0 i a1) a0.2.1.1.toNat
 ·simp only [cond_false,zkJ,yc7]
  cases hm:leb 0 (yq (fun (i:Nat)=>yj a0 i a1) a0.2.1.1.toNat)
  ·rfl
  ·obtain ⟨h2,h3⟩:=yPB a0 a1 a0.2.1.1.toNat hm
   rw [h2,h3]; rfl
 ·rfl
def yne (a0:dA) (a1:Int):Option (ResD yid×MutD ycz):=bif ysl a0 a1 then (fun n=>some ((n.1,n.2,()),())) (yiu a0 a1) else none
theorem yMG (a0:dA) (a1:Int) (h:ysl a0 a1=true):yne a0 a1=(fun n=>some ((n.1,n.2,()),())) (yiu a0 a1):=by unfold yne; rw [h]; rfl
def yw5:Con:=⟨ycz,yid,fun x=>yne x.1 x.2.1⟩
theorem yMD:ConOk Tryz.prog 206 yw5:=(yI5).mono (fun x r hk h=>zkW h (fun hq=>yLK x.1 x.2.1 hk hq))
end
end
end Go.Tf
