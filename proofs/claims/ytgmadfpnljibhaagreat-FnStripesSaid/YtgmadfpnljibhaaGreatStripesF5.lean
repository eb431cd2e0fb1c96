/- Functions of the program, and what they come to. -/
import Derived.Test.YtgmadfpnljibhaaGreatStripesF4
namespace Go.Tf
noncomputable section
open Go.Proofs
set_option synthInstance.maxHeartbeats 400000
set_option synthInstance.maxSize 10000
set_option linter.unusedVariables false
set_option linter.unusedSimpArgs false
set_option maxRecDepth 100000
section
def yku:Code:=(Tryz.f159.body).getD .skip
def yqj:Env:=zki TT [(135,yx),(224,ygK),(238,ywX)] []
theorem yMA:FrOk Tryz.prog ⟨yqj,60,fun _=>none⟩ yku:=zkp yb yd ⟨yD,yno,yIy,trivial⟩
def yA6:Nat→Option Seg:=fun _=>none
def ybJ:Shape:=⟨[(1,false,[.int .i64]),(2,false,[.ptr 0 0]),(6,false,[.br tI]),(7,false,[.int .i64])],[(0,[.br tL,.br tW,.bool,.br tI])],[]⟩
def yf9:Shape:=⟨[(1,false,[.int .i64]),(2,false,[.ptr 0 0]),(6,false,[.br tI]),(7,false,[.ci .i64 0])],[(0,[.br tL,.br tW,.bool,.br tI])],[]⟩
def yfX:Shape:=⟨[(6,false,[.br tI])],[],[]⟩
def yj0:Shape:=⟨[],[],[]⟩
abbrev ypN (v0:Int) (v1:List Int) (v2:Int) (v3:dM):(ybJ).X:=(((v0,()),((),()),(v1,()),(v2,()),()),((v3.1,v3.2.1,v3.2.2.1,v3.2.2.2,()),()),())
abbrev yKQ (v0:Int) (v1:List Int) (v2:dM):(yf9).X:=(((v0,()),((),()),(v1,()),((),()),()),((v2.1,v2.2.1,v2.2.2.1,v2.2.2.2,()),()),())
abbrev yyz (v0:List Int):(yfX).X:=(((v0,()),()),(),())
def yp9 (v0:Int) (v1:List Int) (v2:Int) (v3:List (List Int)) (v4:List dW) (v5:Bool) (v6:List Int):Option ((ybJ).X ⊕ ((yfX).X ⊕ (yj0).X)) :=
 bif (ltb v2 (v4.length:Int)) then
 bif (inb v2 v4.length) then
 bif ((nth v4 v2 (0,[])).1==v0) then
 bif (inb v2 v4.length) then
 some (.inl (((v0,()),((),()),((nth v4 v2 (0,[])).2,()),((IntKind.i64.wrap (v2+1)),()),()),((v3,v4,v5,v6,()),()),()))
 else none
 else
 some (.inl (((v0,()),((),()),(v1,()),((IntKind.i64.wrap (v2+1)),()),()),((v3,v4,v5,v6,()),()),()))
 else none
 else
 some (.inr (.inl (((v1,()),()),(),())))
def yb0 (x:(ybJ).X):=yp9 x.1.1.1 x.1.2.2.1.1 x.1.2.2.2.1.1 x.2.1.1.1 x.2.1.1.2.1 x.2.1.1.2.2.1 x.2.1.1.2.2.2.1
def yx4 (x:(yf9).X):(ybJ).X:=(((x.1.1.1,()),((),()),(x.1.2.2.1.1,()),(0,()),()),((x.2.1.1.1,x.2.1.1.2.1,x.2.1.1.2.2.1,x.2.1.1.2.2.2.1,()),()),())
def yzI:Code:=(zdI yku 64 244).getD .skip
theorem yL5:zdI yku 64 61=some (.block 0 (.loop yzI)):=by kernel_rfl
theorem yNM (x:(ybJ).X):zg7 ⟨yqj,60,yA6⟩ 0 yzI 244 ybJ yfX yj0 x=yb0 x:=by kernel_rfl
def yyl (x:(yf9).X):Nat:=18446744073709551616
def yrg (x:(yf9).X):Option ((yfX).X ⊕ (yj0).X):=zr yb0 (yyl x) (yx4 x)
def yyL:Seg:=⟨yf9,yfX,yj0,yrg⟩
def yA7:Nat→Option Seg:=fun q=>bif Nat.beq q 61 then some yyL else yA6 q
theorem yMB:FrOk Tryz.prog ⟨yqj,60,yA7⟩ yku:=(yMA).loop (sg:=yyL) ybJ yx4 (by decide) yL5 yb0 yyl (by decide) (fun _=>rfl) (fun x r _ h=>h) yNM
abbrev ygH:List Par:= [.rd tM,.rd tI]
abbrev yqz:List OT:= [⟨false,tL,(.ow .fz)⟩,⟨false,tB,.fz⟩]
def ymn (a0:dM) (a1:Int):Option (ResD yqz×MutD ygH) :=
 let r1:=yap a0
 bif (!(!r1)) then
 bif (!a0.2.2.1) then
 let r2:=ya a1 0 (IntKind.i64.wrap ((a0.1.length:Int) - 1))
 bif (!(!r2)) then
 let r3:=yhA a0.2.2.2 a1
 bif r3 then
 some ((([]:List Int),false,()),())
 else
 bif (inb a1 a0.1.length) then
 zjw (yrg (((a1,()),((),()),((nth a0.1 a1 []),()),((),()),()),((a0.1,a0.2.1,a0.2.2.1,a0.2.2.2,()),()),())) (fun y3 =>
 bif (zj4 ([]:List Int).length y3.1.1.1.length 8) then
 some (((([]:List Int)++y3.1.1.1),true,()),())
 else none) (fun y3 =>
 none)
 else none
 else
 some ((([]:List Int),false,()),())
 else
 some ((([]:List Int),false,()),())
 else
 some ((([]:List Int),false,()),())
theorem yVr (x:InD ygH):zjH ⟨yqj,60,yA7⟩ Tryz.f159.results.toList yku ygH yqz x=ymn x.1 x.2.1:=by kernel_rfl
theorem yQD:ConOk Tryz.prog 159 ⟨ygH,yqz,fun x=>ymn x.1 x.2.1⟩:=zkh (yMB) Tryz.func159 (by kernel_rfl) (by kernel_rfl) Tryz.ntmps159.symm (by decide) (fun x r h=>(yVr x).trans h)
def ylq (a0:dM) (a1:Int):List Int×Bool:=ybQ a0 a1
theorem yTv (a0:dM) (a1:Int) (hk:zi9 ygH (a0,a1,())):ymn a0 a1=(fun n=>some ((n.1,n.2,()),())) (ylq a0 a1):=by
 have hb1:a0.1.length * 24≤2 ^ 47:=hk.1.1.1
 have hb2:a0.2.1.length * 32≤2 ^ 47:=hk.1.2.1.1
 have h1: ∀ s,yrg (yKQ a1 s a0)=some (.inl (yyz (yhC a1 a0.2.1 s))):=fun s =>
  zkk (step:=yb0) a0.2.1 (0,[]) (fun i s=>ypN a1 s i a0) (fun s w=>bif w.1==a1 then w.2 else s) (fun _ _=>True) (fun s=> .inl (yyz s)) (fun i s hi _=>⟨by
   simp only [yb0,ypN,yp9,zjI (show (i:Int) < a0.2.1.length by omega),cond_true,wr (show -9223372036854775808≤(i:Int)+1 by omega) (by omega),Int.natCast_add,Int.natCast_one,Int.toNat_natCast,zkO hi,zjW]
   cases ((a0.2.1.getD i (0,[])).1==a1)<;>rfl,trivial⟩) (fun s _=>by simp only [yb0,ypN,yp9,zkm (Int.le_refl _),cond_false]) s trivial _ (by show _ < 18446744073709551616; omega)
 unfold ymn ylq ybQ ywU
 rw [ypD (show a0.1.length≤1152921504606846976 by omega)]
 unfold yap yhA
 simp only [h1,zkJ,List.nil_append]
 cases yl a0
 ·rfl
 cases a0.2.2.1
 ·cases hi:inb a1 a0.1.length
  ·rfl
  ·cases a0.2.2.2.any (· ==a1)
   ·have hs:(yhC a1 a0.2.1 (nth a0.1 a1 [])).length * 8≤2 ^ 47 :=
     yHi (P:=fun s=>s.length * 8≤2 ^ 47) (yub (P:=fun s:List Int=>s.length * 8≤2 ^ 47) hi fun x hx=>(hk.1.1.2 x hx).1) fun w hw=>(hk.1.2.1.2 w hw).2.1
    simp only [Bool.not_true,Bool.not_false,cond_true,cond_false,Bool.true_and,show zj4 ([]:List Int).length (yhC a1 a0.2.1 (nth a0.1 a1 [])).length 8=true from zkw.2 (by rw [List.length_nil]; omega)]
   ·rfl
 ·rfl
def yBL:Con:=⟨ygH,yqz,fun x=>(fun n=>some ((n.1,n.2,()),())) (ylq x.1 x.2.1)⟩
theorem yUt:ConOk Tryz.prog 159 yBL:=(yQD).mono (fun x r hk h=>(yTv x.1 x.2.1 hk).trans h)
end
section
def yHX:Code:=(Tryz.f215.body).getD .skip
def yIt:Env:=zki TT [(48,yvk),(141,yfu),(159,yBL)] []
theorem yPp:FrOk Tryz.prog ⟨yIt,36,fun _=>none⟩ yHX:=zkp yb yd ⟨yGB,ylC,yUt,trivial⟩
def yRH:Nat→Option Seg:=fun _=>none
abbrev yh0:List Par:= [.rd tA,.rd tI,.rd tI]
abbrev ysH:List OT:= [⟨false,tI,.fz⟩,⟨false,tB,.fz⟩]
def yoV (a0:dA) (a1 a2:Int):Option (ResD ysH×MutD yh0) :=
 let r1:=ydZ a0 a1 a2
 bif (!r1) then
 some ((0,false,()),())
 else
 bif (inb a1 a0.2.2.1.length) then
 let r2:=ybm a2
 let r3:=ylq ((nth a0.2.2.1 a1 ([],[],false,[])).1,((nth a0.2.2.1 a1 ([],[],false,[])).2).1,(((nth a0.2.2.1 a1 ([],[],false,[])).2).2)) r2
 bif (!(!r3.2)) then
 bif ((r3.1.length:Int) !=1) then
 some ((0,false,()),())
 else
 bif (inb 0 r3.1.length) then
 some (((nth r3.1 0 0),true,()),())
 else none
 else
 some ((0,false,()),())
 else none
theorem yYn (x:InD yh0):zjH ⟨yIt,36,yRH⟩ Tryz.f215.results.toList yHX yh0 ysH x=yoV x.1 x.2.1 x.2.2.1:=by kernel_rfl
theorem yUd:ConOk Tryz.prog 215 ⟨yh0,ysH,fun x=>yoV x.1 x.2.1 x.2.2.1⟩:=zkh (yPp) Tryz.func215 (by kernel_rfl) (by kernel_rfl) Tryz.ntmps215.symm (by decide) (fun x r h=>(yYn x).trans h)
def ynl (a0:dA) (a1 a2:Int):Int×Bool:=(yjJ a0 a1 a2,ym a0 a1 a2)
theorem yWe (a0:dA) (a1 a2:Int) (hk:zi9 yh0 (a0,a1,a2,())):yoV a0 a1 a2=(fun n=>some ((n.1,n.2,()),())) (ynl a0 a1 a2):=by
 unfold yoV ynl yjJ ydZ
 simp only [zkV,ygT,ylq]
 rw [show ym a0 a1 a2=(yby a0 a1 a2&&((yc0 a0 a1 a2).2&&((yc0 a0 a1 a2).1.length:Int)==1)) from rfl]
 rw [show ybQ (nth a0.2.2.1 a1 ([],[],false,[])) (dataAt a2)=yc0 a0 a1 a2 from rfl]
 cases hl:yby a0 a1 a2
 ·rfl
 ·rw [show inb a1 a0.2.2.1.length=true by unfold yby at hl; exact (Bool.and_eq_true_iff.1 hl).1]
  cases (yc0 a0 a1 a2).2
  ·rfl
  ·rw [bne]
   cases h1:(((yc0 a0 a1 a2).1.length:Int)==1)
   ·rfl
   ·rw [show inb 0 (yc0 a0 a1 a2).1.length=true from zjP.2 (by have:=beq_iff_eq.1 h1; omega)]; rfl
def yEs:Con:=⟨yh0,ysH,fun x=>(fun n=>some ((n.1,n.2,()),())) (ynl x.1 x.2.1 x.2.2.1)⟩
theorem yW0:ConOk Tryz.prog 215 yEs:=(yUd).mono (fun x r hk h=>(yWe x.1 x.2.1 x.2.2.1 hk).trans h)
end
section
def yeM:Code:=(Tryz.f262.body).getD .skip
def yij:Env:=zki TT [] []
theorem yGm:FrOk Tryz.prog ⟨yij,23,fun _=>none⟩ yeM:=zkp yb yd trivial
def yuj:Nat→Option Seg:=fun _=>none
def yan:Shape:=⟨[(0,false,[.br tI]),(1,false,[.int .i64]),(5,false,[.int .i64]),(6,false,[.int .i64])],[],[]⟩
def ycJ:Shape:=⟨[(0,false,[.br tI]),(1,false,[.int .i64]),(5,false,[.ci .i64 0]),(6,false,[.ci .i64 0])],[],[]⟩
def ycG:Shape:=⟨[(5,false,[.int .i64])],[],[]⟩
def yft:Shape:=⟨[],[],[]⟩
abbrev yjC (v0:List Int) (v1 v2 v3:Int):(yan).X:=(((v0,()),(v1,()),(v2,()),(v3,()),()),(),())
abbrev yE2 (v0:List Int) (v1:Int):(ycJ).X:=(((v0,()),(v1,()),((),()),((),()),()),(),())
abbrev yEZ (v0:Int):(ycG).X:=(((v0,()),()),(),())
def yjH (v0:List Int) (v1 v2 v3:Int):Option ((yan).X ⊕ ((ycG).X ⊕ (yft).X)) :=
 bif (ltb v3 (v0.length:Int)) then
 bif (v3 !=v1) then
 bif (inb v3 v0.length) then
 some (.inl (((v0,()),(v1,()),((IntKind.i64.wrap ((BitVec.ofInt IntKind.i64.bits v2 ^^^ BitVec.ofInt IntKind.i64.bits (nth v0 v3 0)).toNat:Int)),()),((IntKind.i64.wrap (v3+1)),()),()),(),()))
 else none
 else
 some (.inl (((v0,()),(v1,()),(v2,()),((IntKind.i64.wrap (v3+1)),()),()),(),()))
 else
 some (.inr (.inl (((v2,()),()),(),())))
def yay (x:(yan).X):=yjH x.1.1.1 x.1.2.1.1 x.1.2.2.1.1 x.1.2.2.2.1.1
def yrU (x:(ycJ).X):(yan).X:=(((x.1.1.1,()),(x.1.2.1.1,()),(0,()),(0,()),()),(),())
def ytY:Code:=(zdI yeM 64 116).getD .skip
theorem yF0:zdI yeM 64 29=some (.block 0 (.loop ytY)):=by kernel_rfl
theorem yGI (x:(yan).X):zg7 ⟨yij,23,yuj⟩ 0 ytY 116 yan ycG yft x=yay x:=by kernel_rfl
def yrX (x:(ycJ).X):Nat:=18446744073709551616
def ykA (x:(ycJ).X):Option ((ycG).X ⊕ (yft).X):=zr yay (yrX x) (yrU x)
def yr4:Seg:=⟨ycJ,ycG,yft,ykA⟩
def yuk:Nat→Option Seg:=fun q=>bif Nat.beq q 29 then some yr4 else yuj q
theorem yGn:FrOk Tryz.prog ⟨yij,23,yuk⟩ yeM:=(yGm).loop (sg:=yr4) yan yrU (by decide) yF0 yay yrX (by decide) (fun _=>rfl) (fun x r _ h=>h) yGI
abbrev ycB:List Par:= [.rd tL,.rd tI]
abbrev yiX:List OT:= [⟨false,tI,.fz⟩]
def ygx (a0:List Int) (a1:Int):Option (ResD yiX×MutD ycB) :=
 zjw (ykA (((a0,()),(a1,()),((),()),((),()),()),(),())) (fun y0 =>
 some ((y0.1.1.1,()),())) (fun y0 =>
 none)
theorem yJ4 (x:InD ycB):zjH ⟨yij,23,yuk⟩ Tryz.f262.results.toList yeM ycB yiX x=ygx x.1 x.2.1:=by kernel_rfl
theorem yHm:ConOk Tryz.prog 262 ⟨ycB,yiX,fun x=>ygx x.1 x.2.1⟩:=zkh (yGn) Tryz.func262 (by kernel_rfl) (by kernel_rfl) Tryz.ntmps262.symm (by decide) (fun x r h=>(yJ4 x).trans h)
def ye8 (a0:List Int) (a1:Int):Int:=ypE a0 a1
theorem yI7 (a0:List Int) (a1:Int) (hk:zi9 ycB (a0,a1,())):ygx a0 a1=(fun n=>some ((n,()),())) (ye8 a0 a1):=by
 have hb:a0.length * 8≤2 ^ 47:=hk.1.1
 have h1:=zks (step:=yay) a0.length (fun i s=>yjC a0 a1 s i) (fun n (i:Nat)=>bif (i:Int) !=a1 then xw n (nth a0 i 0) else n) (fun _ _=>True) (fun s=> .inl (yEZ s)) (fun i s hi _=>⟨by
  simp only [yay,yjC,yjH,zjI (show (i:Int) < a0.length by omega),cond_true,wr (show -9223372036854775808≤(i:Int)+1 by omega) (by omega),Int.natCast_add,Int.natCast_one,Int.toNat_natCast,zkO hi]
  cases ((i:Int) !=a1)<;>rfl,trivial⟩) (fun s _=>by simp only [yay,yjC,yjH,zkm (Int.le_refl _),cond_false]) 0 trivial 18446744073709551616 (by omega)
 rw [y1K]at h1
 unfold ygx ye8
 rw [show ykA (yE2 a0 a1)=_ from h1]; rfl
def yvm:Con:=⟨ycB,yiX,fun x=>(fun n=>some ((n,()),())) (ye8 x.1 x.2.1)⟩
theorem yJh:ConOk Tryz.prog 262 yvm:=(yHm).mono (fun x r hk h=>(yI7 x.1 x.2.1 hk).trans h)
end
section
def ykx:Code:=(Tryz.f206.body).getD .skip
def yqm:Env:=zki TT [(215,yEs),(262,yvm)] []
theorem yMK:FrOk Tryz.prog ⟨yqm,45,fun _=>none⟩ ykx:=zkp yb yd ⟨yW0,yJh,trivial⟩
def yBc:Nat→Option Seg:=fun _=>none
def ybM:Shape:=⟨[(1,false,[.int .i64]),(2,false,[.ptr 0 0]),(6,false,[.at 800000000]),(7,false,[.int .i64]),(8,false,[.int .i64])],[(0,[.int .i64,.int .i64,.int .i64,.br tM,.int .i64,.int .i64,.int .i64,.int .i64,.int .i64,.br tW,.int .i64,.bool,.bool])],[(800000000,tI,.fz)]⟩
def ygc:Shape:=⟨[(1,false,[.int .i64]),(2,false,[.ptr 0 0]),(6,false,[.at 800000000]),(7,false,[.ci .i64 (-1)]),(8,false,[.ci .i64 0])],[(0,[.int .i64,.int .i64,.int .i64,.br tM,.int .i64,.int .i64,.int .i64,.int .i64,.int .i64,.br tW,.int .i64,.bool,.bool])],[(800000000,tI,.fz)]⟩
def yf0:Shape:=⟨[(6,false,[.at 800000000]),(7,false,[.int .i64])],[],[(800000000,tI,.fz)]⟩
def ygg:Shape:=⟨[(4,false,[.at 800000000]),(5,false,[.bool])],[],[(800000000,tI,.fz)]⟩
abbrev ypQ (v0 v1 v2:Int) (v3:dA) (v4:List Int):(ybM).X:=(((v0,()),((),()),((),()),(v1,()),(v2,()),()),((v3.1,v3.2.1.1,v3.2.1.2,v3.2.2.1,v3.2.2.2.1,v3.2.2.2.2.1,v3.2.2.2.2.2.1,v3.2.2.2.2.2.2.1,v3.2.2.2.2.2.2.2.1,v3.2.2.2.2.2.2.2.2.1,v3.2.2.2.2.2.2.2.2.2.1,v3.2.2.2.2.2.2.2.2.2.2.1,v3.2.2.2.2.2.2.2.2.2.2.2,()),()),(v4,()))
abbrev yKT (v0:Int) (v1:dA) (v2:List Int):(ygc).X:=(((v0,()),((),()),((),()),((),()),((),()),()),((v1.1,v1.2.1.1,v1.2.1.2,v1.2.2.1,v1.2.2.2.1,v1.2.2.2.2.1,v1.2.2.2.2.2.1,v1.2.2.2.2.2.2.1,v1.2.2.2.2.2.2.2.1,v1.2.2.2.2.2.2.2.2.1,v1.2.2.2.2.2.2.2.2.2.1,v1.2.2.2.2.2.2.2.2.2.2.1,v1.2.2.2.2.2.2.2.2.2.2.2,()),()),(v2,()))
abbrev yKH (v0:Int) (v1:List Int):(yf0).X:=((((),()),(v0,()),()),(),(v1,()))
abbrev yKW (v0:Bool) (v1:List Int):(ygg).X:=((((),()),(v0,()),()),(),(v1,()))
def yqd (v0 v1 v2 v3 v4 v5:Int) (v6:List dM) (v7 v8 v9 v10 v11:Int) (v12:List dW) (v13:Int) (v14 v15:Bool) (v16:List Int):Option ((ybM).X ⊕ ((yf0).X ⊕ (ygg).X)) :=
 bif (ltb v2 v4) then
 let r2:=ynl (v3,(v4,v5),v6,v7,v8,v9,v10,v11,v12,v13,v14,v15) v2 v0
 bif (!r2.2) then
 bif (leb 0 v1) then
 some (.inr (.inr ((((),()),(false,()),()),(),(([]:List Int),()))))
 else
 bif (zj4 v16.length ([r2.1]:List Int).length 8) then
 some (.inl (((v0,()),((),()),((),()),(v2,()),((IntKind.i64.wrap (v2+1)),()),()),((v3,v4,v5,v6,v7,v8,v9,v10,v11,v12,v13,v14,v15,()),()),((v16++([r2.1]:List Int)),())))
 else none
 else
 bif (zj4 v16.length ([r2.1]:List Int).length 8) then
 some (.inl (((v0,()),((),()),((),()),(v1,()),((IntKind.i64.wrap (v2+1)),()),()),((v3,v4,v5,v6,v7,v8,v9,v10,v11,v12,v13,v14,v15,()),()),((v16++([r2.1]:List Int)),())))
 else none
 else
 some (.inr (.inl ((((),()),(v1,()),()),(),(v16,()))))
def yb4 (x:(ybM).X):=yqd x.1.1.1 x.1.2.2.2.1.1 x.1.2.2.2.2.1.1 x.2.1.1.1 x.2.1.1.2.1 x.2.1.1.2.2.1 x.2.1.1.2.2.2.1 x.2.1.1.2.2.2.2.1 x.2.1.1.2.2.2.2.2.1 x.2.1.1.2.2.2.2.2.2.1 x.2.1.1.2.2.2.2.2.2.2.1 x.2.1.1.2.2.2.2.2.2.2.2.1 x.2.1.1.2.2.2.2.2.2.2.2.2.1 x.2.1.1.2.2.2.2.2.2.2.2.2.2.1 x.2.1.1.2.2.2.2.2.2.2.2.2.2.2.1 x.2.1.1.2.2.2.2.2.2.2.2.2.2.2.2.1 x.2.2.1
def yx8 (x:(ygc).X):(ybM).X:=(((x.1.1.1,()),((),()),((),()),((-1),()),(0,()),()),((x.2.1.1.1,x.2.1.1.2.1,x.2.1.1.2.2.1,x.2.1.1.2.2.2.1,x.2.1.1.2.2.2.2.1,x.2.1.1.2.2.2.2.2.1,x.2.1.1.2.2.2.2.2.2.1,x.2.1.1.2.2.2.2.2.2.2.1,x.2.1.1.2.2.2.2.2.2.2.2.1,x.2.1.1.2.2.2.2.2.2.2.2.2.1,x.2.1.1.2.2.2.2.2.2.2.2.2.2.1,x.2.1.1.2.2.2.2.2.2.2.2.2.2.2.1,x.2.1.1.2.2.2.2.2.2.2.2.2.2.2.2.1,()),()),(x.2.2.1,()))
def yzM:Code:=(zdI ykx 64 244).getD .skip
theorem yL9:zdI ykx 64 61=some (.block 0 (.loop yzM)):=by kernel_rfl
theorem yNQ (x:(ybM).X):zg7 ⟨yqm,45,yBc⟩ 0 yzM 244 ybM yf0 ygg x=yb4 x:=by kernel_rfl
def yyp (x:(ygc).X):Nat:=18446744073709551616
def yrk (x:(ygc).X):Option ((yf0).X ⊕ (ygg).X):=zr yb4 (yyp x) (yx8 x)
def yyP:Seg:=⟨ygc,yf0,ygg,yrk⟩
def yBd:Nat→Option Seg:=fun q=>bif Nat.beq q 61 then some yyP else yBc q
theorem yML:FrOk Tryz.prog ⟨yqm,45,yBd⟩ ykx:=(yMK).loop (sg:=yyP) ybM yx8 (by decide) yL9 yb4 yyp (by decide) (fun _=>rfl) (fun x r _ h=>h) yNQ
abbrev yeq:List Par:= [.rd tA,.rd tI]
abbrev yk6:List OT:= [⟨false,tL,(.ow .fz)⟩,⟨false,tB,.fz⟩]
def yms (a0:dA) (a1:Int):Option (ResD yk6×MutD yeq) :=
 zjw (yrk (((a1,()),((),()),((),()),((),()),((),()),()),((a0.1,a0.2.1.1,a0.2.1.2,a0.2.2.1,a0.2.2.2.1,a0.2.2.2.2.1,a0.2.2.2.2.2.1,a0.2.2.2.2.2.2.1,a0.2.2.2.2.2.2.2.1,a0.2.2.2.2.2.2.2.2.1,a0.2.2.2.2.2.2.2.2.2.1,a0.2.2.2.2.2.2.2.2.2.2.1,a0.2.2.2.2.2.2.2.2.2.2.2,()),()),(([]:List Int),()))) (fun y2 =>
 bif (leb 0 y2.1.2.1.1) then
 let r4:=ye8 y2.2.2.1 y2.1.2.1.1
 bif (inb y2.1.2.1.1 y2.2.2.1.length) then
 some (((y2.2.2.1.set (y2.1.2.1.1).toNat r4),true,()),())
 else none
 else
 some ((y2.2.2.1,true,()),())) (fun y2 =>
 some ((y2.2.2.1,y2.1.2.1.1,()),()))
theorem yVy (x:InD yeq):zjH ⟨yqm,45,yBd⟩ Tryz.f206.results.toList ykx yeq yk6 x=yms x.1 x.2.1:=by kernel_rfl
theorem yQK:ConOk Tryz.prog 206 ⟨yeq,yk6,fun x=>yms x.1 x.2.1⟩:=zkh (yML) Tryz.func206 (by kernel_rfl) (by kernel_rfl) Tryz.ntmps206.symm (by decide) (fun x r h=>(yVy x).trans h)
def ygN (a0:dA) (a1:Int):List Int×Bool:=yE a0 a1
def yw8 (a0:dA) (a1:Int):Bool:=yc a0.2.1
theorem yTB (a0:dA) (a1:Int) (hk:zi9 yeq (a0,a1,())) (hq:yw8 a0 a1=true):yms a0 a1=(fun n=>some ((n.1,n.2,()),())) (ygN a0 a1):=by
 have hg:=yi.1 hq
 have h1:yrk (yKT a1 a0 [])=some (bif yeK (fun (i:Nat)=>ym a0 i a1) a0.2.1.1.toNat then .inr (yKW false []) else .inl (yKH (yr (fun (i:Nat)=>ym a0 i a1) a0.2.1.1.toNat) (yK a0 a1 a0.2.1.1.toNat))) :=
  zf4 (step:=yb4) (fun i=>ypQ a1 (yr (fun (i:Nat)=>ym a0 i a1) i) i a0 (yK a0 a1 i)) a0.2.1.1.toNat (fun i=> !ym a0 i a1&&leb 0 (yr (fun (i:Nat)=>ym a0 i a1) i)) _ _ (fun i hi=>by
   simp only [yb4,ypQ,yqd,zjI (show (i:Int) < a0.2.1.1 by omega),cond_true,wr (show -9223372036854775808≤(i:Int)+1 by omega) (by omega),Int.natCast_add,Int.natCast_one,Int.toNat_natCast,zkV,ynl,yr]
   rw [zkw.2 (show ((yK a0 a1 i).length+ [yjJ a0 i a1].length) * 8≤140737488355328 by simp only [List.length_cons,List.length_nil,yfe]; omega),yIA]
   cases ym a0 i a1<;>cases leb 0 (yr (fun (i:Nat)=>ym a0 i a1) i)<;>rfl) (by simp only [yb4,ypQ,yqd,zkm (show a0.2.1.1≤(a0.2.1.1.toNat:Int) by omega),cond_false]) _ (by show _ < 18446744073709551616; omega)
 unfold yms ygN yE
 rw [h1]
 cases yeK (fun (i:Nat)=>ym a0 i a1) a0.2.1.1.toNat
 ·simp only [cond_false,zkJ,ye8]
  cases hm:leb 0 (yr (fun (i:Nat)=>ym a0 i a1) a0.2.1.1.toNat)
  ·rfl
  ·obtain ⟨h2,h3⟩:=yXz a0 a1 a0.2.1.1.toNat hm
   rw [h2,h3]; rfl
 ·rfl
def ylA (a0:dA) (a1:Int):Option (ResD yk6×MutD yeq):=bif yw8 a0 a1 then (fun n=>some ((n.1,n.2,()),())) (ygN a0 a1) else none
theorem yEJ (a0:dA) (a1:Int) (h:yw8 a0 a1=true):ylA a0 a1=(fun n=>some ((n.1,n.2,()),())) (ygN a0 a1):=by unfold ylA; rw [h]; rfl
def ys9:Con:=⟨yeq,yk6,fun x=>ylA x.1 x.2.1⟩
theorem yEF:ConOk Tryz.prog 206 ys9:=(yQK).mono (fun x r hk h=>zkW h (fun hq=>yTB x.1 x.2.1 hk hq))
end
section
def yDh:Code:=(Tryz.f288.body).getD .skip
def yDO:Env:=zki TT [(134,ygJ),(135,yx)] []
theorem yKx:FrOk Tryz.prog ⟨yDO,14,fun _=>none⟩ yDh:=zkp yb yd ⟨ynn,yD,trivial⟩
def yLU:Nat→Option Seg:=fun _=>none
abbrev yin:List Par:= [.rd tG,.rd tI]
abbrev yom:List OT:= [⟨false,tB,.fz⟩]
def yrD (a0:dG) (a1:Int):Option (ResD yom×MutD yin) :=
 let r1:=yc a0
 bif r1 then
 let r2:=ya a1 0 (IntKind.i64.wrap (a0.2 - 1))
 some ((r2,()),())
 else
 some ((false,()),())
theorem ySm (x:InD yin):zjH ⟨yDO,14,yLU⟩ Tryz.f288.results.toList yDh yin yom x=yrD x.1 x.2.1:=by kernel_rfl
theorem yNv:ConOk Tryz.prog 288 ⟨yin,yom,fun x=>yrD x.1 x.2.1⟩:=zkh (yKx) Tryz.func288 (by kernel_rfl) (by kernel_rfl) Tryz.ntmps288.symm (by decide) (fun x r h=>(ySm x).trans h)
def yfw (a0:dG) (a1:Int):Bool :=
 let r1:=yc a0
 bif r1 then
 let r2:=ya a1 0 (IntKind.i64.wrap (a0.2 - 1))
 r2
 else
 false
def yro:Con:=⟨yin,yom,fun x=>(fun n=>some ((n,()),())) (yfw x.1 x.2.1)⟩
theorem yQo (a0:dG) (a1:Int):yrD a0 a1=(fun n=>some ((n,()),())) (yfw a0 a1):=zkS (p:=fun (n:Bool)=>((n,()),())) (zkx (p:=fun (n:Bool)=>((n,()),())) rfl rfl)
theorem yCE:ConOk Tryz.prog 288 yro:=(yNv).mono (fun x r _ h=>(yQo x.1 x.2.1).trans h)
theorem yN5 (g:dG) (s:Int):yfw g s=yI g s:=by
 unfold yfw yI
 cases hg:yc g
 ·rfl
 have:=yi.1 hg
 rw [ycd,wr (by omega) (by omega)]; rfl
end
section
def yDc:Code:=(Tryz.f272.body).getD .skip
def yDJ:Env:=zki TT [(288,yro)] []
theorem yKq:FrOk Tryz.prog ⟨yDJ,17,fun _=>none⟩ yDc:=zkp yb yd ⟨yCE,trivial⟩
def yLP:Nat→Option Seg:=fun _=>none
abbrev yfm:List Par:= [.rd tG,.rd tI]
abbrev yoh:List OT:= [⟨false,tI,.fz⟩]
def ykj (a0:dG) (a1:Int):Option (ResD yoh×MutD yfm) :=
 let r1:=yfw a0 a1
 bif (!r1) then
 some (((-1),()),())
 else
 bif (a0.1 !=0) then
 some (((IntKind.i64.wrap ((IntKind.i64.wrap (a0.1 - 1)) - (a1.tmod a0.1))),()),())
 else none
theorem ySg (x:InD yfm):zjH ⟨yDJ,17,yLP⟩ Tryz.f272.results.toList yDc yfm yoh x=ykj x.1 x.2.1:=by kernel_rfl
theorem yNp:ConOk Tryz.prog 272 ⟨yfm,yoh,fun x=>ykj x.1 x.2.1⟩:=zkh (yKq) Tryz.func272 (by kernel_rfl) (by kernel_rfl) Tryz.ntmps272.symm (by decide) (fun x r h=>(ySg x).trans h)
def ydu (a0:dG) (a1:Int):Int:=ye a0 a1
theorem yQi (a0:dG) (a1:Int) (hk:zi9 yfm (a0,a1,())):ykj a0 a1=(fun n=>some ((n,()),())) (ydu a0 a1):=by
 unfold ykj ydu
 rw [yN5]
 cases hs:yI a0 a1
 ·unfold ye; rw [hs]; rfl
 ·have h1:=yN.1 hs
  have h2:=yi.1 h1.1
  have h3:=ygz hs
  have h4:ye a0 a1=a0.1 - 1 - a1.tmod a0.1:=by unfold ye; rw [hs]; rfl
  rw [show (a0.1 !=0)=true from bne_iff_ne.2 (by omega),wr (show -9223372036854775808≤a0.1 - 1 by omega) (by omega),wr (show -9223372036854775808≤a0.1 - 1 - a1.tmod a0.1 by omega) (by omega),h4]; rfl
def yrm:Con:=⟨yfm,yoh,fun x=>(fun n=>some ((n,()),())) (ydu x.1 x.2.1)⟩
theorem yCC:ConOk Tryz.prog 272 yrm:=(yNp).mono (fun x r hk h=>(yQi x.1 x.2.1 hk).trans h)
end
end
end Go.Tf
