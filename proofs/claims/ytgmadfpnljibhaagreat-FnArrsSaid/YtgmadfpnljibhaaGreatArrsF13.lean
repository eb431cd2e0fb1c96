/- Functions of the program, and what they come to. -/
import Derived.Test.YtgmadfpnljibhaaGreatArrsF12
namespace Go.Tf
noncomputable section
open Go.Proofs
set_option synthInstance.maxHeartbeats 400000
set_option synthInstance.maxSize 10000
set_option linter.unusedVariables false
set_option linter.unusedSimpArgs false
set_option maxRecDepth 100000
section
def yHP:Code:=(Tryz.f146.body).getD .skip
def yIm:Env:=zj2 TT [(46,ywX),(135,yr),(225,yhd)] []
theorem yPl:FrOk Tryz.prog ⟨yIm,48,fun _=>none⟩ yHP:=zj6 yc yd ⟨yIs,yx,yov,trivial⟩
def yRF:Nat→Option Seg:=fun _=>none
abbrev ymB:List Par:= [.rd tA,.rd tI,.rd tL]
abbrev ysF:List OT:= [⟨false,tI,.fz⟩]
def yvV (a0:dA) (a1:Int) (a2:List Int):Option (ResD ysF×MutD ymB) :=
 let r1:=yeG a0
 bif (!(!r1)) then
 bif (!((a2.length:Int) !=(IntKind.i64.wrap (a0.2.1.1 - 1)))) then
 let r2:=yK a2
 bif (!r2) then
 some ((1,()),())
 else
 bif a0.2.2.2.2.2.2.2.2.2.2.1 then
 some ((6,()),())
 else
 let r3:=ya a1 0 (IntKind.i64.wrap (a0.2.1.2 - 1))
 bif (!r3) then
 some ((2,()),())
 else
 bif a0.2.2.2.2.2.2.2.2.2.2.2 then
 some ((5,()),())
 else
 bif (!(leb 60000 a0.2.2.2.2.2.1)) then
 bif (leb 59990 a0.2.2.2.2.2.2.2.1) then
 some ((7,()),())
 else
 some ((0,()),())
 else
 some ((7,()),())
 else
 some ((1,()),())
 else
 some ((1,()),())
theorem yYw (x:InD ymB):zjx ⟨yIm,48,yRF⟩ Tryz.f146.results.toList yHP ymB ysF x=yvV x.1 x.2.1 x.2.2.1:=by kernel_rfl
theorem yUn:ConOk Tryz.prog 146 ⟨ymB,ysF,fun x=>yvV x.1 x.2.1 x.2.2.1⟩:=zj1 (yPl) Tryz.func146 (by kernel_rfl) (by kernel_rfl) Tryz.ntmps146.symm (by decide) (fun x r h=>(yYw x).trans h)
def yar (a0:dA) (a1:Int) (a2:List Int):Int :=
 let r1:=yeG a0
 bif (!(!r1)) then
 bif (!((a2.length:Int) !=(IntKind.i64.wrap (a0.2.1.1 - 1)))) then
 let r2:=yK a2
 bif (!r2) then
 1
 else
 bif a0.2.2.2.2.2.2.2.2.2.2.1 then
 6
 else
 let r3:=ya a1 0 (IntKind.i64.wrap (a0.2.1.2 - 1))
 bif (!r3) then
 2
 else
 bif a0.2.2.2.2.2.2.2.2.2.2.2 then
 5
 else
 bif (!(leb 60000 a0.2.2.2.2.2.1)) then
 bif (leb 59990 a0.2.2.2.2.2.2.2.1) then
 7
 else
 0
 else
 7
 else
 1
 else
 1
def yEC:Con:=⟨ymB,ysF,fun x=>(fun n=>some ((n,()),())) (yar x.1 x.2.1 x.2.2.1)⟩
theorem yWt (a0:dA) (a1:Int) (a2:List Int):yvV a0 a1 a2=(fun n=>some ((n,()),())) (yar a0 a1 a2):=zkp (p:=fun (n:Int)=>((n,()),())) (zkb (p:=fun (n:Int)=>((n,()),())) (zkb (p:=fun (n:Int)=>((n,()),())) (zkb (p:=fun (n:Int)=>((n,()),())) rfl (zkb (p:=fun (n:Int)=>((n,()),())) rfl (zkb (p:=fun (n:Int)=>((n,()),())) rfl (zkb (p:=fun (n:Int)=>((n,()),())) rfl (zkb (p:=fun (n:Int)=>((n,()),())) (zkb (p:=fun (n:Int)=>((n,()),())) rfl rfl) rfl))))) rfl) rfl)
theorem yXk:ConOk Tryz.prog 146 yEC:=(yUn).mono (fun x r _ h=>(yWt x.1 x.2.1 x.2.2.1).trans h)
end
section
def yHG:Code:=(Tryz.f160.body).getD .skip
def yId:Env:=zj2 TT [] []
theorem yO1:FrOk Tryz.prog ⟨yId,8,fun _=>none⟩ yHG:=zj6 yc yd trivial
def yRw:Nat→Option Seg:=fun _=>none
abbrev yms:List Par:= [.rd tI]
abbrev ysu:List OT:= [⟨false,tI,.fz⟩]
def yvR (a0:Int):Option (ResD ysu×MutD yms) :=
 bif (ltb a0 0) then
 some (((-1),()),())
 else
 some (((IntKind.i64.wrap (2+(a0.tmod 4))),()),())
theorem yYi (x:InD yms):zjx ⟨yId,8,yRw⟩ Tryz.f160.results.toList yHG yms ysu x=yvR x.1:=by kernel_rfl
theorem yT9:ConOk Tryz.prog 160 ⟨yms,ysu,fun x=>yvR x.1⟩:=zj1 (yO1) Tryz.func160 (by kernel_rfl) (by kernel_rfl) Tryz.ntmps160.symm (by decide) (fun x r h=>(yYi x).trans h)
def ymX (a0:Int):Int :=
 bif (ltb a0 0) then
 (-1)
 else
 (IntKind.i64.wrap (2+(a0.tmod 4)))
def yEs:Con:=⟨yms,ysu,fun x=>(fun n=>some ((n,()),())) (ymX x.1)⟩
theorem yWl (a0:Int):yvR a0=(fun n=>some ((n,()),())) (ymX a0):=zkp (p:=fun (n:Int)=>((n,()),())) (zkb (p:=fun (n:Int)=>((n,()),())) rfl rfl)
theorem yXa:ConOk Tryz.prog 160 yEs:=(yT9).mono (fun x r _ h=>(yWl x.1).trans h)
end
section
def yHE:Code:=(Tryz.f48.body).getD .skip
def yIb:Env:=zj2 TT [(135,yr)] []
theorem yOX:FrOk Tryz.prog ⟨yIb,34,fun _=>none⟩ yHE:=zj6 yc yd ⟨yx,trivial⟩
def yRu:Nat→Option Seg:=fun _=>none
abbrev yhM:List Par:= [.rd tA,.rd tI,.rd tI]
abbrev ysr:List OT:= [⟨false,tB,.fz⟩]
def yoF (a0:dA) (a1 a2:Int):Option (ResD ysr×MutD yhM) :=
 let r1:=ya a1 0 (IntKind.i64.wrap ((a0.2.2.1.length:Int) - 1))
 bif r1 then
 bif (inb a1 a0.2.2.1.length) then
 bif (!((((nth a0.2.2.1 a1 ([],[],false,[])).2).2).1)) then
 bif (!(a1 !=a0.2.2.2.1)) then
 some (((ltb a2 a0.2.2.2.2.1),()),())
 else
 some ((true,()),())
 else
 some ((false,()),())
 else none
 else
 some ((false,()),())
theorem yYf (x:InD yhM):zjx ⟨yIb,34,yRu⟩ Tryz.f48.results.toList yHE yhM ysr x=yoF x.1 x.2.1 x.2.2.1:=by kernel_rfl
theorem yT6:ConOk Tryz.prog 48 ⟨yhM,ysr,fun x=>yoF x.1 x.2.1 x.2.2.1⟩:=zj1 (yOX) Tryz.func48 (by kernel_rfl) (by kernel_rfl) Tryz.ntmps48.symm (by decide) (fun x r h=>(yYf x).trans h)
def ybb (a0:dA) (a1 a2:Int):Bool:=yc3 a0 a1 a2
theorem yWi (a0:dA) (a1 a2:Int) (hk:zi2 yhM (a0,a1,a2,())):yoF a0 a1 a2=(fun n=>some ((n,()),())) (ybb a0 a1 a2):=by
 have hb:a0.2.2.1.length * 80≤2 ^ 47:=hk.1.2.2.1.1
 unfold yoF ybb yc3 noMem
 rw [ypA (show a0.2.2.1.length≤1152921504606846976 by omega)]
 cases inb a1 a0.2.2.1.length
 ·rfl
 ·cases (nth a0.2.2.1 a1 ([],[],false,[])).2.2.1<;>cases (a1 !=a0.2.2.2.1)<;>rfl
def yon:Con:=⟨yhM,ysr,fun x=>(fun n=>some ((n,()),())) (ybb x.1 x.2.1 x.2.2.1)⟩
theorem yw7:ConOk Tryz.prog 48 yon:=(yT6).mono (fun x r hk h=>(yWi x.1 x.2.1 x.2.2.1 hk).trans h)
end
section
def yoX:Code:=(Tryz.f238.body).getD .skip
def yue:Env:=zj2 TT [] []
theorem yS0:FrOk Tryz.prog ⟨yue,18,fun _=>none⟩ yoX:=zj6 yc yd trivial
def yFR:Nat→Option Seg:=fun _=>none
def ycV:Shape:=⟨[(0,false,[.br tI]),(1,false,[.int .i64]),(5,false,[.int .i64])],[],[]⟩
def yiC:Shape:=⟨[(0,false,[.br tI]),(1,false,[.int .i64]),(5,false,[.ci .i64 0])],[],[]⟩
def yim:Shape:=⟨[],[],[]⟩
def yi0:Shape:=⟨[(4,false,[.bool])],[],[]⟩
abbrev yto (v0:List Int) (v1 v2:Int):(ycV).X:=(((v0,()),(v1,()),(v2,()),()),(),())
abbrev yPL (v0:List Int) (v1:Int):(yiC).X:=(((v0,()),(v1,()),((),()),()),(),())
abbrev yPz  :(yim).X:=((),(),())
abbrev yPX (v0:Bool):(yi0).X:=(((v0,()),()),(),())
def ytM (v0:List Int) (v1 v2:Int):Option ((ycV).X ⊕ ((yim).X ⊕ (yi0).X)) :=
 bif (ltb v2 (v0.length:Int)) then
 bif (inb v2 v0.length) then
 bif ((nth v0 v2 0)==v1) then
 some (.inr (.inr (((true,()),()),(),())))
 else
 some (.inl (((v0,()),(v1,()),((IntKind.i64.wrap (v2+1)),()),()),(),()))
 else none
 else
 some (.inr (.inl ((),(),())))
def ydr (x:(ycV).X):=ytM x.1.1.1 x.1.2.1.1 x.1.2.2.1.1
def yBW (x:(yiC).X):(ycV).X:=(((x.1.1.1,()),(x.1.2.1.1,()),(0,()),()),(),())
def yEf:Code:=(zdD yoX 64 52).getD .skip
theorem yRS:zdD yoX 64 13=some (.block 0 (.loop yEf)):=by kernel_rfl
theorem yUW (x:(ycV).X):zg0 ⟨yue,18,yFR⟩ 0 yEf 52 ycV yim yi0 x=ydr x:=by kernel_rfl
def yCf (x:(yiC).X):Nat:=18446744073709551616
def yut (x:(yiC).X):Option ((yim).X ⊕ (yi0).X):=zz ydr (yCf x) (yBW x)
def yCU:Seg:=⟨yiC,yim,yi0,yut⟩
def yFS:Nat→Option Seg:=fun q=>bif Nat.beq q 13 then some yCU else yFR q
theorem yS1:FrOk Tryz.prog ⟨yue,18,yFS⟩ yoX:=(yS0).loop (sg:=yCU) ycV yBW (by decide) yRS ydr yCf (by decide) (fun _=>rfl) (fun x r _ h=>h) yUW
abbrev ykD:List Par:= [.rd tL,.rd tI]
abbrev yuT:List OT:= [⟨false,tB,.fz⟩]
def yqU (a0:List Int) (a1:Int):Option (ResD yuT×MutD ykD) :=
 zkh (yut (((a0,()),(a1,()),((),()),()),(),())) (fun y0 =>
 some ((false,()),())) (fun y0 =>
 some ((y0.1.1.1,()),()))
theorem yZO (x:InD ykD):zjx ⟨yue,18,yFS⟩ Tryz.f238.results.toList yoX ykD yuT x=yqU x.1 x.2.1:=by kernel_rfl
theorem yWR:ConOk Tryz.prog 238 ⟨ykD,yuT,fun x=>yqU x.1 x.2.1⟩:=zj1 (yS1) Tryz.func238 (by kernel_rfl) (by kernel_rfl) Tryz.ntmps238.symm (by decide) (fun x r h=>(yZO x).trans h)
def yhm (a0:List Int) (a1:Int):Bool:=a0.any (· ==a1)
theorem yYS (a0:List Int) (a1:Int) (hk:zi2 ykD (a0,a1,())):yqU a0 a1=(fun n=>some ((n,()),())) (yhm a0 a1):=by
 have hb:a0.length * 8≤2 ^ 47:=hk.1.1
 have h1:yut (yPL a0 a1)=some (bif a0.all (· !=a1) then .inl yPz else .inr (yPX true)) :=
  zjG (step:=ydr) a0 0 (fun i=>yto a0 a1 i) (· !=a1) _ _ (fun i hi=>by
   simp only [ydr,yto,ytM,zj4 (show (i:Int) < a0.length by omega),cond_true,wr (show -9223372036854775808≤(i:Int)+1 by omega) (by omega),Int.natCast_add,Int.natCast_one,Int.toNat_natCast,zkl hi,zkm,bne]
   cases (a0.getD i 0==a1)<;>rfl) (by simp only [ydr,yto,ytM,zkx (Int.le_refl _),cond_false]) _ (by show _ < 18446744073709551616; omega)
 unfold yqU yhm
 rw [h1,show a0.any (· ==a1)= !(a0.all (· !=a1)) by simp [List.all_eq_not_any_not,bne]]
 cases a0.all (· !=a1)<;>rfl
def yw0:Con:=⟨ykD,yuT,fun x=>(fun n=>some ((n,()),())) (yhm x.1 x.2.1)⟩
theorem yIv:ConOk Tryz.prog 238 yw0:=(yWR).mono (fun x r hk h=>(yYS x.1 x.2.1 hk).trans h)
end
section
def ykd:Code:=(Tryz.f159.body).getD .skip
def yp9:Env:=zj2 TT [(135,yr),(224,ygq),(238,yw0)] []
theorem yMy:FrOk Tryz.prog ⟨yp9,60,fun _=>none⟩ ykd:=zj6 yc yd ⟨yx,ym5,yIv,trivial⟩
def yA5:Nat→Option Seg:=fun _=>none
def ybu:Shape:=⟨[(1,false,[.int .i64]),(2,false,[.ptr 0 0]),(6,false,[.br tI]),(7,false,[.int .i64])],[(0,[.br tL,.br tW,.bool,.br tI])],[]⟩
def yfT:Shape:=⟨[(1,false,[.int .i64]),(2,false,[.ptr 0 0]),(6,false,[.br tI]),(7,false,[.ci .i64 0])],[(0,[.br tL,.br tW,.bool,.br tI])],[]⟩
def yfJ:Shape:=⟨[(6,false,[.br tI])],[],[]⟩
def yjI:Shape:=⟨[],[],[]⟩
abbrev ypJ (v0:Int) (v1:List Int) (v2:Int) (v3:dM):(ybu).X:=(((v0,()),((),()),(v1,()),(v2,()),()),((v3.1,v3.2.1,v3.2.2.1,v3.2.2.2,()),()),())
abbrev yK0 (v0:Int) (v1:List Int) (v2:dM):(yfT).X:=(((v0,()),((),()),(v1,()),((),()),()),((v2.1,v2.2.1,v2.2.2.1,v2.2.2.2,()),()),())
abbrev yyu (v0:List Int):(yfJ).X:=(((v0,()),()),(),())
def yp2 (v0:Int) (v1:List Int) (v2:Int) (v3:List (List Int)) (v4:List dW) (v5:Bool) (v6:List Int):Option ((ybu).X ⊕ ((yfJ).X ⊕ (yjI).X)) :=
 bif (ltb v2 (v4.length:Int)) then
 bif (inb v2 v4.length) then
 bif ((nth v4 v2 (0,[])).1==v0) then
 bif (inb v2 v4.length) then
 some (.inl (((v0,()),((),()),((nth v4 v2 (0,[])).2,()),((IntKind.i64.wrap (v2+1)),()),()),((v3,v4,v5,v6,()),()),()))
 else none
 else
 some (.inl (((v0,()),((),()),(v1,()),((IntKind.i64.wrap (v2+1)),()),()),((v3,v4,v5,v6,()),()),()))
 else none
 else
 some (.inr (.inl (((v1,()),()),(),())))
def ybN (x:(ybu).X):=yp2 x.1.1.1 x.1.2.2.1.1 x.1.2.2.2.1.1 x.2.1.1.1 x.2.1.1.2.1 x.2.1.1.2.2.1 x.2.1.1.2.2.2.1
def yx6 (x:(yfT).X):(ybu).X:=(((x.1.1.1,()),((),()),(x.1.2.2.1.1,()),(0,()),()),((x.2.1.1.1,x.2.1.1.2.1,x.2.1.1.2.2.1,x.2.1.1.2.2.2.1,()),()),())
def yzD:Code:=(zdD ykd 64 244).getD .skip
theorem yL4:zdD ykd 64 61=some (.block 0 (.loop yzD)):=by kernel_rfl
theorem yNM (x:(ybu).X):zg0 ⟨yp9,60,yA5⟩ 0 yzD 244 ybu yfJ yjI x=ybN x:=by kernel_rfl
def yyj (x:(yfT).X):Nat:=18446744073709551616
def yrb (x:(yfT).X):Option ((yfJ).X ⊕ (yjI).X):=zz ybN (yyj x) (yx6 x)
def yyF:Seg:=⟨yfT,yfJ,yjI,yrb⟩
def yA6:Nat→Option Seg:=fun q=>bif Nat.beq q 61 then some yyF else yA5 q
theorem yMz:FrOk Tryz.prog ⟨yp9,60,yA6⟩ ykd:=(yMy).loop (sg:=yyF) ybu yx6 (by decide) yL4 ybN yyj (by decide) (fun _=>rfl) (fun x r _ h=>h) yNM
abbrev ygk:List Par:= [.rd tM,.rd tI]
abbrev yqq:List OT:= [⟨false,tL,(.ow .fz)⟩,⟨false,tB,.fz⟩]
def ylV (a0:dM) (a1:Int):Option (ResD yqq×MutD ygk) :=
 let r1:=yag a0
 bif (!(!r1)) then
 bif (!a0.2.2.1) then
 let r2:=ya a1 0 (IntKind.i64.wrap ((a0.1.length:Int) - 1))
 bif (!(!r2)) then
 let r3:=yhm a0.2.2.2 a1
 bif r3 then
 some ((([]:List Int),false,()),())
 else
 bif (inb a1 a0.1.length) then
 zkh (yrb (((a1,()),((),()),((nth a0.1 a1 []),()),((),()),()),((a0.1,a0.2.1,a0.2.2.1,a0.2.2.2,()),()),())) (fun y3 =>
 bif (zjR ([]:List Int).length y3.1.1.1.length 8) then
 some (((([]:List Int)++y3.1.1.1),true,()),())
 else none) (fun y3 =>
 none)
 else none
 else
 some ((([]:List Int),false,()),())
 else
 some ((([]:List Int),false,()),())
 else
 some ((([]:List Int),false,()),())
theorem yVE (x:InD ygk):zjx ⟨yp9,60,yA6⟩ Tryz.f159.results.toList ykd ygk yqq x=ylV x.1 x.2.1:=by kernel_rfl
theorem yQB:ConOk Tryz.prog 159 ⟨ygk,yqq,fun x=>ylV x.1 x.2.1⟩:=zj1 (yMz) Tryz.func159 (by kernel_rfl) (by kernel_rfl) Tryz.ntmps159.symm (by decide) (fun x r h=>(yVE x).trans h)
def yk5 (a0:dM) (a1:Int):List Int×Bool:=yU a0 a1
theorem yTE (a0:dM) (a1:Int) (hk:zi2 ygk (a0,a1,())):ylV a0 a1=(fun n=>some ((n.1,n.2,()),())) (yk5 a0 a1):=by
 have hb1:a0.1.length * 24≤2 ^ 47:=hk.1.1.1
 have hb2:a0.2.1.length * 32≤2 ^ 47:=hk.1.2.1.1
 have h1: ∀ s,yrb (yK0 a1 s a0)=some (.inl (yyu (yCq a1 a0.2.1 s))):=fun s =>
  zj3 (step:=ybN) a0.2.1 (0,[]) (fun i s=>ypJ a1 s i a0) (fun s w=>bif w.1==a1 then w.2 else s) (fun _ _=>True) (fun s=> .inl (yyu s)) (fun i s hi _=>⟨by
   simp only [ybN,ypJ,yp2,zj4 (show (i:Int) < a0.2.1.length by omega),cond_true,wr (show -9223372036854775808≤(i:Int)+1 by omega) (by omega),Int.natCast_add,Int.natCast_one,Int.toNat_natCast,zkl hi,zkm]
   cases ((a0.2.1.getD i (0,[])).1==a1)<;>rfl,trivial⟩) (fun s _=>by simp only [ybN,ypJ,yp2,zkx (Int.le_refl _),cond_false]) s trivial _ (by show _ < 18446744073709551616; omega)
 unfold ylV yk5 yU yqx
 rw [ypA (show a0.1.length≤1152921504606846976 by omega)]
 unfold yag yhm
 simp only [h1,zki,List.nil_append]
 cases yq a0
 ·rfl
 cases a0.2.2.1
 ·cases hi:inb a1 a0.1.length
  ·rfl
  ·cases a0.2.2.2.any (· ==a1)
   ·have hs:(yCq a1 a0.2.1 (nth a0.1 a1 [])).length * 8≤2 ^ 47 :=
     yHf (P:=fun s=>s.length * 8≤2 ^ 47) (yAP (P:=fun s:List Int=>s.length * 8≤2 ^ 47) hi fun x hx=>(hk.1.1.2 x hx).1) fun w hw=>(hk.1.2.1.2 w hw).2.1
    simp only [Bool.not_true,Bool.not_false,cond_true,cond_false,Bool.true_and,show zjR ([]:List Int).length (yCq a1 a0.2.1 (nth a0.1 a1 [])).length 8=true from zka.2 (by rw [List.length_nil]; omega)]
   ·rfl
 ·rfl
def yBE:Con:=⟨ygk,yqq,fun x=>(fun n=>some ((n.1,n.2,()),())) (yk5 x.1 x.2.1)⟩
theorem yUz:ConOk Tryz.prog 159 yBE:=(yQB).mono (fun x r hk h=>(yTE x.1 x.2.1 hk).trans h)
end
section
def yHO:Code:=(Tryz.f215.body).getD .skip
def yIl:Env:=zj2 TT [(48,yon),(141,yc0),(159,yBE)] []
theorem yPk:FrOk Tryz.prog ⟨yIl,36,fun _=>none⟩ yHO:=zj6 yc yd ⟨yw7,ygu,yUz,trivial⟩
def yRE:Nat→Option Seg:=fun _=>none
abbrev yhQ:List Par:= [.rd tA,.rd tI,.rd tI]
abbrev ysE:List OT:= [⟨false,tI,.fz⟩,⟨false,tB,.fz⟩]
def yoL (a0:dA) (a1 a2:Int):Option (ResD ysE×MutD yhQ) :=
 let r1:=ybb a0 a1 a2
 bif (!r1) then
 some ((0,false,()),())
 else
 bif (inb a1 a0.2.2.1.length) then
 let r2:=yaq a2
 let r3:=yk5 ((nth a0.2.2.1 a1 ([],[],false,[])).1,((nth a0.2.2.1 a1 ([],[],false,[])).2).1,(((nth a0.2.2.1 a1 ([],[],false,[])).2).2)) r2
 bif (!(!r3.2)) then
 bif ((r3.1.length:Int) !=1) then
 some ((0,false,()),())
 else
 bif (inb 0 r3.1.length) then
 some (((nth r3.1 0 0),true,()),())
 else none
 else
 some ((0,false,()),())
 else none
theorem yYv (x:InD yhQ):zjx ⟨yIl,36,yRE⟩ Tryz.f215.results.toList yHO yhQ ysE x=yoL x.1 x.2.1 x.2.2.1:=by kernel_rfl
theorem yUm:ConOk Tryz.prog 215 ⟨yhQ,ysE,fun x=>yoL x.1 x.2.1 x.2.2.1⟩:=zj1 (yPk) Tryz.func215 (by kernel_rfl) (by kernel_rfl) Tryz.ntmps215.symm (by decide) (fun x r h=>(yYv x).trans h)
def ymZ (a0:dA) (a1 a2:Int):Int×Bool:=(yjr a0 a1 a2,ym a0 a1 a2)
theorem yWs (a0:dA) (a1 a2:Int) (hk:zi2 yhQ (a0,a1,a2,())):yoL a0 a1 a2=(fun n=>some ((n.1,n.2,()),())) (ymZ a0 a1 a2):=by
 unfold yoL ymZ yjr ybb
 simp only [zkr,yd9,yk5]
 rw [show ym a0 a1 a2=(yc3 a0 a1 a2&&((ycG a0 a1 a2).2&&((ycG a0 a1 a2).1.length:Int)==1)) from rfl]
 rw [show yU (nth a0.2.2.1 a1 ([],[],false,[])) (dataAt a2)=ycG a0 a1 a2 from rfl]
 cases hl:yc3 a0 a1 a2
 ·rfl
 ·rw [show inb a1 a0.2.2.1.length=true by unfold yc3 at hl; exact (Bool.and_eq_true_iff.1 hl).1]
  cases (ycG a0 a1 a2).2
  ·rfl
  ·rw [bne]
   cases h1:(((ycG a0 a1 a2).1.length:Int)==1)
   ·rfl
   ·rw [show inb 0 (ycG a0 a1 a2).1.length=true from zjD.2 (by have:=beq_iff_eq.1 h1; omega)]; rfl
def yEB:Con:=⟨yhQ,ysE,fun x=>(fun n=>some ((n.1,n.2,()),())) (ymZ x.1 x.2.1 x.2.2.1)⟩
theorem yXj:ConOk Tryz.prog 215 yEB:=(yUm).mono (fun x r hk h=>(yWs x.1 x.2.1 x.2.2.1 hk).trans h)
end
end
end Go.Tf
