/- Functions of the program, and what they come to. -/
import Derived.Test.YtolmneojjjpnjaaGreatBuiltF2
namespace Go.Tf
noncomputable section
open Go.Proofs Go.Proofs.Tryz IntKind
set_option synthInstance.maxHeartbeats 400000
set_option synthInstance.maxSize 10000
set_option linter.unusedVariables false
set_option linter.unusedSimpArgs false
set_option maxRecDepth 100000
def ypl:Code:=(f161.body).getD .skip
def yxP:Env:=zkw TT [] []
theorem yMJ:FrOk prog ⟨yxP,18,fun _=>none⟩ ypl:=zkA mixed ye trivial
def yCc:Nat→Option Seg:=fun _=>none
def ycG:Shape:=⟨[(0,false,[.br tI]),(1,false,[.int .i64]),(5,false,[.int .i64])],[],[]⟩
def ygA:Shape:=⟨[(0,false,[.br tI]),(1,false,[.int .i64]),(5,false,[.ci .i64 0])],[],[]⟩
def ygl:Shape:=⟨[],[],[]⟩
def ygS:Shape:=⟨[(4,false,[.bool])],[],[]⟩
abbrev yov (v0:List Int) (v1 v2:Int):(ycG).X:=(((v0,()),(v1,()),(v2,()),()),(),())
abbrev yJU (v0:List Int) (v1:Int):(ygA).X:=(((v0,()),(v1,()),((),()),()),(),())
abbrev yJJ  :(ygl).X:=((),(),())
abbrev yJ6 (v0:Bool):(ygS).X:=(((v0,()),()),(),())
def yo0 (v0:List Int) (v1 v2:Int):Option ((ycG).X ⊕ ((ygl).X ⊕ (ygS).X)) :=bif(ltb v2 (v0.length:Int))then bif(inb v2 v0.length)then bif((nth v0 v2 0)==v1)then some (.inr (.inr (((true,()),()),(),()))) else some (.inl (((v0,()),(v1,()),((i64.wrap (v2+1)),()),()),(),())) else none else some (.inr (.inl ((),(),())))
def yc4 (x:(ycG).X):=yo0 x.1.1.1 x.1.2.1.1 x.1.2.2.1.1
def yy5 (x:(ygA).X):(ycG).X:=(((x.1.1.1,()),(x.1.2.1.1,()),(0,()),()),(),())
def yAE:Code:=(zd7 ypl 64 52).getD .skip
theorem yL6:zd7 ypl 64 13=some (.block 0 (.loop yAE)):=by kernel_rfl
theorem yOO (x:(ycG).X):zhu ⟨yxP,18,yCc⟩ 0 yAE 52 ycG ygl ygS x=yc4 x:=by kernel_rfl
def yzl (x:(ygA).X):Nat:=18446744073709551616
def ypM (x:(ygA).X):Option ((ygl).X ⊕ (ygS).X):=zF yc4 (yzl x) (yy5 x)
def yz5:Seg:=⟨ygA,ygl,ygS,ypM⟩
def yPl:Nat→Option Seg:=fun q=>bif Nat.beq q 13 then some yz5 else yCc q
theorem yMK:FrOk prog ⟨yxP,18,yPl⟩ ypl:=(yMJ).loop (sg:=yz5) ycG yy5 (by decide) yL6 yc4 yzl (by decide) (fun _=>rfl) (fun x r _ h=>h) yOO
abbrev yp7:List Par:= [.rd tL,.rd tI]
abbrev yyi:List OT:= [⟨false,tB,.fz⟩]
def ytm (a0:List Int) (a1:Int):Option (zaY yyi×zak yp7) :=zkt (ypM (((a0,()),(a1,()),((),()),()),(),())) (fun y0 =>some ((false,()),())) (fun y0 =>some ((y0.1.1.1,()),()))
theorem yQR:ConOk prog 161 ⟨yp7,yyi,fun x=>ytm x.1 x.2.1⟩:=zkI (yMK) func161 ntmps161.symm fun x=>by kernel_rfl
def ylm (a0:List Int) (a1:Int):Bool:=a0.any (· ==a1)
theorem yTe (a0:List Int) (a1:Int) (hk:zjx yp7 (a0,a1,())):ytm a0 a1=(fun n=>some ((n,()),())) (ylm a0 a1):=by
 have hb:a0.length*8≤2^47:=hk.1.1
 have h1:ypM (yJU a0 a1)=some (bif a0.all (· !=a1)then .inl yJJ else .inr (yJ6 true)) :=
  zj9 (step:=yc4) a0 0 (fun i=>yov a0 a1 i) (· !=a1) _ _ (fun i hi=>by
   simp only[yc4,yov,yo0,zky (show(i:Int)<a0.length by omega),cond_true,wq ((i:Int)+1) (by omega) (by omega),Int.natCast_add,Int.natCast_one,Int.toNat_natCast,zkR hi,zkS,bne]
   cases(a0.getD i 0==a1)<;>rfl) (by simp only[yc4,yov,yo0,zk3 (Int.le_refl _),cond_false]) _ (by show _<18446744073709551616; omega)
 unfold ytm ylm;rw[h1,show a0.any (· ==a1)= !(a0.all (· !=a1))by simp[List.all_eq_not_any_not,bne]];cases a0.all (· !=a1)<;>rfl
def yCw:Con:=⟨yp7,yyi,fun x=>(fun n=>some ((n,()),())) (ylm x.1 x.2.1)⟩
theorem yTx:ConOk prog 161 yCw:=(yQR).mono (fun x r hk h=>(yTe x.1 x.2.1 hk).trans h)
def ylO:Code:=(f90.body).getD .skip
def ysc:Env:=zkw TT [(82,yK),(160,yh3),(161,yCw)] []
theorem yGU:FrOk prog ⟨ysc,60,fun _=>none⟩ ylO:=zkA mixed ye ⟨yU,ynZ,yTx,trivial⟩
def yxF:Nat→Option Seg:=fun _=>none
def ybA:Shape:=⟨[(1,false,[.int .i64]),(2,false,[.ptr 0 0]),(6,false,[.br tI]),(7,false,[.int .i64])],[(0,[.br tL,.br tW,.bool,.br tI])],[]⟩
def yeJ:Shape:=⟨[(1,false,[.int .i64]),(2,false,[.ptr 0 0]),(6,false,[.br tI]),(7,false,[.ci .i64 0])],[(0,[.br tL,.br tW,.bool,.br tI])],[]⟩
def yeA:Shape:=⟨[(6,false,[.br tI])],[],[]⟩
def yhy:Shape:=⟨[],[],[]⟩
abbrev ylh (v0:Int) (v1:List Int) (v2:Int) (v3:dM):(ybA).X:=(((v0,()),((),()),(v1,()),(v2,()),()),((v3.1,v3.2.1,v3.2.2.1,v3.2.2.2,()),()),())
abbrev yFt (v0:Int) (v1:List Int) (v2:dM):(yeJ).X:=(((v0,()),((),()),(v1,()),((),()),()),((v2.1,v2.2.1,v2.2.2.1,v2.2.2.2,()),()),())
abbrev yux (v0:List Int):(yeA).X:=(((v0,()),()),(),())
def ylD (v0:Int) (v1:List Int) (v2:Int) (v3:List (List Int)) (v4:List dW) (v5:Bool) (v6:List Int):Option ((ybA).X ⊕ ((yeA).X ⊕ (yhy).X)) :=bif(ltb v2 (v4.length:Int))then bif(inb v2 v4.length)then bif((nth v4 v2 (0,[])).1==v0)then bif(inb v2 v4.length)then some (.inl (((v0,()),((),()),((nth v4 v2 (0,[])).2,()),((i64.wrap (v2+1)),()),()),((v3,v4,v5,v6,()),()),())) else none else some (.inl (((v0,()),((),()),(v1,()),((i64.wrap (v2+1)),()),()),((v3,v4,v5,v6,()),()),())) else none else some (.inr (.inl (((v1,()),()),(),())))
def ybS (x:(ybA).X):=ylD x.1.1.1 x.1.2.2.1.1 x.1.2.2.2.1.1 x.2.1.1.1 x.2.1.1.2.1 x.2.1.1.2.2.1 x.2.1.1.2.2.2.1
def yt9 (x:(yeJ).X):(ybA).X:=(((x.1.1.1,()),((),()),(x.1.2.2.1.1,()),(0,()),()),((x.2.1.1.1,x.2.1.1.2.1,x.2.1.1.2.2.1,x.2.1.1.2.2.2.1,()),()),())
def ywh:Code:=(zd7 ylO 64 244).getD .skip
theorem yGu:zd7 ylO 64 61=some (.block 0 (.loop ywh)):=by kernel_rfl
theorem yH2 (x:(ybA).X):zhu ⟨ysc,60,yxF⟩ 0 ywh 244 ybA yeA yhy x=ybS x:=by kernel_rfl
def yum (x:(yeJ).X):Nat:=18446744073709551616
def ymA (x:(yeJ).X):Option ((yeA).X ⊕ (yhy).X):=zF ybS (yum x) (yt9 x)
def yuJ:Seg:=⟨yeJ,yeA,yhy,ymA⟩
def yIs:Nat→Option Seg:=fun q=>bif Nat.beq q 61 then some yuJ else yxF q
theorem yGV:FrOk prog ⟨ysc,60,yIs⟩ ylO:=(yGU).loop (sg:=yuJ) ybA yt9 (by decide) yGu ybS yum (by decide) (fun _=>rfl) (fun x r _ h=>h) yH2
abbrev yl0:List Par:= [.rd tM,.rd tI]
abbrev ysJ:List OT:= [⟨false,tL,(.ow .fz)⟩,⟨false,tB,.fz⟩]
def yoK (a0:dM) (a1:Int):Option (zaY ysJ×zak yl0) :=let r1:=ybf a0;bif(!(!r1))then bif(!a0.2.2.1)then let r2:=yb a1 0 (i64.wrap ((a0.1.length:Int)-1));bif(!(!r2))then let r3:=ylm a0.2.2.2 a1;bif r3 then some ((([]:List Int),false,()),()) else bif(inb a1 a0.1.length)then zkt (ymA (((a1,()),((),()),((nth a0.1 a1 []),()),((),()),()),((a0.1,a0.2.1,a0.2.2.1,a0.2.2.2,()),()),())) (fun y3 =>bif(zkl ([]:List Int).length y3.1.1.1.length 8)then some (((([]:List Int)++y3.1.1.1),true,()),()) else none) (fun y3 =>none) else none else some ((([]:List Int),false,()),()) else some ((([]:List Int),false,()),()) else some ((([]:List Int),false,()),())
theorem yKJ:ConOk prog 90 ⟨yl0,ysJ,fun x=>yoK x.1 x.2.1⟩:=zkI (yGV) func90 ntmps90.symm fun x=>by kernel_rfl
def yib (a0:dM) (a1:Int):List Int×Bool:=yf1 a0 a1
theorem yNv (a0:dM) (a1:Int) (hk:zjx yl0 (a0,a1,())):yoK a0 a1=(fun n=>some ((n.1,n.2,()),())) (yib a0 a1):=by
 have hb1:a0.1.length*24≤2^47:=hk.1.1.1;have hb2:a0.2.1.length*32≤2^47:=hk.1.2.1.1
 have h1: ∀s,ymA (yFt a1 s a0)=some (.inl (yux (yfG a1 a0.2.1 s))):=fun s =>
  zkx (step:=ybS) a0.2.1 (0,[]) (fun i s=>ylh a1 s i a0) (fun s w=>bif w.1==a1 then w.2 else s) (fun _ _=>True) (fun s=> .inl (yux s)) (fun i s hi _=>⟨by
   simp only[ybS,ylh,ylD,zky (show(i:Int)<a0.2.1.length by omega),cond_true,wq ((i:Int)+1) (by omega) (by omega),Int.natCast_add,Int.natCast_one,Int.toNat_natCast,zkR hi,zkS]
   cases((a0.2.1.getD i (0,[])).1==a1)<;>rfl,trivial⟩) (fun s _=>by simp only[ybS,ylh,ylD,zk3 (Int.le_refl _),cond_false]) s trivial _ (by show _<18446744073709551616; omega)
 unfold yoK yib yf1 yxv;rw[yje (show a0.1.length≤1152921504606846976 by omega)];unfold ybf ylm;simp only[h1,zkN,List.nil_append];cases yD a0
 ·rfl
 cases a0.2.2.1
 ·cases hi:inb a1 a0.1.length
  ·rfl
  ·cases a0.2.2.2.any (· ==a1)
   ·have hs:(yfG a1 a0.2.1 (nth a0.1 a1 [])).length*8≤2^47 :=
     yDs (P:=fun s=>s.length*8≤2^47) (yCN (P:=fun s:List Int=>s.length*8≤2^47) hi fun x hx=>(hk.1.1.2 x hx).1) fun w hw=>(hk.1.2.1.2 w hw).2.1
    simp only[Bool.not_true,Bool.not_false,cond_true,cond_false,Bool.true_and,show zkl ([]:List Int).length (yfG a1 a0.2.1 (nth a0.1 a1 [])).length 8=true from zkF.2 (by rw[List.length_nil]; omega)]
   ·rfl
 ·rfl
def yyL:Con:=⟨yl0,ysJ,fun x=>(fun n=>some ((n.1,n.2,()),())) (yib x.1 x.2.1)⟩
theorem yOq:ConOk prog 90 yyL:=(yKJ).mono (fun x r hk h=>(yNv x.1 x.2.1 hk).trans h)
def ySp:Code:=(f246.body).getD .skip
def ySS:Env:=zkw TT [(90,yyL),(113,ykB),(211,yqG)] []
theorem yJq:FrOk prog ⟨ySS,36,fun _=>none⟩ ySp:=zkA mixed ye ⟨yOq,ys3,yCT,trivial⟩
abbrev ynL:List Par:= [.rd tA,.rd tI,.rd tI]
abbrev yvF:List OT:= [⟨false,tI,.fz⟩,⟨false,tB,.fz⟩]
def yri (a0:dA) (a1 a2:Int):Option (zaY yvF×zak ynL) :=let r1:=yda a0 a1 a2;bif(!r1)then some ((0,false,()),()) else bif(inb a1 a0.2.2.1.length)then let r2:=yc9 a2;let r3:=yib ((nth a0.2.2.1 a1 ([],[],false,[])).1,((nth a0.2.2.1 a1 ([],[],false,[])).2).1,(((nth a0.2.2.1 a1 ([],[],false,[])).2).2)) r2;bif(!(!r3.2))then bif((r3.1.length:Int) !=1)then some ((0,false,()),()) else bif(inb 0 r3.1.length)then some (((nth r3.1 0 0),true,()),()) else none else some ((0,false,()),()) else none
theorem yN9:ConOk prog 246 ⟨ynL,yvF,fun x=>yri x.1 x.2.1 x.2.2.1⟩:=zkI (yJq) func246 ntmps246.symm fun x=>by kernel_rfl
def yjs (a0:dA) (a1 a2:Int):Int×Bool:=(yhn a0 a1 a2,yw a0 a1 a2)
theorem yQt (a0:dA) (a1 a2:Int) (hk:zjx ynL (a0,a1,a2,())):yri a0 a1 a2=(fun n=>some ((n.1,n.2,()),())) (yjs a0 a1 a2):=by
 unfold yri yjs yhn yda;simp only[zkX,ymq,yib];rw[show yw a0 a1 a2=(yck a0 a1 a2&&((ycv a0 a1 a2).2&&((ycv a0 a1 a2).1.length:Int)==1))from rfl];rw[show yf1 (nth a0.2.2.1 a1 ([],[],false,[])) (yz a2)=ycv a0 a1 a2 from rfl];cases hl:yck a0 a1 a2
 ·rfl
 ·rw[show inb a1 a0.2.2.1.length=true by unfold yck at hl; exact(Bool.and_eq_true_iff.1 hl).1]
  cases(ycv a0 a1 a2).2
  ·rfl
  ·rw[bne]
   cases h1:(((ycv a0 a1 a2).1.length:Int)==1)
   ·rfl
   ·rw[show inb 0 (ycv a0 a1 a2).1.length=true from zj6.2 (by have:=beq_iff_eq.1 h1; omega)]; rfl
def yA0:Con:=⟨ynL,yvF,fun x=>(fun n=>some ((n.1,n.2,()),())) (yjs x.1 x.2.1 x.2.2.1)⟩
theorem yRf:ConOk prog 246 yA0:=(yN9).mono (fun x r hk h=>(yQt x.1 x.2.1 x.2.2.1 hk).trans h)
def yf3:Code:=(f247.body).getD .skip
def ykN:Env:=zkw TT [] []
theorem yCG:FrOk prog ⟨ykN,23,fun _=>none⟩ yf3:=zkA mixed ye trivial
def ypr:Nat→Option Seg:=fun _=>none
def yaC:Shape:=⟨[(0,false,[.br tI]),(1,false,[.int .i64]),(5,false,[.int .i64]),(6,false,[.int .i64])],[],[]⟩
def ych:Shape:=⟨[(0,false,[.br tI]),(1,false,[.int .i64]),(5,false,[.ci .i64 0]),(6,false,[.ci .i64 0])],[],[]⟩
def ycf:Shape:=⟨[(5,false,[.int .i64])],[],[]⟩
def yed:Shape:=⟨[],[],[]⟩
abbrev yhj (v0:List Int) (v1 v2 v3:Int):(yaC).X:=(((v0,()),(v1,()),(v2,()),(v3,()),()),(),())
abbrev yBZ (v0:List Int) (v1:Int):(ych).X:=(((v0,()),(v1,()),((),()),((),()),()),(),())
abbrev yBX (v0:Int):(ycf).X:=(((v0,()),()),(),())
def yhm (v0:List Int) (v1 v2 v3:Int):Option ((yaC).X ⊕ ((ycf).X ⊕ (yed).X)) :=bif(ltb v3 (v0.length:Int))then bif(v3 !=v1)then bif(inb v3 v0.length)then some (.inl (((v0,()),(v1,()),((i64.wrap ((BitVec.ofInt IntKind.i64.bits v2 ^^^ BitVec.ofInt IntKind.i64.bits (nth v0 v3 0)).toNat:Int)),()),((i64.wrap (v3+1)),()),()),(),())) else none else some (.inl (((v0,()),(v1,()),(v2,()),((i64.wrap (v3+1)),()),()),(),())) else some (.inr (.inl (((v2,()),()),(),())))
def yaJ (x:(yaC).X):=yhm x.1.1.1 x.1.2.1.1 x.1.2.2.1.1 x.1.2.2.2.1.1
def ynl (x:(ych).X):(yaC).X:=(((x.1.1.1,()),(x.1.2.1.1,()),(0,()),(0,()),()),(),())
def yo7:Code:=(zd7 yf3 64 116).getD .skip
theorem yCi:zd7 yf3 64 29=some (.block 0 (.loop yo7)):=by kernel_rfl
theorem yCZ (x:(yaC).X):zhu ⟨ykN,23,ypr⟩ 0 yo7 116 yaC ycf yed x=yaJ x:=by kernel_rfl
def ynn (x:(ych).X):Nat:=18446744073709551616
def yhH (x:(ych).X):Option ((ycf).X ⊕ (yed).X):=zF yaJ (ynn x) (ynl x)
def ynt:Seg:=⟨ych,ycf,yed,yhH⟩
def yC8:Nat→Option Seg:=fun q=>bif Nat.beq q 29 then some ynt else ypr q
theorem yCH:FrOk prog ⟨ykN,23,yC8⟩ yf3:=(yCG).loop (sg:=ynt) yaC ynl (by decide) yCi yaJ ynn (by decide) (fun _=>rfl) (fun x r _ h=>h) yCZ
abbrev yf9:List Par:= [.rd tL,.rd tI]
abbrev yk2:List OT:= [⟨false,tI,.fz⟩]
def yiY (a0:List Int) (a1:Int):Option (zaY yk2×zak yf9) :=zkt (yhH (((a0,()),(a1,()),((),()),((),()),()),(),())) (fun y0 =>some ((y0.1.1.1,()),())) (fun y0 =>none)
theorem yDv:ConOk prog 247 ⟨yf9,yk2,fun x=>yiY x.1 x.2.1⟩:=zkI (yCH) func247 ntmps247.symm fun x=>by kernel_rfl
def yd7 (a0:List Int) (a1:Int):Int:=yla a0 a1
theorem yEd (a0:List Int) (a1:Int) (hk:zjx yf9 (a0,a1,())):yiY a0 a1=(fun n=>some ((n,()),())) (yd7 a0 a1):=by
 have hb:a0.length*8≤2^47:=hk.1.1
 have h1:=zkD (step:=yaJ) a0.length (fun i s=>yhj a0 a1 s i) (fun n (i:Nat)=>bif(i:Int) !=a1 then xw n (nth a0 i 0)else n) (fun _ _=>True) (fun s=> .inl (yBX s)) (fun i s hi _=>⟨by
  simp only[yaJ,yhj,yhm,zky (show(i:Int)<a0.length by omega),cond_true,wq ((i:Int)+1) (by omega) (by omega),Int.natCast_add,Int.natCast_one,Int.toNat_natCast,zkR hi]
  cases((i:Int) !=a1)<;>rfl,trivial⟩) (fun s _=>by simp only[yaJ,yhj,yhm,zk3 (Int.le_refl _),cond_false]) 0 trivial 18446744073709551616 (by omega)
 rw[yWb]at h1;unfold yiY yd7;rw[show yhH (yBZ a0 a1)=_ from h1]; rfl
def yqH:Con:=⟨yf9,yk2,fun x=>(fun n=>some ((n,()),())) (yd7 x.1 x.2.1)⟩
theorem yEi:ConOk prog 247 yqH:=(yDv).mono (fun x r hk h=>(yEd x.1 x.2.1 hk).trans h)
def ylR:Code:=(f227.body).getD .skip
def ysf:Env:=zkw TT [(246,yA0),(247,yqH)] []
theorem yG3:FrOk prog ⟨ysf,45,fun _=>none⟩ ylR:=zkA mixed ye ⟨yRf,yEi,trivial⟩
def yxI:Nat→Option Seg:=fun _=>none
def ybC:Shape:=⟨[(1,false,[.int .i64]),(2,false,[.ptr 0 0]),(6,false,[.at 800000000]),(7,false,[.int .i64]),(8,false,[.int .i64])],[(0,[.int .i64,.int .i64,.int .i64,.br tM,.int .i64,.int .i64,.int .i64,.int .i64,.int .i64,.br tW,.int .i64,.bool,.bool])],[(800000000,tI,.fz)]⟩
def yeL:Shape:=⟨[(1,false,[.int .i64]),(2,false,[.ptr 0 0]),(6,false,[.at 800000000]),(7,false,[.ci .i64 (-1)]),(8,false,[.ci .i64 0])],[(0,[.int .i64,.int .i64,.int .i64,.br tM,.int .i64,.int .i64,.int .i64,.int .i64,.int .i64,.br tW,.int .i64,.bool,.bool])],[(800000000,tI,.fz)]⟩
def yeC:Shape:=⟨[(6,false,[.at 800000000]),(7,false,[.int .i64])],[],[(800000000,tI,.fz)]⟩
def yeO:Shape:=⟨[(4,false,[.at 800000000]),(5,false,[.bool])],[],[(800000000,tI,.fz)]⟩
abbrev ylj (v0 v1 v2:Int) (v3:dA) (v4:List Int):(ybC).X:=(((v0,()),((),()),((),()),(v1,()),(v2,()),()),((v3.1,v3.2.1.1,v3.2.1.2,v3.2.2.1,v3.2.2.2.1,v3.2.2.2.2.1,v3.2.2.2.2.2.1,v3.2.2.2.2.2.2.1,v3.2.2.2.2.2.2.2.1,v3.2.2.2.2.2.2.2.2.1,v3.2.2.2.2.2.2.2.2.2.1,v3.2.2.2.2.2.2.2.2.2.2.1,v3.2.2.2.2.2.2.2.2.2.2.2,()),()),(v4,()))
abbrev yFv (v0:Int) (v1:dA) (v2:List Int):(yeL).X:=(((v0,()),((),()),((),()),((),()),((),()),()),((v1.1,v1.2.1.1,v1.2.1.2,v1.2.2.1,v1.2.2.2.1,v1.2.2.2.2.1,v1.2.2.2.2.2.1,v1.2.2.2.2.2.2.1,v1.2.2.2.2.2.2.2.1,v1.2.2.2.2.2.2.2.2.1,v1.2.2.2.2.2.2.2.2.2.1,v1.2.2.2.2.2.2.2.2.2.2.1,v1.2.2.2.2.2.2.2.2.2.2.2,()),()),(v2,()))
abbrev yFm (v0:Int) (v1:List Int):(yeC).X:=((((),()),(v0,()),()),(),(v1,()))
abbrev yFy (v0:Bool) (v1:List Int):(yeO).X:=((((),()),(v0,()),()),(),(v1,()))
def ylG (v0 v1 v2 v3 v4 v5:Int) (v6:List dM) (v7 v8 v9 v10 v11:Int) (v12:List dW) (v13:Int) (v14 v15:Bool) (v16:List Int):Option ((ybC).X ⊕ ((yeC).X ⊕ (yeO).X)) :=bif(ltb v2 v4)then let r2:=yjs (v3,(v4,v5),v6,v7,v8,v9,v10,v11,v12,v13,v14,v15) v2 v0;bif(!r2.2)then bif(leb 0 v1)then some (.inr (.inr ((((),()),(false,()),()),(),(([]:List Int),())))) else bif(zkl v16.length ([r2.1]:List Int).length 8)then some (.inl (((v0,()),((),()),((),()),(v2,()),((i64.wrap (v2+1)),()),()),((v3,v4,v5,v6,v7,v8,v9,v10,v11,v12,v13,v14,v15,()),()),((v16++([r2.1]:List Int)),()))) else none else bif(zkl v16.length ([r2.1]:List Int).length 8)then some (.inl (((v0,()),((),()),((),()),(v1,()),((i64.wrap (v2+1)),()),()),((v3,v4,v5,v6,v7,v8,v9,v10,v11,v12,v13,v14,v15,()),()),((v16++([r2.1]:List Int)),()))) else none else some (.inr (.inl ((((),()),(v1,()),()),(),(v16,()))))
def ybV (x:(ybC).X):=ylG x.1.1.1 x.1.2.2.2.1.1 x.1.2.2.2.2.1.1 x.2.1.1.1 x.2.1.1.2.1 x.2.1.1.2.2.1 x.2.1.1.2.2.2.1 x.2.1.1.2.2.2.2.1 x.2.1.1.2.2.2.2.2.1 x.2.1.1.2.2.2.2.2.2.1 x.2.1.1.2.2.2.2.2.2.2.1 x.2.1.1.2.2.2.2.2.2.2.2.1 x.2.1.1.2.2.2.2.2.2.2.2.2.1 x.2.1.1.2.2.2.2.2.2.2.2.2.2.1 x.2.1.1.2.2.2.2.2.2.2.2.2.2.2.1 x.2.1.1.2.2.2.2.2.2.2.2.2.2.2.2.1 x.2.2.1
def yuc (x:(yeL).X):(ybC).X:=(((x.1.1.1,()),((),()),((),()),((-1),()),(0,()),()),((x.2.1.1.1,x.2.1.1.2.1,x.2.1.1.2.2.1,x.2.1.1.2.2.2.1,x.2.1.1.2.2.2.2.1,x.2.1.1.2.2.2.2.2.1,x.2.1.1.2.2.2.2.2.2.1,x.2.1.1.2.2.2.2.2.2.2.1,x.2.1.1.2.2.2.2.2.2.2.2.1,x.2.1.1.2.2.2.2.2.2.2.2.2.1,x.2.1.1.2.2.2.2.2.2.2.2.2.2.1,x.2.1.1.2.2.2.2.2.2.2.2.2.2.2.1,x.2.1.1.2.2.2.2.2.2.2.2.2.2.2.2.1,()),()),(x.2.2.1,()))
def ywk:Code:=(zd7 ylR 64 244).getD .skip
theorem yGx:zd7 ylR 64 61=some (.block 0 (.loop ywk)):=by kernel_rfl
theorem yH5 (x:(ybC).X):zhu ⟨ysf,45,yxI⟩ 0 ywk 244 ybC yeC yeO x=ybV x:=by kernel_rfl
def yup (x:(yeL).X):Nat:=18446744073709551616
def ymD (x:(yeL).X):Option ((yeC).X ⊕ (yeO).X):=zF ybV (yup x) (yuc x)
def yuM:Seg:=⟨yeL,yeC,yeO,ymD⟩
def yIv:Nat→Option Seg:=fun q=>bif Nat.beq q 61 then some yuM else yxI q
theorem yG4:FrOk prog ⟨ysf,45,yIv⟩ ylR:=(yG3).loop (sg:=yuM) ybC yuc (by decide) yGx ybV yup (by decide) (fun _=>rfl) (fun x r _ h=>h) yH5
abbrev yhL:List Par:= [.rd tA,.rd tI]
abbrev yl5:List OT:= [⟨false,tL,(.ow .fz)⟩,⟨false,tB,.fz⟩]
def yoO (a0:dA) (a1:Int):Option (zaY yl5×zak yhL) :=zkt (ymD (((a1,()),((),()),((),()),((),()),((),()),()),((a0.1,a0.2.1.1,a0.2.1.2,a0.2.2.1,a0.2.2.2.1,a0.2.2.2.2.1,a0.2.2.2.2.2.1,a0.2.2.2.2.2.2.1,a0.2.2.2.2.2.2.2.1,a0.2.2.2.2.2.2.2.2.1,a0.2.2.2.2.2.2.2.2.2.1,a0.2.2.2.2.2.2.2.2.2.2.1,a0.2.2.2.2.2.2.2.2.2.2.2,()),()),(([]:List Int),()))) (fun y2 =>bif(leb 0 y2.1.2.1.1)then let r4:=yd7 y2.2.2.1 y2.1.2.1.1;bif(inb y2.1.2.1.1 y2.2.2.1.length)then some (((y2.2.2.1.set (y2.1.2.1.1).toNat r4),true,()),()) else none else some ((y2.2.2.1,true,()),())) (fun y2 =>some ((y2.2.2.1,y2.1.2.1.1,()),()))
theorem yKP:ConOk prog 227 ⟨yhL,yl5,fun x=>yoO x.1 x.2.1⟩:=zkI (yG4) func227 ntmps227.symm fun x=>by kernel_rfl
def yig (a0:dA) (a1:Int):List Int×Bool:=yF a0 a1
def yta (a0:dA) (a1:Int):Bool:=yd a0.2.1
theorem yNA (a0:dA) (a1:Int) (hk:zjx yhL (a0,a1,())) (hq:yta a0 a1=true):yoO a0 a1=(fun n=>some ((n.1,n.2,()),())) (yig a0 a1):=by
 have hg:=yl.1 hq
 have h1:ymD (yFv a1 a0 [])=some (bif ydE (fun(i:Nat)=>yw a0 i a1) a0.2.1.1.toNat then .inr (yFy false [])else .inl (yFm (yB (fun(i:Nat)=>yw a0 i a1) a0.2.1.1.toNat) (yY a0 a1 a0.2.1.1.toNat))) :=
  zji (step:=ybV) (fun i=>ylj a1 (yB (fun(i:Nat)=>yw a0 i a1) i) i a0 (yY a0 a1 i)) a0.2.1.1.toNat (fun i=> !yw a0 i a1&&leb 0 (yB (fun(i:Nat)=>yw a0 i a1) i)) _ _ (fun i hi=>by
   simp only[ybV,ylj,ylG,zky (show(i:Int)<a0.2.1.1 by omega),cond_true,wq ((i:Int)+1) (by omega) (by omega),Int.natCast_add,Int.natCast_one,Int.toNat_natCast,zkX,yjs,yB];rw[zkF.2 (show((yY a0 a1 i).length+ [yhn a0 i a1].length)*8≤140737488355328 by simp only[List.length_cons,List.length_nil,yd9]; omega),yDR]
   cases yw a0 i a1<;>cases leb 0 (yB (fun(i:Nat)=>yw a0 i a1) i)<;>rfl) (by simp only[ybV,ylj,ylG,zk3 (show a0.2.1.1≤(a0.2.1.1.toNat:Int)by omega),cond_false]) _ (by show _<18446744073709551616; omega)
 unfold yoO yig yF;rw[h1];cases ydE (fun(i:Nat)=>yw a0 i a1) a0.2.1.1.toNat
 ·simp only[cond_false,zkN,yd7]
  cases hm:leb 0 (yB (fun(i:Nat)=>yw a0 i a1) a0.2.1.1.toNat)
  ·rfl
  ·obtain⟨h2,h3⟩:=yRT a0 a1 a0.2.1.1.toNat hm
   rw[h2,h3]; rfl
 ·rfl
def yml (a0:dA) (a1:Int):Option (zaY yl5×zak yhL):=bif yta a0 a1 then(fun n=>some ((n.1,n.2,()),())) (yig a0 a1)else none
theorem yOB (a0:dA) (a1:Int) (h:yta a0 a1=true):yml a0 a1=(fun n=>some ((n.1,n.2,()),())) (yig a0 a1):=by unfold yml; rw[h]; rfl
def yyP:Con:=⟨yhL,yl5,fun x=>yml x.1 x.2.1⟩
theorem yOu:ConOk prog 227 yyP:=(yKP).mono (fun x r hk h=>zkY h (fun hq=>yNA x.1 x.2.1 hk hq))
def ySg:Code:=(f242.body).getD .skip
def ySJ:Env:=zkw TT [(82,yK),(209,ymJ),(229,ymL)] []
theorem yI8:FrOk prog ⟨ySJ,28,fun _=>none⟩ ySg:=zkA mixed ye ⟨yU,yzF,yzH,trivial⟩
abbrev ynG:List Par:= [.rd tG,.rd tI,.rd tI]
abbrev yvu:List OT:= [⟨false,tI,.fz⟩]
def yrb (a0:dG) (a1 a2:Int):Option (zaY yvu×zak ynG) :=let r1:=yeh a0 a1;bif(!(!r1))then let r2:=yb a2 0 (i64.wrap (a0.1-2));bif(!r2)then some (((-1),()),()) else let r3:=ycP a0 a1;bif(a0.1 !=0)then some ((((i64.wrap ((i64.wrap (r3+1))+a2)).tmod a0.1),()),()) else none else some (((-1),()),())
theorem yNW:ConOk prog 242 ⟨ynG,yvu,fun x=>yrb x.1 x.2.1 x.2.2.1⟩:=zkI (yI8) func242 ntmps242.symm fun x=>by kernel_rfl
def yjp (a0:dG) (a1 a2:Int):Int:=ycM a0 a1 a2
theorem yQi (a0:dG) (a1 a2:Int) (hk:zjx ynG (a0,a1,a2,())):yrb a0 a1 a2=(fun n=>some ((n,()),())) (yjp a0 a1 a2):=by
 unfold yrb yjp ycM ycP;rw[yIf];cases hs:y5 a0 a1
 ·rfl
 ·have h1:=yab.1 hs
  have h2:=yl.1 h1.1;have h3:=ylp hs;rw[ycN,wq (a0.1-2) (by omega) (by omega)];cases hi:(leb 0 a2&&leb a2 (a0.1-2))
  ·rfl
  ·rw[Bool.and_eq_true,zj7,zj7]at hi
   rw[show(a0.1 !=0)=true from bne_iff_ne.2 (by omega)];show some (((i64.wrap (i64.wrap (yo a0 a1+1)+a2)).tmod a0.1,()),())=some (((yo a0 a1+1+a2).tmod a0.1,()),());rw[wq (yo a0 a1+1) (by omega) (by omega),wq (yo a0 a1+1+a2) (by omega) (by omega)]
def yAQ:Con:=⟨ynG,yvu,fun x=>(fun n=>some ((n,()),())) (yjp x.1 x.2.1 x.2.2.1)⟩
theorem yQ5:ConOk prog 242 yAQ:=(yNW).mono (fun x r hk h=>(yQi x.1 x.2.1 x.2.2.1 hk).trans h)
def ynw:Code:=(f218.body).getD .skip
def yuR:Env:=zkw TT [(227,yyP),(242,yAQ)] []
theorem yJl:FrOk prog ⟨yuR,41,fun _=>none⟩ ynw:=zkA mixed ye ⟨yOu,yQ5,trivial⟩
def yAo:Nat→Option Seg:=fun _=>none
def yb9:Shape:=⟨[(1,false,[.int .i64]),(2,false,[.ptr 0 0]),(6,false,[.at 800000000]),(7,false,[.bool]),(8,false,[.at 800000001]),(9,false,[.int .i64])],[(0,[.int .i64,.int .i64,.int .i64,.br tM,.int .i64,.int .i64,.int .i64,.int .i64,.int .i64,.br tW,.int .i64,.bool,.bool])],[(800000000,tI,.fz),(800000001,tI,.fz)]⟩
def yfn:Shape:=⟨[(1,false,[.int .i64]),(2,false,[.ptr 0 0]),(6,false,[.at 800000000]),(7,false,[.bool]),(8,false,[.at 800000001]),(9,false,[.ci .i64 0])],[(0,[.int .i64,.int .i64,.int .i64,.br tM,.int .i64,.int .i64,.int .i64,.int .i64,.int .i64,.br tW,.int .i64,.bool,.bool])],[(800000000,tI,.fz),(800000001,tI,.fz)]⟩
def yfd:Shape:=⟨[(7,false,[.bool]),(8,false,[.at 800000000])],[],[(800000000,tI,.fz)]⟩
def yiH:Shape:=⟨[],[],[]⟩
abbrev yeQ (v0:Int) (v1:Bool) (v2:Int) (v3:dA) (v4 v5:List Int):(yb9).X:=(((v0,()),((),()),((),()),(v1,()),((),()),(v2,()),()),((v3.1,v3.2.1.1,v3.2.1.2,v3.2.2.1,v3.2.2.2.1,v3.2.2.2.2.1,v3.2.2.2.2.2.1,v3.2.2.2.2.2.2.1,v3.2.2.2.2.2.2.2.1,v3.2.2.2.2.2.2.2.2.1,v3.2.2.2.2.2.2.2.2.2.1,v3.2.2.2.2.2.2.2.2.2.2.1,v3.2.2.2.2.2.2.2.2.2.2.2,()),()),(v4,v5,()))
abbrev ywX (v0:Int) (v1:Bool) (v2:dA) (v3 v4:List Int):(yfn).X:=(((v0,()),((),()),((),()),(v1,()),((),()),((),()),()),((v2.1,v2.2.1.1,v2.2.1.2,v2.2.2.1,v2.2.2.2.1,v2.2.2.2.2.1,v2.2.2.2.2.2.1,v2.2.2.2.2.2.2.1,v2.2.2.2.2.2.2.2.1,v2.2.2.2.2.2.2.2.2.1,v2.2.2.2.2.2.2.2.2.2.1,v2.2.2.2.2.2.2.2.2.2.2.1,v2.2.2.2.2.2.2.2.2.2.2.2,()),()),(v3,v4,()))
abbrev ymT (v0:Bool) (v1:List Int):(yfd).X:=(((v0,()),((),()),()),(),(v1,()))
def yhE (v0:Int) (v1:Bool) (v2 v3 v4 v5:Int) (v6:List dM) (v7 v8 v9 v10 v11:Int) (v12:List dW) (v13:Int) (v14 v15:Bool) (v16 v17:List Int):Option ((yb9).X ⊕ ((yfd).X ⊕ (yiH).X)) :=bif(ltb v2 (i64.wrap (v4-1)))then bif v1 then let r3:=yjp (v4,v5) v0 v2;bif(inb r3 v16.length)then bif(zkl v17.length ([(nth v16 r3 0)]:List Int).length 8)then some (.inl (((v0,()),((),()),((),()),(v1,()),((),()),((i64.wrap (v2+1)),()),()),((v3,v4,v5,v6,v7,v8,v9,v10,v11,v12,v13,v14,v15,()),()),(v16,(v17++([(nth v16 r3 0)]:List Int)),()))) else none else none else some (.inr (.inl (((v1,()),((),()),()),(),(v17,())))) else some (.inr (.inl (((v1,()),((),()),()),(),(v17,()))))
def yaG (x:(yb9).X):=yhE x.1.1.1 x.1.2.2.2.1.1 x.1.2.2.2.2.2.1.1 x.2.1.1.1 x.2.1.1.2.1 x.2.1.1.2.2.1 x.2.1.1.2.2.2.1 x.2.1.1.2.2.2.2.1 x.2.1.1.2.2.2.2.2.1 x.2.1.1.2.2.2.2.2.2.1 x.2.1.1.2.2.2.2.2.2.2.1 x.2.1.1.2.2.2.2.2.2.2.2.1 x.2.1.1.2.2.2.2.2.2.2.2.2.1 x.2.1.1.2.2.2.2.2.2.2.2.2.2.1 x.2.1.1.2.2.2.2.2.2.2.2.2.2.2.1 x.2.1.1.2.2.2.2.2.2.2.2.2.2.2.2.1 x.2.2.1 x.2.2.2.1
def ywH (x:(yfn).X):(yb9).X:=(((x.1.1.1,()),((),()),((),()),(x.1.2.2.2.1.1,()),((),()),(0,()),()),((x.2.1.1.1,x.2.1.1.2.1,x.2.1.1.2.2.1,x.2.1.1.2.2.2.1,x.2.1.1.2.2.2.2.1,x.2.1.1.2.2.2.2.2.1,x.2.1.1.2.2.2.2.2.2.1,x.2.1.1.2.2.2.2.2.2.2.1,x.2.1.1.2.2.2.2.2.2.2.2.1,x.2.1.1.2.2.2.2.2.2.2.2.2.1,x.2.1.1.2.2.2.2.2.2.2.2.2.2.1,x.2.1.1.2.2.2.2.2.2.2.2.2.2.2.1,x.2.1.1.2.2.2.2.2.2.2.2.2.2.2.2.1,()),()),(x.2.2.1,x.2.2.2.1,()))
def yyw:Code:=(zd7 ynw 64 244).getD .skip
theorem yIH:zd7 ynw 64 61=some (.block 0 (.loop yyw)):=by kernel_rfl
theorem yLg (x:(yb9).X):zhu ⟨yuR,41,yAo⟩ 0 yyw 244 yb9 yfd yiH x=yaG x:=by kernel_rfl
def ywQ (x:(yfn).X):Nat:=18446744073709551616
def yiy (x:(yfn).X):Option ((yfd).X ⊕ (yiH).X):=zF yaG (ywQ x) (ywH x)
def yxa:Seg:=⟨yfn,yfd,yiH,yiy⟩
def yLD:Nat→Option Seg:=fun q=>bif Nat.beq q 61 then some yxa else yAo q
theorem yJm:FrOk prog ⟨yuR,41,yLD⟩ ynw:=(yJl).loop (sg:=yxa) yb9 ywH (by decide) yIH yaG ywQ (by decide) (fun _=>rfl) (fun x r _ h=>h) yLg
abbrev yi6:List Par:= [.rd tA,.rd tI]
abbrev ynP:List OT:= [⟨false,tL,(.ow .fz)⟩,⟨false,tB,.fz⟩]
def yrg (a0:dA) (a1:Int):Option (zaY ynP×zak yi6) :=bnd (yml a0 a1) fun r1 =>zkt (yiy (((a1,()),((),()),((),()),(r1.1.2.1,()),((),()),((),()),()),((a0.1,a0.2.1.1,a0.2.1.2,a0.2.2.1,a0.2.2.2.1,a0.2.2.2.2.1,a0.2.2.2.2.2.1,a0.2.2.2.2.2.2.1,a0.2.2.2.2.2.2.2.1,a0.2.2.2.2.2.2.2.2.1,a0.2.2.2.2.2.2.2.2.2.1,a0.2.2.2.2.2.2.2.2.2.2.1,a0.2.2.2.2.2.2.2.2.2.2.2,()),()),(r1.1.1,([]:List Int),()))) (fun y3 =>some ((y3.2.2.1,y3.1.1.1,()),())) (fun y3 =>none)
theorem yN6:ConOk prog 218 ⟨yi6,ynP,fun x=>yrg x.1 x.2.1⟩:=zkI (yJm) func218 ntmps218.symm fun x=>by kernel_rfl
def ynT (a0:dA) (a1:Int):List Int×Bool:=ytE a0 a1
def yvU (a0:dA) (a1:Int):Bool:=y5 a0.2.1 a1
theorem yQq (a0:dA) (a1:Int) (hk:zjx yi6 (a0,a1,())) (hq:yvU a0 a1=true):yrg a0 a1=(fun n=>some ((n.1,n.2,()),())) (ynT a0 a1):=by
 have hs:y5 a0.2.1 a1=true:=hq;have hg:=yl.1 (yab.1 hs).1;unfold yrg ynT ytE;rw[yOB a0 a1 (yab.1 hs).1,yig];simp only[zkH];cases hw:(yF a0 a1).2
 ·have h1:yiy (ywX a1 false a0 (yF a0 a1).1 [])=some (.inl (ymT false [])) :=
   zkL (step:=yaG) (fun i=>yeQ a1 false i a0 (yF a0 a1).1 []) 0 _ (fun i hi=>absurd hi (Nat.not_lt_zero _)) (by
    simp only[yaG,yeQ,yhE,cond_false]
    cases ltb ((0:Nat):Int) (i64.wrap (a0.2.1.1-1))<;>rfl) _ (by show _<18446744073709551616; omega)
  rw[h1]; rfl
 ·have hL:=yF0 hw
  have h1:yiy (ywX a1 true a0 (yF a0 a1).1 [])=some (.inl (ymT true ((List.range (a0.2.1.1-1).toNat).foldl (fun l (i:Nat)=>l++ [nth (yF a0 a1).1 (ycM a0.2.1 a1 i) 0]) []))) :=
   zkD (step:=yaG) (a0.2.1.1-1).toNat (fun i s=>yeQ a1 true i a0 (yF a0 a1).1 s) (fun l (i:Nat)=>l++ [nth (yF a0 a1).1 (ycM a0.2.1 a1 i) 0]) (fun i s=>s.length=i) (fun s=> .inl (ymT true s)) (fun i s hi hs2=>⟨by
    have hd:=yVc hs (show(0:Int)≤i by omega) (show(i:Int)≤a0.2.1.1-2 by omega);simp only[yaG,yeQ,yhE,wq (a0.2.1.1-1) (by omega) (by omega),zky (show(i:Int)<a0.2.1.1-1 by omega),cond_true,wq ((i:Int)+1) (by omega) (by omega),Int.natCast_add,Int.natCast_one,Int.toNat_natCast,zkX,yjp,zj6.2 (show 0≤ycM a0.2.1 a1 i∧ycM a0.2.1 a1 i<(yF a0 a1).1.length by omega)]
    rw[zkF.2 (show(s.length+ [nth (yF a0 a1).1 (ycM a0.2.1 a1 i) 0].length)*8≤140737488355328 by simp only[List.length_cons,List.length_nil]; omega)]; rfl,by simp[hs2]⟩) (fun s hs2=>by simp only[yaG,yeQ,yhE,wq (a0.2.1.1-1) (by omega) (by omega),zk3 (show a0.2.1.1-1≤((a0.2.1.1-1).toNat:Int)by omega),cond_false]) [] rfl _ (by show _<18446744073709551616; omega)
  rw[h1,yma]; rfl
def ynV (a0:dA) (a1:Int):Option (zaY ynP×zak yi6):=bif yvU a0 a1 then(fun n=>some ((n.1,n.2,()),())) (ynT a0 a1)else none
theorem yRj (a0:dA) (a1:Int) (h:yvU a0 a1=true):ynV a0 a1=(fun n=>some ((n.1,n.2,()),())) (ynT a0 a1):=by unfold ynV; rw[h]; rfl
def yAY:Con:=⟨yi6,ynP,fun x=>ynV x.1 x.2.1⟩
theorem yRd:ConOk prog 218 yAY:=(yN6).mono (fun x r hk h=>zkY h (fun hq=>yQq x.1 x.2.1 hk hq))
def yLy:Code:=(f181.body).getD .skip
def yLV:Env:=zkw TT [(215,yvL),(218,yAY)] []
theorem yFd:FrOk prog ⟨yLV,28,fun _=>none⟩ yLy:=zkA mixed ye ⟨yFJ,yRd,trivial⟩
abbrev yga:List Par:= [.rd tA,.rd tI]
abbrev ykn:List OT:= [⟨false,tL,(.ow .fz)⟩,⟨false,tB,.fz⟩]
def ynb (a0:dA) (a1:Int):Option (zaY ykn×zak yga) :=let r1:=yhk a0 a1;bif(leb 0 r1)then bif(inb r1 a0.2.2.2.2.2.2.2.2.1.length)then bif(zkl ([]:List Int).length ((nth a0.2.2.2.2.2.2.2.2.1 r1 (0,[])).2).length 8)then some (((([]:List Int)++((nth a0.2.2.2.2.2.2.2.2.1 r1 (0,[])).2)),true,()),()) else none else none else bif a0.2.2.2.2.2.2.2.2.2.2.2 then some ((([]:List Int),false,()),()) else bnd (ynV a0 a1) fun r2 =>some ((r2.1.1,r2.1.2.1,()),())
theorem yHP:ConOk prog 181 ⟨yga,ykn,fun x=>ynb x.1 x.2.1⟩:=zkI (yFd) func181 ntmps181.symm fun x=>by kernel_rfl
def yg8 (a0:dA) (a1:Int):List Int×Bool:=yJ a0 a1
def yq4 (a0:dA) (a1:Int):Bool:=y5 a0.2.1 a1
theorem yKs (a0:dA) (a1:Int) (hk:zjx yga (a0,a1,())) (hq:yq4 a0 a1=true):ynb a0 a1=(fun n=>some ((n.1,n.2,()),())) (yg8 a0 a1):=by
 unfold ynb yg8 yJ yhk;rw[yRj a0 a1 hq];simp only[List.nil_append];cases h:leb 0 (yL a0.2.2.2.2.2.2.2.2.1 a1)
 ·cases a0.2.2.2.2.2.2.2.2.2.2.2<;>rfl
 ·have h1:=(yk9 (d:=((0,[]):dW)) h).1
  have h2:(nth a0.2.2.2.2.2.2.2.2.1 (yL a0.2.2.2.2.2.2.2.2.1 a1) (0,[])).2.length*8≤2^47:=yCN (P:=fun x:dW=>x.2.length*8≤2^47) h1 (fun x hx=>(hk.1.2.2.2.2.2.2.2.2.1.2 x hx).2.1);rw[show inb (yL a0.2.2.2.2.2.2.2.2.1 a1) a0.2.2.2.2.2.2.2.2.1.length=true from h1,zkF.2 (show(([]:List Int).length+(nth a0.2.2.2.2.2.2.2.2.1 (yL a0.2.2.2.2.2.2.2.2.1 a1) (0,[])).2.length)*8≤140737488355328 by rw[List.length_nil]; omega)]; rfl
def ykG (a0:dA) (a1:Int):Option (zaY ykn×zak yga):=bif yq4 a0 a1 then(fun n=>some ((n.1,n.2,()),())) (yg8 a0 a1)else none
theorem yK9 (a0:dA) (a1:Int) (h:yq4 a0 a1=true):ykG a0 a1=(fun n=>some ((n.1,n.2,()),())) (yg8 a0 a1):=by unfold ykG; rw[h]; rfl
def ywA:Con:=⟨yga,ykn,fun x=>ykG x.1 x.2.1⟩
theorem yK8:ConOk prog 181 ywA:=(yHP).mono (fun x r hk h=>zkY h (fun hq=>yKs x.1 x.2.1 hk hq))
def yO6:Code:=(f182.body).getD .skip
def yPz:Env:=zkw TT [(82,yK),(119,ykA)] []
theorem yGT:FrOk prog ⟨yPz,16,fun _=>none⟩ yO6:=zkA mixed ye ⟨yU,ys2,trivial⟩
abbrev ylZ:List Par:= [.rd tG,.rd tI]
abbrev ysI:List OT:= [⟨false,tI,.fz⟩]
def yoJ (a0:dG) (a1:Int):Option (zaY ysI×zak ylZ) :=let r1:=yn a0;let r2:=yb a1 0 (i64.wrap (r1-1));bif(!r2)then some (((-1),()),()) else bif((i64.wrap (a0.1-1)) !=0)then some (((a1.tmod (i64.wrap (a0.1-1))),()),()) else none
theorem yKI:ConOk prog 182 ⟨ylZ,ysI,fun x=>yoJ x.1 x.2.1⟩:=zkI (yGT) func182 ntmps182.symm fun x=>by kernel_rfl
def yia (a0:dG) (a1:Int):Int:=yef a0 a1
theorem yNu (a0:dG) (a1:Int) (hk:zjx ylZ (a0,a1,())):yoJ a0 a1=(fun n=>some ((n,()),())) (yia a0 a1):=by
 unfold yoJ yia yef;simp only[yUg];cases hb:ybj a0 a1
 ·rfl
 ·obtain⟨h1,h2,h3⟩:=yk3 hb
  have h4:=yl.1 h1;rw[wq (a0.1-1) (by omega) (by omega),show(a0.1-1 !=0)=true from bne_iff_ne.2 (by omega)]; rfl
def yyK:Con:=⟨ylZ,ysI,fun x=>(fun n=>some ((n,()),())) (yia x.1 x.2.1)⟩
theorem yOp:ConOk prog 182 yyK:=(yKI).mono (fun x r hk h=>(yNu x.1 x.2.1 hk).trans h)
def ypo:Code:=(f183.body).getD .skip
def yxS:Env:=zkw TT [] [(4096,(.pr .fz .fz)),(28800,(.pr .fz .fz)),(41472,(.pr .fz .fz)),(49280,(.pr .fz .fz))]
theorem yMR:FrOk prog ⟨yxS,67,fun _=>none⟩ ypo:=zkA mixed ye trivial
def yCf:Nat→Option Seg:=fun _=>none
def ycK:Shape:=⟨[(0,false,[.ptr 1000000000 0]),(3,false,[.ptr 0 0]),(4,false,[.at 800000000]),(5,false,[.bool]),(6,false,[.int .i64])],[(0,[.int .i64,.fz tI]),(1000000000,[.int .i64,.int .i64,.int .i64,.at 800000001,.int .i64,.int .i64,.int .i64,.int .i64,.int .i64,.at 800000002,.int .i64,.bool,.bool])],[(800000000,tW,(.pr .fz .fz)),(800000001,tM,(.pr (.ow .fz) (.pr (.ow (.pr .fz .fz)) (.pr .fz (.ow .fz))))),(800000002,tW,(.pr .fz .fz))]⟩
def ygE:Shape:=⟨[(0,false,[.ptr 1000000000 0]),(3,false,[.ptr 0 0]),(4,false,[.at 800000000]),(5,false,[.cb false]),(6,false,[.ci .i64 0])],[(0,[.int .i64,.fz tI]),(1000000000,[.int .i64,.int .i64,.int .i64,.at 800000001,.int .i64,.int .i64,.int .i64,.int .i64,.int .i64,.at 800000002,.int .i64,.bool,.bool])],[(800000000,tW,(.pr .fz .fz)),(800000001,tM,(.pr (.ow .fz) (.pr (.ow (.pr .fz .fz)) (.pr .fz (.ow .fz))))),(800000002,tW,(.pr .fz .fz))]⟩
def ygp:Shape:=⟨[(0,false,[.ptr 1000000000 0]),(3,false,[.ptr 0 0]),(4,false,[.at 800000000]),(5,false,[.bool])],[(0,[.int .i64,.fz tI]),(1000000000,[.int .i64,.int .i64,.int .i64,.at 800000001,.int .i64,.int .i64,.int .i64,.int .i64,.int .i64,.at 800000002,.int .i64,.bool,.bool])],[(800000000,tW,(.pr .fz .fz)),(800000001,tM,(.pr (.ow .fz) (.pr (.ow (.pr .fz .fz)) (.pr .fz (.ow .fz))))),(800000002,tW,(.pr .fz .fz))]⟩
def yku:Shape:=⟨[],[],[]⟩
abbrev yoz (v0:Bool) (v1:Int) (v2:dW) (v3:dA) (v4:List dW):(ycK).X:=((((),()),((),()),((),()),(v0,()),(v1,()),()),((v2.1,v2.2,()),(v3.1,v3.2.1.1,v3.2.1.2,(),v3.2.2.2.1,v3.2.2.2.2.1,v3.2.2.2.2.2.1,v3.2.2.2.2.2.2.1,v3.2.2.2.2.2.2.2.1,(),v3.2.2.2.2.2.2.2.2.2.1,v3.2.2.2.2.2.2.2.2.2.2.1,v3.2.2.2.2.2.2.2.2.2.2.2,()),()),(v4,v3.2.2.1,v3.2.2.2.2.2.2.2.2.1,()))
abbrev yJY (v0:dW) (v1:dA) (v2:List dW):(ygE).X:=((((),()),((),()),((),()),((),()),((),()),()),((v0.1,v0.2,()),(v1.1,v1.2.1.1,v1.2.1.2,(),v1.2.2.2.1,v1.2.2.2.2.1,v1.2.2.2.2.2.1,v1.2.2.2.2.2.2.1,v1.2.2.2.2.2.2.2.1,(),v1.2.2.2.2.2.2.2.2.2.1,v1.2.2.2.2.2.2.2.2.2.2.1,v1.2.2.2.2.2.2.2.2.2.2.2,()),()),(v2,v1.2.2.1,v1.2.2.2.2.2.2.2.2.1,()))
abbrev yJK (v0:Bool) (v1:dW) (v2:dA) (v3:List dW):(ygp).X:=((((),()),((),()),((),()),(v0,()),()),((v1.1,v1.2,()),(v2.1,v2.2.1.1,v2.2.1.2,(),v2.2.2.2.1,v2.2.2.2.2.1,v2.2.2.2.2.2.1,v2.2.2.2.2.2.2.1,v2.2.2.2.2.2.2.2.1,(),v2.2.2.2.2.2.2.2.2.2.1,v2.2.2.2.2.2.2.2.2.2.2.1,v2.2.2.2.2.2.2.2.2.2.2.2,()),()),(v3,v2.2.2.1,v2.2.2.2.2.2.2.2.2.1,()))
def yo4 (v0:Bool) (v1 v2:Int) (v3:List Int) (v4 v5 v6 v7 v8 v9 v10 v11 v12:Int) (v13 v14:Bool) (v15:List dW) (v16:List dM) (v17:List dW):Option ((ycK).X ⊕ ((ygp).X ⊕ (yku).X)) :=bif(ltb v1 (v17.length:Int))then bif(!v0)then bif(inb v1 v17.length)then bif(leb v2 ((nth v17 v1 (0,[])).1))then bif(zkl v15.length ([(v2,v3)]:List dW).length 32)then bif(inb v1 v17.length)then bif((nth v17 v1 (0,[])).1 !=v2)then bif(inb v1 v17.length)then bif(zkl (v15++([(v2,v3)]:List dW)).length ([(nth v17 v1 (0,[]))]:List dW).length 32)then some (.inl ((((),()),((),()),((),()),(true,()),((i64.wrap (v1+1)),()),()),((v2,v3,()),(v4,v5,v6,(),v7,v8,v9,v10,v11,(),v12,v13,v14,()),()),(((v15++([(v2,v3)]:List dW))++([(nth v17 v1 (0,[]))]:List dW)),v16,v17,()))) else none else none else some (.inl ((((),()),((),()),((),()),(true,()),((i64.wrap (v1+1)),()),()),((v2,v3,()),(v4,v5,v6,(),v7,v8,v9,v10,v11,(),v12,v13,v14,()),()),((v15++([(v2,v3)]:List dW)),v16,v17,()))) else none else none else bif(inb v1 v17.length)then bif((nth v17 v1 (0,[])).1 !=v2)then bif(inb v1 v17.length)then bif(zkl v15.length ([(nth v17 v1 (0,[]))]:List dW).length 32)then some (.inl ((((),()),((),()),((),()),(v0,()),((i64.wrap (v1+1)),()),()),((v2,v3,()),(v4,v5,v6,(),v7,v8,v9,v10,v11,(),v12,v13,v14,()),()),((v15++([(nth v17 v1 (0,[]))]:List dW)),v16,v17,()))) else none else none else some (.inl ((((),()),((),()),((),()),(v0,()),((i64.wrap (v1+1)),()),()),((v2,v3,()),(v4,v5,v6,(),v7,v8,v9,v10,v11,(),v12,v13,v14,()),()),(v15,v16,v17,()))) else none else none else bif(inb v1 v17.length)then bif((nth v17 v1 (0,[])).1 !=v2)then bif(inb v1 v17.length)then bif(zkl v15.length ([(nth v17 v1 (0,[]))]:List dW).length 32)then some (.inl ((((),()),((),()),((),()),(v0,()),((i64.wrap (v1+1)),()),()),((v2,v3,()),(v4,v5,v6,(),v7,v8,v9,v10,v11,(),v12,v13,v14,()),()),((v15++([(nth v17 v1 (0,[]))]:List dW)),v16,v17,()))) else none else none else some (.inl ((((),()),((),()),((),()),(v0,()),((i64.wrap (v1+1)),()),()),((v2,v3,()),(v4,v5,v6,(),v7,v8,v9,v10,v11,(),v12,v13,v14,()),()),(v15,v16,v17,()))) else none else some (.inr (.inl ((((),()),((),()),((),()),(v0,()),()),((v2,v3,()),(v4,v5,v6,(),v7,v8,v9,v10,v11,(),v12,v13,v14,()),()),(v15,v16,v17,()))))
def yc8 (x:(ycK).X):=yo4 x.1.2.2.2.1.1 x.1.2.2.2.2.1.1 x.2.1.1.1 x.2.1.1.2.1 x.2.1.2.1.1 x.2.1.2.1.2.1 x.2.1.2.1.2.2.1 x.2.1.2.1.2.2.2.2.1 x.2.1.2.1.2.2.2.2.2.1 x.2.1.2.1.2.2.2.2.2.2.1 x.2.1.2.1.2.2.2.2.2.2.2.1 x.2.1.2.1.2.2.2.2.2.2.2.2.1 x.2.1.2.1.2.2.2.2.2.2.2.2.2.2.1 x.2.1.2.1.2.2.2.2.2.2.2.2.2.2.2.1 x.2.1.2.1.2.2.2.2.2.2.2.2.2.2.2.2.1 x.2.2.1 x.2.2.2.1 x.2.2.2.2.1
def yy9 (x:(ygE).X):(ycK).X:=((((),()),((),()),((),()),(false,()),(0,()),()),((x.2.1.1.1,x.2.1.1.2.1,()),(x.2.1.2.1.1,x.2.1.2.1.2.1,x.2.1.2.1.2.2.1,(),x.2.1.2.1.2.2.2.2.1,x.2.1.2.1.2.2.2.2.2.1,x.2.1.2.1.2.2.2.2.2.2.1,x.2.1.2.1.2.2.2.2.2.2.2.1,x.2.1.2.1.2.2.2.2.2.2.2.2.1,(),x.2.1.2.1.2.2.2.2.2.2.2.2.2.2.1,x.2.1.2.1.2.2.2.2.2.2.2.2.2.2.2.1,x.2.1.2.1.2.2.2.2.2.2.2.2.2.2.2.2.1,()),()),(x.2.2.1,x.2.2.2.1,x.2.2.2.2.1,()))
def yAI:Code:=(zd7 ypo 64 244).getD .skip
theorem yMa:zd7 ypo 64 61=some (.block 0 (.loop yAI)):=by kernel_rfl
theorem yOS (x:(ycK).X):zhu ⟨yxS,67,yCf⟩ 0 yAI 244 ycK ygp yku x=yc8 x:=by kernel_rfl
def yzp (x:(ygE).X):Nat:=18446744073709551616
def ypQ (x:(ygE).X):Option ((ygp).X ⊕ (yku).X):=zF yc8 (yzp x) (yy9 x)
def yz9:Seg:=⟨ygE,ygp,yku,ypQ⟩
def yPo:Nat→Option Seg:=fun q=>bif Nat.beq q 61 then some yz9 else yCf q
theorem yMS:FrOk prog ⟨yxS,67,yPo⟩ ypo:=(yMR).loop (sg:=yz9) ycK yy9 (by decide) yMa yc8 yzp (by decide) (fun _=>rfl) (fun x r _ h=>h) yOS
abbrev ykY:List Par:= [.pt tA (.pr .fz (.pr (.pr .fz .fz) (.pr (.ow (.pr (.ow .fz) (.pr (.ow (.pr .fz .fz)) (.pr .fz (.ow .fz))))) (.pr .fz (.pr .fz (.pr .fz (.pr .fz (.pr .fz (.pr (.ow (.pr .fz .fz)) (.pr .fz (.pr .fz .fz))))))))))),.kp tW .fz]
abbrev yqx:List OT:= []
def ytq (a0:dA) (a1:dW):Option (zaY yqx×zak ykY) :=zkt (ypQ ((((),()),((),()),((),()),((),()),((),()),()),((a1.1,a1.2,()),(a0.1,a0.2.1.1,a0.2.1.2,(),a0.2.2.2.1,a0.2.2.2.2.1,a0.2.2.2.2.2.1,a0.2.2.2.2.2.2.1,a0.2.2.2.2.2.2.2.1,(),a0.2.2.2.2.2.2.2.2.2.1,a0.2.2.2.2.2.2.2.2.2.2.1,a0.2.2.2.2.2.2.2.2.2.2.2,()),()),(([]:List dW),a0.2.2.1,a0.2.2.2.2.2.2.2.2.1,()))) (fun y0 =>bif(!y0.1.2.2.2.1.1)then bif(zkl y0.2.2.1.length ([(y0.2.1.1.1,y0.2.1.1.2.1)]:List dW).length 32)then some ((),((y0.2.1.2.1.1,(y0.2.1.2.1.2.1,y0.2.1.2.1.2.2.1),y0.2.2.2.1,y0.2.1.2.1.2.2.2.2.1,y0.2.1.2.1.2.2.2.2.2.1,y0.2.1.2.1.2.2.2.2.2.2.1,y0.2.1.2.1.2.2.2.2.2.2.2.1,y0.2.1.2.1.2.2.2.2.2.2.2.2.1,(y0.2.2.1++([(y0.2.1.1.1,y0.2.1.1.2.1)]:List dW)),y0.2.1.2.1.2.2.2.2.2.2.2.2.2.2.1,y0.2.1.2.1.2.2.2.2.2.2.2.2.2.2.2.1,y0.2.1.2.1.2.2.2.2.2.2.2.2.2.2.2.2.1),())) else none else some ((),((y0.2.1.2.1.1,(y0.2.1.2.1.2.1,y0.2.1.2.1.2.2.1),y0.2.2.2.1,y0.2.1.2.1.2.2.2.2.1,y0.2.1.2.1.2.2.2.2.2.1,y0.2.1.2.1.2.2.2.2.2.2.1,y0.2.1.2.1.2.2.2.2.2.2.2.1,y0.2.1.2.1.2.2.2.2.2.2.2.2.1,y0.2.2.1,y0.2.1.2.1.2.2.2.2.2.2.2.2.2.2.1,y0.2.1.2.1.2.2.2.2.2.2.2.2.2.2.2.1,y0.2.1.2.1.2.2.2.2.2.2.2.2.2.2.2.2.1),()))) (fun y0 =>none)
theorem yQW:ConOk prog 183 ⟨ykY,yqx,fun x=>ytq x.1 x.2.1⟩:=zkI (yMS) func183 ntmps183.symm fun x=>by kernel_rfl
def yqZ (a0:dA) (a1:dW):dA:=ytt a0 (yFK a0.2.2.2.2.2.2.2.2.1 a1)
def yzL (a0:dA) (a1:dW):Bool:=decide (a0.2.2.2.2.2.2.2.2.1.length≤1000)
theorem yTi (a0:dA) (a1:dW) (hk:zjx ykY (a0,a1,())) (hq:yzL a0 a1=true):ytq a0 a1=(fun n=>some ((),(n,()))) (yqZ a0 a1):=by
 have hq:=of_decide_eq_true hq
 have h1:=zkx (step:=yc8) a0.2.2.2.2.2.2.2.2.1 (0,[]) (fun i s=>yoz s.1 i a1 a0 s.2) (yb0 a1) (fun i s=>s.2.length≤i*2) (fun s=> .inl (yJK s.1 a1 a0 s.2)) (fun i s hi hs=>by
  constructor
  ·simp only[yc8,yoz,yo4,zky (show(i:Int)<a0.2.2.2.2.2.2.2.2.1.length by omega),cond_true,wq ((i:Int)+1) (by omega) (by omega),Int.natCast_add,Int.natCast_one,Int.toNat_natCast,zkR hi,zkX,zkS,yb0,zkF.2 (show(s.2.length+ [a1].length)*32≤140737488355328 by simp only[List.length_cons,List.length_nil]; omega),
    show ∀x:dW,zkl s.2.length [x].length 32=true from fun x=>zkF.2 (by simp only[List.length_cons,List.length_nil]; omega),show ∀x:dW,zkl (s.2++ [a1]).length [x].length 32=true from fun x=>zkF.2 (by simp only[List.length_append,List.length_cons,List.length_nil]; omega)]
   cases s.1<;>cases leb a1.1 (a0.2.2.2.2.2.2.2.2.1.getD i (0,[])).1<;>cases((a0.2.2.2.2.2.2.2.2.1.getD i (0,[])).1 !=a1.1)<;>simp
  ·unfold yb0
   have: ∀(b c:Bool) (x:dW),((bif b then s.2++ [a1]else s.2)++(bif c then[x]else[])).length≤(i+1)*2:=fun b c x=>by
    cases b<;>cases c<;>simp<;>omega
   exact this _ _ _) (fun s hs=>by simp only[yc8,yoz,yo4,zk3 (Int.le_refl _),cond_false]) (false,[]) (Nat.zero_le _) 18446744073709551616 (by omega)
 have hl:((a0.2.2.2.2.2.2.2.2.1.foldl (yb0 a1) (false,[])).2).length≤2000:=by
  have: ∀(l:List dW) (s:Bool×List dW),((l.foldl (yb0 a1) s).2).length≤s.2.length+l.length*2:=by
   intro l
   induction l with
   | nil=>intro s; simp
   | cons x t ih =>
    intro s;rw[List.foldl_cons];have:=ih (yb0 a1 s x)
    have h2:(yb0 a1 s x).2.length≤s.2.length+2:=by
     unfold yb0;cases(!s.1&&leb a1.1 x.1)<;>cases(x.1 !=a1.1)<;>simp
    simp only[List.length_cons]; omega
  have:=this a0.2.2.2.2.2.2.2.2.1 (false,[]);simp only[List.length_nil]at this;omega
 unfold ytq yqZ yFK;refine(congrArg (fun z=>zkt z _ _) (show ypQ (yJY a1 a0 [])=_ from h1)).trans ?_;generalize a0.2.2.2.2.2.2.2.2.1.foldl (yb0 a1) (false,[])=R at hl;simp only[zkN,zkX];cases hr:R.1
 ·rw[zkF.2 (show(R.2.length+ [a1].length)*32≤140737488355328 by simp only[List.length_cons,List.length_nil]; omega)]; rfl
 ·rfl
def yq1 (a0:dA) (a1:dW):Option (zaY yqx×zak ykY):=bif yzL a0 a1 then(fun n=>some ((),(n,()))) (yqZ a0 a1)else none
theorem yTE (a0:dA) (a1:dW) (h:yzL a0 a1=true):yq1 a0 a1=(fun n=>some ((),(n,()))) (yqZ a0 a1):=by unfold yq1; rw[h]; rfl
def yCA:Con:=⟨ykY,yqx,fun x=>yq1 x.1 x.2.1⟩
theorem yTB:ConOk prog 183 yCA:=(yQW).mono (fun x r hk h=>zkY h (fun hq=>yTi x.1 x.2.1 hk hq))
section
def yT0:Code:=(f118.body).getD .skip
def yUd:Env:=zkw TT [(180,ywy),(181,ywA),(182,yyK),(183,yCA)] []
theorem yMT:FrOk prog ⟨yUd,40,fun _=>none⟩ yT0:=zkA mixed ye ⟨yK6,yK8,yOp,yTB,trivial⟩
abbrev ykZ:List Par:= [.pt tA (.pr .fz (.pr (.pr .fz .fz) (.pr (.ow (.pr (.ow .fz) (.pr (.ow (.pr .fz .fz)) (.pr .fz (.ow .fz))))) (.pr .fz (.pr .fz (.pr .fz (.pr .fz (.pr .fz (.pr (.ow (.pr .fz .fz)) (.pr .fz (.pr .fz .fz))))))))))),.rd tI,.rd tI]
abbrev yqy:List OT:= [⟨false,tI,.fz⟩]
def ytr (a0:dA) (a1 a2:Int):Option (zaY yqy×zak ykZ) :=let r1:=yg6 a0.2.1 a1;bnd (ykG a0 r1) fun r2 =>bif(!r2.1.2.1)then some ((5,()),(a0,())) else let r3:=yia a0.2.1 a1;bif(inb r3 r2.1.1.length)then bnd (yq1 a0 (r1,(r2.1.1.set (r3).toNat a2))) fun r4 =>some ((0,()),(r4.2.1,())) else none
theorem yQX:ConOk prog 118 ⟨ykZ,yqy,fun x=>ytr x.1 x.2.1 x.2.2.1⟩:=zkI (yMT) func118 ntmps118.symm fun x=>by kernel_rfl
def yip (a:dA) (b n:Int):Int×dA:=bif(yJ a (yag a.2.1 b)).2 then(0,ytt a (yFK a.2.2.2.2.2.2.2.2.1 (yag a.2.1 b,(yJ a (yag a.2.1 b)).1.set (yef a.2.1 b).toNat n)))else(5,a)
def ylo (a0:dA) (a1 a2:Int):Int×dA:=yip a0 a1 a2
def ylr (a0:dA) (a1 a2:Int):Bool:=yR a0&&(ybj a0.2.1 a1&&decide (a0.2.2.2.2.2.2.2.2.1.length≤1000))
theorem yTj (a0:dA) (a1 a2:Int) (hk:zjx ykZ (a0,a1,a2,())) (hq:ylr a0 a1 a2=true):ytr a0 a1 a2=(fun n=>some ((n.1,()),(n.2,()))) (ylo a0 a1 a2):=by
 simp only[ylr,Bool.and_eq_true]at hq;have hs:=yjz hq.2.1;obtain⟨hg,_,hi⟩:=yk3 hq.2.1;unfold ytr ylo yip;simp only[yg6,yia];rw[yK9 a0 (yag a0.2.1 a1) hs];simp only[zkH,yg8];cases hn:(yJ a0 (yag a0.2.1 a1)).2
 ·rfl
 ·have hl:=yn1 hq.1 hs hn
  have hx:yef a0.2.1 a1=a1.tmod (a0.2.1.1-1):=by unfold yef; rw[hq.2.1]; rfl
  rw[zj6.2 (show 0≤yef a0.2.1 a1∧yef a0.2.1 a1<(yJ a0 (yag a0.2.1 a1)).1.length by omega),yTE _ _ hq.2.2];rfl
def yq2 (a0:dA) (a1 a2:Int):Option (zaY yqy×zak ykZ):=bif ylr a0 a1 a2 then(fun n=>some ((n.1,()),(n.2,()))) (ylo a0 a1 a2)else none
theorem yTF (a0:dA) (a1 a2:Int) (h:ylr a0 a1 a2=true):yq2 a0 a1 a2=(fun n=>some ((n.1,()),(n.2,()))) (ylo a0 a1 a2):=by unfold yq2; rw[h]; rfl
def yCB:Con:=⟨ykZ,yqy,fun x=>yq2 x.1 x.2.1 x.2.2.1⟩
theorem yTC:ConOk prog 118 yCB:=(yQX).mono (fun x r hk h=>zkY h (fun hq=>yTj x.1 x.2.1 x.2.2.1 hk hq))
inductive Turned (a:dA):dA→Prop where
 | same:Turned a a
 | put (b x:Int):ybj a.2.1 b=true→isW x=true→Turned a (yip a b x).2
 | flush (s:Int):Turned a (yaF a s).2
 | all:Turned a (yBP a).2
 | fail (m:Int):a.2.2.2.1= -1→inb m a.2.2.1.length=true→Turned a (yap a m)
 | spare:inb a.2.2.2.1 a.2.2.1.length=true→(nth a.2.2.1 a.2.2.2.1 yf).2.2.1=true→Turned a (yj (ym a))
 | step:inb a.2.2.2.1 a.2.2.1.length=true→(nth a.2.2.1 a.2.2.2.1 yf).2.2.1=false→a.2.2.2.2.1<a.2.1.2→Turned a (yac a).2
 | check:Turned a (yi a)
 | spoil (m s:Int):a.2.2.2.1= -1→inb m a.2.2.1.length=true→0≤s→s<a.2.1.2→Turned a (yjw a m (spoil (nth a.2.2.1 m yf) (yz s)))
theorem yDm {a:dA} (r:dN) (h:yad a):yad (yN a r) :=ygV (yiK (P:=yad) (one:=yfM r) (ymp r) (fun _ _ h hi=>yzr h (zkR hi)) _ a (Nat.le_refl _) h)
theorem yWF {a:dA} (r:dN) (h:ya1 a):ya1 (yN a r) :=yue (yiK (P:=ya1) (one:=yfM r) (ymp r) (fun _ _ h _=>yDl h _ _ _) _ a (Nat.le_refl _) h)
theorem yRN {a:dA} (s:Int) (d:List Int) (h:yad a):yad (yai a s d) :=
 yiK (P:=yad) (one:=ycT (yo a.2.1 s) a.2.1.1 s d) (yBQ _ _ _ _) (fun b i h hi=>by
  unfold ycT;cases yck b i s
  ·exact h
  ·exact yzr h (zkR hi)) _ a (Nat.le_refl _) h
theorem yV2 {a:dA} (s:Int) (d:List Int) (h:ya1 a):ya1 (yai a s d) :=
 yiK (P:=ya1) (one:=ycT (yo a.2.1 s) a.2.1.1 s d) (yBQ _ _ _ _) (fun b i h hi=>by
  unfold ycT;cases yck b i s
  ·exact h
  ·exact yDl h _ _ _) _ a (Nat.le_refl _) h
theorem yXY {k:Int} {a:dA} (r:dN) (h:Wk k a):Wk k (yN a r):=yF9 (ycQ _ _) (yDm r h.2.1) (yWF r h.2.2.1) h
theorem yXw {k:Int} {a:dA} (s:Int) (d:List Int) (h:Wk k a):Wk k (yai a s d):=yF9 (yiq _ _ _) (yRN s d h.2.1) (yV2 s d h.2.2.1) h
theorem yW6 {k:Int} {a:dA} (h:Wk k a) (h1:a.2.2.2.2.2.1<60000) (h2:a.2.2.2.2.2.1-a.2.2.2.2.2.2.1≤3):Wk k (yam a):=by
 obtain⟨⟨c1,c2,c3,c4,c5,c6,c7,c8,c9,c10,c11⟩,g2,g3,g4,g5⟩:=h;have e:i64.wrap (a.2.2.2.2.2.1+1)=a.2.2.2.2.2.1+1:=wr (by omega) (by omega);refine⟨⟨c1,c2,c3,c4,c5,c6,c7,⟨?_,?_⟩,?_,c10,c11⟩,g2,g3,g4,g5⟩
 ·show a.2.2.2.2.2.2.1≤i64.wrap (a.2.2.2.2.2.1+1); omega
 ·show i64.wrap (a.2.2.2.2.2.1+1)≤60000; omega
 ·show i64.wrap (a.2.2.2.2.2.1+1)≤a.2.2.2.2.2.2.1+4; omega
theorem yhh {a b:dA} (h:yp a=yp b):a.2.2.2.2.2.1=b.2.2.2.2.2.1:=congrArg (fun x=>x.2.2.2.2.1) h
theorem yRF {a b:dA} (h:yp a=yp b):a.2.2.2.2.2.2.1=b.2.2.2.2.2.2.1:=congrArg (fun x=>x.2.2.2.2.2.1) h
theorem yMc {a:dA} (h:ya1 a):yp (yi a)=yp (yE (yH a)):=by
 rw[yDe h,ycl];have:=yax a;unfold yp at this ⊢;simp only[Prod.mk.injEq]at this;obtain⟨h1,h2,h3,h4,h5,h6,h7,h8,h9⟩:=this;unfold yE yH;simp only[h1,h2,h3,h4,h5,h7,h8,h9]
theorem yXX {k:Int} {a:dA} (h:Wk k a) (hk:k+1≤60000):Wk (k+1) (yu a)∧(yu a).2.2.2.2.2.1=a.2.2.2.2.2.1∧(yu a).2.2.2.2.2.1-(yu a).2.2.2.2.2.2.1≤3:=by
 have c:=h.1;unfold yaO at c;unfold yu;rw[wr (by omega) (by omega)];cases h4:leb 4 (a.2.2.2.2.2.1-a.2.2.2.2.2.2.1)
 ·refine⟨ypc h (by omega),rfl,?_⟩
  have: ¬(4≤a.2.2.2.2.2.1-a.2.2.2.2.2.2.1):=fun g=>by rw[zk2 g]at h4; cases h4
  show a.2.2.2.2.2.1-a.2.2.2.2.2.2.1≤3; omega
 ·have e1:(yi a).2.2.2.2.2.1=a.2.2.2.2.2.1:=(yhh (yMc h.2.2.1)).trans rfl
  have e2:(yi a).2.2.2.2.2.2.1=a.2.2.2.2.2.1:=(yRF (yMc h.2.2.1)).trans rfl;rw[cond_true];exact⟨yW3 h hk,e1,by omega⟩
theorem yW7 {k:Int} {a:dA} (s:Int) (d:List Int) (h:Wk k a) (hs:a.2.2.2.2.2.1<60000) (hk:k+1≤60000):Wk (k+1) (yI a s d).2∧(yI a s d).1=0:=by
 obtain⟨h1,h2,h3⟩:=yXX h hk;have h4:=yXY ((yu a).2.2.2.2.2.1,s,d) h1;have e1:=yhh (ycQ (yu a) ((yu a).2.2.2.2.2.1,s,d));have e2:=yRF (ycQ (yu a) ((yu a).2.2.2.2.2.1,s,d));unfold yI;generalize yN (yu a) ((yu a).2.2.2.2.2.1,s,d)=R at h4 e1 e2 ⊢;have h5:=yXw s d (yW6 h4 (by omega) (by omega));generalize yai (yam R) s d=Q at h5 ⊢;rw[h1.2.2.1.1,h4.2.2.1.1,h5.2.2.1.1];exact⟨h5,rfl⟩
theorem yIg {k:Int} {a:dA} {l:List dW} (h:Wk k a) (hd:yaH a.2.1 l=true):Wk k (ytt a l):=by
 obtain⟨⟨c1,c2,c3,c4,c5,c6,c7,c8,c9,c10,c11⟩,g2,g3,g4,g5⟩:=h;exact⟨⟨c1,c2,hd,c4,c5,c6,c7,c8,c9,c10,c11⟩,g2,g3,g4,g5⟩
theorem yRY (a:dA) (s:Int) (d:List Int):(yI a s d).2.2.1=a.2.1:=by
 unfold yI;have h2:=(yP (ycQ (yu a) ((yu a).2.2.2.2.2.1,s,d))).trans (yPM a);generalize yN (yu a) ((yu a).2.2.2.2.2.1,s,d)=R at h2 ⊢;have h3:=(yP (yiq (yam R) s d)).trans (show(yam R).2.1=a.2.1 from h2);generalize yai (yam R) s d=Q at h3 ⊢;cases ya (yu a)
 ·cases ya R
  ·exact h3
  ·exact h2
 ·exact yPM a
theorem yW4 {k:Int} {a:dA} (s:Int) (h:Wk k a) (hk:k+1≤60000):Wk (k+1) (yaF a s).2:=by
 unfold yaF;cases ltb (yL a.2.2.2.2.2.2.2.2.1 s) 0
 ·generalize hD:(nth a.2.2.2.2.2.2.2.2.1 (yL a.2.2.2.2.2.2.2.2.1 s) (0,[])).2=D
  cases hc:(yal a s D !=0)
  ·have hz:=ytV (bne_eq_false_iff_eq.1 hc)
   obtain⟨h1,h2⟩:=yW7 s D h hz.2.2.2.2.2.2.1 hk;rw[show((yI a s D).1==0)=true from beq_iff_eq.2 h2];exact yIg h1 (by rw[yRY]; exact yRI _ h.1.2.2.1)
  ·exact ypc h (by omega)
 ·exact ypc h (by omega)
theorem yUQ {k:Int}: ∀(n i:Nat) (j:Int) (a:dA),Wk j a→j+n≤k→k≤60000→Wk k (goE yh0 (fun b=>((0:Int),b)) n i a).2
 | 0,_,j,a,h,h1,_=>ypc h (by omega)
 | n+1,i,j,a,h,h1,h2=>by
  have h3:=yW4 (nth a.2.2.2.2.2.2.2.2.1 0 (0,[])).1 h (by omega);unfold goE yh0;cases((yaF a (nth a.2.2.2.2.2.2.2.2.1 0 (0,[])).1).1 !=0)
  ·exact yUQ n (i+1) (j+1) _ h3 (by omega) h2
  ·exact ypc h3 (by omega)
theorem yXV {k:Int} {a:dA} (h:Wk k a) (hk:k+8≤60000):Wk (k+8) (yBP a).2:=by
 have:=yA4 h.1.2.2.1 h.1.1;exact yUQ _ 0 k a h (by omega) hk
theorem yXZ {k:Int} {a:dA} {b n:Int} (h:Wk k a) (hb:ybj a.2.1 b=true) (hn:isW n=true):Wk k (yip a b n).2:=by
 unfold yip;cases hs:(yJ a (yag a.2.1 b)).2
 ·exact h
 ·have hstr:=yjz hb
  have hl:=yn1 (yXW h) hstr hs;refine yIg h (yRJ h.1.2.2.1 ⟨(yab.1 hstr).2,by rw[List.length_set]; exact hl,yRt ?_ hn⟩);unfold yJ;cases hk:leb 0 (yL a.2.2.2.2.2.2.2.2.1 (yag a.2.1 b))
  ·rw[h.2.2.2.1]; exact yRG _ _
  ·have:=(yk9 (d:=((0:Int),([]:List Int))) hk).1
   exact yCN (P:=fun e:dW=>e.2.all isW=true) this (fun e he=>((yt0.1 h.1.2.2.1).1 e he).2.2)
structure Ix (k:Int) (V:Int→Int→Int) (a:dA):Prop where
 xc:yaO a
 xk:yad a
 xu:ya a=false
 xb:a.2.2.2.2.2.2.2.2.2.2.2=false
 xg:a.2.2.2.2.2.2.2.1≤k
 xs:a.2.2.2.2.2.1≤k
 xe:EvV a.2.1 V
 xv:yDc V a
 xn: ∀i,0≤i→i<a.2.1.1→((yh a i).2.1.length:Int)≤1+(bif i==a.2.2.2.1 then a.2.2.2.2.1 else 0)
theorem yqR {k:Int} {V:Int→Int→Int} {a:dA} (h:Ix k V a):yR a=true:=yPL.2 ⟨h.xc,h.xk⟩
theorem yCL {k j:Int} {V:Int→Int→Int} {a:dA} (h:Ix k V a) (hj:k≤j):Ix j V a:=⟨h.xc,h.xk,h.xu,h.xb,Int.le_trans h.xg hj,Int.le_trans h.xs hj,h.xe,h.xv,h.xn⟩
def yDa (S:Int) (m x:dM):Prop:=(x.2.2.1=false→m.2.2.1=false∧ ∀k,6≤k→k<6+S→yd2 x k=false→yd2 m k=false∧yeV x k=yeV m k)
theorem yRP (S:Int) (m:dM):yDa S m m:=fun h=>⟨h,fun _ _ _ hb=>⟨hb,rfl⟩⟩
theorem yM1 {S:Int} {m x y:dM} (h:yDa S m x) (g:yDa S x y):yDa S m y:=fun hy=>by
 obtain⟨h1,h2⟩:=g hy;obtain⟨h3,h4⟩:=h h1;exact⟨h3,fun k k0 k1 hb=>⟨(h4 k k0 k1 (h2 k k0 k1 hb).1).1,(h2 k k0 k1 hb).2.trans (h4 k k0 k1 (h2 k k0 k1 hb).1).2⟩⟩
theorem yDn {S:Int} {m:dM} (h:yD m=true):yDa S m (yx m):=fun hf=>by
 rw[(yo9 m).2]at hf;exact⟨hf,fun k k0 k1 hb=>⟨by rw[yEG]at hb; exact hb,yV0 h hf (by omega)⟩⟩
theorem yUs {S n:Int} {s:List Int} {m:dM} (hn:n<6):yDa S m (yds n s m):=fun hf=>by
 unfold yds at hf ⊢;cases hm:m.2.2.1
 ·refine⟨rfl,fun k k0 k1 hb=> ?_⟩
  rw[cond_false]at hb ⊢;cases hc:yaS m n s
  ·unfold yQ at hb ⊢
   rw[hc]at hb ⊢; exact⟨hb,rfl⟩
  ·rw[ytK hc,show(k !=n)=true from bne_iff_ne.2 (by omega),Bool.and_true]at hb
   rw[yo8 hc,show(n==k)=false from beq_eq_false_iff_ne.2 (by omega)];exact⟨hb,rfl⟩
 ·rw[hm]at hf
  rw[cond_true,hm]at hf; cases hf
theorem yuq (n:Int) (s:List Int) (m:dM):(yds n s m).2.2.1=m.2.2.1:=by
 unfold yds;cases hm:m.2.2.1
 ·show(yQ m n s).1.2.2.1=false
  rw[(yuO m n s).2]; exact hm
 ·exact hm
theorem yFY {V:Int→Int→Int} {a b:dA} (hg:b.2.1=a.2.1) (hl: ∀i s,0≤i→i<a.2.1.1→0≤s→yav b.2.2.2.1 b.2.2.2.2.1 i s (yh b i)=true→(i !=a.2.2.2.1||ltb s a.2.2.2.2.1)=true∧yDa a.2.1.2 (yh a i) (yh b i)) (h:yDc V a):yDc V b:=fun i s i0 i1 s0 s1 hh=>by
 rw[hg]at i1 s1;unfold yaw at hh;rw[Bool.and_eq_true,Bool.not_eq_true']at hh;obtain⟨h1,h2⟩:=hl i s i0 i1 s0 hh.1
 have hf:(yh b i).2.2.1=false:=by
  have:=hh.1;simp only[yav,Bool.and_eq_true,Bool.not_eq_true']at this; exact this.1
 obtain⟨h3,h4⟩:=h2 hf;obtain⟨h5,h6⟩:=h4 (s+6) (by omega) (by omega) hh.2;rw[h6];exact h i s i0 i1 s0 s1 (by unfold yaw yav; rw[h3,h1,h5]; rfl)
theorem yWn {V:Int→Int→Int} {a b:dA} (hc:yp b=yp a) (hl: ∀i,0≤i→i<a.2.1.1→yDa a.2.1.2 (yh a i) (yh b i)) (h:yDc V a):yDc V b :=
 yFY (yP hc) (fun i s i0 i1 s0 hh=>⟨by
  rw[yd4 hc,ycL hc]at hh
  simp only[yav,Bool.and_eq_true]at hh; exact hh.2,hl i i0 i1⟩) h
theorem yPY {k:Int} {V:Int→Int→Int} {a b:dA} (hc:yp b=yp a) (hk:yad b) (hu:ya b=false) (hl: ∀i,0≤i→i<a.2.1.1→yDa a.2.1.2 (yh a i) (yh b i)∧(yh b i).2.1.length≤(yh a i).2.1.length) (h:Ix k V a):Ix k V b:=by
 refine⟨yCC hc h.xc,hk,hu,(yDf hc).trans h.xb,by rw[yol hc]; exact h.xg,by rw[yhh hc]; exact h.xs,by rw[yP hc]; exact h.xe,yWn hc (fun i i0 i1=>(hl i i0 i1).1) h.xv,fun i i0 i1=> ?_⟩;rw[yP hc]at i1;rw[yd4 hc,ycL hc];have:=h.xn i i0 i1;have:=(hl i i0 i1).2;omega
theorem yDd {g:Int→dM→dM} {a r:dA} (h:Adv g a r a.2.2.1.length) (hu:ya r=false) {i:Int} (i0:0≤i) (i1:i<(a.2.2.1.length:Int)):yh r i=g i (yh a i):=by
 obtain⟨_,_,k,h1,h2,h3⟩:=h;rw[h2 i i0,h3 hu,zky i1]; rfl
theorem yDz {a:dA} (hu:ya (yc a)=false) {i:Int} (i0:0≤i) (i1:i<(a.2.2.1.length:Int)):yh (yc a) i=yx (yh a i):=by
 cases hd:ya a
 ·exact yDd (yLj hd) hu i0 i1
 ·rw[yuN hd]at hu; rw[hd]at hu; cases hu
theorem yVp {a:dA} (hu:ya (yc a)=false):ya a=false:=by
 cases hd:ya a
 ·rfl
 ·rw[yuN hd]at hu; rw[hd]at hu; cases hu
theorem yH8 {m:dM} (h:yD m=true):(yx m).2.1.length≤m.2.1.length:=by
 unfold yx;rw[h];cases m.2.2.1
 ·exact Nat.zero_le _
 ·exact Nat.le_refl _
theorem yVi {k:Int} {V:Int→Int→Int} {a:dA} (h:Ix k V a) (hu:ya (yc a)=false):Ix k V (yc a) :=
 yPY (yax a) (ygV h.xk) hu (fun i i0 i1=>by
  obtain⟨d1,_,_⟩:=yh4 h.xk i0 i1;rw[yDz hu i0 (by have:=h.xk.1.2; omega)]
  exact⟨yDn d1,yH8 d1⟩) h
theorem yXq {a:dA} (hu:ya (yj a)=false):ya ((List.range a.2.2.1.length).foldl yW (yE a))=false∧ya a=false:=by
 have h1:=yVp hu;refine⟨h1,?_⟩;cases hd:ya a
 ·rfl
 ·rw[yis (one:=yW) (fun _ _ h=>ylq h _ _ _) _ (yE a) hd]at h1
  exact(hd.symm.trans h1)
theorem yJC {a:dA} (hu:ya (yj a)=false) {i:Int} (i0:0≤i) (i1:i<(a.2.2.1.length:Int)):yh (yj a) i=yx (yMV (yE a) i (yh a i)):=by
 obtain⟨h1,h2⟩:=yXq hu;have hl:((List.range a.2.2.1.length).foldl yW (yE a)).2.2.1.length=a.2.2.1.length:=yiL (one:=yW) (fun _ _=>ymo _ _ _ _) _ (yE a);unfold yj at hu ⊢;rw[yDz hu i0 (by omega)];exact congrArg yx (yDd (a:=yE a) (yUx (a:=yE a) h2) h1 i0 i1)
theorem ypa {n:Int} {s:List Int} {m:dM} (h:yD m=true):yD (yds n s m)=true:=by
 unfold yds;cases m.2.2.1
 ·exact yUR _ _ h
 ·exact h
theorem yA9 {n:Int} {s:List Int} {m:dM} (h:yD m=true):(yx (yds n s m)).2.1.length≤m.2.1.length:=by
 cases hf:m.2.2.1
 ·rw[(yxi (ypa h) ((yuq n s m).trans hf)).1]; exact Nat.zero_le _
 ·have e:yds n s m=m:=by unfold yds; rw[hf]; rfl
  rw[e]; exact yH8 h
theorem yxx {q:Int} (h:0≤q):2≤yq q∧yq q<6∧yq q=2+q % 4:=by
 unfold yq;rw[zk3 h,cond_false,Int.tmod_eq_emod_of_nonneg h];have:=Int.emod_nonneg q (show(4:Int)≠0 by omega);have:=Int.emod_lt_of_pos q (show(0:Int)<4 by omega);rw[wr (by omega) (by omega)]; omega
theorem yDA {g:Int} (h:0≤g):0≤g.tmod 2∧g.tmod 2<2:=by
 rw[Int.tmod_eq_emod_of_nonneg h]; omega
theorem yPN {a b:dA} (h:yp a=yp b):a.2.2.2.2.2.2.1=b.2.2.2.2.2.2.1:=congrArg (fun x=>x.2.2.2.2.2.1) h
theorem yCK {k:Int} {V:Int→Int→Int} {a:dA} (h:Ix k V a) (hk:k+1≤60000) (hu:ya (yj a)=false):Ix (k+1) V (yj a):=by
 have c:=h.xc;unfold yaO at c;have hgk:=h.xg;have hsk:=h.xs;have e:i64.wrap (a.2.2.2.2.2.2.2.1+1)=a.2.2.2.2.2.2.2.1+1:=wr (by omega) (by omega)
 have hG:Ix (k+1) V (yE a):=by
  obtain⟨⟨c1,c2,c3,c4,c5,c6,c7,c8,c9,c10,c11⟩,g2,g3,g4,g5,g6,g7,g8,g9⟩:=h;refine⟨⟨c1,c2,c3,c4,c5,c6,c7,c8,c9,?_,?_⟩,g2,g3,g4,?_,?_,g7,g8,g9⟩
  ·show 0≤i64.wrap (a.2.2.2.2.2.2.2.1+1); omega
  ·show i64.wrap (a.2.2.2.2.2.2.2.1+1)≤_; omega
  ·show i64.wrap (a.2.2.2.2.2.2.2.1+1)≤_; omega
  ·show a.2.2.2.2.2.1≤k+1; omega
 refine yPY (a:=yE a) (ycl a) (yur h.xk) hu (fun i i0 i1=> ?_) hG;have i1':i<a.2.1.1:=i1;obtain⟨d1,_,_⟩:=yh4 h.xk i0 i1';rw[yJC hu i0 (by have:=h.xk.1.2; omega)]
 have hn:(yE a).2.2.2.2.2.2.2.1.tmod 2<6:=by
  show(i64.wrap (a.2.2.2.2.2.2.2.1+1)).tmod 2<6;have:=yDA (g:=i64.wrap (a.2.2.2.2.2.2.2.1+1)) (by omega);omega
 exact⟨yM1 (yUs hn) (yDn (ypa d1)),yA9 d1⟩
theorem yRM {k:Int} {V:Int→Int→Int} {a:dA} (h:Ix k V a):Ix k V (yH a):=by
 obtain⟨⟨c1,c2,c3,c4,c5,c6,c7,c8,c9,c10,c11⟩,g2,g3,g4,g5,g6,g7,g8,g9⟩:=h;refine⟨⟨c1,c2,c3,c4,c5,c6,⟨?_,?_⟩,⟨Int.le_refl _,c8.2⟩,?_,c10,c11⟩,g2,g3,g4,g5,g6,g7,g8,g9⟩
 ·show 0≤a.2.2.2.2.2.1; omega
 ·show a.2.2.2.2.2.1≤60000; omega
 ·show a.2.2.2.2.2.1≤a.2.2.2.2.2.1+4; omega
theorem yyz {a:dA} (hu:ya (yi a)=false):ya (yc a)=false∧yi a=yj (yH (yc a)):=by
 unfold yi at hu ⊢;cases hd:ya (yc a)
 ·exact⟨rfl,rfl⟩
 ·rw[hd]at hu; exact absurd (hd.symm.trans hu) (by simp)
theorem yJz {k:Int} {V:Int→Int→Int} {a:dA} (h:Ix k V a) (hk:k+1≤60000) (hu:ya (yi a)=false):Ix (k+1) V (yi a):=by
 obtain⟨h1,h2⟩:=yyz hu;rw[h2]at hu ⊢;exact yCK (yRM (yVi h h1)) hk hu
theorem yXQ {a:dA} {r:dN} (hu:ya (yN a r)=false):ya ((List.range a.2.2.1.length).foldl (yfM r) a)=false∧ya a=false:=by
 have h1:=yVp hu;refine⟨h1,?_⟩;cases hd:ya a
 ·rfl
 ·rw[yis (one:=yfM r) (fun _ _ h=>ylq h _ _ _) _ a hd]at h1
  exact(hd.symm.trans h1)
theorem yRr {a:dA} {r:dN} (hu:ya (yN a r)=false) {i:Int} (i0:0≤i) (i1:i<(a.2.2.1.length:Int)):yh (yN a r) i=yx (yds (yq r.1) (ybt r) (yh a i)):=by
 obtain⟨h1,h2⟩:=yXQ hu;have hl:((List.range a.2.2.1.length).foldl (yfM r) a).2.2.1.length=a.2.2.1.length:=yiL (ymp r) _ a;unfold yN at hu ⊢;rw[yDz hu i0 (by omega)];exact congrArg yx (yDd (yVo r h2) h1 i0 i1)
theorem yXI {k:Int} {V:Int→Int→Int} {a:dA} {r:dN} (h:Ix k V a) (hr:0≤r.1) (hu:ya (yN a r)=false):Ix k V (yN a r)∧ ∀i,0≤i→i<a.2.1.1→(yh (yN a r) i).2.2.1=false→(yh (yN a r) i).2.1= []:=by
 refine⟨yPY (ycQ a r) (yDm r h.xk) hu (fun i i0 i1=> ?_) h,fun i i0 i1 hf=> ?_⟩
 ·obtain⟨d1,_,_⟩:=yh4 h.xk i0 i1
  rw[yRr hu i0 (by have:=h.xk.1.2; omega)];exact⟨yM1 (yUs (yxx hr).2.1) (yDn (ypa d1)),yA9 d1⟩
 ·obtain⟨d1,_,_⟩:=yh4 h.xk i0 i1
  rw[yRr hu i0 (by have:=h.xk.1.2; omega)]at hf ⊢;rw[(yo9 _).2]at hf;exact(yxi (ypa d1) hf).1
theorem yWH {k:Int} {V:Int→Int→Int} {a:dA} (h:Ix k V a) (h1:a.2.2.2.2.2.1<60000) (h2:a.2.2.2.2.2.1-a.2.2.2.2.2.2.1≤3):Ix (k+1) V (yam a):=by
 obtain⟨⟨c1,c2,c3,c4,c5,c6,c7,c8,c9,c10,c11⟩,g2,g3,g4,g5,g6,g7,g8,g9⟩:=h;have e:i64.wrap (a.2.2.2.2.2.1+1)=a.2.2.2.2.2.1+1:=wr (by omega) (by omega);refine⟨⟨c1,c2,c3,c4,c5,c6,c7,⟨?_,?_⟩,?_,c10,c11⟩,g2,g3,g4,?_,?_,g7,g8,g9⟩
 ·show a.2.2.2.2.2.2.1≤i64.wrap (a.2.2.2.2.2.1+1); omega
 ·show i64.wrap (a.2.2.2.2.2.1+1)≤60000; omega
 ·show i64.wrap (a.2.2.2.2.2.1+1)≤a.2.2.2.2.2.2.1+4; omega
 ·show a.2.2.2.2.2.2.2.1≤k+1; omega
 ·show i64.wrap (a.2.2.2.2.2.1+1)≤k+1; omega
def yi1 (V:Int→Int→Int) (g:dG) (s:Int) (d:List Int):Int→Int→Int:=fun t i=>bif t==s then ygU (yo g s) g.1 (ya0 d) d i else V t i
theorem yVB {N p x:Int} {d:List Int} (h:3≤N∧N≤5) (hp:0≤p∧p≤N-1) (hd:(d.length:Int)=N-1):((List.range N.toNat).map (fun(i:Nat)=>ygU p N x d i)).Perm (x::d):=by
 have:N=3∨N=4∨N=5:=by omega
 rcases this with rfl | rfl | rfl
 ·match d,hd with
  | [a,b],_ =>
   have:p=0∨p=1∨p=2:=by omega
   rcases this with rfl | rfl | rfl<;>simp[ygU,nth,List.range_succ,List.perm_iff_count,List.count_cons]<;>(intro z; omega)
  | [],hd=>simp at hd
  | [_],hd=>simp at hd
  | _::_::_::_,hd=>simp only[List.length_cons]at hd; omega
 ·match d,hd with
  | [a,b,c],_ =>
   have:p=0∨p=1∨p=2∨p=3:=by omega
   rcases this with rfl | rfl | rfl | rfl<;>simp[ygU,nth,List.range_succ,List.perm_iff_count,List.count_cons]<;>(intro z; omega)
  | [],hd=>simp at hd
  | [_],hd=>simp at hd
  | [_,_],hd=>simp at hd
  | _::_::_::_::_,hd=>simp only[List.length_cons]at hd; omega
 ·match d,hd with
  | [a,b,c,e],_ =>
   have:p=0∨p=1∨p=2∨p=3∨p=4:=by omega
   rcases this with rfl | rfl | rfl | rfl | rfl<;>simp[ygU,nth,List.range_succ,List.perm_iff_count,List.count_cons]<;>(intro z; omega)
  | [],hd=>simp at hd
  | [_],hd=>simp at hd
  | [_,_],hd=>simp at hd
  | [_,_,_],hd=>simp at hd
  | _::_::_::_::_::_,hd=>simp only[List.length_cons]at hd; omega
theorem yiw (x:Int) (l:List Int):yea (x::l)=bv x ^^^ yea l:=by
 have fo: ∀(l:List Int) (v:BitVec 64),l.foldl (fun v x=>v ^^^ bv x) v=v ^^^ yea l:=by
  intro l
  induction l with
  | nil=>intro v; show v=v ^^^ 0#64; rw[BitVec.xor_zero]
  | cons y t ih =>
   intro v;unfold yea;rw[List.foldl_cons,List.foldl_cons,ih,ih (0#64 ^^^ bv y),BitVec.zero_xor,BitVec.xor_assoc]
 show l.foldl _ (0#64 ^^^ bv x)=_;rw[fo,BitVec.zero_xor]
theorem yWw {l m:List Int} (h:l.Perm m):yea l=yea m:=by
 induction h with
 | nil=>rfl
 | cons x _ ih=>rw[yiw,yiw,ih]
 | swap x y l=>rw[yiw,yiw,yiw,yiw,← BitVec.xor_assoc,BitVec.xor_comm (bv y),BitVec.xor_assoc]
 | trans _ _ h1 h2=>exact h1.trans h2
theorem yWv (d:List Int):yea (ya0 d::d)=0#64:=by rw[yiw,ylJ,ysP,BitVec.xor_self]
theorem yVA {N p:Int} {d:List Int} (h:3≤N∧N≤5) (hp:0≤p∧p≤N-1) (hd:(d.length:Int)=N-1):ya0 ((List.range N.toNat).map (fun(i:Nat)=>ygU p N (ya0 d) d i))=0:=by
 rw[ylJ,yWw (yVB h hp hd),yWv]; rfl
theorem yRH {N p i:Int} {d:List Int} (hd:d.all isW=true):isW (ygU p N (ya0 d) d i)=true:=by
 unfold ygU;cases(i==p)
 ·exact yQy hd
 ·exact yRZ hd
theorem yVe {V:Int→Int→Int} {g:dG} {s:Int} {d:List Int} (h:EvV g V) (hs:y5 g s=true) (hl:(d.length:Int)=g.1-1) (hd:d.all isW=true):EvV g (yi1 V g s d):=by
 have h1:=yab.1 hs;have hg:=yl.1 h1.1;refine⟨fun t t0 t1=> ?_,fun t i t0 t1 i0 i1=> ?_⟩
 ·unfold ydG yi1
  cases ht:(t==s)
  ·exact h.ev t t0 t1
  ·exact yVA hg.1 (ylp hs) hl
 ·unfold yi1
  cases ht:(t==s)
  ·exact h.ew t i t0 t1 i0 i1
  ·exact yRH hd
theorem yMW {L B p N s i:Int} {d:List Int} {S:Int} {m:dM} (k:Int) (hk:k≠yz s):(yiM L B p N s d i m).2.2.1=m.2.2.1∧yd2 (yiM L B p N s d i m) k=yd2 m k∧yeV (yiM L B p N s d i m) k=yeV m k:=by
 unfold yiM;cases hl:yav L B i s m
 ·exact⟨rfl,rfl,rfl⟩
 ·refine⟨(yuO _ _ _).2,?_⟩
  rw[cond_true];cases hc:yaS m (yz s) [ygU p N (ya0 d) d i]
  ·unfold yQ; rw[hc]; exact⟨rfl,rfl⟩
  ·rw[ytK hc,yo8 hc,show(k !=yz s)=true from bne_iff_ne.2 hk,show(yz s==k)=false from beq_eq_false_iff_ne.2 (fun e=>hk e.symm),Bool.and_true]
   exact⟨rfl,rfl⟩
theorem yUY (L B p N s:Int) (d:List Int) (i:Int) (m:dM):(yiM L B p N s d i m).2.1.length≤m.2.1.length+1∧(m.2.2.1=true→yiM L B p N s d i m=m):=by
 unfold yiM;cases hl:yav L B i s m
 ·exact⟨Nat.le_succ _,fun _=>rfl⟩
 ·simp only[yav,Bool.and_eq_true,Bool.not_eq_true']at hl
  refine⟨?_,fun h=>by rw[hl.1]at h; cases h⟩;rw[cond_true];unfold yQ;cases yaS m (yz s) [ygU p N (ya0 d) d i]
  ·exact Nat.le_succ _
  ·show(m.2.1++ [(yz s,[ygU p N (ya0 d) d i])]).length≤_; rw[List.length_append]; simp only[List.length_cons,List.length_nil]; omega
theorem yXj {k:Int} {V:Int→Int→Int} {a:dA} {s:Int} {d:List Int} (h:Ix k V a) (hs:y5 a.2.1 s=true) (hl:(d.length:Int)=a.2.1.1-1) (hd:d.all isW=true)
  (hz: ∀i,0≤i→i<a.2.1.1→(yh a i).2.2.1=false→(yh a i).2.1= []) (hu:ya (yai a s d)=false):Ix k (yi1 V a.2.1 s d) (yai a s d):=by
 have hc:=yiq a s d;have h1:=yab.1 hs;have hg:=yl.1 h1.1;have hlen:=h.xk.1.2;have hdsk: ∀i,0≤i→i<a.2.1.1→yh (yai a s d) i=yiM a.2.2.2.1 a.2.2.2.2.1 (yo a.2.1 s) a.2.1.1 s d i (yh a i):=fun i i0 i1=>yDd (yUj s d h.xu) hu i0 (by omega)
 refine⟨yCC hc h.xc,yRN s d h.xk,hu,(yDf hc).trans h.xb,by rw[yol hc]; exact h.xg,by rw[yhh hc]; exact h.xs,by rw[yP hc]; exact yVe h.xe hs hl hd,fun i t i0 i1 t0 t1 hh=> ?_,fun i i0 i1=> ?_⟩
 ·rw[yP hc]at i1 t1
  obtain⟨d1,d2,d3⟩:=yh4 h.xk i0 i1;unfold yaw at hh;rw[yd4 hc,ycL hc,hdsk i i0 i1,Bool.and_eq_true,Bool.not_eq_true']at hh;rw[hdsk i i0 i1];have hda:=yqK (s:=s) h1.2.1 (by omega);unfold yi1;by_cases ht:t=s
  ·subst ht
   rw[beq_self_eq_true,cond_true]
   have hlv:yav a.2.2.2.1 a.2.2.2.2.1 i t (yh a i)=true:=by
    have:=hh.1;unfold yav at this ⊢;rw[(yMW (S:=0) (-1) (by omega)).1]at this;exact this
   have hf:(yh a i).2.2.1=false:=by
    simp only[yav,Bool.and_eq_true,Bool.not_eq_true']at hlv; exact hlv.1
   unfold yiM;rw[hlv,cond_true,yo8 (ytD d1 hf (by rw[hda]; exact zj6.2 (by omega)) (yBz.2 ⟨by simp,fun x hx=> ?_⟩) (by rw[hz i i0 i1 hf]; decide)),hda,beq_self_eq_true]; rfl;rw[List.mem_singleton.1 hx];exact ysY.1 (yRH hd)
  ·rw[show(t==s)=false from beq_eq_false_iff_ne.2 ht]
   obtain⟨e1,e2,e3⟩:=yMW (L:=a.2.2.2.1) (B:=a.2.2.2.2.1) (p:=yo a.2.1 s) (N:=a.2.1.1) (s:=s) (i:=i) (d:=d) (S:=0) (m:=yh a i) (t+6) (by omega);rw[e3];refine h.xv i t i0 i1 t0 t1 ?_;unfold yaw;rw[e2]at hh;have h2:=hh.1;unfold yav at h2 ⊢;rw[e1]at h2;rw[h2,hh.2]; rfl
 ·rw[yP hc]at i1
  rw[yd4 hc,ycL hc,hdsk i i0 i1];obtain⟨g1,g2⟩:=yUY a.2.2.2.1 a.2.2.2.2.1 (yo a.2.1 s) a.2.1.1 s d i (yh a i);have c:=h.xc;unfold yaO at c;cases hf:(yh a i).2.2.1
  ·rw[hz i i0 i1 hf]at g1
   simp only[List.length_nil]at g1;cases(i==a.2.2.2.1)
   ·simp only[cond_false]; omega
   ·simp only[cond_true]; omega
  ·rw[g2 hf]
   exact h.xn i i0 i1
theorem yV7 {k:Int} {V:Int→Int→Int} {a:dA} (h:Ix k V a) (hk:k+1≤60000) (hu:ya (yu a)=false):Ix (k+1) V (yu a)∧(yu a).2.2.2.2.2.1=a.2.2.2.2.2.1∧(yu a).2.2.2.2.2.1-(yu a).2.2.2.2.2.2.1≤3:=by
 have c:=h.xc;unfold yaO at c
 have e0:yu a=bif leb 4 (a.2.2.2.2.2.1-a.2.2.2.2.2.2.1)then yi a else a:=by
  unfold yu;rw[wr (by omega) (by omega)]
 rw[e0]at hu ⊢;cases h4:leb 4 (a.2.2.2.2.2.1-a.2.2.2.2.2.2.1)
 ·refine⟨yCL h (by omega),rfl,?_⟩
  have: ¬(4≤a.2.2.2.2.2.1-a.2.2.2.2.2.2.1):=fun g=>by rw[zk2 g]at h4; cases h4
  show a.2.2.2.2.2.1-a.2.2.2.2.2.2.1≤3; omega
 ·rw[h4]at hu
  simp only[cond_true]at hu ⊢;have hi:=yJz h hk hu;obtain⟨_,h2⟩:=yyz hu;have e:=ycl (yH (yc a));have e1:(yi a).2.2.2.2.2.1=a.2.2.2.2.2.1:=by rw[h2]; exact(yhh e).trans (show(yE (yH (yc a))).2.2.2.2.2.1=_ from yhh (a:=yc a) (b:=a) (yax a))
  have e2:(yi a).2.2.2.2.2.2.1=a.2.2.2.2.2.1:=by rw[h2]; exact(yPN e).trans (show(yE (yH (yc a))).2.2.2.2.2.2.1=_ from yhh (a:=yc a) (b:=a) (yax a))
  exact⟨hi,e1,by omega⟩
theorem yWJ {k:Int} {V:Int→Int→Int} {a:dA} {s:Int} {d:List Int} (h:Ix k V a) (hs:y5 a.2.1 s=true) (hl:(d.length:Int)=a.2.1.1-1) (hd:d.all isW=true) (hq:a.2.2.2.2.2.1<60000) (hk:k+1≤60000)
  (hu:ya (yI a s d).2=false):Ix (k+2) (yi1 V a.2.1 s d) (yI a s d).2∧(yI a s d).1=0:=by
 unfold yI at hu ⊢;cases hc:ya (yu a)
 ·obtain⟨h1,h2,h3⟩:=yV7 h hk hc
  have eg:(yu a).2.1=a.2.1:=yPM a;rw[hc]at hu;simp only[cond_false]at hu ⊢;have c:=h.xc;unfold yaO at c;cases hr:ya (yN (yu a) ((yu a).2.2.2.2.2.1,s,d))
  ·rw[hr]at hu
   simp only[cond_false]at hu ⊢;obtain⟨h4,h5⟩:=yXI (r:=((yu a).2.2.2.2.2.1,s,d)) h1 (by show 0≤(yu a).2.2.2.2.2.1; omega) hr;have e1:=yhh (ycQ (yu a) ((yu a).2.2.2.2.2.1,s,d));have e2:=yPN (ycQ (yu a) ((yu a).2.2.2.2.2.1,s,d));have e3:=(yP (ycQ (yu a) ((yu a).2.2.2.2.2.1,s,d))).trans eg;rw[eg]at h5;generalize yN (yu a) ((yu a).2.2.2.2.2.1,s,d)=R at h4 h5 e1 e2 e3 hu ⊢;have h6:=yWH h4 (by omega) (by omega);have e4:(yam R).2.1=a.2.1:=e3;have h7:=yXj (s:=s) (d:=d) h6 (by rw[e4]; exact hs) (by rw[e4]; exact hl) hd (fun i i0 i1 hf=>h5 i i0 (by rw[e4]at i1; exact i1) hf) hu;rw[hu,e4]at *;exact⟨yCL h7 (by omega),rfl⟩
  ·rw[hr]at hu
   exact absurd (hr.symm.trans hu) (by simp)
 ·rw[hc]at hu
  exact absurd (hc.symm.trans hu) (by simp)
theorem yH9 {k:Int} {V:Int→Int→Int} {a:dA} {l:List dW} (h:Ix k V a) (hd:yaH a.2.1 l=true):Ix k V (ytt a l):=by
 obtain⟨⟨c1,c2,c3,c4,c5,c6,c7,c8,c9,c10,c11⟩,g2,g3,g4,g5,g6,g7,g8,g9⟩:=h;exact⟨⟨c1,c2,hd,c4,c5,c6,c7,c8,c9,c10,c11⟩,g2,g3,g4,g5,g6,g7,g8,g9⟩
theorem yUX {a:dA} (s:Int) (h:ya a=true):(yaF a s).2=a:=by
 unfold yaF;cases ltb (yL a.2.2.2.2.2.2.2.2.1 s) 0
 ·cases hc:(yal a s (nth a.2.2.2.2.2.2.2.2.1 (yL a.2.2.2.2.2.2.2.2.1 s) (0,[])).2 !=0)
  ·have:=(ytV (bne_eq_false_iff_eq.1 hc)).2.2.2.1
   rw[h]at this; cases this
  ·rfl
 ·rfl
theorem yEz: ∀(n i:Nat) {a:dA},ya a=true→(goE yh0 (fun b=>((0:Int),b)) n i a).2=a
 | 0,_,_,_=>rfl
 | n+1,i,a,h=>by
  unfold goE yh0;have e:=yUX (nth a.2.2.2.2.2.2.2.2.1 0 (0,[])).1 h;cases((yaF a (nth a.2.2.2.2.2.2.2.2.1 0 (0,[])).1).1 !=0)
  ·simp only[cond_false,e]
   exact yEz n (i+1) h
  ·exact e
theorem yXJ {k:Int} {V:Int→Int→Int} {a:dA} {b n:Int} (h:Ix k V a) (hb:ybj a.2.1 b=true) (hn:isW n=true):Ix k V (yip a b n).2:=by
 unfold yip;cases hs:(yJ a (yag a.2.1 b)).2
 ·exact h
 ·have hstr:=yjz hb
  have hl:=yn1 (yqR h) hstr hs;refine yH9 h (yRJ h.xc.2.2.1 ⟨(yab.1 hstr).2,by rw[List.length_set]; exact hl,yRt ?_ hn⟩);unfold yJ;cases hk:leb 0 (yL a.2.2.2.2.2.2.2.2.1 (yag a.2.1 b))
  ·rw[h.xb]; exact yRG _ _
  ·have:=(yk9 (d:=((0:Int),([]:List Int))) hk).1
   exact yCN (P:=fun e:dW=>e.2.all isW=true) this (fun e he=>((yt0.1 h.xc.2.2.1).1 e he).2.2)
theorem yt1 {a:dA} {m i:Int} {x:dM} (l:Int) (t:Int×Int×Int×Int×List dW×Int×Bool×Bool) (hm:inb m a.2.2.1.length=true) (hi:0≤i):yh (a.1,a.2.1,a.2.2.1.set m.toNat x,l,t) i=bif m==i then x else yh a i:=yzA hm hi
theorem yVZ {a:dA} {m:Int} (hl:a.2.2.2.1= -1∨a.2.2.2.1=m) (hm:inb m a.2.2.1.length=true) (i s:Int) (i0:0≤i) (s0:0≤s) (hh:yav m 0 i s (yh (yA a m) i)=true):(i !=a.2.2.2.1||ltb s a.2.2.2.2.1)=true∧i≠m∧yh (yA a m) i=yh a i:=by
 have e:yh (yA a m) i=bif m==i then ydr (yh a m)else yh a i:=yt1 m _ hm i0;by_cases hi:m=i
 ·subst hi
  rw[e,beq_self_eq_true]at hh;simp only[yav,Bool.and_eq_true,Bool.not_eq_true',cond_true]at hh;have:=hh.1;cases this
 ·rw[show(m==i)=false from beq_eq_false_iff_ne.2 hi]at e
  refine⟨?_,fun e=>hi e.symm,e⟩;rw[show(i !=a.2.2.2.1)=true from bne_iff_ne.2 (by omega)]; rfl
theorem ytF {k m:Int} {V:Int→Int→Int} {a:dA} (h:Ix k V a) (hl:a.2.2.2.1= -1∨a.2.2.2.1=m) (hm:inb m a.2.2.1.length=true):Ix k V (yA a m):=by
 have hmi:=zj6.1 hm
 have hv:yDc V (yA a m):=yFY (a:=a) (b:=yA a m) rfl (fun i s i0 i1 s0 hh=>by
  obtain⟨h1,h2,h3⟩:=yVZ hl hm i s i0 s0 hh;rw[h3]
  exact⟨h1,yRP _ _⟩) h.xv
 have hn: ∀i,0≤i→i<a.2.1.1→((yh (yA a m) i).2.1.length:Int)≤1+(bif i==m then 0 else 0):=fun i i0 i1=>by
  have e:yh (yA a m) i=bif m==i then ydr (yh a m)else yh a i:=yt1 m _ hm i0;rw[e];by_cases hi:m=i
  ·rw[show(m==i)=true from beq_iff_eq.2 hi]
   show(([]:List dW).length:Int)≤_;rw[List.length_nil];cases(i==m)<;>decide
  ·rw[show(m==i)=false from beq_eq_false_iff_ne.2 hi,cond_false]
   have:=h.xn i i0 i1;rw[show(i==a.2.2.2.1)=false from beq_eq_false_iff_ne.2 (by omega)]at this;simp only[cond_false]at this;cases(i==m)<;>simp only[cond_true,cond_false]<;>omega
 obtain⟨⟨c1,c2,c3,c4,c5,c6,c7,c8,c9,c10,c11⟩,⟨⟨g1,g2⟩,g3⟩,f,b,t,t2,t3,_,_⟩:=h;refine⟨⟨c1,c2,c3,⟨?_,?_⟩,⟨Int.le_refl _,by show(0:Int)≤a.2.1.2; omega⟩,fun e=>rfl,c7,c8,c9,c10,c11⟩,⟨⟨?_,?_⟩,g3⟩,f,b,t,t2,t3,hv,hn⟩
 ·show -1≤m; omega
 ·show m≤a.2.1.1-1; omega
 ·show yDo m a.2.2.2.2.2.2.2.2.2.2.2 a.2.1.2 (a.2.2.1.set m.toNat (ydr (nth a.2.2.1 m yf)))
  refine yBe (fun i hi=> ?_) (fun hi=> ?_)
  ·obtain⟨e1,e2,e3⟩:=g1 i hi
   refine⟨e1,e2,fun e=> ?_⟩;rcases e3 e with e | e
   ·exact .inl (by omega)
   ·exact .inr e
  ·have:=g1 m.toNat hi
   rw[Int.toNat_of_nonneg hmi.1]at this;exact⟨yVf this.1,this.2.1,fun _=> .inl (Int.toNat_of_nonneg hmi.1)⟩
 ·show((a.2.2.1.set m.toNat (ydr (nth a.2.2.1 m yf))).length:Int)=a.2.1.1
  rw[List.length_set]; exact g2
theorem ysV {k m:Int} {V:Int→Int→Int} {a:dA} (h:Ix k V a) (hl:a.2.2.2.1= -1∨a.2.2.2.1=m) (hk:k+1≤60000):yap a m=yj (yA a m):=by
 have:=h.xg;unfold yap;rw[h.xu,h.xb,zky (show a.2.2.2.2.2.2.2.1<60000 by omega)];rcases hl with e | e
 ·rw[show(a.2.2.2.1== -1)=true from beq_iff_eq.2 e]; rfl
 ·rw[show(a.2.2.2.1==m)=true from beq_iff_eq.2 e,Bool.or_true]; rfl
theorem yXl {k m:Int} {V:Int→Int→Int} {a:dA} (h:Ix k V a) (hl:a.2.2.2.1= -1∨a.2.2.2.1=m) (hm:inb m a.2.2.1.length=true) (hk:k+1≤60000) (hu:ya (yap a m)=false):Ix (k+1) V (yap a m):=by
 rw[ysV h hl hk]at hu ⊢;exact yCK (ytF h hl hm) hk hu
theorem yiu {S:Int} (h:1≤S∧S≤8):ybd (6+S)=(List.replicate (6+S).toNat [],[],false,[]):=by
 unfold ybd;rw[zk2 (show 1≤6+S by omega),zk2 (show 6+S≤20 by omega)]; rfl
theorem yBU {k:Int} {V:Int→Int→Int} {a:dA} (h:Ix k V a) (hm:inb a.2.2.2.1 a.2.2.1.length=true):Ix k V (ym a):=by
 have hg:=yl.1 h.xc.1;have e: ∀i,0≤i→yh (ym a) i=bif a.2.2.2.1==i then ybd (6+a.2.1.2)else yh a i:=fun i i0=>yt1 _ _ hm i0
 have hv:yDc V (ym a):=yFY (a:=a) (b:=ym a) rfl (fun i s i0 i1 s0 hh=>by
  have hh:yav a.2.2.2.1 0 i s (yh (ym a) i)=true:=hh;rw[e i i0]at hh ⊢;simp only[yav,Bool.and_eq_true,Bool.or_eq_true,bne_iff_ne,ne_eq,zka]at hh;have hne:i≠a.2.2.2.1:=hh.2.resolve_right (by omega);rw[show(a.2.2.2.1==i)=false from beq_eq_false_iff_ne.2 (fun e=>hne e.symm),show(i !=a.2.2.2.1)=true from bne_iff_ne.2 hne]
  exact⟨rfl,yRP _ _⟩) h.xv
 have hn: ∀i,0≤i→i<a.2.1.1→((yh (ym a) i).2.1.length:Int)≤1+(bif i==a.2.2.2.1 then 0 else 0):=fun i i0 i1=>by
  rw[e i i0];by_cases hi:a.2.2.2.1=i
  ·rw[show(a.2.2.2.1==i)=true from beq_iff_eq.2 hi,cond_true,yiu hg.2]
   show(([]:List dW).length:Int)≤_;rw[List.length_nil];cases(i==a.2.2.2.1)<;>decide
  ·rw[show(a.2.2.2.1==i)=false from beq_eq_false_iff_ne.2 hi,cond_false]
   have:=h.xn i i0 i1;rw[show(i==a.2.2.2.1)=false from beq_eq_false_iff_ne.2 (fun e=>hi e.symm)]at this ⊢;exact this
 have hmi:=zj6.1 hm;obtain⟨⟨c1,c2,c3,c4,c5,c6,c7,c8,c9,c10,c11⟩,⟨⟨g1,g2⟩,g3⟩,f,b,t,t2,t3,_,_⟩:=h;refine⟨⟨c1,c2,c3,c4,⟨Int.le_refl _,by show(0:Int)≤a.2.1.2; omega⟩,fun e=>rfl,c7,c8,c9,c10,c11⟩,⟨⟨yBe g1 (fun hi=>⟨yV8 (by omega) (by omega),?_,fun e=> ?_⟩),?_⟩,g3⟩,f,b,t,t2,t3,hv,hn⟩
 ·rw[yiu hg.2]
  show((List.replicate (6+a.2.1.2).toNat ([]:List Int)).length:Int)=6+a.2.1.2;rw[List.length_replicate]; omega
 ·rw[yiu hg.2]at e
  cases e
 ·show((a.2.2.1.set a.2.2.2.1.toNat (ybd (6+a.2.1.2))).length:Int)=a.2.1.1
  rw[List.length_set]; exact g2
theorem yWI {k:Int} {V:Int→Int→Int} {a:dA} (h:Ix k V a) (hm:inb a.2.2.2.1 a.2.2.1.length=true) (hk:k+1≤60000) (hu:ya (yj (ym a))=false):Ix (k+1) V (yj (ym a)):=yCK (yBU h hm) hk hu
theorem yVh {k:Int} {V:Int→Int→Int} {a:dA} (h:Ix k V a) (hl:inb a.2.2.2.1 a.2.2.1.length=true) (hf:(nth a.2.2.1 a.2.2.2.1 yf).2.2.1=false) (hb:a.2.2.2.2.1<a.2.1.2) (hu:ya (yac a).2=false):Ix k V (yac a).2:=by
 have hmi:=zj6.1 hl;have hlen:=h.xk.1.2;have hg:=yl.1 h.xc.1;have c:=h.xc;unfold yaO at c;have hb0:0≤a.2.2.2.2.1:=by omega
 have hda:=yqK hb0 (by omega);have e:=yfJ a a.2.2.2.1 (yz a.2.2.2.2.1) [nth (yF a a.2.2.2.2.1).1 a.2.2.2.1 0];have hkp:yad (yZ a):=yzr h.xk hl;have hd:=ys6 (yz a.2.2.2.2.1) [nth (yF a a.2.2.2.2.1).1 a.2.2.2.1 0] h.xu hl;have e1:(yZ a).2.2.2.2.1=a.2.2.2.2.1:=ycL e;have e2:(yZ a).2.1=a.2.1:=yP e;have e3:(yZ a).2.2.2.1=a.2.2.2.1:=yd4 e;unfold yac at hu ⊢;cases hw:(yF a a.2.2.2.2.1).2
 ·exact h
 ·rw[hw]at hu
  have hwv:=yOV h.xc.1 h.xk h.xe h.xv hb0 hb
  have hw1:(yF a a.2.2.2.2.1).1=ydG V a.2.1.1 a.2.2.2.2.1:=by
   rw[hwv]at hw ⊢;cases hm:ydE (fun(i:Nat)=>yaw a a.2.2.2.2.1 i) a.2.1.1.toNat
   ·rfl
   ·rw[hm]at hw; cases hw
  have hx:nth (yF a a.2.2.2.2.1).1 a.2.2.2.1 0=V a.2.2.2.2.1 a.2.2.2.1:=by rw[hw1]; exact yUP V (by omega) (by omega)
  rw[hx]at hd e;have hst:yZ a=ybk a a.2.2.2.1 (yz a.2.2.2.2.1) [V a.2.2.2.2.1 a.2.2.2.1]:=by unfold yZ; rw[hx]
  have hcc:yp (yZ a)=yp a:=by rw[hst]; exact e
  rw[← hst]at hd;generalize yZ a=R at *;simp only[cond_true]at hu ⊢;cases hr:ya R
  ·rw[hr]at hu
   obtain⟨_,_,⟨_,hdd⟩ | ⟨hdd,_⟩⟩:=hd
   ·obtain⟨d1,d2,d3⟩:=yh4 h.xk (i:=a.2.2.2.1) (by omega) (by omega)
    have hf':(yh a a.2.2.2.1).2.2.1=false:=hf;have hxw:=h.xe.ew a.2.2.2.2.1 a.2.2.2.1 hb0 hb (by omega) (by omega);have hcn:=h.xn a.2.2.2.1 (by omega) (by omega);rw[beq_self_eq_true,cond_true]at hcn;have hcw:yaS (yh a a.2.2.2.1) (a.2.2.2.2.1+6) [V a.2.2.2.2.1 a.2.2.2.1]=true:=ytD d1 hf' (zj6.2 (by omega)) (yBz.2 ⟨by simp,fun x hx=>by rw[List.mem_singleton.1 hx]; exact ysY.1 hxw⟩) (by omega);have e4:i64.wrap (R.2.2.2.2.1+1)=a.2.2.2.2.1+1:=by rw[e1]; exact wr (by omega) (by omega)
    have hRL:yh R a.2.2.2.1=(yQ (yh a a.2.2.2.1) (a.2.2.2.2.1+6) [V a.2.2.2.2.1 a.2.2.2.1]).1:=by
     rw[hdd _ (by omega),beq_self_eq_true,cond_true,hda];unfold yds;rw[hf']; rfl
    have hRo: ∀i,0≤i→i≠a.2.2.2.1→yh R i=yh a i:=fun i i0 hi=>by rw[hdd i i0,show(a.2.2.2.1==i)=false from beq_eq_false_iff_ne.2 (fun e=>hi e.symm)]; rfl
    have hco:=yCC hcc h.xc;refine⟨?_,hkp,hr,(yDf hcc).trans h.xb,by show R.2.2.2.2.2.2.2.1≤k; rw[yol hcc]; exact h.xg,by show R.2.2.2.2.2.1≤k; rw[yhh hcc]; exact h.xs,by show EvV R.2.1 V; rw[e2]; exact h.xe,?_,?_⟩
    ·obtain⟨c1,c2,c3,c4,c5,c6,c7,c8,c9,c10,c11⟩:=hco
     refine⟨c1,c2,c3,c4,⟨?_,?_⟩,fun e=> ?_,c7,c8,c9,c10,c11⟩
     ·show 0≤i64.wrap (R.2.2.2.2.1+1); omega
     ·show i64.wrap (R.2.2.2.2.1+1)≤R.2.1.2; rw[e4,e2]; omega
     ·have:R.2.2.2.1= -1:=e
      omega
    ·intro i t i0 i1 t0 t1 hh
     have i1:i<R.2.1.1:=i1;have t1:t<R.2.1.2:=t1;rw[e2]at i1 t1;unfold yaw at hh;have hh:(yav R.2.2.2.1 (i64.wrap (R.2.2.2.2.1+1)) i t (yh R i)&& !(yd2 (yh R i) (t+6)))=true:=hh;show yeV (yh R i) (t+6)= [V t i];rw[e3,e4]at hh;by_cases hi:i=a.2.2.2.1
     ·subst hi
      rw[hRL]at hh ⊢;rw[yo8 hcw];by_cases ht:a.2.2.2.2.1+6=t+6
      ·rw[show(a.2.2.2.2.1+6==t+6)=true from beq_iff_eq.2 ht,show a.2.2.2.2.1=t by omega]; rfl
      ·rw[show(a.2.2.2.2.1+6==t+6)=false from beq_eq_false_iff_ne.2 ht,cond_false]
       refine h.xv _ t i0 i1 t0 t1 ?_;rw[ytK hcw,show(t+6 !=a.2.2.2.2.1+6)=true from bne_iff_ne.2 (fun e=>ht e.symm),Bool.and_true,Bool.and_eq_true]at hh;have h2:=hh.1;simp only[yav,Bool.and_eq_true,Bool.or_eq_true,bne_self_eq_false,Bool.false_eq_true,false_or,zka]at h2;unfold yaw yav;rw[hf',hh.2,zky (show t<a.2.2.2.2.1 by omega),Bool.or_true]; rfl
     ·rw[hRo i i0 hi]at hh ⊢
      refine h.xv i t i0 i1 t0 t1 ?_;rw[Bool.and_eq_true]at hh;have h2:=hh.1;simp only[yav,Bool.and_eq_true]at h2;unfold yaw yav;rw[h2.1,hh.2,show(i !=a.2.2.2.1)=true from bne_iff_ne.2 hi]; rfl
    ·intro i i0 i1
     have i1:i<R.2.1.1:=i1;rw[e2]at i1;show((yh R i).2.1.length:Int)≤1+(bif i==R.2.2.2.1 then i64.wrap (R.2.2.2.2.1+1)else 0);rw[e3,e4];by_cases hi:i=a.2.2.2.1
     ·subst hi
      rw[hRL,yDC hcw,beq_self_eq_true,cond_true];show(((yh a a.2.2.2.1).2.1++ [(a.2.2.2.2.1+6,[V a.2.2.2.2.1 a.2.2.2.1])]).length:Int)≤_;rw[List.length_append];simp only[List.length_cons,List.length_nil];omega
     ·rw[hRo i i0 hi,show(i==a.2.2.2.1)=false from beq_eq_false_iff_ne.2 hi]
      have:=h.xn i i0 i1;rw[show(i==a.2.2.2.1)=false from beq_eq_false_iff_ne.2 hi]at this;exact this
   ·rw[hr]at hdd; cases hdd
  ·rw[hr]at hu
   exact absurd (hr.symm.trans hu) (by simp)
theorem yId {id i:Int} {g:dG} (hg:yd g=true): ∀n:Nat,n≤g.2.toNat→ ∀k:Int,0≤k→nth ((List.range n).foldl ymh (yg9 id g i)).1 k []=bif leb 6 k&&ltb k (6+n)then[0]else bif k==0 then yk (yUA id g i)else[]:=by
 have hge:=yl.1 hg;intro n
 induction n with
 | zero =>
  intro _ k hk;show nth (yg9 id g i).1 k []=_;unfold yg9;rw[yiu hge.2];have h0:inb 0 (List.replicate (6+g.2).toNat ([]:List Int)).length=true:=by rw[List.length_replicate]; exact zj6.2 (by omega)
  have:=yzA (x:=yk (yUA id g i)) (d:=([]:List Int)) h0 hk;rw[show(0:Int).toNat=0 from rfl]at this;rw[this]
  have e1:(leb 6 k&&ltb k (6+((0:Nat):Int)))=false:=by
   cases h:(leb 6 k&&ltb k (6+((0:Nat):Int)))
   ·rfl
   ·rw[Bool.and_eq_true,zj7,zka]at h; omega
  rw[e1,cond_false];by_cases h:k=0
  ·rw[show((0:Int)==k)=true from beq_iff_eq.2 h.symm,show(k==0)=true from beq_iff_eq.2 h]; rfl
  ·rw[show((0:Int)==k)=false from beq_eq_false_iff_ne.2 (fun e=>h e.symm),show(k==0)=false from beq_eq_false_iff_ne.2 h,cond_false,cond_false]
   unfold nth;rw[List.getD_eq_getElem?_getD,List.getElem?_replicate];split<;>rfl
 | succ n ih =>
  intro hn k hk;rw[List.range_succ,List.foldl_append,List.foldl_cons,List.foldl_nil]
  have hlen:((List.range n).foldl ymh (yg9 id g i)).1.length=(6+g.2).toNat:=by
   rw[yIc];show((ybd (6+g.2)).1.set 0 _).length=_;rw[List.length_set,yiu hge.2];show(List.replicate (6+g.2).toNat ([]:List Int)).length=_;rw[List.length_replicate]
  have h1:=ih (by omega) k hk;generalize (List.range n).foldl ymh (yg9 id g i)=M at h1 hlen ⊢;show nth (M.1.set (n+6) [0]) k []=_;have:=yzA (l:=M.1) (i:=((n+6:Nat):Int)) (x:= [0]) (d:=([]:List Int)) (zkR (by omega)) hk;rw[Int.toNat_natCast]at this;rw[this,h1];by_cases h:((n+6:Nat):Int)=k
  ·rw[show(((n+6:Nat):Int)==k)=true from beq_iff_eq.2 h,zk2 (show 6≤k by omega),zky (show k<6+((n+1:Nat):Int)by omega)]; rfl
  ·rw[show(((n+6:Nat):Int)==k)=false from beq_eq_false_iff_ne.2 h,cond_false,show ltb k (6+((n+1:Nat):Int))=ltb k (6+(n:Int))by rw[Bool.eq_iff_iff,zka,zka]; omega]
theorem yUk (g:dG):EvV g (fun _ _=>0):=by
 refine⟨fun s _ _=> ?_,fun _ _ _ _ _ _=>rfl⟩;unfold ydG;rw[ylJ]
 have: ∀l:List Nat,yea (l.map (fun(_:Nat)=>(0:Int)))=0#64:=by
  intro l
  induction l with
  | nil=>rfl
  | cons x t ih=>rw[List.map_cons,yiw,ih]; decide
 rw[this]; rfl
theorem yUz {id:Int} {g:dG} (hg:yd g=true) (h1:1≤id) (h2:id≤60000) {i:Int} (i0:0≤i) (i1:i<g.1):yh (ydk id g) i=yM id g i:=by
 rw[ytJ hg h1 h2];show nth ((List.range g.1.toNat).map (fun(i:Nat)=>yM id g i)) i yf=_;unfold nth;rw[zkJ (by rw[List.length_map,List.length_range]; omega),List.getElem_map,List.getElem_range,Int.toNat_of_nonneg i0]
theorem yXH {id:Int} {g:dG} (hg:yd g=true) (h1:1≤id) (h2:id≤60000):Ix 0 (fun _ _=>0) (ydk id g):=by
 have hw:=yWs hg h1 h2;have hge:=yl.1 hg;have e:=ytJ hg h1 h2;have eg:(ydk id g).2.1=g:=by rw[e]
 have ed: ∀i,0≤i→i<g.1→yh (ydk id g) i=yM id g i:=fun i i0 i1=>yUz hg h1 h2 i0 i1
 refine⟨hw.1,hw.2.1,hw.2.2.1.1,hw.2.2.2.1,hw.2.2.2.2,by rw[e]; exact Int.le_refl _,yUk _,fun i s i0 i1 s0 s1 _=> ?_,fun i i0 i1=> ?_⟩
 ·rw[eg]at i1 s1
  rw[ed i i0 i1];obtain⟨_,_,n3⟩:=yiR id i hg;unfold yeV;rw[n3];show nth (yM id g i).1 (s+6) []=_;unfold yM;rw[yId hg g.2.toNat (Nat.le_refl _) (s+6) (by omega),zk2 (show 6≤s+6 by omega),zky (show s+6<6+(g.2.toNat:Int)by omega)]; rfl
 ·rw[eg]at i1
  rw[ed i i0 i1,(yiR id i hg).2.2,e];show((([]:List dW).length:Nat):Int)≤1+(bif i== -1 then 0 else 0);rw[List.length_nil];cases(i== -1)<;>decide
def yeg (a:dA) (s:Int):Nat:=ycw (fun(i:Nat)=>yaw a s i) a.2.1.1.toNat
theorem yJB {k:Int} {V:Int→Int→Int} {a:dA} {s:Int} (h:Ix k V a) (s0:0≤s) (s1:s<a.2.1.2):yF a s=bif decide (yeg a s<2)then(ydG V a.2.1.1 s,true)else([],false):=by
 rw[yOV h.xc.1 h.xk h.xe h.xv s0 s1,(yM2 _ _).2];show(bif decide (2≤yeg a s)then([],false)else(ydG V a.2.1.1 s,true))=_;by_cases h2:yeg a s<2
 ·rw[decide_eq_true h2,decide_eq_false (by omega)]; rfl
 ·rw[decide_eq_false h2,decide_eq_true (by omega)]; rfl
def yVb (V:Int→Int→Int) (g:dG) (s:Int):List Int:=(List.range (g.1-1).toNat).map (fun(i:Nat)=>nth (ydG V g.1 s) (ycM g s i) 0)
theorem yUo {k:Int} {V:Int→Int→Int} {a:dA} {s:Int} (h:Ix k V a) (s0:0≤s) (s1:s<a.2.1.2):y5 a.2.1 s=true:=yab.2 ⟨h.xc.1,s0,by omega⟩
theorem yVE {k:Int} {V:Int→Int→Int} {a:dA} {s:Int} (h:Ix k V a) (s0:0≤s) (s1:s<a.2.1.2):yyU a s=bif decide (yeg a s<2)then(yVb V a.2.1 s,true)else([],false):=by
 unfold yyU ytE;rw[yqR h,h.xb,yUo h s0 s1,yJB h s0 s1];cases decide (yeg a s<2)<;>rfl
def yfN (id:Int) (g:dG) (G T L B i:Int):dS:=(id,G,i,g.1,g.2,T,L,B)
def yPG (id n:Int) (v:List Int) (s:dS):Prop:=yzq v=(s,true)∧s.1=id∧s.2.1.tmod 2=n
def yfg (id:Int) (f:Int→List Int):Prop:= ∃n s,(n=0∨n=1)∧yPG id n (f n) s
structure Wsup (id:Int) (g:dG) (G T L B Lf Bf:Int) (f:Int→Int→List Int) (fl:Int→Bool):Prop where
 u0: ∀i,0≤i→i<g.1→yG (yfN id g G T L B i)=true
 u1: ∀i n s,0≤i→i<g.1→fl i=false→(n=0∨n=1)→yPG id n (f i n) s→s.2.2.1=i∧(s.2.1<G∨s=yfN id g G T L B i)
 u2: ∀i,0≤i→i<g.1→i≠Lf→fl i=false∧yfg id (f i)
 u3: ∃i,0≤i∧i<g.1∧fl i=false∧f i (G.tmod 2)=yk (yfN id g G T L B i)
 u4:(Lf=L∧Bf=B∧(Lf= -1∨(fl Lf=false∧yfg id (f Lf))))∨(0≤Lf∧Lf<g.1∧ ¬(fl Lf=false∧yfg id (f Lf))∧(L= -1∨L=Lf)∧Bf=0)
structure Wdat (g:dG) (T Q:Int) (R:Int→Int×List Int) (V:Int→Int→Int) (Lf Bf:Int) (f:Int→Int→List Int) (fl:Int→Bool) (bd:Int→Int→Bool):Prop where
 e:EvV g V
 q:0≤T∧T≤Q∧Q≤T+4∧Q≤60000
 d: ∀i s,0≤i→i<g.1→0≤s→s<g.2→fl i=false→(i≠Lf∨s<Bf)→bd i (s+6)=false→(∀q,T≤q→q<Q→(R q).1≠s)→f i (s+6)= [V s i]
 r: ∀q,T≤q→q<Q→ ∃i,0≤i∧i<g.1∧fl i=false∧f i (yq q)=ybt (q,R q)
 h: ∀i n r,0≤i→i<g.1→fl i=false→2≤n→n<6→yFe (f i n)=(r,true)→r.1<Q∧(T≤r.1→r.2=R r.1)
 v: ∀q,T≤q→q<Q→y5 g (R q).1=true∧((R q).2.length:Int)=g.1-1∧(R q).2.all isW=true
 l: ∀q,T≤q→q<Q→(∀p,q<p→p<Q→(R p).1≠(R q).1)→ ∀i,0≤i→i<g.1→V (R q).1 i=ygU (yo g (R q).1) g.1 (ya0 (R q).2) (R q).2 i
 b: ∀i n,0≤i→i<g.1→fl i=false→bd i n=true→6≤n
theorem yAb {id:Int} {g:dG} {G T L B i:Int} (h:yG (yfN id g G T L B i)=true):yPG id (G.tmod 2) (yk (yfN id g G T L B i)) (yfN id g G T L B i):=⟨yDI h,rfl,rfl⟩
theorem yUL {G:Int} (h:0≤G):G.tmod 2=0∨G.tmod 2=1:=by have:=yDA h; omega
theorem ylH {id:Int} {g:dG} {G T L B i:Int} (h:yG (yfN id g G T L B i)=true):(0≤G∧G≤60000)∧yd g=true∧(1≤id∧id≤60000)∧(0≤T∧T≤60000)∧(-1≤L∧L≤g.1-1)∧(0≤B∧B≤g.2)∧(0≤L∨B=0):=by
 obtain⟨h1,h2,h3,h4,h5,h6,h7,h8⟩:=ytH.1 h;exact⟨h3,h1,h2,h5,h6,h7,h8⟩
theorem yUN {id:Int} {g:dG} {G T L B i:Int} (h1:0≤G∧G≤60000) (h2:yd g=true) (h3:1≤id∧id≤60000) (h4:0≤T∧T≤60000) (h5: -1≤L∧L≤g.1-1) (h6:0≤B∧B≤g.2) (h7:0≤L∨B=0) (i0:0≤i) (i1:i<g.1):yG (yfN id g G T L B i)=true :=
 ytH.2 ⟨h2,h3,h1,⟨i0,by show i≤g.1-1; omega⟩,h4,h5,h6,h7⟩
theorem yUZ {r:dN} (h:ybg r=true):yFe (ybt r)=(r,true):=by
 have hr:=yBy.1 h;have ha:yVQ (ybt r)=r:=by unfold ybt; rw[h]; rfl
 unfold yFe;rw[ha,h];unfold ybt;rw[h];show(bif leb 4 ((21322::r.1::r.2.1::(r.2.2.length:Int)::r.2.2).length:Int)&&((21322:Int)==21322&&((r.2.2.length:Int)==((21322::r.1::r.2.1::(r.2.2.length:Int)::r.2.2).length:Int)-4&&true))then(r,true)else(yXd,false))=(r,true);have e:((21322::r.1::r.2.1::(r.2.2.length:Int)::r.2.2).length:Int)=r.2.2.length+4:=by simp only[List.length_cons]; omega
 rw[e,zk2 (show(4:Int)≤r.2.2.length+4 by omega),show((r.2.2.length:Int)==(r.2.2.length:Int)+4-4)=true from beq_iff_eq.2 (by omega)]; rfl
theorem yWg {g:dG} {q s:Int} {d:List Int} (h0:0≤q) (h1:q≤60000) (hs:y5 g s=true) (hl:(d.length:Int)=g.1-1) (hd:d.all isW=true):ybg (q,s,d)=true:=by
 have h:=yab.1 hs;have hg:=yl.1 h.1;exact yBy.2 ⟨⟨h0,h1⟩,⟨h.2.1,by show s≤7; omega⟩,⟨by show 2≤(d.length:Int); omega,by show(d.length:Int)≤4; omega⟩,hd⟩
theorem ymr {id:Int} {g:dG} {G T L B Lf Bf:Int} {f f':Int→Int→List Int} {fl:Int→Bool} (h:Wsup id g G T L B Lf Bf f fl) (hf: ∀i n,0≤i→i<g.1→fl i=false→(n=0∨n=1)→f' i n=f i n):Wsup id g G T L B Lf Bf f' fl:=by
 have ow: ∀i,0≤i→i<g.1→fl i=false→(yfg id (f' i)↔yfg id (f i)):=fun i i0 i1 hi =>
  ⟨fun⟨n,s,hn,hs⟩=>⟨n,s,hn,by rw[hf i n i0 i1 hi hn]at hs; exact hs⟩,fun⟨n,s,hn,hs⟩=>⟨n,s,hn,by rw[hf i n i0 i1 hi hn]; exact hs⟩⟩
 refine⟨h.u0,fun i n s i0 i1 hi hn hs=>h.u1 i n s i0 i1 hi hn (by rw[hf i n i0 i1 hi hn]at hs; exact hs),fun i i0 i1 hne=> ?_,?_,?_⟩
 ·obtain⟨h1,h2⟩:=h.u2 i i0 i1 hne
  exact⟨h1,(ow i i0 i1 h1).2 h2⟩
 ·obtain⟨i,i0,i1,hi,h2⟩:=h.u3
  exact⟨i,i0,i1,hi,by rw[hf i _ i0 i1 hi (yUL (ylH (h.u0 i i0 i1)).1.1)]; exact h2⟩
 ·rcases h.u4 with⟨h1,h2,h3⟩ | ⟨h1,h2,h3,h4⟩
  ·refine .inl ⟨h1,h2,?_⟩
   rcases h3 with h3 | ⟨h3,h4⟩
   ·exact .inl h3
   ·obtain⟨i,i0,i1,_⟩:=h.u3
    have:=(ylH (h.u0 i i0 i1)).2.2.2.2.1;by_cases hm:Lf= -1
    ·exact .inl hm
    ·exact .inr ⟨h3,(ow Lf (by omega) (by omega) h3).2 h4⟩
  ·exact .inr ⟨h1,h2,fun⟨h5,h6⟩=>h3 ⟨h5,(ow Lf h1 h2 h5).1 h6⟩,h4⟩
theorem yRx {g:dG} {T Q:Int} {R:Int→Int×List Int} {V:Int→Int→Int} {Lf Bf B2:Int} {f:Int→Int→List Int} {fl:Int→Bool} {bd:Int→Int→Bool} (h:Wdat g T Q R V Lf Bf f fl bd) (hb:B2≤Bf):Wdat g T Q R V Lf B2 f fl bd :=
 ⟨h.e,h.q,fun i s i0 i1 s0 s1 hi hl hb2 hj=>h.d i s i0 i1 s0 s1 hi (hl.imp id (fun h=>by omega)) hb2 hj,h.r,h.h,h.v,h.l,h.b⟩
theorem yi2 {g:dG} {T Q:Int} {R:Int→Int×List Int} {V:Int→Int→Int} {Lf Bf:Int} {f f':Int→Int→List Int} {fl:Int→Bool} {bd bd':Int→Int→Bool} (h:Wdat g T Q R V Lf Bf f fl bd)
  (hf: ∀i n,0≤i→i<g.1→fl i=false→2≤n→(f' i n=f i n∧bd' i n=bd i n)∨(∃q,T≤q∧q<Q∧n=(R q).1+6)∨(i=Lf∧Bf+6≤n∧6≤n)) (hb: ∀i n,0≤i→i<g.1→bd' i n=true→bd i n=true):Wdat g T Q R V Lf Bf f' fl bd':=by
 have sl: ∀i n,0≤i→i<g.1→fl i=false→2≤n→n<6→f' i n=f i n:=fun i n i0 i1 hi h2 h6=>by
  rcases hf i n i0 i1 hi h2 with h1 | ⟨q,q0,q1,e⟩ | h1
  ·exact h1.1
  ·have:=yab.1 (h.v q q0 q1).1; omega
  ·omega
 have hq:=h.q;refine⟨h.e,h.q,fun i s i0 i1 s0 s1 hi hl hb2 hj=> ?_,fun q q0 q1=> ?_,fun i n r i0 i1 hi h2 h6 hr=>h.h i n r i0 i1 hi h2 h6 (by rw[sl i n i0 i1 hi h2 h6]at hr; exact hr),h.v,h.l,fun i n i0 i1 hi hn=>h.b i n i0 i1 hi (hb i n i0 i1 hn)⟩
 ·rcases hf i (s+6) i0 i1 hi (by omega)with⟨h1,h2⟩ | ⟨q,q0,q1,e⟩ | h1
  ·rw[h1]; rw[h2]at hb2; exact h.d i s i0 i1 s0 s1 hi hl hb2 hj
  ·exact absurd (by omega) (hj q q0 q1)
  ·omega
 ·obtain⟨i,i0,i1,hi,e⟩:=h.r q q0 q1
  have:=yxx (q:=q) (by omega);exact⟨i,i0,i1,hi,by rw[sl i _ i0 i1 hi this.1 this.2.1]; exact e⟩
def yRq (R:Int→Int×List Int) (Q s:Int) (d:List Int):Int→Int×List Int:=fun q=>bif q==Q then(s,d)else R q
theorem yts (R:Int→Int×List Int) (Q s:Int) (d:List Int):yRq R Q s d Q=(s,d):=by unfold yRq; rw[beq_self_eq_true]; rfl
theorem ypb {R:Int→Int×List Int} {Q s q:Int} {d:List Int} (h:q<Q):yRq R Q s d q=R q:=by unfold yRq; rw[show(q==Q)=false from beq_eq_false_iff_ne.2 (by omega)]; rfl
theorem yRW {g:dG} {T Q:Int} {R:Int→Int×List Int} {V:Int→Int→Int} {Lf Bf s:Int} {d:List Int} {f f':Int→Int→List Int} {fl:Int→Bool} {bd bd':Int→Int→Bool} (h:Wdat g T Q R V Lf Bf f fl bd) (h3:Q≤T+3) (hQ:Q<60000) (hs:y5 g s=true) (hl:(d.length:Int)=g.1-1) (hd:d.all isW=true)
  (hf: ∀i n,0≤i→i<g.1→fl i=false→2≤n→f' i n=f i n∨(n=yq Q∧f' i n=ybt (Q,s,d))) (hb: ∀i n,0≤i→i<g.1→6≤n→bd' i n=bd i n) (hb2: ∀i n,0≤i→i<g.1→bd' i n=true→bd i n=true)
  (hx: ∃i,0≤i∧i<g.1∧fl i=false∧f' i (yq Q)=ybt (Q,s,d)):Wdat g T (Q+1) (yRq R Q s d) (yi1 V g s d) Lf Bf f' fl bd':=by
 have hq:=h.q;have ho:=yWg (q:=Q) (by omega) (by omega) hs hl hd;have hsl:=yxx (q:=Q) (by omega);refine⟨yVe h.e hs hl hd,by omega,fun i t i0 i1 s0 s1 hi hlv hb3 hj=> ?_,fun p p0 p1=> ?_,fun i n r i0 i1 hi h2 h6 hr=> ?_,fun p p0 p1=> ?_,fun p p0 p1 hp i i0 i1=> ?_,fun i n i0 i1 hi hn=>h.b i n i0 i1 hi (hb2 i n i0 i1 hn)⟩
 ·have hts:t≠s:=fun e=>hj Q (by omega) (by omega) (by rw[yts]; exact e.symm)
  unfold yi1;rw[show(t==s)=false from beq_eq_false_iff_ne.2 hts,cond_false];rcases hf i (t+6) i0 i1 hi (by omega)with h1 | ⟨h1,_⟩
  ·rw[h1]; rw[hb i (t+6) i0 i1 (by omega)]at hb3
   exact h.d i t i0 i1 s0 s1 hi hlv hb3 (fun q q0 q1=>by have:=hj q q0 (by omega); rwa[ypb q1]at this)
  ·omega
 ·by_cases hpq:p=Q
  ·subst hpq; rw[yts]; exact hx
  ·obtain⟨i,i0,i1,hi,e⟩:=h.r p p0 (by omega)
   have hsp:=yxx (q:=p) (by omega);refine⟨i,i0,i1,hi,?_⟩;rw[ypb (show p<Q by omega)];rcases hf i _ i0 i1 hi hsp.1 with h1 | ⟨h1,h2⟩
   ·rw[h1]; exact e
   ·omega
 ·rcases hf i n i0 i1 hi h2 with h1 | ⟨_,h1⟩
  ·rw[h1]at hr
   obtain⟨g1,g2⟩:=h.h i n r i0 i1 hi h2 h6 hr;exact⟨by omega,fun ht=>by rw[ypb g1]; exact g2 ht⟩
  ·rw[h1,yUZ ho]at hr
   have:=congrArg (fun x=>x.1) hr;simp only at this;subst this;exact⟨by show Q<Q+1; omega,fun _=>(yts R Q s d).symm⟩
 ·by_cases hpq:p=Q
  ·subst hpq; rw[yts]; exact⟨hs,hl,hd⟩
  ·rw[ypb (show p<Q by omega)]; exact h.v p p0 (by omega)
 ·by_cases hpq:p=Q
  ·subst hpq; rw[yts]; unfold yi1; rw[beq_self_eq_true]; rfl
  ·have hne:s≠(R p).1:=fun e=>hp Q (by omega) (by omega) (by rw[yts,ypb (show p<Q by omega)]; exact e)
   rw[ypb (show p<Q by omega)];unfold yi1;rw[show((R p).1==s)=false from beq_eq_false_iff_ne.2 (fun e=>hne e.symm),cond_false];exact h.l p p0 (by omega) (fun p2 h1 h2=>by have:=hp p2 h1 (by omega); rwa[ypb (show p2<Q by omega),ypb (show p<Q by omega)]at this) i i0 i1
theorem yXU {id:Int} {g:dG} {G T L B Lf Bf T2 L2 B2 Lf2:Int} {f f':Int→Int→List Int} {fl:Int→Bool} (hs:Wsup id g G T L B Lf Bf f fl) (ho: ∀i,0≤i→i<g.1→yG (yfN id g (G+1) T2 L2 B2 i)=true)
  (hf: ∀i n,0≤i→i<g.1→fl i=false→f' i n=f i n∨(n=(G+1).tmod 2∧f' i n=yk (yfN id g (G+1) T2 L2 B2 i)))
  (h2: ∀i,0≤i→i<g.1→i≠Lf2→fl i=false∧yfg id (f i)) (h4:Lf2=L2∨(L2= -1∧0≤Lf2∧Lf2<g.1∧fl Lf2=true)) (hB:0≤B2) :
  Wsup id g G T L B Lf Bf f' fl∨ ∃Bg,Bg≤B2∧Wsup id g (G+1) T2 L2 B2 Lf2 Bg f' fl:=by
 obtain⟨j,j0,j1,jf,_⟩:=hs.u3;have hG:=ylH (hs.u0 j j0 j1);have hL2:=ylH (ho j j0 j1);have hsl:=yUL (G:=G+1) (by omega);have hmod:(G+1).tmod 2≠G.tmod 2:=by rw[Int.tmod_eq_emod_of_nonneg (by omega),Int.tmod_eq_emod_of_nonneg (by omega)]; omega
 by_cases hx: ∃i,0≤i∧i<g.1∧fl i=false∧f' i ((G+1).tmod 2)=yk (yfN id g (G+1) T2 L2 B2 i)
 ·right
  have ow: ∀i,0≤i→i<g.1→fl i=false→yfg id (f i)→yfg id (f' i):=fun i i0 i1 hi ⟨n,s,hn,hsv⟩=>by
   rcases hf i n i0 i1 hi with h | ⟨h,h1⟩
   ·exact⟨n,s,hn,by rw[h]; exact hsv⟩
   ·exact⟨n,_,hn,by rw[h1,h]; exact yAb (ho i i0 i1)⟩
  have a1: ∀i n s,0≤i→i<g.1→fl i=false→(n=0∨n=1)→yPG id n (f' i n) s→s.2.2.1=i∧(s.2.1<G+1∨s=yfN id g (G+1) T2 L2 B2 i):=fun i n s i0 i1 hi hn hsv=>by
   rcases hf i n i0 i1 hi with h | ⟨h,h1⟩
   ·rw[h]at hsv
    obtain⟨g1,g2⟩:=hs.u1 i n s i0 i1 hi hn hsv;refine⟨g1,.inl ?_⟩;rcases g2 with g2 | g2
    ·omega
    ·rw[g2]; show G<G+1; omega
   ·rw[h1]at hsv
    have:=(yAb (ho i i0 i1)).1.symm.trans hsv.1;have:=congrArg (fun x=>x.1) this;simp only at this;subst this;exact⟨rfl,.inr rfl⟩
  have a2: ∀i,0≤i→i<g.1→i≠Lf2→fl i=false∧yfg id (f' i):=fun i i0 i1 hne=>by
   obtain⟨k1,k2⟩:=h2 i i0 i1 hne;exact⟨k1,ow i i0 i1 k1 k2⟩
  rcases h4 with h4 | ⟨h4,h5,h6,h7⟩
  ·by_cases hm:Lf2= -1
   ·exact⟨B2,Int.le_refl _,ho,a1,a2,hx,.inl ⟨h4,rfl,.inl hm⟩⟩
   ·by_cases hown:fl Lf2=false∧yfg id (f' Lf2)
    ·exact⟨B2,Int.le_refl _,ho,a1,a2,hx,.inl ⟨h4,rfl,.inr hown⟩⟩
    ·exact⟨0,hB,ho,a1,a2,hx,.inr ⟨by omega,by omega,hown,.inr h4.symm,rfl⟩⟩
  ·exact⟨0,hB,ho,a1,a2,hx,.inr ⟨h5,h6,(fun h=>by have:=h.1; rw[h7]at this; cases this),.inl h4,rfl⟩⟩
 ·left
  refine ymr hs (fun i n i0 i1 hi hn=> ?_);rcases hf i n i0 i1 hi with h | ⟨h,h1⟩
  ·exact h
  ·exact absurd ⟨i,i0,i1,hi,by rw[← h]; exact h1⟩ hx
def yr (a:dA) (i:Int):Bool:=(yh a i).2.2.1
def yv (a:dA) (i n:Int):Bool:=yd2 (yh a i) n
def Ch (a:dA) (f:Int→Int→List Int):Prop:= ∀i n,0≤i→i<a.2.1.1→0≤n→yqa (yh a i) n (f i n)
def TrD (n:Int) (v:List Int) (m x:dM):Prop:=(∀k w,0≤k→yqa x k w→yqa m k w∨(k=n∧w=v))∧x.2.2.1=m.2.2.1∧(∀k,k≠n→yd2 x k=yd2 m k)∧ ∀k,yd2 x k=true→yd2 m k=true
theorem ytv (n:Int) (v:List Int) (m:dM):TrD n v m m:=⟨fun _ _ _ h=> .inl h,rfl,fun _ _=>rfl,fun _ h=>h⟩
theorem yWl {n:Int} {v:List Int} {m x y:dM} (h:TrD n v m x) (g:TrD n v x y):TrD n v m y :=⟨fun k w k0 hw=>(g.1 k w k0 hw).elim (h.1 k w k0) .inr,g.2.1.trans h.2.1,fun k hk=>(g.2.2.1 k hk).trans (h.2.2.1 k hk),fun k hk=>h.2.2.2 k (g.2.2.2 k hk)⟩
theorem yRV (n:Int) (v:List Int) (m:dM):TrD n v m (yQ m n v).1:=by
 refine⟨fun k w _ hw=>yVO hw,(yuO m n v).2,fun k hk=> ?_,fun k hk=> ?_⟩
 ·cases hc:yaS m n v
  ·unfold yQ; rw[hc]; rfl
  ·rw[ytK hc,show(k !=n)=true from bne_iff_ne.2 hk,Bool.and_true]
 ·cases hc:yaS m n v
  ·unfold yQ at hk; rw[hc]at hk; exact hk
  ·rw[ytK hc,Bool.and_eq_true]at hk; exact hk.1
theorem yRv (n:Int) (v:List Int) (m:dM):TrD n v m (yds n v m):=by
 unfold yds;cases m.2.2.1
 ·exact yRV n v m
 ·exact ytv n v m
theorem yRU (n:Int) (v:List Int) {m:dM} (h:yD m=true):TrD n v m (yx m):=by
 refine⟨fun k w k0 hw=> .inl ?_,(yo9 m).2,fun k _=>yEG m k,fun k hk=>by rw[yEG]at hk; exact hk⟩;cases hf:m.2.2.1
 ·rw[yqN h hf k0 hw]; exact yyT m k
 ·unfold yx at hw; rw[hf,Bool.not_true,Bool.and_false]at hw; exact hw
structure Trn (n:Int) (v:Int→List Int) (a r:dA):Prop where
 g:r.2.1=a.2.1
 c: ∀f',Ch r f'→ ∃f,Ch a f∧ ∀i m,0≤i→i<a.2.1.1→0≤m→f' i m=f i m∨(m=n∧f' i m=v i)
 f: ∀i,0≤i→i<a.2.1.1→yr r i=yr a i
 b: ∀i m,0≤i→i<a.2.1.1→m≠n→yv r i m=yv a i m
 d: ∀i m,0≤i→i<a.2.1.1→yv r i m=true→yv a i m=true
theorem yWm {n:Int} {v:Int→List Int} {a r:dA} (hg:r.2.1=a.2.1) (h: ∀i,0≤i→i<a.2.1.1→TrD n (v i) (yh a i) (yh r i)):Trn n v a r:=by
 refine⟨hg,fun f' hf'=> ?_,fun i i0 i1=>(h i i0 i1).2.1,fun i m i0 i1 hm=>(h i i0 i1).2.2.1 m hm,fun i m i0 i1 hm=>(h i i0 i1).2.2.2 m hm⟩
 classical
 refine⟨fun i m=>if yqa (yh a i) m (f' i m)then f' i m else yeV (yh a i) m,fun i m i0 i1 m0=> ?_,fun i m i0 i1 m0=> ?_⟩
 ·show yqa (yh a i) m (if yqa (yh a i) m (f' i m)then f' i m else yeV (yh a i) m)
  split
  ·assumption
  ·exact yyT _ _
 ·show f' i m=(if yqa (yh a i) m (f' i m)then f' i m else yeV (yh a i) m)∨_
  rcases(h i i0 i1).1 m (f' i m) m0 (hf' i m i0 (by rw[hg]; exact i1) m0)with h1 | h1
  ·left; rw[if_pos h1]
  ·exact .inr h1
def ype (a:dA):Prop:=(a.2.2.1.length:Int)=a.2.1.1∧ ∀i,0≤i→i<a.2.1.1→yD (yh a i)=true
theorem yay {a:dA} (h:yad a):ype a:=⟨h.1.2,fun _ i0 i1=>(yh4 h i0 i1).1⟩
theorem yLk {n:Int} {v:Int→List Int} {a M:dA} (hg:M.2.1=a.2.1) (hl:M.2.2.1.length=a.2.2.1.length) (ha:ype a) (h: ∀i,0≤i→i<a.2.1.1→yh M i=yh a i∨yh M i=yds n (v i) (yh a i)):Trn n v a (yc M):=by
 refine yWm ((yP (yax M)).trans hg) fun i i0 i1=> ?_
 have hM:TrD n (v i) (yh a i) (yh M i)∧yD (yh M i)=true:=by
  rcases h i i0 i1 with e | e
  ·rw[e]; exact⟨ytv _ _ _,ha.2 i i0 i1⟩
  ·rw[e]; exact⟨yRv _ _ _,ypa (ha.2 i i0 i1)⟩
 cases hd:ya M
 ·obtain⟨_,_,k,_,h3,_⟩:=yLj hd
  rw[h3 i i0];cases ltb i k
  ·exact hM.1
  ·exact yWl hM.1 (yRU _ _ hM.2)
 ·rw[yuN hd]; exact hM.1
theorem yDB {a:dA} (n:Int) (v:Int→List Int) (h:ype a):Trn n v a (yc a):=yLk rfl rfl h (fun _ _ _=> .inl rfl)
theorem yMb {g:Int→dM→dM} {a r:dA} {n:Nat} (h:Adv g a r n) {i:Int} (i0:0≤i):yh r i=yh a i∨yh r i=g i (yh a i):=by
 obtain⟨_,_,k,_,h3,_⟩:=h;rw[h3 i i0];cases ltb i k
 ·exact .inl rfl
 ·exact .inr rfl
theorem ylI {a:dA} (h:ype a):Trn ((i64.wrap (a.2.2.2.2.2.2.2.1+1)).tmod 2) (fun i=>yk (yfN a.1 a.2.1 (i64.wrap (a.2.2.2.2.2.2.2.1+1)) a.2.2.2.2.2.2.1 a.2.2.2.1 a.2.2.2.2.1 i)) a (yj a):=by
 unfold yj;have hc:=yk8 (one:=yW) (fun _ _=>yfJ _ _ _ _) (List.range a.2.2.1.length) (yE a);have hl:((List.range a.2.2.1.length).foldl yW (yE a)).2.2.1.length=a.2.2.1.length:=yiL (one:=yW) (fun _ _=>ymo _ _ _ _) _ (yE a);refine yLk (yP (b:=yE a) hc) hl h fun i i0 i1=> ?_
 cases hd:ya a
 ·exact yMb (a:=yE a) (yUx (a:=yE a) hd) i0
 ·rw[yis (one:=yW) (fun _ _ h=>ylq h _ _ _) _ (yE a) hd]; exact .inl rfl
theorem yRw {a:dA} (r:dN) (h:ype a):Trn (yq r.1) (fun _=>ybt r) a (yN a r):=by
 unfold yN;have hc:=yk8 (one:=yfM r) (fun _ _=>yfJ _ _ _ _) (List.range a.2.2.1.length) a;refine yLk (yP hc) (yiL (ymp r) _ _) h fun i i0 i1=> ?_
 cases hd:ya a
 ·exact yMb (yVo r hd) i0
 ·rw[yis (one:=yfM r) (fun _ _ h=>ylq h _ _ _) _ a hd]; exact .inl rfl
theorem yUO {a:dA} (s:Int) (d:List Int) (h:ype a):Trn (yz s) (fun i=> [ygU (yo a.2.1 s) a.2.1.1 (ya0 d) d i]) a (yai a s d):=by
 refine yWm (yP (yiq a s d)) fun i i0 i1=> ?_
 cases hd:ya a
 ·rcases yMb (yUj s d hd) i0 with e | e
  ·rw[e]; exact ytv _ _ _
  ·rw[e]
   unfold yiM;cases yav a.2.2.2.1 a.2.2.2.2.1 i s (yh a i)
   ·exact ytv _ _ _
   ·exact yRV _ _ _
 ·have:yai a s d=a:=yis (one:=ycT (yo a.2.1 s) a.2.1.1 s d) (fun _ _ h=>yEE _ _ _ _ _ h) _ a hd
  rw[this]; exact ytv _ _ _
def Al (L N:Int) (fl0 fl:Int→Bool) (Lf:Int):Prop:=(Lf=L∧ ∀i,0≤i→i<N→fl i=fl0 i)∨(0≤Lf∧Lf<N∧(L= -1∨L=Lf)∧ ∀i,0≤i→i<N→fl i=(fl0 i||i==Lf))
def Eq0 (a:dA) (fl:Int→Bool) (Lf:Int):Prop:=Lf=a.2.2.2.1∧ ∀i,0≤i→i<a.2.1.1→fl i=yr a i
theorem yyn {L N Lf i:Int} {fl0 fl:Int→Bool} (h:Al L N fl0 fl Lf) (i0:0≤i) (i1:i<N) (hi:fl i=false):fl0 i=false:=by
 rcases h with⟨_,h⟩ | ⟨_,_,_,h⟩
 ·rw[← h i i0 i1]; exact hi
 ·rw[h i i0 i1,Bool.or_eq_false_iff]at hi; exact hi.1
theorem yXa {L N Lf i:Int} {fl0 fl:Int→Bool} (h:Al L N fl0 fl Lf) (hb: ∀i,0≤i→i<N→fl0 i=true→i=L) (i0:0≤i) (i1:i<N) (hi:i≠Lf):fl i=false:=by
 cases hf:fl0 i
 ·rcases h with⟨_,h⟩ | ⟨_,_,_,h⟩
  ·rw[h i i0 i1]; exact hf
  ·rw[h i i0 i1,hf,show(i==Lf)=false from beq_eq_false_iff_ne.2 hi]; rfl
 ·have:=hb i i0 i1 hf
  rcases h with⟨h,_⟩ | ⟨_,_,h,_⟩<;>omega
theorem yxg {L N Lf:Int} {fl0 fl1 fl:Int→Bool} (h:Al L N fl1 fl Lf) (e: ∀i,0≤i→i<N→fl1 i=fl0 i):Al L N fl0 fl Lf :=
 h.imp (fun⟨h1,h2⟩=>⟨h1,fun i i0 i1=>(h2 i i0 i1).trans (e i i0 i1)⟩) (fun⟨h1,h2,h3,h4⟩=>⟨h1,h2,h3,fun i i0 i1=>by rw[h4 i i0 i1,e i i0 i1]⟩)
def WW (K id:Int) (g:dG) (V:Int→Int→Int) (Lf:Int) (f:Int→Int→List Int) (fl:Int→Bool) (bd:Int→Int→Bool):Prop:= ∃(G T L B Q:Int) (R:Int→Int×List Int) (Bf:Int),G≤K∧Q≤K∧Wsup id g G T L B Lf Bf f fl∧Wdat g T Q R V Lf Bf f fl bd
theorem yVt {K J id:Int} {g:dG} {V:Int→Int→Int} {Lf:Int} {f:Int→Int→List Int} {fl:Int→Bool} {bd:Int→Int→Bool} (h:WW K id g V Lf f fl bd) (hj:K≤J):WW J id g V Lf f fl bd:=by
 obtain⟨G,T,L,B,Q,R,Bf,h1,h2,h3⟩:=h;exact⟨G,T,L,B,Q,R,Bf,Int.le_trans h1 hj,Int.le_trans h2 hj,h3⟩
structure Mk (a:dA):Prop where
 k:ype a
 g:yd a.2.1=true
 i:1≤a.1∧a.1≤60000
 l: -1≤a.2.2.2.1∧a.2.2.2.1≤a.2.1.1-1
 b:0≤a.2.2.2.2.1∧a.2.2.2.2.1≤a.2.1.2
 z:0≤a.2.2.2.1∨a.2.2.2.2.1=0
 t:0≤a.2.2.2.2.2.2.1∧a.2.2.2.2.2.2.1≤60000
 n:0≤a.2.2.2.2.2.2.2.1∧a.2.2.2.2.2.2.2.1<60000
theorem yP0 {a:dA} (h:yaO a) (hk:yad a) (hg:a.2.2.2.2.2.2.2.1<60000):Mk a:=by
 obtain⟨c1,c2,c3,c4,c5,c6,c7,c8,c9,c10,c11⟩:=h;refine⟨yay hk,c1,c2,c4,c5,?_,c7,c10,hg⟩;by_cases e:a.2.2.2.1= -1
 ·exact .inr (c6 e)
 ·exact .inl (by omega)
theorem yM3 {a:dA} (h:Mk a) {i:Int} (i0:0≤i) (i1:i<a.2.1.1):yG (yfN a.1 a.2.1 (a.2.2.2.2.2.2.2.1+1) a.2.2.2.2.2.2.1 a.2.2.2.1 a.2.2.2.2.1 i)=true:=by
 have:=h.n;exact yUN (by omega) h.g h.i h.t h.l h.b h.z i0 i1
theorem yFh {a:dA} {T L B Q Lf Lf2:Int} {R:Int→Int×List Int} {V:Int→Int→Int} {f':Int→Int→List Int} {fl:Int→Bool} (hm:Mk a) (hc:Ch (yj a) f') (hfl: ∀i,0≤i→i<a.2.1.1→fl i=false→yr a i=false)
  (old: ∀f,Ch a f→ ∃Bf,Wsup a.1 a.2.1 a.2.2.2.2.2.2.2.1 T L B Lf Bf f fl∧Wdat a.2.1 T Q R V Lf Bf f fl (yv a))
  (new: ∀f,Ch a f→Wdat a.2.1 a.2.2.2.2.2.2.1 Q R V Lf2 a.2.2.2.2.1 f fl (yv a))
  (h2: ∀f,Ch a f→ ∀i,0≤i→i<a.2.1.1→i≠Lf2→fl i=false∧yfg a.1 (f i)) (h4:Lf2=a.2.2.2.1∨(a.2.2.2.1= -1∧0≤Lf2∧Lf2<a.2.1.1∧fl Lf2=true)) :
  (∃Bf,Wsup a.1 a.2.1 a.2.2.2.2.2.2.2.1 T L B Lf Bf f' fl∧Wdat a.2.1 T Q R V Lf Bf f' fl (yv (yj a))) ∨
   ∃Bf,Wsup a.1 a.2.1 (a.2.2.2.2.2.2.2.1+1) a.2.2.2.2.2.2.1 a.2.2.2.1 a.2.2.2.2.1 Lf2 Bf f' fl∧Wdat a.2.1 a.2.2.2.2.2.2.1 Q R V Lf2 Bf f' fl (yv (yj a)):=by
 have ht:=ylI hm.k;have hn:=hm.n;rw[wq (a.2.2.2.2.2.2.2.1+1) (by omega) (by omega)]at ht;obtain⟨f,hf,hff⟩:=ht.c f' hc;obtain⟨Bf,o1,o2⟩:=old f hf;have hsl:=yDA (g:=a.2.2.2.2.2.2.2.1+1) (by omega)
 have hf0: ∀i n,0≤i→i<a.2.1.1→fl i=false→2≤n→f' i n=f i n∧yv (yj a) i n=yv a i n:=fun i n i0 i1 hi h2=>by
  rcases hff i n i0 i1 (by omega)with h | ⟨h,_⟩
  ·exact⟨h,ht.b i n i0 i1 (by omega)⟩
  ·omega
 have dat: ∀{T Q Lf Bf:Int},Wdat a.2.1 T Q R V Lf Bf f fl (yv a)→Wdat a.2.1 T Q R V Lf Bf f' fl (yv (yj a)):=fun h =>
  yi2 h (fun i n i0 i1 hi h2=> .inl (hf0 i n i0 i1 hi h2)) (fun i n i0 i1 hb=>ht.d i n i0 i1 hb)
 have hff2: ∀i n,0≤i→i<a.2.1.1→fl i=false→0≤n→f' i n=f i n∨(n=(a.2.2.2.2.2.2.2.1+1).tmod 2∧f' i n=yk (yfN a.1 a.2.1 (a.2.2.2.2.2.2.2.1+1) a.2.2.2.2.2.2.1 a.2.2.2.1 a.2.2.2.2.1 i)):=fun i n i0 i1 _ n0=>hff i n i0 i1 n0
 obtain⟨F,hF⟩: ∃F:Int→Int→List Int,F=fun i n=>if 0≤n then f' i n else f i n:=⟨_,rfl⟩
 have hFe: ∀i n,0≤n→F i n=f' i n:=fun i n n0=>by rw[hF]; exact if_pos n0
 have hw:=yXU (T2:=a.2.2.2.2.2.2.1) (L2:=a.2.2.2.1) (B2:=a.2.2.2.2.1) (f':=F) o1 (fun i i0 i1=>yM3 hm i0 i1) (fun i n i0 i1 hi=>by
  by_cases n0:0≤n
  ·rw[hFe i n n0]; exact hff2 i n i0 i1 hi n0
  ·left; rw[hF]; exact if_neg n0) (h2 f hf) h4 hm.b.1
 have back: ∀{G T L B Lf Bf:Int},Wsup a.1 a.2.1 G T L B Lf Bf F fl→Wsup a.1 a.2.1 G T L B Lf Bf f' fl:=fun h=>ymr h (fun i n i0 i1 _ hn=>(hFe i n (by omega)).symm)
 rcases hw with hw | ⟨Bg,hg,hw⟩
 ·exact .inl ⟨Bf,back hw,dat o2⟩
 ·exact .inr ⟨Bg,back hw,dat (yRx (new f hf) hg)⟩
theorem yRQ {a:dA} {Q Lf:Int} {R:Int→Int×List Int} {V:Int→Int→Int} {f':Int→Int→List Int} {fl:Int→Bool} (hm:Mk a) (hu:ya (yj a)=false) (hx: ∀i,0≤i→i<a.2.1.1→2≤(yh a i).1.length∧(yh a i).2.1.length<60) (hb: ∀i,0≤i→i<a.2.1.1→yr a i=true→i=a.2.2.2.1)
  (hc:Ch (yj a) f') (hal:Al a.2.2.2.1 a.2.1.1 (yr a) fl Lf)
  (base: ∀f,Ch a f→ ∀i n s,0≤i→i<a.2.1.1→yr a i=false→(n=0∨n=1)→yPG a.1 n (f i n) s→s.2.2.1=i∧s.2.1≤a.2.2.2.2.2.2.2.1)
  (new: ∀f,Ch a f→Wdat a.2.1 a.2.2.2.2.2.2.1 Q R V Lf a.2.2.2.2.1 f fl (yv a)) (hz:a.2.2.2.1≠ -1→yr a a.2.2.2.1=true→a.2.2.2.2.1=0) :
  ∃Bf,((Eq0 a fl Lf→Bf=a.2.2.2.2.1)∧(Eq0 a fl Lf→Lf≠ -1→fl Lf=false→yfg a.1 (f' Lf)))∧Wsup a.1 a.2.1 (a.2.2.2.2.2.2.2.1+1) a.2.2.2.2.2.2.1 a.2.2.2.1 a.2.2.2.2.1 Lf Bf f' fl∧Wdat a.2.1 a.2.2.2.2.2.2.1 Q R V Lf Bf f' fl (yv (yj a)):=by
 have ht:=ylI hm.k;have hn:=hm.n;have hlen:=hm.k.1;have hg3:=yl.1 hm.g;have hw:i64.wrap (a.2.2.2.2.2.2.2.1+1)=a.2.2.2.2.2.2.2.1+1:=wr (by omega) (by omega);have hsl:=yDA (g:=a.2.2.2.2.2.2.2.1+1) (by omega)
 have top: ∀i,0≤i→i<a.2.1.1→yr a i=false→f' i ((a.2.2.2.2.2.2.2.1+1).tmod 2)=yk (yfN a.1 a.2.1 (a.2.2.2.2.2.2.2.1+1) a.2.2.2.2.2.2.1 a.2.2.2.1 a.2.2.2.2.1 i):=fun i i0 i1 hi=>by
  have h1:=hc i ((a.2.2.2.2.2.2.2.1+1).tmod 2) i0 (by rw[ht.g]; exact i1) hsl.1;have hmem:=hm.k.2 i i0 i1;obtain⟨x1,x2⟩:=hx i i0 i1;have hi':(yh a i).2.2.1=false:=hi
  have e:yh (yj a) i=yx (yds ((a.2.2.2.2.2.2.2.1+1).tmod 2) (yk (yfN a.1 a.2.1 (a.2.2.2.2.2.2.2.1+1) a.2.2.2.2.2.2.1 a.2.2.2.1 a.2.2.2.2.1 i)) (yh a i)):=by
   rw[yJC hu i0 (by omega)];show yx (yds ((i64.wrap (a.2.2.2.2.2.2.2.1+1)).tmod 2) (yk (yfN a.1 a.2.1 (i64.wrap (a.2.2.2.2.2.2.2.1+1)) a.2.2.2.2.2.2.1 a.2.2.2.1 a.2.2.2.2.1 i)) (yh a i))=_;rw[hw]
  rw[e]at h1;rw[yqN (ypa hmem) ((yuq _ _ _).trans hi') hsl.1 h1];have hcw:=ytD (n:=(a.2.2.2.2.2.2.2.1+1).tmod 2) hmem hi' (zj6.2 (by omega)) (yFL (yfN a.1 a.2.1 (a.2.2.2.2.2.2.2.1+1) a.2.2.2.2.2.2.1 a.2.2.2.1 a.2.2.2.2.1 i)) x2;unfold yds;rw[hi',cond_false,yo8 hcw,beq_self_eq_true]; rfl
 rw[hw]at ht;obtain⟨f,hf,hff⟩:=ht.c f' hc
 have own: ∀i,0≤i→i<a.2.1.1→fl i=false→yfg a.1 (f' i):=fun i i0 i1 hi =>
  ⟨(a.2.2.2.2.2.2.2.1+1).tmod 2,_,yUL (by omega),by rw[top i i0 i1 (yyn hal i0 i1 hi)]; exact yAb (yM3 hm i0 i1)⟩
 have nef: ∀i,0≤i→i<a.2.1.1→i≠Lf→fl i=false:=fun i i0 i1 hne=>yXa hal hb i0 i1 hne
 have two: ∃i,0≤i∧i<a.2.1.1∧i≠Lf:=by
  by_cases h:Lf=0
  ·exact⟨1,by omega,by omega,by omega⟩
  ·exact⟨0,by omega,by omega,fun e=>h e.symm⟩
 have dat:Wdat a.2.1 a.2.2.2.2.2.2.1 Q R V Lf a.2.2.2.2.1 f' fl (yv (yj a)) :=
  yi2 (new f hf) (fun i n i0 i1 hi h2=> .inl (by
   rcases hff i n i0 i1 (by omega)with h | ⟨h,_⟩
   ·exact⟨h,ht.b i n i0 i1 (by omega)⟩
   ·omega)) (fun i n i0 i1 hb=>ht.d i n i0 i1 hb)
 have mk: ∀Bf,((Lf=a.2.2.2.1∧Bf=a.2.2.2.2.1∧(Lf= -1∨(fl Lf=false∧yfg a.1 (f' Lf))))∨(0≤Lf∧Lf<a.2.1.1∧ ¬(fl Lf=false∧yfg a.1 (f' Lf))∧(a.2.2.2.1= -1∨a.2.2.2.1=Lf)∧Bf=0))→Wsup a.1 a.2.1 (a.2.2.2.2.2.2.2.1+1) a.2.2.2.2.2.2.1 a.2.2.2.1 a.2.2.2.2.1 Lf Bf f' fl:=fun Bf h4=>by
  refine⟨fun i i0 i1=>yM3 hm i0 i1,fun i n s i0 i1 hi hn2 hsv=> ?_,fun i i0 i1 hne=>⟨nef i i0 i1 hne,own i i0 i1 (nef i i0 i1 hne)⟩,?_,h4⟩
  ·have hi':=yyn hal i0 i1 hi
   by_cases hns:n=(a.2.2.2.2.2.2.2.1+1).tmod 2
   ·subst hns
    rw[top i i0 i1 hi']at hsv;have:=congrArg (fun x=>x.1) ((yAb (yM3 hm i0 i1)).1.symm.trans hsv.1);simp only at this;subst this;exact⟨rfl,.inr rfl⟩
   ·rcases hff i n i0 i1 (by omega)with h | ⟨h,_⟩
    ·rw[h]at hsv
     obtain⟨b1,b2⟩:=base f hf i n s i0 i1 hi' hn2 hsv;exact⟨b1,.inl (by omega)⟩
    ·exact absurd h hns
  ·obtain⟨i,i0,i1,hne⟩:=two
   exact⟨i,i0,i1,nef i i0 i1 hne,top i i0 i1 (yyn hal i0 i1 (nef i i0 i1 hne))⟩
 have hl:=hm.l;have ow2:Eq0 a fl Lf→Lf≠ -1→fl Lf=false→yfg a.1 (f' Lf):=fun h h5 h6=>own Lf (by have:=h.1; omega) (by have:=h.1; omega) h6
 rcases hal with⟨h1,h2⟩ | ⟨h1,h2,h3,h4⟩
 ·by_cases hne:Lf= -1
  ·exact⟨_,⟨fun _=>rfl,ow2⟩,mk _ (.inl ⟨h1,rfl,.inl hne⟩),dat⟩
  ·rcases Bool.eq_false_or_eq_true (fl Lf)with hf0 | hf0
   ·refine⟨0,⟨fun h=> ?_,ow2⟩,mk 0 (.inr ⟨by omega,by omega,(fun h=>by have:=h.1; rw[hf0]at this; cases this),.inr h1.symm,rfl⟩),yRx dat hm.b.1⟩
    rw[h.2 Lf (by omega) (by omega),h1]at hf0;exact(hz (by omega) hf0).symm
   ·exact⟨_,⟨fun _=>rfl,ow2⟩,mk _ (.inl ⟨h1,rfl,.inr ⟨hf0,own Lf (by omega) (by omega) hf0⟩⟩),dat⟩
 ·have ht:fl Lf=true:=by rw[h4 Lf h1 h2,beq_self_eq_true,Bool.or_true]
  refine⟨0,⟨fun h=> ?_,ow2⟩,mk 0 (.inr ⟨h1,h2,fun h=> ?_,h3,rfl⟩),yRx dat hm.b.1⟩
  ·rw[h.2 Lf h1 h2,h.1]at ht
   exact(hz (by have:=h.1; omega) ht).symm
  ·have:=h.1
   rw[ht]at this; cases this
def yEp (R:Int→Int×List Int) (B0:Int) (V:Int→Int→Int) (a:dA):Prop:=B0≤a.2.2.2.2.1∧ ∀f fl Lf,Ch a f→Al a.2.2.2.1 a.2.1.1 (yr a) fl Lf→ ∃Bf,((Eq0 a fl Lf→Bf=B0)∧(Eq0 a fl Lf→Lf≠ -1→fl Lf=false→yfg a.1 (f Lf)))∧Wsup a.1 a.2.1 a.2.2.2.2.2.2.2.1 a.2.2.2.2.2.2.1 a.2.2.2.1 B0 Lf Bf f fl∧Wdat a.2.1 a.2.2.2.2.2.2.1 a.2.2.2.2.2.1 R V Lf Bf f fl (yv a)
def Rob (B0:Int) (V:Int→Int→Int) (a:dA):Prop:= ∃R,yEp R B0 V a
def Dd (K:Int) (VS:(Int→Int→Int)→Prop) (r:dA):Prop:= ∀f fl Lf,Ch r f→Al r.2.2.2.1 r.2.1.1 (yr r) fl Lf→ ∃V,VS V∧WW K r.1 r.2.1 V Lf f fl (yv r)
theorem yxw {K J:Int} {VS WS:(Int→Int→Int)→Prop} {r:dA} (h:Dd K VS r) (hj:K≤J) (hv: ∀V,VS V→WS V):Dd J WS r:=fun f fl Lf hf hal=>by
 obtain⟨V,h1,h2⟩:=h f fl Lf hf hal;exact⟨V,hv V h1,yVt h2 hj⟩
structure Nb (a:dA):Prop where
 n:a.2.2.2.1≠ -1→ ∀i s,0≤i→i<a.2.1.1→i≠a.2.2.2.1→0≤s→s<a.2.2.2.2.1→yv a i (s+6)=false
 z:a.2.2.2.1≠ -1→yr a a.2.2.2.1=true→a.2.2.2.2.1=0
structure Lv (K:Int) (V:Int→Int→Int) (a:dA):Prop where
 x:Ix K V a
 r: ∃B0,Rob B0 V a
 n:Nb a
theorem yCM {K J:Int} {V:Int→Int→Int} {a:dA} (h:Lv K V a) (hj:K≤J):Lv J V a:=⟨yCL h.x hj,h.r,h.n⟩
theorem yTL {K:Int} {V:Int→Int→Int} {a:dA} (h:Ix K V a) {i:Int} (i0:0≤i) (i1:i<a.2.1.1) (hf:yr a i=true):i=a.2.2.2.1:=by
 rcases(yh4 h.xk i0 i1).2.2 hf with e | e
 ·exact e
 ·rw[h.xb]at e; cases e
theorem yVF {K:Int} {V:Int→Int→Int} {a:dA} (h:Ix K V a) {i:Int} (i0:0≤i) (i1:i<a.2.1.1):2≤(yh a i).1.length∧(yh a i).2.1.length<60:=by
 have hg:=yl.1 h.xc.1;have h1:=(yh4 h.xk i0 i1).2.1;have h2:=h.xn i i0 i1;have c:=h.xc;unfold yaO at c;have h3:(bif i==a.2.2.2.1 then a.2.2.2.2.1 else 0)≤8:=by cases(i==a.2.2.2.1)<;>simp only[cond_true,cond_false]<;>omega
 omega
theorem yF1 {a:dA} {f:Int→Int→List Int} (h:ype a) (hf:Ch (yc a) f):Ch a f:=fun i n i0 i1 n0=>by
 have hg:(yc a).2.1=a.2.1:=yP (yax a);have h1:=hf i n i0 (by rw[hg]; exact i1) n0;cases hd:ya a
 ·rcases yMb (yLj hd) i0 with e | e
  ·rw[e]at h1; exact h1
  ·rw[e]at h1
   rcases(yRU (-1) [] (h.2 i i0 i1)).1 n _ n0 h1 with h2 | h2
   ·exact h2
   ·omega
 ·rw[yuN hd]at h1; exact h1
theorem yOU {K T Lf Bf:Int} {R:Int→Int×List Int} {V:Int→Int→Int} {b:dA} {f:Int→Int→List Int} {fl:Int→Bool} (hix:Ix K V b) (hu:ya (yc b)=false) (hf:Ch (yc b) f) (hfl: ∀i,0≤i→i<b.2.1.1→fl i=false→yr b i=false) (hL:Lf=b.2.2.2.1∨b.2.2.2.1= -1)
  (old:Wdat b.2.1 T b.2.2.2.2.2.1 R V Lf Bf f fl (yv b)):Wdat b.2.1 b.2.2.2.2.2.1 b.2.2.2.2.2.1 R V Lf b.2.2.2.2.1 f fl (yv (yc b)):=by
 have ok:=yay hix.xk;have ts:=yDB (-1) (fun _=> []) ok;have hlen:=ok.1;have q:=old.q;refine⟨old.e,by omega,fun i s i0 i1 s0 s1 hi hl hb _=> ?_,fun q q0 q1=>by omega,fun i n r i0 i1 hi h2 h6 hr=> ?_,fun q q0 q1=>by omega,fun q q0 q1=>by omega,fun i n i0 i1 hi hn=>old.b i n i0 i1 hi (ts.d i n i0 i1 hn)⟩
 ·have hfi:(yh b i).2.2.1=false:=hfl i i0 i1 hi
  have hp:=hf i (s+6) i0 (by rw[ts.g]; exact i1) (by omega);rw[yDz hu i0 (by omega)]at hp;rw[yqN (ok.2 i i0 i1) hfi (by omega) hp];refine hix.xv i s i0 i1 s0 s1 ?_;have hb2:yd2 (yh b i) (s+6)=false:=by rw[← hb]; exact(ts.b i (s+6) i0 i1 (by omega)).symm
  unfold yaw yav;rw[hfi,hb2]
  have:(i !=b.2.2.2.1||ltb s b.2.2.2.2.1)=true:=by
   rw[Bool.or_eq_true,bne_iff_ne,zka];rcases hL with e | e<;>omega
  rw[this]; rfl
 ·obtain⟨h1,h3⟩:=old.h i n r i0 i1 hi h2 h6 hr
  exact⟨h1,fun h=>by omega⟩
theorem yVl {K:Int} {V:Int→Int→Int} {b:dA} (h:Ix K V b) (hk:K<60000):Mk (yH (yc b)):=by
 have hc:=yax b;have hk2:=ygV h.xk;have:=h.xg;have e:=yol hc
 have hx:yaO (yH (yc b)):=by
  have c:=yCC hc h.xc;obtain⟨c1,c2,c3,c4,c5,c6,c7,c8,c9,c10,c11⟩:=c;refine⟨c1,c2,c3,c4,c5,c6,⟨?_,?_⟩,⟨Int.le_refl _,c8.2⟩,?_,c10,c11⟩
  ·show 0≤(yc b).2.2.2.2.2.1; omega
  ·show(yc b).2.2.2.2.2.1≤60000; omega
  ·show(yc b).2.2.2.2.2.1≤(yc b).2.2.2.2.2.1+4; omega
 exact yP0 hx hk2 (by show(yc b).2.2.2.2.2.2.2.1<60000; omega)
structure CoreEq (a b:dA):Prop where
 i:a.1=b.1
 g:a.2.1=b.2.1
 l:a.2.2.2.1=b.2.2.2.1
 u:a.2.2.2.2.1=b.2.2.2.2.1
 s:a.2.2.2.2.2.1=b.2.2.2.2.2.1
 t:a.2.2.2.2.2.2.1=b.2.2.2.2.2.2.1
 e:a.2.2.2.2.2.2.2.1=b.2.2.2.2.2.2.2.1
theorem ybE {a b:dA} (h:yp a=yp b):CoreEq a b:=⟨yF2 h,yP h,yd4 h,ycL h,yhh h,yPN h,yol h⟩
theorem yVy {K T L B Lf:Int} {R:Int→Int×List Int} {V:Int→Int→Int} {b:dA} {f':Int→Int→List Int} {fl:Int→Bool} (hix:Ix K V b) (hk:K<60000) (hc:Ch (yi b) f') (hfl: ∀i,0≤i→i<b.2.1.1→fl i=false→yr b i=false) (hL:Lf=b.2.2.2.1∨(b.2.2.2.1= -1∧0≤Lf∧Lf<b.2.1.1∧fl Lf=true))
  (old: ∀f,Ch b f→ ∃Bf,Wsup b.1 b.2.1 b.2.2.2.2.2.2.2.1 T L B Lf Bf f fl∧Wdat b.2.1 T b.2.2.2.2.2.1 R V Lf Bf f fl (yv b)):WW (K+1) b.1 b.2.1 V Lf f' fl (yv (yi b)):=by
 have ok:=yay hix.xk;have hg:=hix.xg;have hs:=hix.xs;have ts:=yDB (-1) (fun _=> []) ok
 have sy: ∀f,Ch (yc b) f→ ∃Bf,Wsup b.1 b.2.1 b.2.2.2.2.2.2.2.1 T L B Lf Bf f fl∧Wdat b.2.1 T b.2.2.2.2.2.1 R V Lf Bf f fl (yv (yc b)):=fun f hf=>by
  obtain⟨Bf,h1,h2⟩:=old f (yF1 ok hf);exact⟨Bf,h1,yi2 h2 (fun i n i0 i1 hi hn=> .inl ⟨rfl,ts.b i n i0 i1 (by omega)⟩) (fun i n i0 i1 h=>ts.d i n i0 i1 h)⟩
 have ce:=ybE (yax b);cases hu:ya (yc b)
 ·have e:yi b=yj (yH (yc b)):=by unfold yi; rw[hu]; rfl
  rw[e]at hc ⊢;have hm:=yVl hix hk;obtain⟨c1,c2,c3,c4,c5,c6,c7⟩:=ce;have hC: ∀f,Ch (yH (yc b)) f→Ch (yc b) f:=fun f hf=>hf
  have d0: ∀f,Ch (yc b) f→Wdat b.2.1 b.2.2.2.2.2.1 b.2.2.2.2.2.1 R V Lf b.2.2.2.2.1 f fl (yv (yc b)):=fun f hf=>by
   obtain⟨Bf,h1,h2⟩:=old f (yF1 ok hf);exact yOU hix hu hf hfl (hL.imp id (fun h=>h.1)) h2
  have hT:=yFh (a:=yH (yc b)) (T:=T) (L:=L) (B:=B) (Q:=b.2.2.2.2.2.1) (Lf:=Lf) (Lf2:=Lf) (R:=R) (V:=V) (fl:=fl) hm hc (fun i i0 i1 hi=>by
    have i1':i<b.2.1.1:=by rw[← c2]; exact i1
    exact(ts.f i i0 i1').trans (hfl i i0 i1' hi)) (fun f hf=>by
    show ∃Bf,Wsup (yc b).1 (yc b).2.1 (yc b).2.2.2.2.2.2.2.1 T L B Lf Bf f fl∧Wdat (yc b).2.1 T b.2.2.2.2.2.1 R V Lf Bf f fl (yv (yc b))
    rw[c1,c2,c7]; exact sy f hf) (fun f hf=>by
    show Wdat (yc b).2.1 (yc b).2.2.2.2.2.1 b.2.2.2.2.2.1 R V Lf (yc b).2.2.2.2.1 f fl (yv (yc b))
    rw[c2,c4,c5]; exact d0 f hf) (fun f hf i i0 i1 hne=>by
    obtain⟨Bf,h1,_⟩:=sy f hf;have i1':i<b.2.1.1:=by rw[← c2]; exact i1
    show fl i=false∧yfg (yc b).1 (f i)
    rw[c1]; exact h1.u2 i i0 i1' hne) (by
    show Lf=(yc b).2.2.2.1∨((yc b).2.2.2.1= -1∧0≤Lf∧Lf<(yc b).2.1.1∧fl Lf=true)
    rw[c2,c3]; exact hL)
  have hT:(∃Bf,Wsup (yc b).1 (yc b).2.1 (yc b).2.2.2.2.2.2.2.1 T L B Lf Bf f' fl∧Wdat (yc b).2.1 T b.2.2.2.2.2.1 R V Lf Bf f' fl (yv (yj (yH (yc b))))) ∨
   ∃Bf,Wsup (yc b).1 (yc b).2.1 ((yc b).2.2.2.2.2.2.2.1+1) (yc b).2.2.2.2.2.1 (yc b).2.2.2.1 (yc b).2.2.2.2.1 Lf Bf f' fl∧Wdat (yc b).2.1 (yc b).2.2.2.2.2.1 b.2.2.2.2.2.1 R V Lf Bf f' fl (yv (yj (yH (yc b)))):=hT
  rw[c1,c2,c7]at hT;rcases hT with⟨Bf,h1,h2⟩ | ⟨Bf,h1,h2⟩
  ·exact⟨_,_,_,_,_,_,Bf,by omega,by omega,h1,h2⟩
  ·exact⟨_,_,_,_,_,_,Bf,by omega,by omega,h1,h2⟩
 ·have e:yi b=yc b:=by unfold yi; rw[hu]; rfl
  rw[e]at hc ⊢;obtain⟨Bf,h1,h2⟩:=sy f' hc;exact⟨_,_,_,_,_,_,Bf,by omega,by omega,h1,h2⟩
theorem ytU {b:dA} (hk:yad b) {i m:Int} (i0:0≤i) (i1:i<b.2.1.1) (m0:2≤m):yv (yi b) i m=yv b i m∧yr (yi b) i=yr b i:=by
 have ts:=yDB (-1) (fun _=> []) (yay hk);have hc:=yP (yax b);have h1:yv (yc b) i m=yv b i m:=ts.b i m i0 i1 (by omega);have h2:=ts.f i i0 i1;unfold yi;cases ya (yc b)
 ·have ok2:ype (yH (yc b)):=yay (a:=yH (yc b)) (ygV hk)
  have tm:=ylI ok2;have i1':i<(yH (yc b)).2.1.1:=by show i<(yc b).2.1.1; rw[hc]; exact i1
  have hg:0≤(i64.wrap ((yH (yc b)).2.2.2.2.2.2.2.1+1)).tmod 2∨(i64.wrap ((yH (yc b)).2.2.2.2.2.2.2.1+1)).tmod 2<2:=by omega
  have hlt:(i64.wrap ((yH (yc b)).2.2.2.2.2.2.2.1+1)).tmod 2<2:=by
   have:=Int.tmod_lt_of_pos (i64.wrap ((yH (yc b)).2.2.2.2.2.2.2.1+1)) (show(0:Int)<2 by omega);exact this
  exact⟨(tm.b i m i0 i1' (by omega)).trans h1,(tm.f i i0 i1').trans h2⟩
 ·exact⟨h1,h2⟩
theorem yVx {K T L B Lf:Int} {R:Int→Int×List Int} {V:Int→Int→Int} {b:dA} {f':Int→Int→List Int} {fl:Int→Bool} (hix:Ix K V b) (hz:b.2.2.2.1≠ -1→yr b b.2.2.2.1=true→b.2.2.2.2.1=0) (hk:K<60000) (hu:ya (yi b)=false) (hc:Ch (yi b) f') (hal:Al b.2.2.2.1 b.2.1.1 (yr b) fl Lf)
  (old: ∀f,Ch b f→ ∃Bf,Wsup b.1 b.2.1 b.2.2.2.2.2.2.2.1 T L B b.2.2.2.1 Bf f (yr b)∧Wdat b.2.1 T b.2.2.2.2.2.1 R V b.2.2.2.1 Bf f (yr b) (yv b)) :
  ∃Bf,((Eq0 b fl Lf→Bf=b.2.2.2.2.1)∧(Eq0 b fl Lf→Lf≠ -1→fl Lf=false→yfg b.1 (f' Lf)))∧Wsup b.1 b.2.1 (b.2.2.2.2.2.2.2.1+1) b.2.2.2.2.2.1 b.2.2.2.1 b.2.2.2.2.1 Lf Bf f' fl∧Wdat b.2.1 b.2.2.2.2.2.1 b.2.2.2.2.2.1 R V Lf Bf f' fl (yv (yi b)):=by
 have ok:=yay hix.xk;have ts:=yDB (-1) (fun _=> []) ok;have ce:=ybE (yax b);obtain⟨hs,e⟩:=yyz hu;rw[e]at hu hc ⊢;have hm:=yVl hix hk;have six:=yRM (yVi hix hs);obtain⟨c1,c2,c3,c4,c5,c6,c7⟩:=ce;have hfe: ∀i,0≤i→i<b.2.1.1→yr (yc b) i=yr b i:=ts.f
 have d0: ∀f,Ch (yc b) f→Wdat b.2.1 b.2.2.2.2.2.1 b.2.2.2.2.2.1 R V Lf b.2.2.2.2.1 f fl (yv (yc b)):=fun f hf=>by
  obtain⟨Bf,_,h2⟩:=old f (yF1 ok hf);have hLf:Lf=b.2.2.2.1∨b.2.2.2.1= -1:=by rcases hal with⟨h,_⟩ | ⟨_,_,h,_⟩<;>omega
  have sub:=fun i i0 i1 hi=>yyn hal (i:=i) i0 i1 hi
  have w0:=yOU (fl:=yr b) (Lf:=b.2.2.2.1) hix hs hf (fun i _ _ h=>h) (.inl rfl) h2;have q:=w0.q;refine⟨w0.e,w0.q,fun i s i0 i1 s0 s1 hi hl hb hj=> ?_,fun q q0 q1=>by omega,fun i n r i0 i1 hi h2 h6 hr=>w0.h i n r i0 i1 (sub i i0 i1 hi) h2 h6 hr,fun q q0 q1=>by omega,fun q q0 q1=>by omega,fun i n i0 i1 hi hn=>w0.b i n i0 i1 (sub i i0 i1 hi) hn⟩;exact w0.d i s i0 i1 s0 s1 (sub i i0 i1 hi) (by omega) hb hj
 have hD:=yRQ (a:=yH (yc b)) (Q:=b.2.2.2.2.2.1) (Lf:=Lf) (R:=R) (V:=V) (fl:=fl) hm hu (fun i i0 i1=>yVF six i0 i1) (fun i i0 i1 hf=>yTL six i0 i1 hf) hc (by
   show Al (yc b).2.2.2.1 (yc b).2.1.1 (yr (yc b)) fl Lf
   rw[c2,c3]; exact yxg hal (fun i i0 i1=>(hfe i i0 i1).symm)) (fun f hf i n s i0 i1 hi hn2 hsv=>by
   have i1':i<b.2.1.1:=by rw[← c2]; exact i1
   obtain⟨Bf,h1,_⟩:=old f (yF1 ok hf);have hsv:yPG (yc b).1 n (f i n) s:=hsv;rw[c1]at hsv;obtain⟨g1,g2⟩:=h1.u1 i n s i0 i1' ((hfe i i0 i1').symm.trans hi) hn2 hsv;refine⟨g1,?_⟩;show s.2.1≤(yc b).2.2.2.2.2.2.2.1;rw[c7];rcases g2 with g2 | g2
   ·omega
   ·rw[g2]; exact Int.le_refl _) (fun f hf=>by
   show Wdat (yc b).2.1 (yc b).2.2.2.2.2.1 b.2.2.2.2.2.1 R V Lf (yc b).2.2.2.2.1 f fl (yv (yc b))
   rw[c2,c4,c5]; exact d0 f hf) (by
   show(yc b).2.2.2.1≠ -1→yr (yc b) (yc b).2.2.2.1=true→(yc b).2.2.2.2.1=0;rw[c3,c4];intro h1 h2;have hl:=hix.xc.2.2.2.1;rw[hfe _ (by omega) (by omega)]at h2
   exact hz h1 h2)
 have hD: ∃Bf,((Eq0 (yc b) fl Lf→Bf=(yc b).2.2.2.2.1)∧(Eq0 (yc b) fl Lf→Lf≠ -1→fl Lf=false→yfg (yc b).1 (f' Lf)))∧Wsup (yc b).1 (yc b).2.1 ((yc b).2.2.2.2.2.2.2.1+1) (yc b).2.2.2.2.2.1 (yc b).2.2.2.1 (yc b).2.2.2.2.1 Lf Bf f' fl∧Wdat (yc b).2.1 (yc b).2.2.2.2.2.1 b.2.2.2.2.2.1 R V Lf Bf f' fl (yv (yj (yH (yc b)))):=hD;have he:Eq0 b fl Lf→Eq0 (yc b) fl Lf:=fun h=>⟨by rw[c3]; exact h.1,fun i i0 i1=>by rw[c2]at i1; exact(h.2 i i0 i1).trans (hfe i i0 i1).symm⟩
 rw[c1,c2,c3,c4,c5,c7]at hD;obtain⟨Bf,⟨h1,h2⟩,h3⟩:=hD;exact⟨Bf,⟨fun h=>h1 (he h),fun h=>h2 (he h)⟩,h3⟩
theorem yRs {B0:Int} {V:Int→Int→Int} {a:dA} {R:Int→Int×List Int} (h:yEp R B0 V a) {fl:Int→Bool} {Lf:Int} (hal:Al a.2.2.2.1 a.2.1.1 (yr a) fl Lf) :
  ∀f,Ch a f→ ∃Bf,Wsup a.1 a.2.1 a.2.2.2.2.2.2.2.1 a.2.2.2.2.2.2.1 a.2.2.2.1 B0 Lf Bf f fl∧Wdat a.2.1 a.2.2.2.2.2.2.1 a.2.2.2.2.2.1 R V Lf Bf f fl (yv a):=fun f hf=>by
 obtain⟨Bf,_,h1,h2⟩:=h.2 f fl Lf hf hal;exact⟨Bf,h1,h2⟩
theorem yxu (a:dA):Al a.2.2.2.1 a.2.1.1 (yr a) (yr a) a.2.2.2.1:= .inl ⟨rfl,fun _ _ _=>rfl⟩
theorem yXA {L N Lf:Int} {fl0 fl:Int→Bool} (h:Al L N fl0 fl Lf):Lf=L∨(L= -1∧0≤Lf∧Lf<N∧fl Lf=true):=by
 rcases h with⟨h,_⟩ | ⟨h1,h2,h3,h4⟩
 ·exact .inl h
 ·rcases h3 with h3 | h3
  ·exact .inr ⟨h3,h1,h2,by rw[h4 Lf h1 h2,beq_self_eq_true,Bool.or_true]⟩
  ·exact .inl h3.symm
theorem yxh (b:dA):(yi b).1=b.1∧(yi b).2.1=b.2.1∧(yi b).2.2.2.1=b.2.2.2.1∧(yi b).2.2.2.2.1=b.2.2.2.2.1∧(yi b).2.2.2.2.2.1=b.2.2.2.2.2.1:=by
 obtain⟨c1,c2,c3,c4,c5,_,_⟩:=ybE (yax b);unfold yi;cases ya (yc b)
 ·obtain⟨d1,d2,d3,d4,d5,_,_⟩:=ybE (ycl (yH (yc b)))
  exact⟨d1.trans c1,d2.trans c2,d3.trans c3,d4.trans c4,d5.trans c5⟩
 ·exact⟨c1,c2,c3,c4,c5⟩
theorem yRD {b:dA} (hg:0≤b.2.2.2.2.2.2.2.1∧b.2.2.2.2.2.2.2.1<60000) (hu:ya (yi b)=false):(yi b).2.2.2.2.2.2.1=b.2.2.2.2.2.1∧(yi b).2.2.2.2.2.2.2.1=b.2.2.2.2.2.2.2.1+1:=by
 obtain⟨c1,c2,c3,c4,c5,c6,c7⟩:=ybE (yax b);obtain⟨_,e⟩:=yyz hu;obtain⟨d1,d2,d3,d4,d5,d6,d7⟩:=ybE (ycl (yH (yc b)));rw[e];refine⟨d6.trans c5,d7.trans ?_⟩;show i64.wrap ((yc b).2.2.2.2.2.2.2.1+1)=_;rw[c7]; exact wr (by omega) (by omega)
theorem yVM {a r:dA} (h:Nb a) (hg:r.2.1=a.2.1) (hl:r.2.2.2.1=a.2.2.2.1) (hb:r.2.2.2.2.1=a.2.2.2.2.1) (hlr: -1≤a.2.2.2.1∧a.2.2.2.1≤a.2.1.1-1) (hd: ∀i m,0≤i→i<a.2.1.1→6≤m→yv r i m=true→yv a i m=true) (hf: ∀i,0≤i→i<a.2.1.1→yr r i=yr a i):Nb r:=by
 refine⟨fun h1 i s i0 i1 hi s0 s1=> ?_,fun h1 h2=> ?_⟩
 ·rw[hl]at h1 hi
  rw[hg]at i1;rw[hb]at s1;cases hx:yv r i (s+6)
  ·rfl
  ·rw[← h.n h1 i s i0 i1 hi s0 s1]; exact(hd i (s+6) i0 i1 (by omega) hx).symm
 ·rw[hl]at h1 h2
  rw[hb];rw[hf _ (by omega) (by omega)]at h2;exact h.z h1 h2
theorem yRC {K T L B:Int} {R:Int→Int×List Int} {V:Int→Int→Int} {b:dA} (hix:Ix K V b) (hz:b.2.2.2.1≠ -1→yr b b.2.2.2.1=true→b.2.2.2.2.1=0) (hk:K+1≤60000) (hu:ya (yi b)=false)
  (old: ∀f,Ch b f→ ∃Bf,Wsup b.1 b.2.1 b.2.2.2.2.2.2.2.1 T L B b.2.2.2.1 Bf f (yr b)∧Wdat b.2.1 T b.2.2.2.2.2.1 R V b.2.2.2.1 Bf f (yr b) (yv b)):yEp R (yi b).2.2.2.2.1 V (yi b):=by
 have c:=hix.xc;unfold yaO at c;obtain⟨s1,s2,s3,s4,s5⟩:=yxh b;have hg:=hix.xg;have hfl: ∀i,0≤i→i<b.2.1.1→yr (yi b) i=yr b i:=fun i i0 i1=>(ytU (m:=2) hix.xk i0 i1 (by omega)).2
 obtain⟨t1,t2⟩:=yRD (b:=b) (by omega) hu;refine⟨Int.le_refl _,fun f fl Lf hf hal=> ?_⟩;rw[s2,s3]at hal;have hal2:=yxg hal hfl;obtain⟨Bf,⟨h1,h2⟩,h3⟩:=yVx hix hz (by omega) hu hf hal2 old;have he:Eq0 (yi b) fl Lf→Eq0 b fl Lf:=fun e=>⟨e.1.trans s3,fun i i0 i1=>(e.2 i i0 (by rw[s2]; exact i1)).trans (hfl i i0 i1)⟩
 rw[s1,s2,s3,s4,s5,t1,t2];exact⟨Bf,⟨fun e=>h1 (he e),fun e=>h2 (he e)⟩,h3⟩
theorem yUt {K:Int} {V:Int→Int→Int} {a:dA} (h:Lv K V a) (hk:K+1≤60000) :
  (ya (yi a)=false→Lv (K+1) V (yi a))∧(ya (yi a)=true→Dd (K+1) (· =V) (yi a)):=by
 obtain⟨B0,R,hr⟩:=h.r;have c:=h.x.xc;unfold yaO at c;obtain⟨s1,s2,s3,s4,s5⟩:=yxh a;have hfl: ∀i,0≤i→i<a.2.1.1→yr (yi a) i=yr a i:=fun i i0 i1=>(ytU (m:=2) h.x.xk i0 i1 (by omega)).2
 have hg:=h.x.xg;refine⟨fun hu=>⟨yJz h.x hk hu,⟨_,R,yRC h.x h.n.z hk hu (yRs hr (yxu a))⟩,?_⟩,fun hd f fl Lf hf hal=>⟨V,rfl,?_⟩⟩
 ·exact yVM h.n s2 s3 s4 (by omega) (fun i m i0 i1 m0 hb=>by rw[(ytU h.x.xk i0 i1 (by omega)).1]at hb; exact hb) hfl
 ·rw[s2,s3]at hal
  have hal2:=yxg hal hfl;have:=yVy h.x (by omega) hf (fun i i0 i1 hi=>yyn hal2 i0 i1 hi) (yXA hal2) (yRs hr hal2);rw[s1,s2]; exact this
theorem yWM {K:Int} {V:Int→Int→Int} {a:dA} {l:List dW} (h:Lv K V a) (hd:yaH a.2.1 l=true):Lv K V (ytt a l):=⟨yH9 h.x hd,h.r,⟨h.n.n,h.n.z⟩⟩
theorem yXN {K:Int} {V:Int→Int→Int} {a:dA} {b n:Int} (h:Lv K V a) (hb:ybj a.2.1 b=true) (hn:isW n=true):Lv K V (yip a b n).2:=by
 have hi:=yXJ h.x hb hn;unfold yip at hi ⊢;cases hs:(yJ a (yag a.2.1 b)).2
 ·exact h
 ·rw[hs]at hi
  exact⟨hi,h.r,⟨h.n.n,h.n.z⟩⟩
theorem yWe (r:dN):yao (ybt r)=true:=by
 unfold ybt;cases h:ybg r
 ·rfl
 ·have hr:=yBy.1 h
  refine yBz.2 ⟨?_,fun x hx=> ?_⟩
  ·show(21322::r.1::r.2.1::(r.2.2.length:Int)::r.2.2).length≤12
   simp only[List.length_cons]; omega
  ·have hx:x∈21322::r.1::r.2.1::(r.2.2.length:Int)::r.2.2:=hx
   simp only[List.mem_cons]at hx;rcases hx with hx | hx | hx | hx | hx
   ·omega
   ·omega
   ·omega
   ·omega
   ·exact ysY.1 (yCj.1 hr.2.2.2 x hx)
def Two (V W X:Int→Int→Int):Prop:=X=V∨X=W
theorem yIL (a:dA):(yu a).1=a.1∧(yu a).2.1=a.2.1∧(yu a).2.2.2.1=a.2.2.2.1∧(yu a).2.2.2.2.1=a.2.2.2.2.1∧(yu a).2.2.2.2.2.1=a.2.2.2.2.2.1:=by
 unfold yu;cases leb 4 (i64.wrap (a.2.2.2.2.2.1-a.2.2.2.2.2.2.1))
 ·exact⟨rfl,rfl,rfl,rfl,rfl⟩
 ·exact yxh a
theorem yXL {K:Int} {V:Int→Int→Int} {a:dA} (h:Lv K V a) (hk:K+1≤60000) :
  (ya (yu a)=false→Lv (K+1) V (yu a))∧(ya (yu a)=true→Dd (K+1) (· =V) (yu a)):=by
 unfold yu;cases leb 4 (i64.wrap (a.2.2.2.2.2.1-a.2.2.2.2.2.2.1))
 ·exact⟨fun _=>yCM h (by omega),fun hd=>by rw[cond_false,h.x.xu]at hd; cases hd⟩
 ·exact yUt h hk
theorem yXe {b:dA} (hk:yad b) {i m:Int} (i0:0≤i) (i1:i<b.2.1.1) (m0:2≤m):yv (yu b) i m=yv b i m∧yr (yu b) i=yr b i:=by
 unfold yu;cases leb 4 (i64.wrap (b.2.2.2.2.2.1-b.2.2.2.2.2.2.1))
 ·exact⟨rfl,rfl⟩
 ·exact ytU hk i0 i1 m0
theorem yWV {K s:Int} {d:List Int} {V:Int→Int→Int} {a:dA} (h:Lv K V a) (h3:a.2.2.2.2.2.1-a.2.2.2.2.2.2.1≤3) (hq:a.2.2.2.2.2.1<60000) (hs:y5 a.2.1 s=true) (hl:(d.length:Int)=a.2.1.1-1) (hd:d.all isW=true):Dd (K+1) (Two V (yi1 V a.2.1 s d)) (yN a (a.2.2.2.2.2.1,s,d)):=by
 obtain⟨B0,R,hB,hr⟩:=h.r;have ok:=yay h.x.xk;have hg:=h.x.xg;have hs2:=h.x.xs;have ht:=yRw (a.2.2.2.2.2.1,s,d) ok;have c:=h.x.xc;unfold yaO at c;have hsl:=yxx (q:=a.2.2.2.2.2.1) (by omega);obtain⟨c1,c2,c3,c4,c5,c6,c7⟩:=ybE (ycQ a (a.2.2.2.2.2.1,s,d));intro f' fl Lf hf hal;rw[c1,c2];rw[c2,c3]at hal;have hal2:=yxg hal ht.f;obtain⟨f,hf0,hff⟩:=ht.c f' hf;obtain⟨Bf,_,h1,h2⟩:=hr f fl Lf hf0 hal2
 have sup:Wsup a.1 a.2.1 a.2.2.2.2.2.2.2.1 a.2.2.2.2.2.2.1 a.2.2.2.1 B0 Lf Bf f' fl:=ymr h1 (fun i n i0 i1 _ hn=>by
  rcases hff i n i0 i1 (by omega)with e | ⟨e,_⟩
  ·exact e
  ·have:n=yq a.2.2.2.2.2.1:=e
   omega)
 have hb6: ∀i n,0≤i→i<a.2.1.1→6≤n→yv (yN a (a.2.2.2.2.2.1,s,d)) i n=yv a i n:=fun i n i0 i1 h6=>ht.b i n i0 i1 (fun e=>by have:n=yq a.2.2.2.2.2.1:=e; omega)
 have hf2: ∀i n,0≤i→i<a.2.1.1→fl i=false→2≤n→f' i n=f i n∨(n=yq a.2.2.2.2.2.1∧f' i n=ybt (a.2.2.2.2.2.1,s,d)):=fun i n i0 i1 _ hn=>hff i n i0 i1 (by omega)
 by_cases hx: ∃i,0≤i∧i<a.2.1.1∧fl i=false∧f' i (yq a.2.2.2.2.2.1)=ybt (a.2.2.2.2.2.1,s,d)
 ·exact⟨yi1 V a.2.1 s d,.inr rfl,_,_,_,_,_,_,Bf,by omega,by omega,sup,yRW h2 (by omega) hq hs hl hd hf2 hb6 (fun i n i0 i1 hn=>ht.d i n i0 i1 hn) hx⟩
 ·refine⟨V,.inl rfl,_,_,_,_,_,_,Bf,by omega,by omega,sup,yi2 h2 (fun i n i0 i1 hi hn=> .inl ?_) (fun i n i0 i1 hn=>ht.d i n i0 i1 hn)⟩
  have hb: ∀k,0≤k→k<6→yv (yN a (a.2.2.2.2.2.1,s,d)) i k=yv a i k:=fun k k0 k6=>by
   have g2:yv a i k=false:=by
    cases hb:yv a i k
    ·rfl
    ·have:=h2.b i k i0 i1 hi hb; omega
   cases hb:yv (yN a (a.2.2.2.2.2.1,s,d)) i k
   ·exact g2.symm
   ·rw[ht.d i k i0 i1 hb]at g2; cases g2
  refine⟨?_,?_⟩
  ·rcases hf2 i n i0 i1 hi hn with e | ⟨e,e2⟩
   ·exact e
   ·exact absurd ⟨i,i0,i1,hi,by rw[← e]; exact e2⟩ hx
  ·by_cases h6:6≤n
   ·exact hb6 i n i0 i1 h6
   ·exact hb n (by omega) (by omega)
theorem yWU {K B0 s:Int} {d:List Int} {V:Int→Int→Int} {R:Int→Int×List Int} {a:dA} (h:Ix K V a) (hB:yEp R B0 V a) (h3:a.2.2.2.2.2.1-a.2.2.2.2.2.2.1≤3) (hq:a.2.2.2.2.2.1<60000) (hs:y5 a.2.1 s=true) (hl:(d.length:Int)=a.2.1.1-1) (hd:d.all isW=true) (hu:ya (yN a (a.2.2.2.2.2.1,s,d))=false):yEp (yRq R a.2.2.2.2.2.1 s d) B0 (yi1 V a.2.1 s d) (yam (yN a (a.2.2.2.2.2.1,s,d))):=by
 obtain⟨hB,hr⟩:=hB;have ok:=yay h.xk;have ht:=yRw (a.2.2.2.2.2.1,s,d) ok;have c:=h.xc;unfold yaO at c;have hsl:=yxx (q:=a.2.2.2.2.2.1) (by omega);obtain⟨c1,c2,c3,c4,c5,c6,c7⟩:=ybE (ycQ a (a.2.2.2.2.2.1,s,d))
 have hsq:(yam (yN a (a.2.2.2.2.2.1,s,d))).2.2.2.2.2.1=a.2.2.2.2.2.1+1:=by
  show i64.wrap ((yN a (a.2.2.2.2.2.1,s,d)).2.2.2.2.2.1+1)=_;rw[c5]; exact wr (by omega) (by omega)
 refine⟨by show B0≤(yN a (a.2.2.2.2.2.1,s,d)).2.2.2.2.1; rw[c4]; exact hB,fun f' fl Lf hf hal=> ?_⟩;have hf:Ch (yN a (a.2.2.2.2.2.1,s,d)) f':=hf;have hal:Al (yN a (a.2.2.2.2.2.1,s,d)).2.2.2.1 (yN a (a.2.2.2.2.2.1,s,d)).2.1.1 (yr (yN a (a.2.2.2.2.2.1,s,d))) fl Lf:=hal;rw[c2,c3]at hal;have hal2:=yxg hal ht.f;obtain⟨f,hf0,hff⟩:=ht.c f' hf;obtain⟨Bf,⟨p1,p2⟩,h1,h2⟩:=hr f fl Lf hf0 hal2
 have hn01: ∀i n,0≤i→i<a.2.1.1→(n=0∨n=1)→f' i n=f i n:=fun i n i0 i1 hn=>by
  rcases hff i n i0 i1 (by omega)with e | ⟨e,_⟩
  ·exact e
  ·have:n=yq a.2.2.2.2.2.1:=e
   omega
 have sup:Wsup a.1 a.2.1 a.2.2.2.2.2.2.2.1 a.2.2.2.2.2.2.1 a.2.2.2.1 B0 Lf Bf f' fl:=ymr h1 (fun i n i0 i1 _ hn=>hn01 i n i0 i1 hn)
 have he:Eq0 (yam (yN a (a.2.2.2.2.2.1,s,d))) fl Lf→Eq0 a fl Lf:=fun e=>by
  have e1:Lf=(yN a (a.2.2.2.2.2.1,s,d)).2.2.2.1:=e.1;refine⟨e1.trans c3,fun i i0 i1=> ?_⟩;have:=e.2 i i0 (by show i<(yN a (a.2.2.2.2.2.1,s,d)).2.1.1; rw[c2]; exact i1);exact this.trans (ht.f i i0 i1)
 have hlen:=h.xk.1.2
 have two: ∃i,0≤i∧i<a.2.1.1∧i≠Lf:=by
  have hg3:=yl.1 h.xc.1;by_cases h:Lf=0
  ·exact⟨1,by omega,by omega,by omega⟩
  ·exact⟨0,by omega,by omega,fun e=>h e.symm⟩
 obtain⟨j,j0,j1,hj⟩:=two;have hjf:=(h1.u2 j j0 j1 hj).1
 have hx:f' j (yq a.2.2.2.2.2.1)=ybt (a.2.2.2.2.2.1,s,d):=by
  have hp:=hf j (yq a.2.2.2.2.2.1) j0 (by rw[c2]; exact j1) (by omega);have hjd:(yh a j).2.2.1=false:=yyn hal2 j0 j1 hjf;rw[yRr hu j0 (by omega)]at hp;obtain⟨x1,x2⟩:=yVF h j0 j1;have dk:=yh4 h.xk j0 j1;have hg3:=yl.1 h.xc.1;have hcw:=ytD (n:=yq a.2.2.2.2.2.1) (s:=ybt (a.2.2.2.2.2.1,s,d)) dk.1 hjd (zj6.2 (by omega)) (yWe _) x2;rw[yqN (ypa dk.1) ((yuq _ _ _).trans hjd) (by show 0≤yq a.2.2.2.2.2.1; omega) hp];unfold yds;rw[hjd,cond_false];show yeV (yQ (yh a j) (yq a.2.2.2.2.2.1) (ybt (a.2.2.2.2.2.1,s,d))).1 _=_;rw[yo8 hcw,beq_self_eq_true]; rfl
 have dat:=yRW h2 (by omega) hq hs hl hd (fun i n i0 i1 _ hn=>hff i n i0 i1 (by omega)) (fun i n i0 i1 h6=>ht.b i n i0 i1 (fun e=>by have:n=yq a.2.2.2.2.2.1:=e; omega)) (fun i n i0 i1 hn=>ht.d i n i0 i1 hn) ⟨j,j0,j1,hjf,hx⟩;refine⟨Bf,⟨fun e=>p1 (he e),fun e e1 e2=> ?_⟩,?_,?_⟩
 ·have hown:=p2 (he e) e1 e2
  show yfg (yN a (a.2.2.2.2.2.1,s,d)).1 (f' Lf);rw[c1];obtain⟨n,s',hn,hsv⟩:=hown;have hr2:0≤Lf∧Lf<a.2.1.1:=by have:=(he e).1; omega
  exact⟨n,s',hn,by rw[hn01 Lf n hr2.1 hr2.2 hn]; exact hsv⟩
 ·show Wsup (yN a (a.2.2.2.2.2.1,s,d)).1 (yN a (a.2.2.2.2.2.1,s,d)).2.1 (yN a (a.2.2.2.2.2.1,s,d)).2.2.2.2.2.2.2.1 (yN a (a.2.2.2.2.2.1,s,d)).2.2.2.2.2.2.1 (yN a (a.2.2.2.2.2.1,s,d)).2.2.2.1 B0 Lf Bf f' fl
  rw[c1,c2,c3,c6,c7]; exact sup
 ·rw[hsq]
  show Wdat (yN a (a.2.2.2.2.2.1,s,d)).2.1 (yN a (a.2.2.2.2.2.1,s,d)).2.2.2.2.2.2.1 _ _ _ _ _ _ _ _;rw[c2,c6]; exact dat
theorem yWW {B0 q s:Int} {d:List Int} {V:Int→Int→Int} {R:Int→Int×List Int} {a:dA} (hk:ype a) (hs:y5 a.2.1 s=true) (h:yEp R B0 V a) (q0:a.2.2.2.2.2.2.1≤q) (q1:q<a.2.2.2.2.2.1) (hq:(R q).1=s):yEp R B0 V (yai a s d):=by
 obtain⟨hB,hr⟩:=h;have ht:=yUO s d hk;have h1:=yab.1 hs;have hg:=yl.1 h1.1;have hda:=yqK (s:=s) h1.2.1 (by omega);obtain⟨c1,c2,c3,c4,c5,c6,c7⟩:=ybE (yiq a s d);refine⟨by rw[c4]; exact hB,fun f' fl Lf hf hal=> ?_⟩;rw[c2,c3]at hal;have hal2:=yxg hal ht.f;obtain⟨f,hf0,hff⟩:=ht.c f' hf;obtain⟨Bf,⟨p1,p2⟩,h1,h2⟩:=hr f fl Lf hf0 hal2
 have hn01: ∀i n,0≤i→i<a.2.1.1→(n=0∨n=1)→f' i n=f i n:=fun i n i0 i1 hn=>by
  rcases hff i n i0 i1 (by omega)with e | ⟨e,_⟩
  ·exact e
  ·omega
 have he:Eq0 (yai a s d) fl Lf→Eq0 a fl Lf:=fun e=>⟨e.1.trans c3,fun i i0 i1=>(e.2 i i0 (by rw[c2]; exact i1)).trans (ht.f i i0 i1)⟩
 rw[c1,c2,c3,c5,c6,c7];refine⟨Bf,⟨fun e=>p1 (he e),fun e e1 e2=> ?_⟩,ymr h1 (fun i n i0 i1 _ hn=>hn01 i n i0 i1 hn),yi2 h2 (fun i n i0 i1 hi hn=> ?_) (fun i n i0 i1 hn=>ht.d i n i0 i1 hn)⟩
 ·obtain⟨j,j0,j1,_⟩:=h1.u3
  have hL:=ylH (h1.u0 j j0 j1);have:=(he e).1;obtain⟨n,s',hn,hsv⟩:=p2 (he e) e1 e2;exact⟨n,s',hn,by rw[hn01 Lf n (by omega) (by omega) hn]; exact hsv⟩
 ·by_cases hx:n=yz s
  ·exact .inr (.inl ⟨q,q0,q1,by omega⟩)
  ·rcases hff i n i0 i1 (by omega)with e | ⟨e,_⟩
   ·exact .inl ⟨e,ht.b i n i0 i1 hx⟩
   ·exact absurd e hx
theorem yWh {K B0:Int} {V:Int→Int→Int} {a:dA} (h:Rob B0 V a) (h1:a.2.2.2.2.2.2.2.1≤K) (h2:a.2.2.2.2.2.1≤K):Dd K (· =V) a:=fun f fl Lf hf hal=>by
 obtain⟨R,_,hr⟩:=h;obtain⟨Bf,_,g1,g2⟩:=hr f fl Lf hf hal;exact⟨V,rfl,_,_,_,_,_,R,Bf,h1,h2,g1,g2⟩
theorem yIh (a:dA) (s:Int) (d:List Int):(yI a s d).2.1=a.1∧(yI a s d).2.2.1=a.2.1∧(yI a s d).2.2.2.2.1=a.2.2.2.1∧(yI a s d).2.2.2.2.2.1=a.2.2.2.2.1:=by
 obtain⟨e1,e2,e3,e4,_⟩:=yIL a;obtain⟨c1,c2,c3,c4,_,_,_⟩:=ybE (ycQ (yu a) ((yu a).2.2.2.2.2.1,s,d));unfold yI;generalize yN (yu a) ((yu a).2.2.2.2.2.1,s,d)=R at c1 c2 c3 c4 ⊢;obtain⟨g1,g2,g3,g4,_,_,_⟩:=ybE (yiq (yam R) s d);generalize yai (yam R) s d=Q at g1 g2 g3 g4 ⊢;cases ya (yu a)
 ·cases ya R
  ·exact⟨(g1.trans c1).trans e1,(g2.trans c2).trans e2,(g3.trans c3).trans e3,(g4.trans c4).trans e4⟩
  ·exact⟨c1.trans e1,c2.trans e2,c3.trans e3,c4.trans e4⟩
 ·exact⟨e1,e2,e3,e4⟩
theorem yRX {a:dA} {s:Int} {d:List Int} (hk:yad a) (hs:y5 a.2.1 s=true) (hq:0≤a.2.2.2.2.2.1) {i m:Int} (i0:0≤i) (i1:i<a.2.1.1) (m0:6≤m):(yv (yI a s d).2 i m=true→yv a i m=true)∧yr (yI a s d).2 i=yr a i:=by
 have hkc:yad (yu a):=by
  unfold yu;cases leb 4 (i64.wrap (a.2.2.2.2.2.1-a.2.2.2.2.2.2.1))
  ·exact hk
  ·exact yM0 hk
 obtain⟨e1,e2,e3,e4,e5⟩:=yIL a;have hc:=yXe (m:=m) hk i0 i1 (by omega);have i1c:i<(yu a).2.1.1:=by rw[e2]; exact i1
 have hr:=yRw ((yu a).2.2.2.2.2.1,s,d) (yay hkc);have hkr:=yDm ((yu a).2.2.2.2.2.1,s,d) hkc;have hrb:=hr.d i m i0 i1c;have hrf:=hr.f i i0 i1c;unfold yI;generalize yN (yu a) ((yu a).2.2.2.2.2.1,s,d)=R at hr hkr hrb hrf ⊢;have hd:=yUO (a:=yam R) s d (yay (a:=yam R) hkr);have i1r:i<(yam R).2.1.1:=by show i<R.2.1.1; rw[hr.g]; exact i1c
 have hdb:=hd.d i m i0 i1r;have hdf:=hd.f i i0 i1r;generalize yai (yam R) s d=Q at hdb hdf ⊢;cases ya (yu a)
 ·cases ya R
  ·exact⟨fun h=>by have:=hrb (hdb h); rw[hc.1]at this; exact this,(hdf.trans hrf).trans hc.2⟩
  ·exact⟨fun h=>by have:=hrb h; rw[hc.1]at this; exact this,hrf.trans hc.2⟩
 ·exact⟨fun h=>by have:yv (yu a) i m=true:=h; rw[hc.1]at this; exact this,hc.2⟩
theorem yWX {K s:Int} {d:List Int} {V:Int→Int→Int} {C:dA} (lc:Lv K V C) (h3:C.2.2.2.2.2.1-C.2.2.2.2.2.2.1≤3) (hq:C.2.2.2.2.2.1<60000) (hs:y5 C.2.1 s=true) (hl:(d.length:Int)=C.2.1.1-1) (hd:d.all isW=true) (hr:ya (yN C (C.2.2.2.2.2.1,s,d))=false) :
  (∃B0,Rob B0 (yi1 V C.2.1 s d) (yai (yam (yN C (C.2.2.2.2.2.1,s,d))) s d))∧Dd (K+1) (· =yi1 V C.2.1 s d) (yai (yam (yN C (C.2.2.2.2.2.1,s,d))) s d):=by
 obtain⟨B0,R,hR⟩:=lc.r;have rd:=yWU lc.x hR h3 hq hs hl hd hr;have c:=ybE (ycQ C (C.2.2.2.2.2.1,s,d));have kp:=yDm (C.2.2.2.2.2.1,s,d) lc.x.xk;have lcx:=lc.x.xc;unfold yaO at lcx;have hg:=lc.x.xg;have hx:=lc.x.xs;generalize yN C (C.2.2.2.2.2.1,s,d)=P at rd c kp;have e5:=c.s
 have hsq:(yam P).2.2.2.2.2.1=C.2.2.2.2.2.1+1:=by
  show i64.wrap (P.2.2.2.2.2.1+1)=_;rw[e5]; exact wr (by omega) (by omega)
 have hsg:(yam P).2.1=C.2.1:=c.g;have hst:(yam P).2.2.2.2.2.2.1=C.2.2.2.2.2.2.1:=c.t;have hse:(yam P).2.2.2.2.2.2.2.1=C.2.2.2.2.2.2.2.1:=c.e;have kp2:yad (yam P):=kp;generalize yam P=U at rd hsq hsg hst hse kp2;have rr:=yWW (d:=d) (q:=C.2.2.2.2.2.1) (yay kp2) (by rw[hsg]; exact hs) rd (by omega) (by omega) (by rw[yts]);have g:=ybE (yiq U s d);have g5:=g.s;have g7:=g.e;exact⟨⟨B0,_,rr⟩,yWh ⟨_,rr⟩ (by omega) (by omega)⟩
theorem yWO {K s:Int} {d:List Int} {V:Int→Int→Int} {a:dA} (h:Lv K V a) (hs:y5 a.2.1 s=true) (hl:(d.length:Int)=a.2.1.1-1) (hd:d.all isW=true) (hq:a.2.2.2.2.2.1<60000) (hk:K+1≤60000) :
  (ya (yI a s d).2=false→Lv (K+2) (yi1 V a.2.1 s d) (yI a s d).2∧(yI a s d).1=0)∧(ya (yI a s d).2=true→Dd (K+2) (Two V (yi1 V a.2.1 s d)) (yI a s d).2∧(yI a s d).1≠0):=by
 have c:=h.x.xc;unfold yaO at c;obtain⟨w1,w2,w3,w4⟩:=yIh a s d;have hb:=fun i m i0 i1 m0=>yRX (s:=s) (d:=d) h.x.xk hs (by omega) (i:=i) (m:=m) i0 i1 m0
 have up:=fun hu=>yWJ h.x hs hl hd hq hk hu
 have key:(ya (yI a s d).2=false→ ∃B0,Rob B0 (yi1 V a.2.1 s d) (yI a s d).2)∧(ya (yI a s d).2=true→Dd (K+2) (Two V (yi1 V a.2.1 s d)) (yI a s d).2∧(yI a s d).1≠0):=by
  obtain⟨e1,e2,e3,e4,e5⟩:=yIL a;have l1:=yXL h hk;have l3:=fun hc=>(yV7 h.x hk hc).2.2
  unfold yI;generalize yu a=C at e1 e2 e3 e4 e5 l1 l3;cases hc:ya C
  ·have lc:=l1.1 hc
   have h3:=l3 hc;have rr:=yWX (s:=s) (d:=d) lc h3 (by omega) (by rw[e2]; exact hs) (by rw[e2]; exact hl) hd;have rt:=yWV lc h3 (by omega) (by rw[e2]; exact hs) (by rw[e2]; exact hl) hd;rw[e2]at rr rt;generalize yN C (C.2.2.2.2.2.1,s,d)=P at rr rt;cases hr:ya P
   ·obtain⟨r1,r2⟩:=rr hr
    generalize yai (yam P) s d=Q at r1 r2;refine⟨fun _=>r1,fun hu=>⟨yxw r2 (by omega) (fun X hX=> .inr hX),?_⟩⟩;have hu:ya Q=true:=hu;show(bif ya Q then(6:Int)else 0)≠0;rw[hu]; decide
   ·exact⟨(fun hu=>by have hu:ya P=false:=hu; rw[hr]at hu; cases hu),fun _=>⟨yxw rt (by omega) (fun X hX=>hX),by show(6:Int)≠0; decide⟩⟩
  ·exact⟨(fun hu=>by have hu:ya C=false:=hu; rw[hc]at hu; cases hu),fun _=>⟨yxw (l1.2 hc) (by omega) (fun X hX=> .inl hX),by show(6:Int)≠0; decide⟩⟩
 generalize yI a s d=W at w1 w2 w3 w4 hb up key;refine⟨fun hu=>⟨⟨(up hu).1,key.1 hu,?_⟩,(up hu).2⟩,key.2⟩;exact yVM h.n w2 w3 w4 (by omega) (fun i m i0 i1 m0=>(hb i m i0 i1 m0).1) (fun i i0 i1=>(hb i 6 i0 i1 (by omega)).2)
theorem yVk {K T L B:Int} {R:Int→Int×List Int} {V:Int→Int→Int} {A:dA} (hx:Ix K V A) (hn:Nb A) (hk:K+1≤60000)
  (old: ∀f fl Lf,Ch A f→Al A.2.2.2.1 A.2.1.1 (yr A) fl Lf→ ∃Bf,Wsup A.1 A.2.1 A.2.2.2.2.2.2.2.1 T L B Lf Bf f fl∧Wdat A.2.1 T A.2.2.2.2.2.1 R V Lf Bf f fl (yv A))
  (new: ∀f fl Lf,Ch A f→Al A.2.2.2.1 A.2.1.1 (yr A) fl Lf→Wdat A.2.1 A.2.2.2.2.2.2.1 A.2.2.2.2.2.1 R V Lf A.2.2.2.2.1 f fl (yv A)) :
  (ya (yj A)=false→Lv (K+1) V (yj A))∧(ya (yj A)=true→Dd (K+1) (· =V) (yj A)):=by
 have hxg:=hx.xg;have hxs:=hx.xs;have hm:Mk A:=yP0 hx.xc hx.xk (by omega);have hmn:=hm.n;have hml:=hm.l;have ht:=ylI hm.k;obtain⟨c1,c2,c3,c4,c5,c6,c7⟩:=ybE (ycl A);have d1:(yE A).1=A.1:=rfl;have c7':(yj A).2.2.2.2.2.2.2.1=A.2.2.2.2.2.2.2.1+1:=by rw[c7]; exact wr (by omega) (by omega)
 have c1:(yj A).1=A.1:=c1;have c2:(yj A).2.1=A.2.1:=c2;have c3:(yj A).2.2.2.1=A.2.2.2.1:=c3;have c4:(yj A).2.2.2.2.1=A.2.2.2.2.1:=c4;have c5:(yj A).2.2.2.2.2.1=A.2.2.2.2.2.1:=c5;have c6:(yj A).2.2.2.2.2.2.1=A.2.2.2.2.2.2.1:=c6;have hmod:(i64.wrap (A.2.2.2.2.2.2.2.1+1)).tmod 2<2:=Int.tmod_lt_of_pos _ (by omega);have hb: ∀i m,0≤i→i<A.2.1.1→6≤m→yv (yj A) i m=true→yv A i m=true:=fun i m i0 i1 _=>ht.d i m i0 i1
 refine⟨fun hu=>⟨yCK hx hk hu,⟨A.2.2.2.2.1,R,by rw[c4]; exact Int.le_refl _,fun f fl Lf hf hal=> ?_⟩,yVM hn c2 c3 c4 hml hb ht.f⟩,fun _ f fl Lf hf hal=>⟨V,rfl,?_⟩⟩
 ·rw[c2,c3]at hal
  have hal2:=yxg hal ht.f
  obtain⟨Bf,⟨h1,h2⟩,h3⟩:=yRQ hm hu (fun i i0 i1=>yVF hx i0 i1) (fun i i0 i1 h=>yTL hx i0 i1 h) hf hal2 (fun f hf i n s i0 i1 hi hn2 hsv=>by
   obtain⟨Bf,g1,_⟩:=old f (yr A) A.2.2.2.1 hf (yxu A);obtain⟨k1,k2⟩:=g1.u1 i n s i0 i1 hi hn2 hsv;refine⟨k1,?_⟩;rcases k2 with k2 | k2
   ·omega
   ·rw[k2]; exact Int.le_refl _) (fun f hf=>new f fl Lf hf hal2) hn.z
  have he:Eq0 (yj A) fl Lf→Eq0 A fl Lf:=fun e=>⟨e.1.trans c3,fun i i0 i1=>(e.2 i i0 (by rw[c2]; exact i1)).trans (ht.f i i0 i1)⟩
  rw[c1,c2,c3,c5,c6,c7'];exact⟨Bf,⟨fun e=>h1 (he e),fun e=>h2 (he e)⟩,h3⟩
 ·rw[c2,c3]at hal
  have hal2:=yxg hal ht.f
  have hT:=yFh (T:=T) (L:=L) (B:=B) (Q:=A.2.2.2.2.2.1) (Lf:=Lf) (Lf2:=Lf) (R:=R) (V:=V) hm hf (fun i i0 i1 hi=>yyn hal2 i0 i1 hi) (fun f hf=>old f fl Lf hf hal2) (fun f hf=>new f fl Lf hf hal2) (fun f hf i i0 i1 hne=>by
   obtain⟨Bf,g1,_⟩:=old f fl Lf hf hal2
   exact g1.u2 i i0 i1 hne) (yXA hal2)
  rw[c1,c2];rcases hT with⟨Bf,h1,h2⟩ | ⟨Bf,h1,h2⟩
  ·exact⟨_,_,_,_,_,R,Bf,by omega,by omega,h1,h2⟩
  ·exact⟨_,_,_,_,_,R,Bf,by omega,by omega,h1,h2⟩
theorem yWc {m:dM} {k:Int} {v:List Int} (h:yqa (ydr m) k v):yqa m k v:=by
 rcases h with h | ⟨w,hw,_⟩
 ·exact .inl h
 ·cases hw
theorem yXo {K m:Int} {V:Int→Int→Int} {a:dA} (h:Lv K V a) (hl:a.2.2.2.1= -1) (hm:inb m a.2.2.1.length=true) (hk:K+1≤60000) :
  (ya (yap a m)=false→Lv (K+1) V (yap a m))∧(ya (yap a m)=true→Dd (K+1) (· =V) (yap a m)):=by
 rw[ysV h.x (.inl hl) hk];have hmi:=zj6.1 hm;have hlen:=h.x.xk.1.2;have hx:=ytF h.x (.inl hl) hm;have hd: ∀i,0≤i→yh (yA a m) i=bif m==i then ydr (yh a m)else yh a i:=fun i i0=>yt1 m _ hm i0
 have hfl: ∀i,0≤i→yr (yA a m) i=(yr a i||i==m):=fun i i0=>by
  unfold yr;rw[hd i i0];by_cases e:m=i
  ·subst e; rw[beq_self_eq_true,Bool.or_true]; rfl
  ·rw[show(m==i)=false from beq_eq_false_iff_ne.2 e,show(i==m)=false from beq_eq_false_iff_ne.2 (fun e2=>e e2.symm),Bool.or_false]; rfl
 have hbd: ∀i n,0≤i→yv (yA a m) i n=yv a i n:=fun i n i0=>by
  unfold yv;rw[hd i i0];by_cases e:m=i
  ·subst e; rw[beq_self_eq_true]; rfl
  ·rw[show(m==i)=false from beq_eq_false_iff_ne.2 e]; rfl
 have hch: ∀f,Ch (yA a m) f→Ch a f:=fun f hf i n i0 i1 n0=>by
  have:=hf i n i0 i1 n0;rw[hd i i0]at this;by_cases e:m=i
  ·subst e; rw[beq_self_eq_true]at this; exact yWc this
  ·rw[show(m==i)=false from beq_eq_false_iff_ne.2 e]at this; exact this
 obtain⟨B0,R,hB,hr⟩:=h.r
 have key: ∀f fl Lf,Ch (yA a m) f→Al m a.2.1.1 (yr (yA a m)) fl Lf→Wsup a.1 a.2.1 a.2.2.2.2.2.2.2.1 a.2.2.2.2.2.2.1 a.2.2.2.1 B0 Lf 0 f fl∧Wdat a.2.1 a.2.2.2.2.2.2.1 a.2.2.2.2.2.1 R V Lf 0 f fl (yv (yA a m)):=fun f fl Lf hf hal=>by
  have hal2:Al a.2.2.2.1 a.2.1.1 (yr a) fl Lf:=by
   rcases hal with⟨h1,h2⟩ | ⟨h1,h2,h3,h4⟩
   ·exact .inr ⟨by omega,by omega,.inl hl,fun i i0 i1=>by rw[h2 i i0 i1,hfl i i0,h1]⟩
   ·have:m=Lf:=by omega
    refine .inr ⟨h1,h2,.inl hl,fun i i0 i1=> ?_⟩;rw[h4 i i0 i1,hfl i i0,this];cases yr a i<;>cases(i==Lf)<;>rfl
  have hLf:Lf=m:=by rcases hal with⟨h1,_⟩ | ⟨_,_,h3,_⟩<;>omega
  obtain⟨Bf,_,h1,h2⟩:=hr f fl Lf (hch f hf) hal2;have hB0:Bf=0:=by rcases h1.u4 with⟨h3,_⟩ | ⟨_,_,_,_,h3⟩<;>omega
  subst hB0;exact⟨h1,yi2 h2 (fun i n i0 i1 _ _=> .inl ⟨rfl,hbd i n i0⟩) (fun i n i0 i1 hb=>by rw[hbd i n i0]at hb; exact hb)⟩
 exact yVk (T:=a.2.2.2.2.2.2.1) (L:=a.2.2.2.1) (B:=B0) (R:=R) hx ⟨fun _ i s _ _ _ s0 s1=>absurd s1 (by show ¬s<0; omega),fun _ _=>rfl⟩ hk (fun f fl Lf hf hal=>⟨0,key f fl Lf hf hal⟩) (fun f fl Lf hf hal=>(key f fl Lf hf hal).2)
theorem yCI:(yzq []).2=false∧(yFe []).2=false:=⟨by unfold yzq; rfl,by unfold yFe; rfl⟩
theorem yWS (n:Nat) (k:Int):nth (List.replicate n ([]:List Int)) k []= []:=by
 unfold nth;rw[List.getD_eq_getElem?_getD,List.getElem?_replicate];split<;>rfl
theorem yWN {K:Int} {V:Int→Int→Int} {a:dA} (h:Lv K V a) (hm:inb a.2.2.2.1 a.2.2.1.length=true) (hf0:(nth a.2.2.1 a.2.2.2.1 yf).2.2.1=true) (hk:K+1≤60000) :
  (ya (yj (ym a))=false→Lv (K+1) V (yj (ym a)))∧(ya (yj (ym a))=true→Dd (K+1) (· =V) (yj (ym a))):=by
 have hmi:=zj6.1 hm;have hlen:=h.x.xk.1.2;have hg:=yl.1 h.x.xc.1;have hx:=yBU h.x hm;have hLt:yr a a.2.2.2.1=true:=hf0;have hd: ∀i,0≤i→yh (ym a) i=bif a.2.2.2.1==i then ybd (6+a.2.1.2)else yh a i:=fun i i0=>yt1 a.2.2.2.1 _ hm i0
 have hdo: ∀i,0≤i→i≠a.2.2.2.1→yh (ym a) i=yh a i:=fun i i0 hi=>by rw[hd i i0,show(a.2.2.2.1==i)=false from beq_eq_false_iff_ne.2 (fun e=>hi e.symm)]; rfl
 have hdl:yh (ym a) a.2.2.2.1=(List.replicate (6+a.2.1.2).toNat [],[],false,[]):=by rw[hd _ hmi.1,beq_self_eq_true,cond_true,yiu hg.2]
 have hlf:yr (ym a) a.2.2.2.1=false:=by unfold yr; rw[hdl]
 have hlb: ∀n,yv (ym a) a.2.2.2.1 n=false:=fun n=>by unfold yv; rw[hdl]; rfl
 obtain⟨B0,R,hB,hr⟩:=h.r
 have key: ∀f fl Lf,Ch (ym a) f→Al a.2.2.2.1 a.2.1.1 (yr (ym a)) fl Lf→Wsup a.1 a.2.1 a.2.2.2.2.2.2.2.1 a.2.2.2.2.2.2.1 a.2.2.2.1 B0 Lf 0 f fl∧Wdat a.2.1 a.2.2.2.2.2.2.1 a.2.2.2.2.2.1 R V Lf 0 f fl (yv (ym a)):=fun f fl Lf hf hal=>by
  have hLf:Lf=a.2.2.2.1:=by rcases hal with⟨h1,_⟩ | ⟨_,_,h3,_⟩<;>omega
  subst hLf
  have hfn: ∀n,0≤n→f a.2.2.2.1 n= []:=fun n n0=>by
   rcases hf a.2.2.2.1 n hmi.1 (by show a.2.2.2.1<a.2.1.1; omega) n0 with h1 | ⟨w,hw,_⟩
   ·rw[h1,hdl]; exact yWS _ _
   ·rw[hdl]at hw; cases hw
  have hfe: ∀i,0≤i→i<a.2.1.1→i≠a.2.2.2.1→fl i=yr a i:=fun i i0 i1 hi=>by
   have e:yr (ym a) i=yr a i:=by unfold yr; rw[hdo i i0 hi]
   rcases hal with⟨_,h2⟩ | ⟨_,_,_,h2⟩
   ·rw[h2 i i0 i1,e]
   ·rw[h2 i i0 i1,e,show(i==a.2.2.2.1)=false from beq_eq_false_iff_ne.2 hi,Bool.or_false]
  obtain⟨f0,hf0d⟩: ∃f0:Int→Int→List Int,f0=fun i n=>if i=a.2.2.2.1 then yeV (yh a a.2.2.2.1) n else f i n:=⟨_,rfl⟩
  have hf0e: ∀i n,i≠a.2.2.2.1→f0 i n=f i n:=fun i n hi=>by rw[hf0d]; exact if_neg hi
  have hch:Ch a f0:=fun i n i0 i1 n0=>by
   by_cases e:i=a.2.2.2.1
   ·rw[hf0d]; simp only[if_pos e]; rw[e]; exact yyT _ _
   ·rw[hf0e i n e]
    have:=hf i n i0 i1 n0;rw[hdo i i0 e]at this; exact this
  obtain⟨Bf,_,h1,h2⟩:=hr f0 (yr a) a.2.2.2.1 hch (yxu a)
  have hB0:Bf=0:=by
   rcases h1.u4 with⟨_,_,h3⟩ | ⟨_,_,_,_,h3⟩
   ·rcases h3 with h3 | ⟨h3,_⟩
    ·omega
    ·rw[hLt]at h3; cases h3
   ·exact h3
  subst hB0;have nf: ∀i,0≤i→i<a.2.1.1→yr a i=false→i≠a.2.2.2.1:=fun i _ _ hi e=>by rw[e,hLt]at hi; cases hi
  have nown: ¬(fl a.2.2.2.1=false∧yfg a.1 (f a.2.2.2.1)):=fun⟨_,n,s,hn,hs⟩=>by
   have:=hs.1;rw[hfn n (by omega)]at this;have h2:=yCI.1;rw[this]at h2; cases h2
  refine⟨⟨h1.u0,fun i n s i0 i1 hi hn hs=> ?_,fun i i0 i1 hne=> ?_,?_,.inr ⟨hmi.1,by omega,nown,.inr rfl,rfl⟩⟩,⟨h2.e,h2.q,fun i s i0 i1 s0 s1 hi hlv hb hj=> ?_,fun q q0 q1=> ?_,fun i n r i0 i1 hi h3 h6 hgr=> ?_,h2.v,h2.l,fun i n i0 i1 hi hb=> ?_⟩⟩
  ·by_cases e:i=a.2.2.2.1
   ·subst e
    have:=hs.1;rw[hfn n (by omega)]at this;have h2:=yCI.1;rw[this]at h2; cases h2
   ·exact h1.u1 i n s i0 i1 ((hfe i i0 i1 e).symm.trans hi) hn (by rw[hf0e i n e]; exact hs)
  ·obtain⟨k1,n,s,hn,hs⟩:=h1.u2 i i0 i1 hne
   exact⟨(hfe i i0 i1 hne).trans k1,n,s,hn,by rw[← hf0e i n hne]; exact hs⟩
  ·obtain⟨i,i0,i1,hi,e⟩:=h1.u3
   have hne:=nf i i0 i1 hi;exact⟨i,i0,i1,(hfe i i0 i1 hne).trans hi,by rw[← hf0e i _ hne]; exact e⟩
  ·have hne:i≠a.2.2.2.1:=by omega
   rw[← hf0e i _ hne];refine h2.d i s i0 i1 s0 s1 ((hfe i i0 i1 hne).symm.trans hi) hlv ?_ hj;unfold yv at hb ⊢;rw[hdo i i0 hne]at hb; exact hb
  ·obtain⟨i,i0,i1,hi,e⟩:=h2.r q q0 q1
   have hne:=nf i i0 i1 hi;exact⟨i,i0,i1,(hfe i i0 i1 hne).trans hi,by rw[← hf0e i _ hne]; exact e⟩
  ·by_cases e:i=a.2.2.2.1
   ·subst e
    rw[hfn n (by omega)]at hgr;have h2:=yCI.2;rw[hgr]at h2; cases h2
   ·exact h2.h i n r i0 i1 ((hfe i i0 i1 e).symm.trans hi) h3 h6 (by rw[hf0e i n e]; exact hgr)
  ·by_cases e:i=a.2.2.2.1
   ·subst e; rw[hlb n]at hb; cases hb
   ·refine h2.b i n i0 i1 ((hfe i i0 i1 e).symm.trans hi) ?_
    unfold yv at hb ⊢;rw[hdo i i0 e]at hb; exact hb
 exact yVk (T:=a.2.2.2.2.2.2.1) (L:=a.2.2.2.1) (B:=B0) (R:=R) hx ⟨fun _ i s _ _ _ s0 s1=>absurd s1 (by show ¬s<0; omega),fun _ _=>rfl⟩ hk (fun f fl Lf hf hal=>⟨0,key f fl Lf hf hal⟩) (fun f fl Lf hf hal=>(key f fl Lf hf hal).2)
theorem yXM {id:Int} {g:dG} (hg:yd g=true) (h1:1≤id) (h2:id≤60000):Lv 0 (fun _ _=>0) (ydk id g):=by
 have hge:=yl.1 hg;have hd: ∀i,0≤i→i<g.1→yh (ydk id g) i=yM id g i:=fun i i0 i1=>yUz hg h1 h2 i0 i1
 have e:=ytJ hg h1 h2;have hx:=yXH hg h1 h2;have hfl: ∀i,0≤i→i<g.1→yr (ydk id g) i=false:=fun i i0 i1=>by unfold yr; rw[hd i i0 i1,(yiR id i hg).2.2]
 have hbd: ∀i n,0≤i→i<g.1→yv (ydk id g) i n=false:=fun i n i0 i1=>by unfold yv yd2; rw[hd i i0 i1,(yiR id i hg).2.2]; rfl
 have hpo: ∀i n v,0≤i→i<g.1→0≤n→yqa (yh (ydk id g) i) n v→v=bif leb 6 n&&ltb n (6+g.2)then[0]else bif n==0 then yk (yfN id g 0 0 (-1) 0 i)else[]:=fun i n v i0 i1 n0 h=>by
  have hn:=yId (id:=id) (i:=i) hg g.2.toNat (Nat.le_refl _) n n0;rw[hd i i0 i1]at h;rcases h with h | ⟨w,hw,_⟩
  ·have h:v=nth ((List.range g.2.toNat).foldl ymh (yg9 id g i)).1 n []:=h
   rw[h,hn,show((g.2.toNat:Nat):Int)=g.2 by omega]; rfl
  ·rw[(yiR id i hg).2.2]at hw; cases hw
 refine⟨hx,⟨0,fun _=>(0,[]),by rw[e]; exact Int.le_refl _,fun f fl Lf hf hal=> ?_⟩,⟨fun hn=>absurd (by rw[e]) hn,fun hn=>absurd (by rw[e]) hn⟩⟩;generalize hA:ydk id g=A at *;have a1:A.1=id:=by rw[e]
 have a2:A.2.1=g:=by rw[e]
 have a3:A.2.2.2.1= -1:=by rw[e]
 have a5:A.2.2.2.2.2.1=0:=by rw[e]
 have a6:A.2.2.2.2.2.2.1=0:=by rw[e]
 have a7:A.2.2.2.2.2.2.2.1=0:=by rw[e]
 have a4:A.2.2.2.2.1=0:=by rw[e]
 rw[a2,a3]at hal;have hf2: ∀i n,0≤i→i<g.1→0≤n→f i n=bif leb 6 n&&ltb n (6+g.2)then[0]else bif n==0 then yk (yfN id g 0 0 (-1) 0 i)else[]:=fun i n i0 i1 n0=>hpo i n _ i0 i1 n0 (hf i n i0 (by rw[a2]; exact i1) n0)
 have f0: ∀i,0≤i→i<g.1→f i 0=yk (yfN id g 0 0 (-1) 0 i):=fun i i0 i1=>by rw[hf2 i 0 i0 i1 (Int.le_refl _)]; rfl
 have fn: ∀i n,0≤i→i<g.1→1≤n→n<6→f i n= []:=fun i n i0 i1 h1 h6=>by
  rw[hf2 i n i0 i1 (by omega),zk1 (show n<6 by omega),show(n==0)=false from beq_eq_false_iff_ne.2 (by omega)]; rfl
 have hok: ∀i,0≤i→i<g.1→yG (yfN id g 0 0 (-1) 0 i)=true:=fun i i0 i1=>yUN (by omega) hg ⟨h1,h2⟩ (by omega) (by omega) (by omega) (.inr rfl) i0 i1
 have nf: ∀i,0≤i→i<g.1→i≠Lf→fl i=false:=fun i i0 i1 hne=>yXa hal (fun i i0 i1 h=>by rw[hfl i i0 i1]at h; cases h) i0 i1 hne
 have own: ∀i,0≤i→i<g.1→yfg id (f i):=fun i i0 i1=>⟨0,_,.inl rfl,by rw[f0 i i0 i1]; exact yAb (hok i i0 i1)⟩
 rw[a1,a2,a3,a5,a6,a7];refine⟨0,⟨fun _=>rfl,fun e1 e2=>absurd (e1.1.trans a3) e2⟩,⟨hok,fun i n s i0 i1 hi hn hs=> ?_,fun i i0 i1 hne=>⟨nf i i0 i1 hne,own i i0 i1⟩,?_,?_⟩,⟨yUk g,by omega,fun i s i0 i1 s0 s1 hi hlv hb hj=> ?_,fun q q0 q1=>by omega,fun i n r i0 i1 hi n2 n6 hr=> ?_,fun q q0 q1=>by omega,fun q q0 q1=>by omega,fun i n i0 i1 hi hb=>by rw[hbd i n i0 i1]at hb; cases hb⟩⟩
 ·rcases hn with rfl | rfl
  ·have hs1:=hs.1
   rw[f0 i i0 i1,yDI (hok i i0 i1)]at hs1;have:=congrArg (fun x=>x.1) hs1;simp only at this;subst this;exact⟨rfl,.inr rfl⟩
  ·have hs1:=hs.1
   rw[fn i 1 i0 i1 (by omega) (by omega)]at hs1;have h3:=yCI.1;rw[hs1]at h3; cases h3
 ·by_cases h:Lf=0
  ·exact⟨1,by omega,by omega,nf 1 (by omega) (by omega) (by omega),f0 1 (by omega) (by omega)⟩
  ·exact⟨0,by omega,by omega,nf 0 (by omega) (by omega) (fun e=>h e.symm),f0 0 (by omega) (by omega)⟩
 ·rcases hal with⟨h3,_⟩ | ⟨h3,h4,h5,h6⟩
  ·exact .inl ⟨h3,rfl,.inl h3⟩
  ·refine .inr ⟨h3,h4,fun h=> ?_,.inl rfl,rfl⟩
   have:=h.1;rw[h6 Lf h3 h4,beq_self_eq_true,Bool.or_true]at this; cases this
 ·rw[hf2 i (s+6) i0 i1 (by omega),zk2 (show 6≤s+6 by omega),zky (show s+6<6+g.2 by omega)]; rfl
 ·rw[fn i n i0 i1 (by omega) n6]at hr
  have h3:=yCI.2;rw[hr]at h3; cases h3
structure Fell (S:Int) (m:dM):Prop where
 ok:yD m=true
 len:(m.1.length:Int)=6+S
 cac:m.2.1= []
structure FellAll (g:dG) (l:List dM):Prop where
 n:(l.length:Int)=g.1
 f: ∀i,0≤i→i<g.1→Fell g.2 (nth l i yf)
def flF (l:List dM) (i:Int):Bool:=(nth l i yf).2.2.1
def bdF (l:List dM) (i n:Int):Bool:=yd2 (nth l i yf) n
theorem yVs {id:Int} {g:dG} {G T L B Lf Bf:Int} {f:Int→Int→List Int} {fl fl':Int→Bool} (h:Wsup id g G T L B Lf Bf f fl) (e: ∀i,0≤i→i<g.1→fl' i=fl i):Wsup id g G T L B Lf Bf f fl':=by
 refine⟨h.u0,fun i n s i0 i1 hi=>h.u1 i n s i0 i1 ((e i i0 i1).symm.trans hi),fun i i0 i1 hne=> ?_,?_,?_⟩
 ·rw[e i i0 i1]; exact h.u2 i i0 i1 hne
 ·obtain⟨i,i0,i1,h3⟩:=h.u3
  exact⟨i,i0,i1,by rw[e i i0 i1]; exact h3⟩
 ·rcases h.u4 with⟨h1,h2,h3⟩ | ⟨h1,h2,h3⟩
  ·refine .inl ⟨h1,h2,?_⟩
   obtain⟨i,i0,i1,_⟩:=h.u3;have:=(ylH (h.u0 i i0 i1)).2.2.2.2.1;by_cases hm:Lf= -1
   ·exact .inl hm
   ·rw[e Lf (by omega) (by omega)]; exact h3
  ·refine .inr ⟨h1,h2,?_⟩
   rw[e Lf h1 h2]; exact h3
theorem yVq {g:dG} {T Q:Int} {R:Int→Int×List Int} {V:Int→Int→Int} {Lf Bf:Int} {f:Int→Int→List Int} {fl fl':Int→Bool} {bd:Int→Int→Bool} (h:Wdat g T Q R V Lf Bf f fl bd) (e: ∀i,0≤i→i<g.1→fl' i=fl i):Wdat g T Q R V Lf Bf f fl' bd :=
 ⟨h.e,h.q,fun i s i0 i1 s0 s1 hi=>h.d i s i0 i1 s0 s1 ((e i i0 i1).symm.trans hi),fun q q0 q1=>by
  obtain⟨i,i0,i1,h3⟩:=h.r q q0 q1
  exact⟨i,i0,i1,by rw[e i i0 i1]; exact h3⟩,fun i n r i0 i1 hi=>h.h i n r i0 i1 ((e i i0 i1).symm.trans hi),h.v,h.l,fun i n i0 i1 hi=>h.b i n i0 i1 ((e i i0 i1).symm.trans hi)⟩
theorem yA3 {a b:dA} (h:yp b=yp a):b.2.2.2.2.2.2.2.2.1=a.2.2.2.2.2.2.2.2.1:=congrArg (fun x=>x.2.2.2.2.2.2.2.1) h
structure Way (id:Int) (g:dG) (G T L B Q:Int) (R:Int→Int×List Int) (V:Int→Int→Int) (Lf Bf:Int) (l0:List dM) (a:dA):Prop where
 e1:a.1=id
 e2:a.2.1=g
 e3:a.2.2.2.1=Lf
 e4:a.2.2.2.2.1=Bf
 e6:a.2.2.2.2.2.2.1=T
 e7:a.2.2.2.2.2.2.2.1=G
 e8:a.2.2.2.2.2.2.2.2.1= []
 e9:a.2.2.2.2.2.2.2.2.2.2.2=false
 kp:yad a
 st: ∀f,Ch a f→Wsup id g G T L B Lf Bf f (yr a)∧Wdat g T Q R V Lf Bf f (yr a) (yv a)
 fl: ∀i,0≤i→i<g.1→yr a i=flF l0 i
 bd: ∀i m,0≤i→i<g.1→6≤m→(yv a i m=true→bdF l0 i m=true)∧(T=Q→yv a i m=bdF l0 i m)
structure Rp (id:Int) (g:dG) (G T L B Q:Int) (R:Int→Int×List Int) (V:Int→Int→Int) (Lf Bf:Int) (l0:List dM) (q:Int) (a:dA):Prop where
 w:Way id g G T L B Q R V Lf Bf l0 a
 q0:T≤q
 q1:q≤Q
 s:a.2.2.2.2.2.1=q
 u:ya a=false
 c: ∀i,0≤i→i<g.1→(yh a i).2.1.length≤1
 v: ∀i s,0≤i→i<g.1→0≤s→s<g.2→yaw a s i=true→(∀p,q≤p→p<Q→(R p).1≠s)→yeV (yh a i) (s+6)= [V s i]
section
variable {id:Int} {g:dG} {G T L B Q:Int} {R:Int→Int×List Int} {V:Int→Int→Int} {Lf Bf:Int} {l0:List dM}
end
structure Back (K id:Int) (g:dG) (V:Int→Int→Int) (Lf:Int) (l:List dM) (x:dA):Prop where
 bi:x.1=id
 bg:x.2.1=g
 bl:x.2.2.2.1=Lf
 bc:x.2.2.2.2.2.2.2.2.1= []
 bb:x.2.2.2.2.2.2.2.2.2.2.2=false
 bk:yad x
 bf: ∀i,0≤i→i<g.1→yr x i=flF l i
 be: ∀i m,0≤i→i<g.1→6≤m→yv x i m=true→bdF l i m=true
 dn:ya x=true→ ∀f,Ch x f→WW K id g V Lf f (yr x) (yv x)
 up:ya x=false→Ix K V x∧Rob x.2.2.2.2.1 V x∧x.2.2.2.2.2.2.1=x.2.2.2.2.2.1∧(x.2.2.2.1≠ -1→yr x x.2.2.2.1=true→x.2.2.2.2.1=0)
def Can (K:Int) (P:(Int→Int→Int)→Int→Prop) (a:dA):Prop:= ∀f,Ch a f→ ∃V Lf,P V Lf∧WW K a.1 a.2.1 V Lf f (yr a) (yv a)
theorem yVV {K:Int} {VS:(Int→Int→Int)→Prop} {a:dA} (h:Dd K VS a):Can K (fun V Lf=>VS V∧Lf=a.2.2.2.1) a:=fun f hf=>by
 obtain⟨V,h1,h2⟩:=h f (yr a) a.2.2.2.1 hf (yxu a);exact⟨V,_,⟨h1,rfl⟩,h2⟩
theorem yIK {K J:Int} {P Q:(Int→Int→Int)→Int→Prop} {a:dA} (h:Can K P a) (hj:K≤J) (hp: ∀V L,P V L→Q V L):Can J Q a:=fun f hf=>by
 obtain⟨V,L,h1,h2⟩:=h f hf;exact⟨V,L,hp V L h1,yVt h2 hj⟩
theorem ymb (p:Nat→Bool): ∀n,decide (ycw p n=0)=(List.range n).all p
 | 0=>rfl
 | n+1=>by
  rw[List.range_succ,List.all_append,← ymb p n,yiN];cases hp:p n
  ·simp[hp]
  ·simp[hp]
theorem yUp {k:Int} {V:Int→Int→Int} {a:dA} {s:Int} (h:Ix k V a) (s0:0≤s) (s1:s<a.2.1.2):yeX a s=(0,decide (yeg a s=0)):=by
 have hlen:=h.xk.1.2;have hN:a.2.2.1.length=a.2.1.1.toNat:=by omega
 have hw:yyo a s=decide (yeg a s=0):=by
  unfold yyo yeg;rw[ymb,hN,Bool.eq_iff_iff,List.all_eq_true,List.all_eq_true];constructor
  ·intro g i hi
   have hi':=List.mem_range.1 hi;have:=g i hi;rwa[(ypd h.xc.1 h.xk h.xv (show(0:Int)≤(i:Int)by omega) (by omega) s0 s1).1]at this
  ·intro g i hi
   have hi':=List.mem_range.1 hi;rw[(ypd h.xc.1 h.xk h.xv (show(0:Int)≤(i:Int)by omega) (by omega) s0 s1).1];exact g i hi
 unfold yeX;rw[hw];cases hd:decide (yeg a s=0)
 ·rfl
 ·rw[cond_true,hN]
  congr 1
  have:(List.range a.2.1.1.toNat).map (fun(i:Nat)=>yhn a i s)=ydG V a.2.1.1 s:=by
   unfold ydG;refine List.map_congr_left fun i hi=> ?_
   have hi':=List.mem_range.1 hi;refine(ypd h.xc.1 h.xk h.xv (show(0:Int)≤(i:Int)by omega) (by omega) s0 s1).2 ?_;unfold yeg at hd;rw[ymb,List.all_eq_true]at hd;exact hd i hi
  rw[this];exact h.xe.ev s s0 s1
theorem yXk {k:Int} {V:Int→Int→Int} {a:dA} (h:Ix k V a):yTK a=true:=by
 unfold yTK;rw[List.all_eq_true];intro s hs;have:=List.mem_range.1 hs;rw[yUp h (by omega) (by omega)];simp
theorem yXi {k:Int} {V:Int→Int→Int} {a:dA} (h:Ix k V a):yUf a=(ycw (fun(s:Nat)=>decide (yeg a s=0)) a.2.1.2.toNat:Nat):=by
 unfold yUf;rw[yqR h,cond_true]
 have: ∀n,n≤a.2.1.2.toNat→ycw (fun(s:Nat)=>(yeX a s).2) n=ycw (fun(s:Nat)=>decide (yeg a s=0)) n:=by
  intro n
  induction n with
  | zero=>intro _; rfl
  | succ n ih=>intro hn; rw[yiN,yiN,ih (by omega),yUp h (show(0:Int)≤(n:Int)by omega) (by omega)]
 rw[this _ (Nat.le_refl _)]
theorem yRO {p:Nat→Bool}: ∀{n:Nat} {j:Nat},ycw p n<2→j<n→p j=false→ ∀i,i<n→i≠j→p i=true
 | 0,j,_,hj,_=>absurd hj (Nat.not_lt_zero _)
 | n+1,j,h,hj,hp=>fun i hi hij=>by
  rw[yiN]at h
  have z: ∀{k:Nat},ycw p n=0→k<n→p k=true:=fun{k} h0 hk=>by
   have:decide (ycw p n=0)=true:=decide_eq_true h0;rw[ymb,List.all_eq_true]at this;exact this k (List.mem_range.2 hk)
  cases hn:p n
  ·rw[hn,cond_false]at h
   have h0:ycw p n=0:=by omega
   by_cases hjn:j=n
   ·exact z h0 (by omega)
   ·have:=z (k:=j) h0 (by omega)
    rw[hp]at this; cases this
  ·rw[hn,cond_true]at h
   have hjn:j≠n:=fun e=>by rw[e,hn]at hp; cases hp
   by_cases hin:i=n
   ·rw[hin]; exact hn
   ·exact yRO h (by omega) hp i (by omega) hij
theorem yWY {B0:Int} {V:Int→Int→Int} {v:List Int} {a:dA} (hk:yad a) (hu:ya a=false) (hm:inb a.2.2.2.1 a.2.2.1.length=true) (hb0:0≤a.2.2.2.2.1) (hb1:a.2.2.2.2.1<1000) (h:Rob B0 V a):Rob B0 V (ybk a a.2.2.2.1 (yz a.2.2.2.2.1) v):=by
 obtain⟨R,hB,hr⟩:=h;have hmi:=zj6.1 hm;have hlen:=hk.1.2;have hda:=yqK hb0 (by omega);have hd:=ys6 (yz a.2.2.2.2.1) v hu hm
 have ho: ∀i,0≤i→i≠a.2.2.2.1→yh (ybk a a.2.2.2.1 (yz a.2.2.2.2.1) v) i=yh a i:=fun i i0 hi=>by
  rcases hd.2.2 with⟨_,e⟩ | ⟨_,e⟩
  ·rw[e i i0,show(a.2.2.2.1==i)=false from beq_eq_false_iff_ne.2 (fun e=>hi e.symm)]; rfl
  ·exact e i
 have hl:TrD (yz a.2.2.2.2.1) v (yh a a.2.2.2.1) (yh (ybk a a.2.2.2.1 (yz a.2.2.2.2.1) v) a.2.2.2.1):=by
  rcases hd.2.2 with⟨_,e⟩ | ⟨_,e⟩
  ·rw[e _ hmi.1,beq_self_eq_true]; exact yRv _ _ _
  ·rw[e]; exact ytv _ _ _
 obtain⟨c1,c2,c3,c4,c5,c6,c7⟩:=ybE (yfJ a a.2.2.2.1 (yz a.2.2.2.2.1) v);generalize ybk a a.2.2.2.1 (yz a.2.2.2.2.1) v=P at ho hl c1 c2 c3 c4 c5 c6 c7
 have hfl: ∀i,0≤i→i<a.2.1.1→yr P i=yr a i:=fun i i0 i1=>by
  by_cases e:i=a.2.2.2.1
  ·rw[e]; exact hl.2.1
  ·unfold yr; rw[ho i i0 e]
 have hbl: ∀i n,0≤i→yv P i n=true→yv a i n=true:=fun i n i0 hb=>by
  by_cases e:i=a.2.2.2.1
  ·rw[e]at hb ⊢; exact hl.2.2.2 n hb
  ·unfold yv at hb ⊢; rw[ho i i0 e]at hb; exact hb
 refine⟨R,by rw[c4]; exact hB,fun f' fl Lf hf hal=> ?_⟩;rw[c2,c3]at hal;have hal2:=yxg hal hfl;have hLf:Lf=a.2.2.2.1:=by rcases hal with⟨h1,_⟩ | ⟨_,_,h3,_⟩<;>omega
 obtain⟨f,hfd⟩: ∃f:Int→Int→List Int,f=fun i n=>if i=a.2.2.2.1∧n=yz a.2.2.2.2.1 then yeV (yh a a.2.2.2.1) n else f' i n:=⟨_,rfl⟩
 have hfe: ∀i n,¬(i=a.2.2.2.1∧n=yz a.2.2.2.2.1)→f' i n=f i n:=fun i n hi=>by rw[hfd]; exact(if_neg hi).symm
 have hch:Ch a f:=fun i n i0 i1 n0=>by
  by_cases e:i=a.2.2.2.1∧n=yz a.2.2.2.2.1
  ·rw[hfd]; simp only[if_pos e]; rw[e.1]; exact yyT _ _
  ·rw[← hfe i n e]
   have h1:=hf i n i0 (by rw[c2]; exact i1) n0;by_cases e2:i=a.2.2.2.1
   ·rw[e2]at h1 ⊢
    rcases hl.1 n _ n0 h1 with h2 | ⟨h2,_⟩
    ·exact h2
    ·exact absurd ⟨e2,h2⟩ e
   ·rw[ho i i0 e2]at h1; exact h1
 obtain⟨Bf,⟨p1,p2⟩,h1,h2⟩:=hr f fl Lf hch hal2;have h01: ∀i n,(n=0∨n=1)→f' i n=f i n:=fun i n hn=>hfe i n (fun e=>by omega)
 have he:Eq0 P fl Lf→Eq0 a fl Lf:=fun e=>⟨e.1.trans c3,fun i i0 i1=>(e.2 i i0 (by rw[c2]; exact i1)).trans (hfl i i0 i1)⟩
 have hBf:Bf≤B0:=by
  obtain⟨j,j0,j1,_⟩:=h1.u3;have:=(ylH (h1.u0 j j0 j1)).2.2.2.2.2.1;rcases h1.u4 with⟨_,h3,_⟩ | ⟨_,_,_,_,h3⟩<;>omega
 rw[c1,c2,c3,c5,c6,c7];refine⟨Bf,⟨fun e=>p1 (he e),fun e e1 e2=> ?_⟩,ymr h1 (fun i n _ _ _ hn=>h01 i n hn),yi2 h2 (fun i n i0 i1 hi hn=> ?_) (fun i n i0 _ hb=>hbl i n i0 hb)⟩
 ·obtain⟨n,s',hn,hsv⟩:=p2 (he e) e1 e2
  exact⟨n,s',hn,by rw[h01 Lf n hn]; exact hsv⟩
 ·by_cases e:i=a.2.2.2.1∧n=yz a.2.2.2.2.1
  ·exact .inr (.inr ⟨by omega,by omega,by omega⟩)
  ·refine .inl ⟨hfe i n e,?_⟩
   by_cases e2:i=a.2.2.2.1
   ·rw[e2]; exact hl.2.2.1 n (fun e3=>e ⟨e2,e3⟩)
   ·unfold yv; rw[ho i i0 e2]
theorem yXp {K:Int} {V:Int→Int→Int} {a:dA} (h:Lv K V a) (hm:inb a.2.2.2.1 a.2.2.1.length=true) (hf:(nth a.2.2.1 a.2.2.2.1 yf).2.2.1=false) (hb:a.2.2.2.2.1<a.2.1.2) :
  (ya (yac a).2=false→Lv K V (yac a).2)∧(ya (yac a).2=true→Dd K (· =V) (yac a).2):=by
 have hi:=yVh h.x hm hf hb;have c:=h.x.xc;unfold yaO at c;have hg:=yl.1 c.1;have hmi:=zj6.1 hm;have hlen:=h.x.xk.1.2;obtain⟨B0,hR⟩:=h.r;have hxg:=h.x.xg;have hxs:=h.x.xs;unfold yac at hi ⊢;cases hw:(yF a a.2.2.2.2.1).2
 ·exact⟨fun _=>h,fun hd=>by have hd:ya a=true:=hd; rw[h.x.xu]at hd; cases hd⟩
 ·rw[hw]at hi
  have rs:=yWY (v:= [nth (yF a a.2.2.2.2.1).1 a.2.2.2.1 0]) h.x.xk h.x.xu hm (by omega) (by omega) hR;have hd:=ys6 (yz a.2.2.2.2.1) [nth (yF a a.2.2.2.2.1).1 a.2.2.2.1 0] h.x.xu hm;obtain⟨c1,c2,c3,c4,c5,c6,c7⟩:=ybE (yfJ a a.2.2.2.1 (yz a.2.2.2.2.1) [nth (yF a a.2.2.2.2.1).1 a.2.2.2.1 0]);have hS:yZ a=ybk a a.2.2.2.1 (yz a.2.2.2.2.1) [nth (yF a a.2.2.2.2.1).1 a.2.2.2.1 0]:=rfl;rw[← hS]at rs hd c1 c2 c3 c4 c5 c6 c7
  have hlack:yeg a a.2.2.2.2.1<2:=by
   rw[yJB h.x (by omega) hb]at hw;by_cases h2:yeg a a.2.2.2.2.1<2
   ·exact h2
   ·rw[decide_eq_false h2]at hw; cases hw
  generalize yZ a=P at hi rs hd c1 c2 c3 c4 c5 c6 c7;cases hp:ya P
  ·rw[hp]at hi
   have hi2:=hi hp;refine⟨fun _=>⟨hi2,⟨B0,?_⟩,?_⟩,fun hd2=>by have hd2:ya P=true:=hd2; rw[hp]at hd2; cases hd2⟩
   ·obtain⟨R,r1,r2⟩:=rs
    refine⟨R,?_,r2⟩;show B0≤i64.wrap (P.2.2.2.2.1+1);rw[wr (by omega) (by omega)]; omega
   ·refine⟨fun _ i s i0 i1 hne s0 s1=> ?_,fun _ hfl=> ?_⟩
    ·have i1:i<P.2.1.1:=i1
     have hne:i≠P.2.2.2.1:=hne;rw[c2]at i1;rw[c3]at hne;have s1:s<i64.wrap (P.2.2.2.2.1+1):=s1;rw[wr (by omega) (by omega)]at s1;show yv P i (s+6)=false
     have e:yh P i=yh a i:=by
      rcases hd.2.2 with⟨_,e⟩ | ⟨_,e⟩
      ·rw[e i i0,show(a.2.2.2.1==i)=false from beq_eq_false_iff_ne.2 (by omega)]; rfl
      ·exact e i
     show yd2 (yh P i) (s+6)=false;rw[e];by_cases hs:s<a.2.2.2.2.1
     ·exact h.n.n (by omega) i s i0 (by omega) (by omega) s0 hs
     ·have hse:s=a.2.2.2.2.1:=by omega
      subst hse
      have hL:(fun(i:Nat)=>yaw a a.2.2.2.2.1 i) a.2.2.2.1.toNat=false:=by
       show yaw a a.2.2.2.2.1 ((a.2.2.2.1.toNat:Nat):Int)=false;rw[Int.toNat_of_nonneg hmi.1];unfold yaw yav;rw[bne_self_eq_false,zk3 (Int.le_refl _),Bool.or_self,Bool.and_false]; rfl
      have:=yRO (p:=fun(i:Nat)=>yaw a a.2.2.2.2.1 i) (n:=a.2.1.1.toNat) (j:=a.2.2.2.1.toNat) hlack (by omega) hL i.toNat (by omega) (by omega);have this:yaw a a.2.2.2.2.1 ((i.toNat:Nat):Int)=true:=this;rw[Int.toNat_of_nonneg i0]at this;unfold yaw at this;rw[Bool.and_eq_true,Bool.not_eq_true']at this;exact this.2
    ·have hfl:yr P P.2.2.2.1=true:=hfl
     rw[c3]at hfl
     have:yr P a.2.2.2.1=yr a a.2.2.2.1:=by
      unfold yr;rcases hd.2.2 with⟨_,e⟩ | ⟨_,e⟩
      ·rw[e _ hmi.1,beq_self_eq_true,cond_true,yuq]
      ·rw[e]
     rw[this]at hfl;have hf:yr a a.2.2.2.1=false:=hf;rw[hf]at hfl; cases hfl
  ·exact⟨(fun hu=>by have hu:ya P=false:=hu; rw[hp]at hu; cases hu),fun _=>yWh (a:=P) rs (by rw[c7]; exact hxg) (by rw[c5]; exact hxs)⟩
def Any (_:Int→Int→Int):Prop:=True
theorem yUu {K:Int} {V:Int→Int→Int} {a:dA} (s:Int) (h:Lv K V a) (hk:K+1≤60000) :
  (ya (yaF a s).2=false→ ∃V',Lv (K+2) V' (yaF a s).2)∧(ya (yaF a s).2=true→Dd (K+2) Any (yaF a s).2):=by
 have same:(ya a=false→ ∃V',Lv (K+2) V' a)∧(ya a=true→Dd (K+2) Any a):=⟨fun _=>⟨V,yCM h (by omega)⟩,fun hd=>by rw[h.x.xu]at hd; cases hd⟩;unfold yaF;cases h0:ltb (yL a.2.2.2.2.2.2.2.2.1 s) 0
 ·generalize (nth a.2.2.2.2.2.2.2.2.1 (yL a.2.2.2.2.2.2.2.2.1 s) (0,[])).2=D
  cases hc:(yal a s D !=0)
  ·obtain⟨_,z1,z2,_,z4,_,z6,_⟩:=ytV (bne_eq_false_iff_eq.1 hc)
   obtain⟨w1,w2⟩:=yWO h z4 z1 z2 z6 hk;have wg:=yRY a s D;simp only[cond_false];generalize yI a s D=W at w1 w2 wg;cases hw:(W.1==0)
   ·exact⟨fun hu=>⟨_,(w1 hu).1⟩,fun hu=>yxw (w2 hu).1 (Int.le_refl _) (fun _ _=>trivial)⟩
   ·refine⟨fun hu=>⟨_,yWM (w1 hu).1 (by rw[wg]; exact yRI _ h.x.xc.2.2.1)⟩,fun hu=>absurd (beq_iff_eq.1 hw) (w2 hu).2⟩
  ·exact same
 ·exact same
theorem yUv {k:Int}: ∀(n i:Nat) (j:Int) (V:Int→Int→Int) (a:dA),Lv j V a→j+2*n≤k→k≤60000 →
  (ya (goE yh0 (fun b=>((0:Int),b)) n i a).2=false→ ∃V',Lv k V' (goE yh0 (fun b=>((0:Int),b)) n i a).2)∧(ya (goE yh0 (fun b=>((0:Int),b)) n i a).2=true→Dd k Any (goE yh0 (fun b=>((0:Int),b)) n i a).2)
 | 0,_,j,V,a,h,h1,_=>⟨fun _=>⟨V,yCM h (by omega)⟩,fun hd=>by have hd:ya a=true:=hd; rw[h.x.xu]at hd; cases hd⟩
 | n+1,i,j,V,a,h,h1,h2=>by
  have hf:=yUu (nth a.2.2.2.2.2.2.2.2.1 0 (0,[])).1 h (by omega);unfold goE yh0;generalize yaF a (nth a.2.2.2.2.2.2.2.2.1 0 (0,[])).1=F at hf;cases hc:(F.1 !=0)
  ·simp only[cond_false]
   cases hd:ya F.2
   ·obtain⟨V1,h3⟩:=hf.1 hd
    exact yUv n (i+1) (j+2) V1 _ h3 (by omega) h2
   ·have e:(goE yh0 (fun b=>((0:Int),b)) n (i+1) F.2).2=F.2:=yEz n (i+1) hd
    unfold yh0 at e;rw[e];exact⟨(fun hu=>by rw[hd]at hu; cases hu),fun _=>yxw (hf.2 hd) (by omega) (fun _ h=>h)⟩
  ·simp only[cond_true]
   exact⟨fun hu=>(hf.1 hu).imp (fun V h=>yCM h (by omega)),fun hu=>yxw (hf.2 hu) (by omega) (fun _ h=>h)⟩
theorem yXK {k:Int} {V:Int→Int→Int} {a:dA} (h:Lv k V a) (hk:k+16≤60000):(ya (yBP a).2=false→ ∃V',Lv (k+16) V' (yBP a).2)∧(ya (yBP a).2=true→Dd (k+16) Any (yBP a).2):=by
 have:=yA4 h.x.xc.2.2.1 h.x.xc.1;exact yUv _ 0 k V a h (by omega) hk
theorem yFf {p:Nat→Bool} {j:Nat}: ∀{n:Nat},(∀i,i<n→i≠j→p i=true)→ycw p n≤1∧(n≤j→ycw p n=0)
 | 0,_=>⟨Nat.zero_le _,fun _=>rfl⟩
 | n+1,h=>by
  obtain⟨h1,h2⟩:=yFf (n:=n) (fun i hi hj=>h i (by omega) hj);rw[yiN];cases hp:p n
  ·have:n=j:=Classical.byContradiction fun e=>by rw[h n (by omega) e]at hp; cases hp
   rw[cond_false,h2 (by omega)];exact⟨by omega,fun h=>by omega⟩
  ·rw[cond_true]
   exact⟨h1,fun h=>h2 (by omega)⟩
theorem yF7 {a:dA} {s j:Int} (j0:0≤j) (h: ∀i,0≤i→i<a.2.1.1→i≠j→yaw a s i=true):yeg a s<2:=by
 have:=(yFf (p:=fun(i:Nat)=>yaw a s i) (j:=j.toNat) (n:=a.2.1.1.toNat) (fun i hi hj=>h i (by omega) (by omega) (by omega))).1;unfold yeg;omega
def yEo (a:dA):Prop:= ∀s,0≤s→s<a.2.1.2→yeg a s<2
theorem yV6 {x:dA} {i s:Int} (hl:i≠x.2.2.2.1) (hf:yr x i=false) (hb:yv x i (s+6)=false):yaw x s i=true:=by
 unfold yaw yav;rw[show(yh x i).2.2.1=false from hf,show yd2 (yh x i) (s+6)=false from hb,show(i !=x.2.2.2.1)=true from bne_iff_ne.2 hl]; rfl
theorem yJA {K s:Int} {V:Int→Int→Int} {a:dA} (h:Ix K V a) (s0:0≤s) (s1:s<a.2.1.2):ytE a s=bif decide (yeg a s<2)then(yVb V a.2.1 s,true)else([],false):=by
 have h4:=yVE h s0 s1;unfold yyU at h4;rw[yqR h,h.xb,yUo h s0 s1]at h4;exact h4
theorem yXO {K J s:Int} {V:Int→Int→Int} {a x:dA} (h:Ix K V a) (hx:Ix J V x) (hg:x.2.1=a.2.1) (hd:x.2.2.2.2.2.2.2.2.1=a.2.2.2.2.2.2.2.2.1) (ha:yEo a) (hf:yEo x) (s0:0≤s) (s1:s<a.2.1.2):yJ x s=yJ a s:=by
 unfold yJ;rw[hd,hx.xb,h.xb,yJA h s0 s1,yJA hx s0 (by rw[hg]; exact s1),decide_eq_true (ha s s0 s1),decide_eq_true (hf s s0 (by rw[hg]; exact s1)),hg]
theorem yPX {K b:Int} {V:Int→Int→Int} {a:dA} (h:Ix K V a):ygT a b=bif ybj a.2.1 b then 0 else 2:=by
 unfold ygT;rw[yqR h,show a.2.2.2.2.2.2.2.2.2.2.1=false from h.xu]; rfl
theorem yXE {K J:Int} {V W:Int→Int→Int} {a x:dA} (h:Ix K V a) (hx:Ix J W x) (hg:x.2.1=a.2.1) (hn: ∀s,0≤s→s<a.2.1.2→yJ x s=yJ a s) (b:Int):ybF x b=ybF a b:=by
 unfold ybF;rw[yPX h,yPX hx,hg];cases hb:ybj a.2.1 b
 ·rfl
 ·have:=yab.1 (yjz hb)
  rw[hn _ this.2.1 (by omega)]
theorem yH7 {K J:Int} {V:Int→Int→Int} {a x:dA} (h:Ix K V a) (hx:Ix J V x) (hg:x.2.1=a.2.1) (hd:x.2.2.2.2.2.2.2.2.1=a.2.2.2.2.2.2.2.2.1) (ha:yEo a) (hf:yEo x):yok x=yok a:=by
 have e:=yXE h hx hg (fun s s0 s1=>yXO h hx hg hd ha hf s0 s1);unfold yok;rw[hg];simp only[e]
theorem yUh {K:Int} {V:Int→Int→Int} {a:dA} (h:Ix K V a) (ha:yEo a):((yok a).length:Int)=yn a.2.1:=by
 have hB:=ytu a.2.1
 have hall:(List.range (yn a.2.1).toNat).all (fun(b:Nat)=> !((ybF a b).2 !=0))=true:=by
  rw[List.all_eq_true];intro b hb;have hb:=List.mem_range.1 hb
  have hok:ybj a.2.1 b=true:=by
   unfold ybj;rw[zk2 (show(0:Int)≤b by omega),zk2 (show(b:Int)≤yn a.2.1-1 by omega)]; rfl
  have hs:=yab.1 (yjz hok)
  have hn:(yJ a (yag a.2.1 b)).2=true:=by
   unfold yJ;rw[h.xb,yJA h hs.2.1 (by omega),decide_eq_true (ha _ hs.2.1 (by omega))];cases leb 0 (yL a.2.2.2.2.2.2.2.2.1 (yag a.2.1 b))<;>rfl
  unfold ybF;rw[yPX h,hok,hn]; rfl
 unfold yok;rw[hall,cond_true,List.length_map,List.length_range]; omega
theorem yV3 {K m:Int} {V:Int→Int→Int} {a:dA} (h:Ix K V a) (hf:ya1 a) (hl:a.2.2.2.1= -1∨a.2.2.2.1=m) (hk:K+1≤60000):ya (yap a m)=false:=by
 rw[ysV h hl hk];exact(yud (a:=yA a m) hf).1
theorem yEF {K m:Int} {V:Int→Int→Int} {a:dA} (h:Ix K V a) (hl:a.2.2.2.1= -1∨a.2.2.2.1=m) (hk:K+1≤60000):(yap a m).2.1=a.2.1∧(yap a m).2.2.2.1=m∧(yap a m).2.2.2.2.2.2.2.2.1=a.2.2.2.2.2.2.2.2.1:=by
 rw[ysV h hl hk];have hc:=ycl (yA a m);exact⟨yP (b:=yE (yA a m)) hc,yd4 (b:=yE (yA a m)) hc,yA3 (a:=yE (yA a m)) hc⟩
theorem yWD {K m:Int} {V:Int→Int→Int} {a:dA} (h:Ix K V a) (hl:a.2.2.2.1= -1∨a.2.2.2.1=m) (hm:inb m a.2.2.1.length=true) (hk:K+1≤60000) {i s:Int} (i0:0≤i) (i1:i<a.2.1.1) (hi:i≠m) (s0:0≤s) (hw:yr a i=false∧yv a i (s+6)=false):yaw (yap a m) s i=true:=by
 obtain⟨c1,c2,_⟩:=yEF h hl hk;rw[ysV h hl hk]at c1 c2 ⊢;have hmi:=zj6.1 hm;have hlen:=h.xk.1.2;have hn:((yA a m).2.2.1.length:Int)=a.2.1.1:=by show((a.2.2.1.set _ _).length:Int)=_; rw[List.length_set]; exact hlen
 have ok:ype (yA a m):=yay (ytF h hl hm).xk;have ht:=ylI ok
 have hd:yh (yA a m) i=yh a i:=by
  have:=yt1 (a:=a) (x:=ydr (nth a.2.2.1 m yf)) m (0,a.2.2.2.2.2) hm i0;rw[show(m==i)=false from beq_eq_false_iff_ne.2 (fun e=>hi e.symm)]at this; exact this
 have hmod:(i64.wrap ((yA a m).2.2.2.2.2.2.2.1+1)).tmod 2<2:=Int.tmod_lt_of_pos _ (by omega);refine yV6 (by rw[c2]; exact hi) ?_ ?_
 ·rw[ht.f i i0 i1]; unfold yr; rw[hd]; exact hw.1
 ·rw[ht.b i (s+6) i0 i1 (by omega)]; unfold yv; rw[hd]; exact hw.2
structure Gd (K:Int) (V:Int→Int→Int) (a:dA):Prop where
 x:Ix K V a
 fd: ∀i,0≤i→i<a.2.1.1→yr a i=false
 nd: ∀i m,0≤i→i<a.2.1.1→6≤m→yv a i m=false
structure SmC (a r:dA):Prop where
 ci:r.1=a.1
 cg:r.2.1=a.2.1
 cl:r.2.2.2.1=a.2.2.2.1
 cd:r.2.2.2.2.2.2.2.2.1=a.2.2.2.2.2.2.2.2.1
theorem yWZ {a r:dA} (h:yp r=yp a):SmC a r:=⟨yF2 h,yP h,yd4 h,yA3 h⟩
theorem yWi {a b c:dA} (h:SmC a b) (g:SmC b c):SmC a c:=⟨g.ci.trans h.ci,g.cg.trans h.cg,g.cl.trans h.cl,g.cd.trans h.cd⟩
theorem yUm {K i s:Int} {V:Int→Int→Int} {a:dA} (h:Gd K V a) (i0:0≤i) (i1:i<a.2.1.1) (hi:i≠a.2.2.2.1∨s<a.2.2.2.2.1) (s0:0≤s):yaw a s i=true:=by
 have h1:=h.fd i i0 i1;have h2:=h.nd i (s+6) i0 i1 (by omega);unfold yr at h1;unfold yv at h2;unfold yaw yav;rw[h1,h2,show(i !=a.2.2.2.1||ltb s a.2.2.2.2.1)=true by rw[Bool.or_eq_true,bne_iff_ne,zka]; exact hi]; rfl
theorem yVg {K:Int} {V:Int→Int→Int} {a:dA} (h:Gd K V a):yEo a:=fun s s0 s1=>by
 by_cases hl:0≤a.2.2.2.1
 ·exact yF7 hl fun i i0 i1 hi=>yUm h i0 i1 (.inl hi) s0
 ·exact yF7 (Int.le_refl 0) fun i i0 i1 _=>yUm h i0 i1 (.inl (by omega)) s0
theorem yXh {K:Int} {V:Int→Int→Int} {a:dA} (h:Gd K V a) (hb:a.2.2.2.1= -1∨a.2.2.2.2.1=a.2.1.2):yUf a=0:=by
 rw[yXi h.x]
 have:decide (ycw (fun(s:Nat)=>decide (yeg a s=0)) a.2.1.2.toNat=0)=true:=by
  rw[ymb,List.all_eq_true];intro s hs;have hs:=List.mem_range.1 hs;unfold yeg;show decide (ycw (fun(i:Nat)=>yaw a s i) a.2.1.1.toNat=0)=true;rw[ymb,List.all_eq_true];intro i hi;have hi:=List.mem_range.1 hi;exact yUm h (by omega) (by omega) (by omega) (by omega)
 rw[of_decide_eq_true this]; rfl
theorem yXv {K:Int} {V:Int→Int→Int} {a:dA} (h:Gd K V a) (hm:inb a.2.2.2.1 a.2.2.1.length=true) (hb:a.2.2.2.2.1<a.2.1.2) :
  (ya (yac a).2=false→(yac a).1=0∧Gd K V (yac a).2∧(yac a).2.2.2.2.2.1=a.2.2.2.2.1+1)∧(ya (yac a).2=true→(yac a).1≠0)∧SmC a (yac a).2∧yad (yac a).2∧(ya1 a→ya1 (yac a).2) ∧
   (∀i,0≤i→i<a.2.1.1→yr (yac a).2 i=false)∧ ∀i m,0≤i→i<a.2.1.1→6≤m→yv (yac a).2 i m=false:=by
 have hmi:=zj6.1 hm;have hlen:=h.x.xk.1.2;have c:=h.x.xc;unfold yaO at c;have hg:=yl.1 c.1;have hfL:(nth a.2.2.1 a.2.2.2.1 yf).2.2.1=false:=h.fd _ hmi.1 (by omega);have hi:=yVh h.x hm hfL hb;have hw:(yF a a.2.2.2.2.1).2=true:=by rw[yJB h.x (by omega) hb,decide_eq_true (yVg h _ (by omega) hb)]; rfl
 have hS:yZ a=ybk a a.2.2.2.1 (yz a.2.2.2.2.1) [nth (yF a a.2.2.2.2.1).1 a.2.2.2.1 0]:=rfl;have hc:=yfJ a a.2.2.2.1 (yz a.2.2.2.2.1) [nth (yF a a.2.2.2.2.1).1 a.2.2.2.1 0];have hd:=ys6 (yz a.2.2.2.2.1) [nth (yF a a.2.2.2.2.1).1 a.2.2.2.1 0] h.x.xu hm;have hk:=yzr (n:=yz a.2.2.2.2.1) (s:= [nth (yF a a.2.2.2.2.1).1 a.2.2.2.1 0]) h.x.xk hm;have hfr:ya1 a→ya1 (yZ a):=fun hf=>yDl hf _ _ _
 rw[← hS]at hc hd hk
 have hdd: ∀i,0≤i→yr (yZ a) i=yr a i∧ ∀m,yv (yZ a) i m=true→yv a i m=true:=fun i i0=>by
  unfold yr yv;rcases hd.2.2 with⟨_,e⟩ | ⟨_,e⟩
  ·rw[e i i0]
   cases(a.2.2.2.1==i)
   ·exact⟨rfl,fun _ h=>h⟩
   ·exact⟨yuq _ _ _,fun m hb=>(yRv _ _ _).2.2.2 m hb⟩
  ·rw[e]; exact⟨rfl,fun _ h=>h⟩
 have hfl2: ∀i,0≤i→i<a.2.1.1→yr (yZ a) i=false:=fun i i0 i1=>(hdd i i0).1.trans (h.fd i i0 i1)
 have hbd2: ∀i m,0≤i→i<a.2.1.1→6≤m→yv (yZ a) i m=false:=fun i m i0 i1 m0=>by
  cases hx:yv (yZ a) i m
  ·rfl
  ·rw[← h.nd i m i0 i1 m0]; exact((hdd i i0).2 m hx).symm
 have e4:=ycL hc;unfold yac at hi ⊢;rw[hw]at hi ⊢;generalize yZ a=P at hi hc hd hk hfr hdd hfl2 hbd2 e4;have sm:=yWZ hc;cases hp:ya P
 ·rw[hp]at hi
  have hi2:Ix K V (yUM P):=hi hp;have cg:P.2.1=a.2.1:=yP hc;refine⟨fun _=>⟨rfl,⟨hi2,fun i i0 i1=>hfl2 i i0 (by have i1:i<P.2.1.1:=i1; rw[cg]at i1; exact i1),fun i m i0 i1=>hbd2 i m i0 (by have i1:i<P.2.1.1:=i1; rw[cg]at i1; exact i1)⟩,?_⟩,(fun hd2=>by have hd2:ya P=true:=hd2; rw[hp]at hd2; cases hd2),⟨sm.ci,sm.cg,sm.cl,sm.cd⟩,hk,hfr,hfl2,hbd2⟩;show i64.wrap (P.2.2.2.2.1+1)=_;rw[e4]; exact wr (by omega) (by omega)
 ·exact⟨(fun hu=>by have hu:ya P=false:=hu; rw[hp]at hu; cases hu),fun _=>by show(6:Int)≠0; decide,sm,hk,hfr,hfl2,hbd2⟩
theorem yWA {K:Int} {V:Int→Int→Int} {a:dA} (h:Gd K V a) (hm:inb a.2.2.2.1 a.2.2.1.length=true) (hb:a.2.2.2.2.1<a.2.1.2):ybc a=((yac a).2,(yac a).1):=by
 have hmi:=zj6.1 hm;have hlen:=h.x.xk.1.2;have hfL:(nth a.2.2.1 a.2.2.2.1 yf).2.2.1=false:=h.fd _ hmi.1 (by omega);unfold ybc;rw[yqR h.x,h.x.xu,h.x.xb,hfL,show(a.2.2.2.1== -1)=false from beq_eq_false_iff_ne.2 (by omega),zk1 hb]; rfl
structure Bld (K:Int) (V:Int→Int→Int) (a r:dA):Prop where
 bs:SmC a r
 bk:yad r
 bf:ya1 a→ya1 r
 ba: ∀i,0≤i→i<a.2.1.1→yr r i=false
 bn: ∀i m,0≤i→i<a.2.1.1→6≤m→yv r i m=false
 bd:ya r=true→Dd K (· =V) r
theorem yRA {K J:Int} {V:Int→Int→Int} {a b c:dA} (h:Bld K V a b) (g:Bld J V b c):Bld J V a c :=
 ⟨yWi h.bs g.bs,g.bk,fun f=>g.bf (h.bf f),fun i i0 i1=>g.ba i i0 (by rw[h.bs.cg]; exact i1),fun i m i0 i1=>g.bn i m i0 (by rw[h.bs.cg]; exact i1),g.bd⟩
theorem yXb {K:Int} {V:Int→Int→Int}: ∀(n:Nat) (a:dA),Gd K V a→Lv K V a→inb a.2.2.2.1 a.2.2.1.length=true→a.2.1.2-a.2.2.2.2.1≤n →
  Bld K V a (yee n a).1∧(((yee n a).2=0∧Gd K V (yee n a).1∧Lv K V (yee n a).1∧(yee n a).1.2.2.2.2.1=a.2.1.2)∨((yee n a).2≠0∧ya (yee n a).1=true))
 | n,a,h,hl,hm,hn=>by
  have hc:=h.x.xc.2.2.2.2.1;by_cases hb:a.2.2.2.2.1<a.2.1.2
  ·match n,hn with
   | 0,hn=>omega
   | n+1,hn =>
    obtain⟨g1,g2,g3,g4,g5,g6,g7⟩:=yXv h hm hb;have hfL:(nth a.2.2.1 a.2.2.2.1 yf).2.2.1=false:=h.fd _ (zj6.1 hm).1 (by have:=(zj6.1 hm).2; have:=h.x.xk.1.2; omega);have hlv:=yXp hl hm hfL hb;unfold yee;rw[zky hb,cond_true,yWA h hm hb];generalize yac a=S at g1 g2 g3 g4 g5 g6 g7 hlv;have hB:Bld K V a S.2:=⟨g3,g4,g5,g6,g7,hlv.2⟩;rcases Bool.eq_false_or_eq_true (ya S.2)with hd | hd
    ·have hne:=g2 hd
     rw[show(S.1 !=0)=true from bne_iff_ne.2 hne];exact⟨hB,.inr ⟨hne,hd⟩⟩
    ·obtain⟨k1,k2,k3⟩:=g1 hd
     rw[show(S.1 !=0)=false from bne_eq_false_iff_eq.2 k1];have hlen2:S.2.2.2.1.length=a.2.2.1.length:=by have e1:=g4.1.2; have e2:=h.x.xk.1.2; rw[g3.cg]at e1; omega
     obtain⟨r1,r2⟩:=yXb n S.2 k2 (hlv.1 hd) (by rw[g3.cl,hlen2]; exact hm) (by rw[g3.cg,k3]; omega);refine⟨yRA hB r1,?_⟩;rw[g3.cg]at r2; exact r2
  ·have e:yee n a=(a,0):=yVa (zk3 (by omega))
   rw[e];exact⟨⟨⟨rfl,rfl,rfl,rfl⟩,h.x.xk,fun f=>f,h.fd,h.nd,fun hd=>by rw[h.x.xu]at hd; cases hd⟩,.inl ⟨rfl,h,hl,by show a.2.2.2.2.1=_; omega⟩⟩
theorem yW0 {K:Int} {V:Int→Int→Int} {a:dA} (h:Lv K V a) (hm:inb a.2.2.2.1 a.2.2.1.length=true) (hf0:yr a a.2.2.2.1=true) (hnd: ∀i m,0≤i→i<a.2.1.1→6≤m→yv a i m=false) (hk:K+1≤59990) :
  Bld (K+1) V a (yas a).1∧(((yas a).2=0∧Gd (K+1) V (yas a).1∧Lv (K+1) V (yas a).1∧(yas a).1.2.2.2.2.1=0)∨((yas a).2≠0∧ya (yas a).1=true)):=by
 have hmi:=zj6.1 hm;have hlen:=h.x.xk.1.2;have hg:=yl.1 h.x.xc.1;have hxg:=h.x.xg;have hfL:(nth a.2.2.1 a.2.2.2.1 yf).2.2.1=true:=hf0
 have e:yas a=(yj (ym a),bif ya (yj (ym a))then 6 else 0):=by
  unfold yas;rw[yqR h.x,h.x.xu,h.x.xb,hfL,show(a.2.2.2.1== -1)=false from beq_eq_false_iff_ne.2 (by omega),zk1 (show a.2.2.2.2.2.2.2.1<59990 by omega)]; rfl
 have hx:=yBU h.x hm;have ok:=yay hx.xk;have ht:=ylI ok;have hd: ∀i,0≤i→yh (ym a) i=bif a.2.2.2.1==i then ybd (6+a.2.1.2)else yh a i:=fun i i0=>yt1 a.2.2.2.1 _ hm i0
 have hlv:=yWN h hm hfL (by omega);have hc:=ycl (ym a);have hmod:(i64.wrap ((ym a).2.2.2.2.2.2.2.1+1)).tmod 2<2:=Int.tmod_lt_of_pos _ (by omega)
 have hfl: ∀i,0≤i→i<a.2.1.1→yr (yj (ym a)) i=false:=fun i i0 i1=>by
  rw[ht.f i i0 i1];unfold yr;rw[hd i i0];by_cases ei:a.2.2.2.1=i
  ·rw[show(a.2.2.2.1==i)=true from beq_iff_eq.2 ei,yiu hg.2]; rfl
  ·rw[show(a.2.2.2.1==i)=false from beq_eq_false_iff_ne.2 ei]
   rw[cond_false];cases hh:(yh a i).2.2.1
   ·rfl
   ·exact absurd (yTL h.x i0 i1 hh) (fun e=>ei e.symm)
 have hbd: ∀i m,0≤i→i<a.2.1.1→6≤m→yv (yj (ym a)) i m=false:=fun i m i0 i1 m0=>by
  rw[ht.b i m i0 i1 (by omega)];unfold yv;rw[hd i i0];by_cases ei:a.2.2.2.1=i
  ·rw[show(a.2.2.2.1==i)=true from beq_iff_eq.2 ei,yiu hg.2]; rfl
  ·rw[show(a.2.2.2.1==i)=false from beq_eq_false_iff_ne.2 ei]; exact hnd i m i0 i1 m0
 rw[e];have B:Bld (K+1) V a (yj (ym a)):=⟨⟨yF2 (a:=yE (ym a)) hc,yP (b:=yE (ym a)) hc,yd4 (b:=yE (ym a)) hc,yA3 (a:=yE (ym a)) hc⟩,yur hx.xk,fun hf=>yud (a:=ym a) hf,hfl,hbd,hlv.2⟩;have hg2:(yj (ym a)).2.1=a.2.1:=B.bs.cg;have hb2:(yj (ym a)).2.2.2.2.1=0:=ycL (b:=yE (ym a)) hc;refine⟨B,?_⟩;rcases Bool.eq_false_or_eq_true (ya (yj (ym a)))with hdn | hdn
 ·exact .inr ⟨by show(bif ya (yj (ym a))then(6:Int)else 0)≠0; rw[hdn]; decide,hdn⟩
 ·exact .inl ⟨by show(bif ya (yj (ym a))then(6:Int)else 0)=0; rw[hdn]; rfl,⟨yWI h.x hm (by omega) hdn,fun i i0 i1=>hfl i i0 (by rw[hg2]at i1; exact i1),fun i m i0 i1=>hbd i m i0 (by rw[hg2]at i1; exact i1)⟩,hlv.1 hdn,hb2⟩
theorem yWy {K:Int} {V:Int→Int→Int} {a:dA} (h:Gd K V a) (hm:inb a.2.2.2.1 a.2.2.1.length=true) (hb:a.2.2.2.2.1=a.2.1.2) (hk:K+2≤59990) :
  (yd0 a).1.1=a.1∧(yd0 a).1.2.1=a.2.1∧(yd0 a).1.2.2.2.2.2.2.2.2.1=a.2.2.2.2.2.2.2.2.1∧yad (yd0 a).1∧(∀i,0≤i→i<a.2.1.1→yr (yd0 a).1 i=false)∧(∀i m,0≤i→i<a.2.1.1→6≤m→yv (yd0 a).1 i m=false) ∧
   (Lv K V a→Can (K+2) (fun W Lf=>W=V∧(Lf=a.2.2.2.1∨Lf= -1)) (yd0 a).1)∧(ya1 a→ya1 (yd0 a).1) ∧
   (ya (yd0 a).1=false→(yd0 a).2=0∧Gd (K+2) V (yd0 a).1∧(yd0 a).1.2.2.2.1= -1):=by
 have hmi:=zj6.1 hm;have hlen:=h.x.xk.1.2;have hg:=yl.1 h.x.xc.1;have hxg:=h.x.xg;have hxs:=h.x.xs;have hc10:=h.x.xc.2.2.2.2.2.2.2.2.2;have hfL:(nth a.2.2.1 a.2.2.2.1 yf).2.2.1=false:=h.fd _ hmi.1 (by omega)
 have e:yd0 a=ysO a:=by
  unfold yd0;rw[yqR h.x,h.x.xu,h.x.xb,hfL,show(a.2.2.2.1== -1)=false from beq_eq_false_iff_ne.2 (by omega),zk1 (show a.2.2.2.2.2.2.2.1<59990 by omega),zk3 (show a.2.1.2≤a.2.2.2.2.1 by omega)]; rfl
 rw[e];unfold ysO;obtain⟨s1,s2,s3,s4,s5⟩:=yxh a;have hcd:=yH6 a;have hck:=yM0 h.x.xk;have hcb:=fun i m i0 i1 m0=>ytU (b:=a) (m:=m) h.x.xk (i:=i) i0 i1 m0
 have hfl: ∀i,0≤i→i<a.2.1.1→yr (yi a) i=false:=fun i i0 i1=>(hcb i 2 i0 i1 (by omega)).2.trans (h.fd i i0 i1)
 have hbd: ∀i m,0≤i→i<a.2.1.1→6≤m→yv (yi a) i m=false:=fun i m i0 i1 m0=>(hcb i m i0 i1 (by omega)).1.trans (h.nd i m i0 i1 m0)
 have hlc:=fun hl:Lv K V a=>yUt hl (by omega)
 rcases Bool.eq_false_or_eq_true (ya (yi a))with hdn | hdn
 ·rw[hdn]
  refine⟨s1,s2,hcd,hck,hfl,hbd,fun hl=> ?_,fun hf=> ?_,fun hu=> ?_⟩
  ·exact yIK (yVV ((hlc hl).2 hdn)) (by omega) fun W Lf ⟨h1,h2⟩=>⟨h1,.inl (h2.trans s3)⟩
  ·have:=(yMU hf).1
   rw[hdn]at this; cases this
  ·have hu:ya (yi a)=false:=hu
   rw[hdn]at hu; cases hu
 ·rw[hdn]
  have cr:Lv K V a→ ∃R,yEp R (yi a).2.2.2.2.1 V (yi a):=fun hl=>by
   obtain⟨B0,R,hr⟩:=hl.r;exact⟨R,yRC h.x hl.n.z (by omega) hdn (yRs hr (yxu a))⟩
  have cix:=yJz h.x (by omega) hdn;obtain⟨t1,t2⟩:=yRD (b:=a) (by omega) hdn;have hmk:=(yyz hdn).2
  have hcache: ∀i,0≤i→i<a.2.1.1→(yh (yi a) i).2.1= []:=fun i i0 i1=>by
   have hu2:ya (yj (yH (yc a)))=false:=by rw[← hmk]; exact hdn
   have hsl:(yc a).2.2.1.length=a.2.2.1.length:=yAd a;have hsg:(yc a).2.1=a.2.1:=yP (yax a);have hd:=yJC hu2 i0 (by show i<((yc a).2.2.1.length:Int); omega);have hok:yD (yh (yH (yc a)) i)=true:=(yay (ygV h.x.xk)).2 i i0 (by rw[hsg]; exact i1)
   have hf2:(yMV (yE (yH (yc a))) i (yh (yH (yc a)) i)).2.2.1=false:=by
    have:=hfl i i0 i1;unfold yr at this;rw[hmk,hd,(yo9 _).2]at this; exact this
   rw[hmk,hd];exact(yxi (ypa hok) hf2).1
  have hfree:ya1 a→ya1 (yj (yy (yi a))):=fun hf=>yud (a:=yy (yi a)) (yMU hf)
  have hz1:(yi a).2.2.2.1=a.2.2.2.1:=s3;generalize yi a=C at s1 s2 s3 s4 s5 hcd hck hfl hbd hdn cr cix t1 t2 hcache hfree hz1;have cxg:=cix.xg
  have hEk:yad (yy C):=by
   refine⟨⟨fun i hi=> ?_,hck.1.2⟩,hck.2⟩;obtain⟨k1,k2,_⟩:=hck.1.1 i hi;refine⟨k1,k2,fun hf=> ?_⟩;have hi':i<C.2.2.1.length:=hi;have hn:=hck.1.2;rw[s2]at hn;have:=hfl i (by omega) (by omega);unfold yr yh at this;have hf:(nth C.2.2.1 i yf).2.2.1=true:=hf;rw[hf]at this; cases this
  have hEx:Ix (K+1) V (yy C):=by
   obtain⟨⟨c1,c2,c3,c4,c5,c6,c7,c8,c9,c10,c11⟩,xk,xu,xb,xg,xs,xe,xv,xn⟩:=cix;refine⟨⟨c1,c2,c3,?_,?_,fun _=>rfl,c7,c8,c9,c10,c11⟩,hEk,xu,xb,xg,xs,xe,fun i s i0 i1 s0 s1 hh=> ?_,fun i i0 i1=> ?_⟩
   ·show -1≤(-1:Int)∧(-1:Int)≤C.2.1.1-1; rw[s2]; omega
   ·show 0≤(0:Int)∧(0:Int)≤C.2.1.2; rw[s2]; omega
   ·have i1:i<C.2.1.1:=i1
    have s1':s<C.2.1.2:=s1;refine xv i s i0 i1 s0 s1' ?_;rw[s2]at i1 s1';have h1:=hfl i i0 i1;have h2:=hbd i (s+6) i0 i1 (by omega);unfold yr at h1;unfold yv at h2;unfold yaw yav;rw[h1,h2,s4,hb,zky s1',Bool.or_true]; rfl
   ·have i1:i<C.2.1.1:=i1
    rw[s2]at i1;show((yh C i).2.1.length:Int)≤_;rw[hcache i i0 i1];show(0:Int)≤1+(bif i== -1 then 0 else 0);cases(i== -1)<;>decide
  have ok:=yay hEk;have hM:Mk (yy C):=yP0 hEx.xc hEk (by show C.2.2.2.2.2.2.2.1<60000; omega);have ht:=ylI ok;have hc:=ycl (yy C);have m1:(yj (yy C)).1=C.1:=yF2 (a:=yE (yy C)) hc;have m2:(yj (yy C)).2.1=C.2.1:=yP (b:=yE (yy C)) hc;have m3:(yj (yy C)).2.2.2.1= -1:=yd4 (b:=yE (yy C)) hc;have m8:(yj (yy C)).2.2.2.2.2.2.2.2.1=C.2.2.2.2.2.2.2.2.1:=yA3 (a:=yE (yy C)) hc;have hmod:(i64.wrap ((yy C).2.2.2.2.2.2.2.1+1)).tmod 2<2:=Int.tmod_lt_of_pos _ (by omega);have hflM: ∀i,0≤i→i<a.2.1.1→yr (yj (yy C)) i=false:=fun i i0 i1=>(ht.f i i0 (by show i<C.2.1.1; rw[s2]; exact i1)).trans (hfl i i0 i1)
  have hbdM: ∀i m,0≤i→i<a.2.1.1→6≤m→yv (yj (yy C)) i m=false:=fun i m i0 i1 m0=>(ht.b i m i0 (by show i<C.2.1.1; rw[s2]; exact i1) (by omega)).trans (hbd i m i0 i1 m0)
  refine⟨m1.trans s1,m2.trans s2,m8.trans hcd,yur hEk,hflM,hbdM,fun hl f' hf'=> ?_,fun hf=>hfree hf,fun hu=>⟨?_,(show Gd (K+2) V (yj (yy C))from⟨yCL (yCK hEx (by omega) hu) (by omega),fun i i0 i1=>hflM i i0 (by rw[m2,s2]at i1; exact i1),fun i m i0 i1=>hbdM i m i0 (by rw[m2,s2]at i1; exact i1)⟩),m3⟩⟩
  ·obtain⟨R,cr⟩:=cr hl
   have base: ∀f,Ch (yy C) f→Wsup C.1 C.2.1 C.2.2.2.2.2.2.2.1 C.2.2.2.2.2.2.1 C.2.2.2.1 C.2.2.2.2.1 C.2.2.2.1 C.2.2.2.2.1 f (yr C)∧Wdat C.2.1 C.2.2.2.2.2.2.1 C.2.2.2.2.2.1 R V C.2.2.2.1 C.2.2.2.2.1 f (yr C) (yv C):=fun f hf=>by
    obtain⟨Bf,⟨p1,_⟩,q1,q2⟩:=cr.2 f (yr C) C.2.2.2.1 hf (yxu C);have:=p1 ⟨rfl,fun _ _ _=>rfl⟩;subst this;exact⟨q1,q2⟩
   have hTQ:C.2.2.2.2.2.2.1=C.2.2.2.2.2.1:=by omega
   have new: ∀(fl:Int→Bool) (Lf:Int),(∀i,0≤i→i<C.2.1.1→fl i=false→yr C i=false)→ ∀f,Ch (yy C) f→Wdat C.2.1 C.2.2.2.2.2.2.1 C.2.2.2.2.2.1 R V Lf 0 f fl (yv C):=fun fl Lf hsub f hf=>by
    have w:=(base f hf).2;refine⟨w.e,w.q,fun i s i0 i1 s0 s1 hi _ hbb hj=>w.d i s i0 i1 s0 s1 (hsub i i0 i1 hi) (.inr (by rw[s4,hb,← s2]; exact s1)) hbb hj,fun q q0 q1=>by omega,fun i n r i0 i1 hi=>w.h i n r i0 i1 (hsub i i0 i1 hi),w.v,w.l,fun i n i0 i1 hi=>w.b i n i0 i1 (hsub i i0 i1 hi)⟩
   have hT:=yFh (a:=yy C) (T:=C.2.2.2.2.2.2.1) (L:=C.2.2.2.1) (B:=C.2.2.2.2.1) (Q:=C.2.2.2.2.2.1) (Lf:=C.2.2.2.1) (Lf2:= -1) (R:=R) (V:=V) (f':=f') (fl:=yr C) hM hf' (fun i _ _ h=>h) (fun f hf=>⟨_,base f hf⟩) (fun f hf=>new (yr C) (-1) (fun i _ _ h=>h) f hf) (fun f hf i i0 i1 _=>by
    have i1:i<C.2.1.1:=i1;have w:=(base f hf).1;refine⟨hfl i i0 (by rw[← s2]; exact i1),?_⟩;by_cases ei:i=C.2.2.2.1
    ·rcases w.u4 with⟨_,_,h3⟩ | ⟨_,_,h3,_,h5⟩
     ·rcases h3 with h3 | h3
      ·omega
      ·rw[ei]; exact h3.2
     ·exfalso
      rw[s4,hb]at h5; omega
    ·exact(w.u2 i i0 i1 ei).2) (.inl rfl)
   have hT:(∃Bf,Wsup C.1 C.2.1 C.2.2.2.2.2.2.2.1 C.2.2.2.2.2.2.1 C.2.2.2.1 C.2.2.2.2.1 C.2.2.2.1 Bf f' (yr C)∧Wdat C.2.1 C.2.2.2.2.2.2.1 C.2.2.2.2.2.1 R V C.2.2.2.1 Bf f' (yr C) (yv (yj (yy C)))) ∨
    ∃Bf,Wsup C.1 C.2.1 (C.2.2.2.2.2.2.2.1+1) C.2.2.2.2.2.2.1 (-1) 0 (-1) Bf f' (yr C)∧Wdat C.2.1 C.2.2.2.2.2.2.1 C.2.2.2.2.2.1 R V (-1) Bf f' (yr C) (yv (yj (yy C))):=hT
   have hfe: ∀i,0≤i→i<C.2.1.1→yr (yj (yy C)) i=yr C i:=fun i i0 i1=>ht.f i i0 i1
   show ∃W Lf,(W=V∧(Lf=a.2.2.2.1∨Lf= -1))∧WW (K+2) (yj (yy C)).1 (yj (yy C)).2.1 W Lf f' (yr (yj (yy C))) (yv (yj (yy C)));rw[m1,m2];rcases hT with⟨Bf,w1,w2⟩ | ⟨Bf,w1,w2⟩
   ·exact⟨V,_,⟨rfl,.inl hz1⟩,_,_,_,_,_,R,Bf,by omega,by omega,yVs w1 hfe,yVq w2 hfe⟩
   ·exact⟨V,_,⟨rfl,.inr rfl⟩,_,_,_,_,_,R,Bf,by omega,by omega,yVs w1 hfe,yVq w2 hfe⟩
  ·show(bif ya (yj (yy C))then(6:Int)else 0)=0
   have hu:ya (yj (yy C))=false:=hu;rw[hu]; rfl
def yBJ (a:dA):Prop:=a.2.2.2.1= -1∧ ∀i m,0≤i→i<a.2.1.1→6≤m→yv a i m=false
theorem yXs {a r:dA} (h:yBJ a) (hl:r.2.2.2.1=a.2.2.2.1) (hg:r.2.1=a.2.1) (hd: ∀i m,0≤i→i<a.2.1.1→6≤m→yv r i m=true→yv a i m=true):yBJ r:=⟨hl.trans h.1,fun i m i0 i1 m0=>by
 rw[hg]at i1;cases hx:yv r i m
 ·rfl
 ·rw[← h.2 i m i0 i1 m0]; exact(hd i m i0 i1 m0 hx).symm⟩
theorem yWR {a:dA} {b x:Int} (h:yBJ a):yBJ (yip a b x).2:=by
 unfold yip;cases(yJ a (yag a.2.1 b)).2
 ·exact h
 ·exact⟨h.1,h.2⟩
theorem yVN {K:Int} {V:Int→Int→Int} {a:dA} (s:Int) (h:Lv K V a) (hn:yBJ a):yBJ (yaF a s).2:=by
 have c:=h.x.xc;unfold yaO at c;unfold yaF;cases ltb (yL a.2.2.2.2.2.2.2.2.1 s) 0
 ·generalize (nth a.2.2.2.2.2.2.2.2.1 (yL a.2.2.2.2.2.2.2.2.1 s) (0,[])).2=D
  cases hc:(yal a s D !=0)
  ·obtain⟨_,z1,z2,_,z4,_,z6,_⟩:=ytV (bne_eq_false_iff_eq.1 hc)
   obtain⟨_,w2,w3,_⟩:=yIh a s D;have wb:=fun i m i0 i1 m0=>(yRX (s:=s) (d:=D) h.x.xk z4 (by omega) (i:=i) (m:=m) i0 i1 m0).1
   simp only[cond_false];generalize yI a s D=W at w2 w3 wb;have hW:yBJ W.2:=yXs hn w3 w2 wb;cases(W.1==0)
   ·exact hW
   ·exact⟨hW.1,hW.2⟩
  ·exact hn
 ·exact hn
theorem yNE {k:Int}: ∀(n i:Nat) (j:Int) (V:Int→Int→Int) (a:dA),Lv j V a→yBJ a→j+2*n≤k→k≤60000→yBJ (goE yh0 (fun b=>((0:Int),b)) n i a).2
 | 0,_,j,V,a,_,h,_,_=>h
 | n+1,i,j,V,a,h,hn,h1,h2=>by
  have hf:=yUu (nth a.2.2.2.2.2.2.2.2.1 0 (0,[])).1 h (by omega);have hs:=yVN (nth a.2.2.2.2.2.2.2.2.1 0 (0,[])).1 h hn;unfold goE yh0;generalize yaF a (nth a.2.2.2.2.2.2.2.2.1 0 (0,[])).1=F at hf hs;cases hc:(F.1 !=0)
  ·simp only[cond_false]
   cases hd:ya F.2
   ·obtain⟨V1,h3⟩:=hf.1 hd
    exact yNE n (i+1) (j+2) V1 _ h3 hs (by omega) h2
   ·have e:(goE yh0 (fun b=>((0:Int),b)) n (i+1) F.2).2=F.2:=yEz n (i+1) hd
    unfold yh0 at e;rw[e]; exact hs
  ·exact hs
def ytC (k:Int) (a:dA):Prop:=Wk k a∧(∃V,Lv k V a)∧yBJ a
theorem yxt {k j:Int} {a:dA} (h:ytC k a) (hj:k≤j):ytC j a:=⟨ypc h.1 hj,h.2.1.imp fun V g=>yCM g hj,h.2.2⟩
theorem yWp {k:Int} {a:dA} (h:ytC k a) (hk:k+16≤60000):ytC (k+16) (yBP a).2:=by
 obtain⟨hw,⟨V,hl⟩,hn⟩:=h;have w:=yXV hw (by omega);have:=yA4 hl.x.xc.2.2.1 hl.x.xc.1;exact⟨ypc w (by omega),(yXK hl hk).1 w.2.2.1.1,yNE _ 0 k V a hl hn (by omega) hk⟩
theorem yWr {k:Int} {a:dA} {b x:Int} (h:ytC k a) (hb:ybj a.2.1 b=true) (hx:isW x=true):ytC k (yip a b x).2:=by
 obtain⟨hw,⟨V,hl⟩,hn⟩:=h;exact⟨yXZ hw hb hx,⟨V,yXN hl hb hx⟩,yWR hn⟩
theorem yWq {id:Int} {g:dG} (hg:yd g=true) (h1:1≤id) (h2:id≤60000):ytC 0 (ydk id g):=by
 have e:=ytJ hg h1 h2;refine⟨yWs hg h1 h2,⟨_,yXM hg h1 h2⟩,by rw[e],fun i m i0 i1 _=> ?_⟩;have i1:i<g.1:=by rw[e]at i1; exact i1
 unfold yv yd2;rw[yUz hg h1 h2 i0 i1,(yiR id i hg).2.2]; rfl
end
def yTX:Code:=(f80.body).getD .skip
def yUa:Env:=zkw TT [(72,yiJ)] []
theorem yMG:FrOk prog ⟨yUa,12,fun _=>none⟩ yTX:=zkA mixed ye ⟨yq3,trivial⟩
abbrev yxY:List Par:= [.pt tU .fz,.rd tL]
abbrev yyg:List OT:= [⟨false,tI,.fz⟩]
def yim (a0:dU) (a1:List Int):Option (zaY yyg×zak yxY) :=bnd (yaa a0 (a1.length:Int)) fun r1 =>bif(inb r1.1.1 a1.length)then some (((nth a1 r1.1.1 0),()),(r1.2.1,())) else none
theorem yQP:ConOk prog 80 ⟨yxY,yyg,fun x=>yim x.1 x.2.1⟩:=zkI (yMG) func80 ntmps80.symm fun x=>by kernel_rfl
def yCu:Con:=⟨yxY,yyg,fun x=>yim x.1 x.2.1⟩
theorem yTv:ConOk prog 80 yCu:=yQP
theorem yXC (u:List Int×Int×Int) (l:List Int) (h:yr7 u) (hl:l≠ []): ∃(r:Int) (u':List Int×Int×Int),yim u l=some ((r,()),(u',()))∧r∈l∧yr7 u':=by
 unfold yim;obtain⟨r1,u1,e1,q1,d1⟩:=yk7 u (l.length:Int) h;have hp:0<l.length:=List.length_pos_iff.2 hl;have hr:=q1.2.1 (by omega);simp only[e1,zkH,zj6.2 ⟨q1.1,hr⟩,cond_true];refine⟨_,_,rfl,?_,d1⟩;have:r1.toNat<l.length:=by have:=q1.1; omega
 unfold nth;rw[List.getD_eq_getElem?_getD,List.getElem?_eq_getElem this,Option.getD_some];exact List.getElem_mem this
def ySl:Code:=(f120.body).getD .skip
def ySO:Env:=zkw TT [(80,yCu)] []
theorem yJf:FrOk prog ⟨ySO,6,fun _=>none⟩ ySl:=zkA mixed ye ⟨yTv,trivial⟩
abbrev yu9:List Par:= [.pt tU .fz]
abbrev yvA:List OT:= [⟨false,tI,.fz⟩]
def yhc (a0:dU):Option (zaY yvA×zak yu9) :=bnd (yim a0 ([0,1,2,7,255,256,4660,65535]:List Int)) fun r1 =>some ((r1.1.1,()),(r1.2.1,()))
theorem yN2:ConOk prog 120 ⟨yu9,yvA,fun x=>yhc x.1⟩:=zkI (yJf) func120 ntmps120.symm fun x=>by kernel_rfl
def yAV:Con:=⟨yu9,yvA,fun x=>yhc x.1⟩
theorem yRa:ConOk prog 120 yAV:=yN2
theorem yXf (u:List Int×Int×Int) (h:yr7 u): ∃(r:Int) (u':List Int×Int×Int),yhc u=some ((r,()),(u',()))∧yb r 0 65535=true∧yr7 u':=by
 unfold yhc;obtain⟨r1,u1,e1,q1,d1⟩:=yXC u [0,1,2,7,255,256,4660,65535] h (by simp);simp only[e1,zkH];refine⟨_,_,rfl,?_,d1⟩;simp only[List.mem_cons,List.not_mem_nil,or_false]at q1;exact yYc (by omega) (by omega)
def yj1:Code:=(f45.body).getD .skip
def ypA:Env:=zkw TT [(69,yCv),(71,yAW),(72,yiJ),(108,yyN),(115,yAP),(116,yCx),(117,yCz),(118,yCB),(119,ykA),(120,yAV)] []
theorem yE4:FrOk prog ⟨ypA,43,fun _=>none⟩ yj1:=zkA mixed ye ⟨yTw,yRb,yq3,yOs,yQ4,yTy,yTA,yTC,ys2,yRa,trivial⟩
def yv8:Nat→Option Seg:=fun _=>none
def yba:Shape:=⟨[(2,false,[.ptr 0 0]),(4,false,[.ptr 4163 0]),(5,false,[.ptr 8384 0]),(6,false,[.int .i64])],[(0,[.int .i64,.int .i64,.int .i64,.nil,.int .i64,.int .i64,.int .i64,.int .i64,.int .i64,.nil,.int .i64,.bool,.bool]),(4163,[.fz tY,.int .i64,.int .i64]),(8384,[.int .i64,.int .i64,.int .i64,.at 800000000,.int .i64,.int .i64,.int .i64,.int .i64,.int .i64,.at 800000001,.int .i64,.bool,.bool])],[(800000000,tM,(.pr (.ow .fz) (.pr (.ow (.pr .fz .fz)) (.pr .fz (.ow .fz))))),(800000001,tW,(.pr .fz .fz))]⟩
def ydV:Shape:=⟨[(2,false,[.ptr 0 0]),(4,false,[.ptr 4163 0]),(5,false,[.ptr 8384 0]),(6,false,[.int .i64])],[(0,[.int .i64,.int .i64,.int .i64,.nil,.int .i64,.int .i64,.int .i64,.int .i64,.int .i64,.nil,.int .i64,.bool,.bool]),(4163,[.fz tY,.int .i64,.int .i64]),(8384,[.int .i64,.int .i64,.int .i64,.at 800000000,.int .i64,.int .i64,.int .i64,.int .i64,.int .i64,.at 800000001,.int .i64,.bool,.bool])],[(800000000,tM,(.pr (.ow .fz) (.pr (.ow (.pr .fz .fz)) (.pr .fz (.ow .fz))))),(800000001,tW,(.pr .fz .fz))]⟩
def ydN:Shape:=⟨[(2,false,[.ptr 0 0]),(4,false,[.ptr 4163 0]),(5,false,[.ptr 8384 0])],[(0,[.int .i64,.int .i64,.int .i64,.nil,.int .i64,.int .i64,.int .i64,.int .i64,.int .i64,.nil,.int .i64,.bool,.bool]),(4163,[.fz tY,.int .i64,.int .i64]),(8384,[.int .i64,.int .i64,.int .i64,.at 800000000,.int .i64,.int .i64,.int .i64,.int .i64,.int .i64,.at 800000001,.int .i64,.bool,.bool])],[(800000000,tM,(.pr (.ow .fz) (.pr (.ow (.pr .fz .fz)) (.pr .fz (.ow .fz))))),(800000001,tW,(.pr .fz .fz))]⟩
def ygO:Shape:=⟨[],[],[]⟩
abbrev yfR (v0:Int) (v1:dA) (v2:dU) (v3:dA):(yba).X:=((((),()),((),()),((),()),(v0,()),()),((v1.1,v1.2.1.1,v1.2.1.2,(),v1.2.2.2.1,v1.2.2.2.2.1,v1.2.2.2.2.2.1,v1.2.2.2.2.2.2.1,v1.2.2.2.2.2.2.2.1,(),v1.2.2.2.2.2.2.2.2.2.1,v1.2.2.2.2.2.2.2.2.2.2.1,v1.2.2.2.2.2.2.2.2.2.2.2,()),(v2.1,v2.2.1,v2.2.2,()),(v3.1,v3.2.1.1,v3.2.1.2,(),v3.2.2.2.1,v3.2.2.2.2.1,v3.2.2.2.2.2.1,v3.2.2.2.2.2.2.1,v3.2.2.2.2.2.2.2.1,(),v3.2.2.2.2.2.2.2.2.2.1,v3.2.2.2.2.2.2.2.2.2.2.1,v3.2.2.2.2.2.2.2.2.2.2.2,()),()),(v3.2.2.1,v3.2.2.2.2.2.2.2.2.1,()))
abbrev yD8 (v0:Int) (v1:dA) (v2:dU) (v3:dA):(ydV).X:=((((),()),((),()),((),()),(v0,()),()),((v1.1,v1.2.1.1,v1.2.1.2,(),v1.2.2.2.1,v1.2.2.2.2.1,v1.2.2.2.2.2.1,v1.2.2.2.2.2.2.1,v1.2.2.2.2.2.2.2.1,(),v1.2.2.2.2.2.2.2.2.2.1,v1.2.2.2.2.2.2.2.2.2.2.1,v1.2.2.2.2.2.2.2.2.2.2.2,()),(v2.1,v2.2.1,v2.2.2,()),(v3.1,v3.2.1.1,v3.2.1.2,(),v3.2.2.2.1,v3.2.2.2.2.1,v3.2.2.2.2.2.1,v3.2.2.2.2.2.2.1,v3.2.2.2.2.2.2.2.1,(),v3.2.2.2.2.2.2.2.2.2.1,v3.2.2.2.2.2.2.2.2.2.2.1,v3.2.2.2.2.2.2.2.2.2.2.2,()),()),(v3.2.2.1,v3.2.2.2.2.2.2.2.2.1,()))
abbrev yD2 (v0:dA) (v1:dU) (v2:dA):(ydN).X:=((((),()),((),()),((),()),()),((v0.1,v0.2.1.1,v0.2.1.2,(),v0.2.2.2.1,v0.2.2.2.2.1,v0.2.2.2.2.2.1,v0.2.2.2.2.2.2.1,v0.2.2.2.2.2.2.2.1,(),v0.2.2.2.2.2.2.2.2.2.1,v0.2.2.2.2.2.2.2.2.2.2.1,v0.2.2.2.2.2.2.2.2.2.2.2,()),(v1.1,v1.2.1,v1.2.2,()),(v2.1,v2.2.1.1,v2.2.1.2,(),v2.2.2.2.1,v2.2.2.2.2.1,v2.2.2.2.2.2.1,v2.2.2.2.2.2.2.1,v2.2.2.2.2.2.2.2.1,(),v2.2.2.2.2.2.2.2.2.2.1,v2.2.2.2.2.2.2.2.2.2.2.1,v2.2.2.2.2.2.2.2.2.2.2.2,()),()),(v2.2.2.1,v2.2.2.2.2.2.2.2.2.1,()))
def yfS (v0 v1 v2 v3 v4 v5 v6 v7 v8 v9:Int) (v10 v11:Bool) (v12:List Int) (v13 v14 v15 v16 v17 v18 v19 v20 v21 v22 v23:Int) (v24 v25:Bool) (v26:List dM) (v27:List dW):Option ((yba).X ⊕ ((ydN).X ⊕ (ygO).X)) :=bif(ltb 0 v0)then bnd (yaa (v12,v13,v14) 3) fun r12 =>bif(r12.1.1==0)then bnd (yq0 (v15,(v16,v17),v26,v18,v19,v20,v21,v22,v27,v23,v24,v25)) fun r13 =>some (.inl ((((),()),((),()),((),()),((i64.wrap (v0-1)),()),()),((v1,v2,v3,(),v4,v5,v6,v7,v8,(),v9,v10,v11,()),(r12.2.1.1,r12.2.1.2.1,r12.2.1.2.2,()),(r13.2.1.1,r13.2.1.2.1.1,r13.2.1.2.1.2,(),r13.2.1.2.2.2.1,r13.2.1.2.2.2.2.1,r13.2.1.2.2.2.2.2.1,r13.2.1.2.2.2.2.2.2.1,r13.2.1.2.2.2.2.2.2.2.1,(),r13.2.1.2.2.2.2.2.2.2.2.2.1,r13.2.1.2.2.2.2.2.2.2.2.2.2.1,r13.2.1.2.2.2.2.2.2.2.2.2.2.2,()),()),(r13.2.1.2.2.1,r13.2.1.2.2.2.2.2.2.2.2.1,()))) else let r14:=yn (v16,v17);bnd (yaa r12.2.1 r14) fun r15 =>bnd (yhc r15.2.1) fun r16 =>bnd (yq2 (v15,(v16,v17),v26,v18,v19,v20,v21,v22,v27,v23,v24,v25) r15.1.1 r16.1.1) fun r17 =>some (.inl ((((),()),((),()),((),()),((i64.wrap (v0-1)),()),()),((v1,v2,v3,(),v4,v5,v6,v7,v8,(),v9,v10,v11,()),(r16.2.1.1,r16.2.1.2.1,r16.2.1.2.2,()),(r17.2.1.1,r17.2.1.2.1.1,r17.2.1.2.1.2,(),r17.2.1.2.2.2.1,r17.2.1.2.2.2.2.1,r17.2.1.2.2.2.2.2.1,r17.2.1.2.2.2.2.2.2.1,r17.2.1.2.2.2.2.2.2.2.1,(),r17.2.1.2.2.2.2.2.2.2.2.2.1,r17.2.1.2.2.2.2.2.2.2.2.2.2.1,r17.2.1.2.2.2.2.2.2.2.2.2.2.2,()),()),(r17.2.1.2.2.1,r17.2.1.2.2.2.2.2.2.2.2.1,()))) else some (.inr (.inl ((((),()),((),()),((),()),()),((v1,v2,v3,(),v4,v5,v6,v7,v8,(),v9,v10,v11,()),(v12,v13,v14,()),(v15,v16,v17,(),v18,v19,v20,v21,v22,(),v23,v24,v25,()),()),(v26,v27,()))))
def yaL (x:(yba).X):=yfS x.1.2.2.2.1.1 x.2.1.1.1 x.2.1.1.2.1 x.2.1.1.2.2.1 x.2.1.1.2.2.2.2.1 x.2.1.1.2.2.2.2.2.1 x.2.1.1.2.2.2.2.2.2.1 x.2.1.1.2.2.2.2.2.2.2.1 x.2.1.1.2.2.2.2.2.2.2.2.1 x.2.1.1.2.2.2.2.2.2.2.2.2.2.1 x.2.1.1.2.2.2.2.2.2.2.2.2.2.2.1 x.2.1.1.2.2.2.2.2.2.2.2.2.2.2.2.1 x.2.1.2.1.1 x.2.1.2.1.2.1 x.2.1.2.1.2.2.1 x.2.1.2.2.1.1 x.2.1.2.2.1.2.1 x.2.1.2.2.1.2.2.1 x.2.1.2.2.1.2.2.2.2.1 x.2.1.2.2.1.2.2.2.2.2.1 x.2.1.2.2.1.2.2.2.2.2.2.1 x.2.1.2.2.1.2.2.2.2.2.2.2.1 x.2.1.2.2.1.2.2.2.2.2.2.2.2.1 x.2.1.2.2.1.2.2.2.2.2.2.2.2.2.2.1 x.2.1.2.2.1.2.2.2.2.2.2.2.2.2.2.2.1 x.2.1.2.2.1.2.2.2.2.2.2.2.2.2.2.2.2.1 x.2.2.1 x.2.2.2.1
def yrC (x:(ydV).X):(yba).X:=((((),()),((),()),((),()),(x.1.2.2.2.1.1,()),()),((x.2.1.1.1,x.2.1.1.2.1,x.2.1.1.2.2.1,(),x.2.1.1.2.2.2.2.1,x.2.1.1.2.2.2.2.2.1,x.2.1.1.2.2.2.2.2.2.1,x.2.1.1.2.2.2.2.2.2.2.1,x.2.1.1.2.2.2.2.2.2.2.2.1,(),x.2.1.1.2.2.2.2.2.2.2.2.2.2.1,x.2.1.1.2.2.2.2.2.2.2.2.2.2.2.1,x.2.1.1.2.2.2.2.2.2.2.2.2.2.2.2.1,()),(x.2.1.2.1.1,x.2.1.2.1.2.1,x.2.1.2.1.2.2.1,()),(x.2.1.2.2.1.1,x.2.1.2.2.1.2.1,x.2.1.2.2.1.2.2.1,(),x.2.1.2.2.1.2.2.2.2.1,x.2.1.2.2.1.2.2.2.2.2.1,x.2.1.2.2.1.2.2.2.2.2.2.1,x.2.1.2.2.1.2.2.2.2.2.2.2.1,x.2.1.2.2.1.2.2.2.2.2.2.2.2.1,(),x.2.1.2.2.1.2.2.2.2.2.2.2.2.2.2.1,x.2.1.2.2.1.2.2.2.2.2.2.2.2.2.2.2.1,x.2.1.2.2.1.2.2.2.2.2.2.2.2.2.2.2.2.1,()),()),(x.2.2.1,x.2.2.2.1,()))
def ytS:Code:=(zd7 yj1 64 244).getD .skip
theorem yEx:zd7 yj1 64 61=some (.block 0 (.loop ytS)):=by kernel_rfl
theorem yFT (x:(yba).X):zhu ⟨ypA,43,yv8⟩ 0 ytS 244 yba ydN ygO x=yaL x:=by kernel_rfl
def yrL (x:(ydV).X):Nat:=18446744073709551616
def ykU (x:(ydV).X):Option ((ydN).X ⊕ (ygO).X):=zF yaL (yrL x) (yrC x)
def yr1:Seg:=⟨ydV,ydN,ygO,ykU⟩
def yGj:Nat→Option Seg:=fun q=>bif Nat.beq q 61 then some yr1 else yv8 q
theorem yE5:FrOk prog ⟨ypA,43,yGj⟩ yj1:=(yE4).loop (sg:=yr1) yba yrC (by decide) yEx yaL yrL (by decide) (fun _=>rfl) (fun x r _ h=>h) yFT
abbrev yp2:List Par:= [.kp tYs .fz]
abbrev yqo:List OT:= [⟨false,tA,(.pr .fz (.pr (.pr .fz .fz) (.pr (.ow (.pr (.ow .fz) (.pr (.ow (.pr .fz .fz)) (.pr .fz (.ow .fz))))) (.pr .fz (.pr .fz (.pr .fz (.pr .fz (.pr .fz (.pr (.ow (.pr .fz .fz)) (.pr .fz (.pr .fz .fz)))))))))))⟩,⟨false,tI,.fz⟩]
def yeR (a0:List Int):Option (zaY yqo×zak yp2) :=let r1:=yie a0;bnd (yio r1) fun r2 =>let r3:=yjo 1 r2.1.1;let r4:=ydb a0 12;bnd (yaa r2.2.1 (i64.wrap (8+r4))) fun r5 =>zkt (ykU ((((),()),((),()),((),()),(r5.1.1,()),()),((0,0,0,(),0,0,0,0,0,(),0,false,false,()),(r5.2.1.1,r5.2.1.2.1,r5.2.1.2.2,()),(r3.1,r3.2.1.1,r3.2.1.2,(),r3.2.2.2.1,r3.2.2.2.2.1,r3.2.2.2.2.2.1,r3.2.2.2.2.2.2.1,r3.2.2.2.2.2.2.2.1,(),r3.2.2.2.2.2.2.2.2.2.1,r3.2.2.2.2.2.2.2.2.2.2.1,r3.2.2.2.2.2.2.2.2.2.2.2,()),()),(r3.2.2.1,r3.2.2.2.2.2.2.2.2.1,()))) (fun y17 =>bnd (yaa (y17.2.1.2.1.1,y17.2.1.2.1.2.1,y17.2.1.2.1.2.2.1) y17.2.1.2.2.1.2.1) fun r19 =>bnd (ymj (y17.2.1.2.2.1.1,(y17.2.1.2.2.1.2.1,y17.2.1.2.2.1.2.2.1),y17.2.2.1,y17.2.1.2.2.1.2.2.2.2.1,y17.2.1.2.2.1.2.2.2.2.2.1,y17.2.1.2.2.1.2.2.2.2.2.2.1,y17.2.1.2.2.1.2.2.2.2.2.2.2.1,y17.2.1.2.2.1.2.2.2.2.2.2.2.2.1,y17.2.2.2.1,y17.2.1.2.2.1.2.2.2.2.2.2.2.2.2.2.1,y17.2.1.2.2.1.2.2.2.2.2.2.2.2.2.2.2.1,y17.2.1.2.2.1.2.2.2.2.2.2.2.2.2.2.2.2.1) r19.1.1) fun r20 =>bnd (yaa r19.2.1 30) fun r21 =>some ((r20.2.1,r21.1.1,()),())) (fun y17 =>none)
theorem yHI:ConOk prog 45 ⟨yp2,yqo,fun x=>yeR x.1⟩:=zkI (yE5) func45 ntmps45.symm fun x=>by kernel_rfl
def yww:Con:=⟨yp2,yqo,fun x=>yeR x.1⟩
theorem yK4:ConOk prog 45 yww:=yHI
theorem yIN: ∀(n:Nat) (k:Int) (a:dA) (u:dU) (fuel:Nat),n<fuel→n≤1000→yr7 u→ytC k a→k+16*n≤60000 →
  ∃(a':dA) (u':dU),zF yaL fuel (yfR n ydf u a)=some (.inl (yD2 ydf u' a'))∧yr7 u'∧ytC (k+16*n) a'
 | 0,k,a,u,fuel+1,_,_,hu,h,_=>⟨a,u,by simp only[zF,yaL,yfR,yfS]; rfl,hu,yxt h (by omega)⟩
 | n+1,k,a,u,fuel+1,hf,hn,hu,h,hk=>by
  have hc:=h.1.1;have hg:=yl.1 hc.1;have hd:=yA4 hc.2.2.1 hc.1;obtain⟨r,u1,e1,q1,d1⟩:=yk7 u 3 hu;cases hr:(r==0)
  ·obtain⟨b,u2,e2,q2,d2⟩:=yk7 u1 (yn a.2.1) d1
   obtain⟨x,u3,e3,q3,d3⟩:=yXf u2 d2;have hx:isW x=true:=by rw[ycN]at q3; exact q3
   have hbl:0<yn a.2.1:=by
    rw[yC6 hc.1];exact Int.mul_pos (by omega) (by omega)
   have hb:ybj a.2.1 b=true:=by
    have:=q2.2.1 hbl;unfold ybj;rw[zk2 q2.1,zk2 (show b≤yn a.2.1-1 by omega)]; rfl
   obtain⟨a',u',e4,d4,h4⟩:=yIN n k (yip a b x).2 u3 fuel (by omega) (by omega) d3 (yWr h hb hx) (by omega);refine⟨a',u',?_,d4,yxt h4 (by omega)⟩;rw[← e4,zF]
   simp only[yaL,yfR,yfS,zky (show(0:Int)<((n+1:Nat):Int)by omega),cond_true,zkX,e1,zkH,hr,cond_false,e2,e3,show((n+1:Nat):Int)-1=(n:Int)by omega,wq ((n:Int)) (by omega) (by omega),
    yTF a b x (by unfold ylr; rw[yPL.2 ⟨hc,h.1.2.1⟩,hb]; exact decide_eq_true (show a.2.2.2.2.2.2.2.2.1.length≤1000 by omega)),ylo]
  ·obtain⟨a',u',e4,d4,h4⟩:=yIN n (k+16) (yBP a).2 u1 fuel (by omega) (by omega) d1 (yWp h (by omega)) (by omega)
   refine⟨a',u',?_,d4,yxt h4 (by omega)⟩;rw[← e4,zF]
   simp only[yaL,yfR,yfS,zky (show(0:Int)<((n+1:Nat):Int)by omega),cond_true,zkX,e1,zkH,hr,show((n+1:Nat):Int)-1=(n:Int)by omega,wq ((n:Int)) (by omega) (by omega),
    yTD a (decide_eq_true (show a.2.2.2.2.2.2.2.2.1.length≤1000 by omega)),yln]
structure Gone (K:Int) (V:Int→Int→Int) (a:dA):Prop where
 w:Wk K a
 l:Lv K V a
 m:inb a.2.2.2.1 a.2.2.1.length=true
 f:yr a a.2.2.2.1=true
 b: ∀i m,0≤i→i<a.2.1.1→6≤m→yv a i m=false
theorem yV4 {K m:Int} {a:dA} (h:ytC K a) (hm:inb m a.2.2.1.length=true) (hk:K+1≤60000): ∃V,Gone (K+1) V (yap a m):=by
 obtain⟨hw,⟨V,hl⟩,hn⟩:=h;have hmi:=zj6.1 hm;have hlen:=hl.x.xk.1.2;have w:=yXx hw hn.1 hm hk;have lv:=(yXo hl hn.1 hm hk).1 w.2.2.1.1;obtain⟨c1,c2,_⟩:=yEF hl.x (.inl hn.1) hk (m:=m);have hx:=ytF hl.x (.inl hn.1) hm;have ht:=ylI (yay hx.xk);have hd: ∀i,0≤i→yh (yA a m) i=bif m==i then ydr (yh a m)else yh a i:=fun i i0=>yt1 m _ hm i0
 have hmod:(i64.wrap ((yA a m).2.2.2.2.2.2.2.1+1)).tmod 2<2:=Int.tmod_lt_of_pos _ (by omega);have hl2:(yap a m).2.2.1.length=a.2.2.1.length:=by have e1:=w.2.1.1.2; rw[c1]at e1; omega
 rw[ysV hl.x (.inl hn.1) hk]at w lv c1 c2 hl2 ⊢;refine⟨V,w,lv,by rw[c2,hl2]; exact hm,?_,fun i n i0 i1 n0=> ?_⟩
 ·rw[c2,ht.f m hmi.1 (by show m<a.2.1.1; omega)]
  unfold yr;rw[hd m hmi.1,beq_self_eq_true]; rfl
 ·rw[c1]at i1
  rw[ht.b i n i0 i1 (by omega)];unfold yv;rw[hd i i0];by_cases e:m=i
  ·subst e; rw[beq_self_eq_true]; exact hn.2 m n i0 i1 n0
  ·rw[show(m==i)=false from beq_eq_false_iff_ne.2 e]; exact hn.2 i n i0 i1 n0
theorem yUW (a0:List Int) (hb:a0.length≤140737488355328): ∃(a:dA) (n:Int) (V:Int→Int→Int),yeR a0=some ((a,n,()),())∧Gone 400 V a∧0≤n∧n<30:=by
 unfold yeR;obtain⟨h1,h2⟩:=yXg a0 12 (by omega) hb;obtain⟨g,u1,e1,q1,d1⟩:=yWC _ (yXD a0 hb);have hg:=yl.1 q1;obtain⟨r,u2,e2,q2,d2⟩:=yk7 u1 (8+ydb a0 12) d1;have:=q2.1; have:=q2.2.1 (by omega);obtain⟨a,u3,e3,d3,h3⟩:=yIN r.toNat 0 (ydk 1 g) u2 18446744073709551616 (by omega) (by omega) d2 (yWq q1 (by omega) (by omega)) (by omega);rw[show((r.toNat:Nat):Int)=r by omega]at e3;have hc:=h3.1.1;have hga:=yl.1 hc.1;have hka:=h3.1.2.1.1.2;obtain⟨m,u4,e4,q4,d4⟩:=yk7 u3 a.2.1.1 d3;have hm:inb m a.2.2.1.length=true:=zj6.2 ⟨q4.1,by have:=q4.2.1 (by omega); omega⟩;obtain⟨n,u5,e5,q5,d5⟩:=yk7 u4 30 d4;obtain⟨V,hG⟩:=yV4 (yxt h3 (show(0:Int)+16*(r.toNat:Int)≤399 by omega)) hm (by omega);simp only[e1,zkH,yjo,wq (8+ydb a0 12) (by omega) (by omega),e2];refine⟨yap a m,n,V,?_,hG,q5.1,q5.2.1 (by omega)⟩;refine(congrArg (fun z=>zkt z _ _) (show ykU (yD8 r ydf u2 (ydk 1 g))=_ from e3)).trans ?_;simp only[zkN,zkX,e4,zkH,yOz a m hm,yid,e5]
theorem yV5 {K:Int} {V:Int→Int→Int} {a:dA} (h:Gone K V a):yEo a:=fun s s0 s1=>yF7 (zj6.1 h.m).1 fun i i0 i1 hi=>by
 refine yV6 hi ?_ (h.b i (s+6) i0 i1 (by omega));cases hf:yr a i
 ·rfl
 ·exact absurd (yTL h.l.x i0 i1 hf) hi
theorem yVU {K:Int} {V:Int→Int→Int} {a:dA} (h:Lv K V a) (hm:inb a.2.2.2.1 a.2.2.1.length=true) (hf0:yr a a.2.2.2.1=true) (hnd: ∀i m,0≤i→i<a.2.1.1→6≤m→yv a i m=false) (hk:K+3≤59990) :
  (ycc a).1.1=a.1∧(ycc a).1.2.1=a.2.1∧(ycc a).1.2.2.2.2.2.2.2.2.1=a.2.2.2.2.2.2.2.2.1∧yad (ycc a).1∧(∀i,0≤i→i<a.2.1.1→yr (ycc a).1 i=false)∧(∀i m,0≤i→i<a.2.1.1→6≤m→yv (ycc a).1 i m=false) ∧
   Can (K+3) (fun W _=>W=V) (ycc a).1∧(ya1 a→(ycc a).2=0∧Gd (K+3) V (ycc a).1∧(ycc a).1.2.2.2.1= -1∧ya1 (ycc a).1):=by
 have hg:=yl.1 h.x.xc.1;have hmi:=zj6.1 hm;have hlen:=h.x.xk.1.2;obtain⟨b1,b2⟩:=yW0 h hm hf0 hnd (by omega);unfold ycc;generalize yas a=S at b1 b2;have fin: ∀{J:Int} {r:dA},Bld J V a r→ya r=true→J≤K+3→Can (K+3) (fun W _=>W=V) r:=fun g hd hj=>yIK (yVV (g.bd hd)) hj fun W L hW=>hW.1
 rcases b2 with⟨k1,k2,k3,k4⟩ | ⟨k1,k2⟩
 ·rw[show(S.2 !=0)=false from bne_eq_false_iff_eq.2 k1,cond_false]
  have hl2:S.1.2.2.1.length=a.2.2.1.length:=by have e1:=b1.bk.1.2; rw[b1.bs.cg]at e1; omega
  have hm2:inb S.1.2.2.2.1 S.1.2.2.1.length=true:=by rw[b1.bs.cl,hl2]; exact hm
  obtain⟨c1,c2⟩:=yXb 8 S.1 k2 k3 hm2 (by rw[b1.bs.cg,k4]; omega);have cc:=yRA b1 c1;rw[b1.bs.cg]at c2;generalize yee 8 S.1=T at c2 cc;rcases c2 with⟨j1,j2,j3,j4⟩ | ⟨j1,j2⟩
  ·rw[show(T.2 !=0)=false from bne_eq_false_iff_eq.2 j1,cond_false]
   have hl3:T.1.2.2.1.length=a.2.2.1.length:=by have e1:=cc.bk.1.2; rw[cc.bs.cg]at e1; omega
   obtain⟨a1,a2,a3,a4,a5,a6,a7,a8,a9⟩:=yWy j2 (by rw[cc.bs.cl,hl3]; exact hm) (by rw[cc.bs.cg]; exact j4) (by omega);rw[cc.bs.cg]at a5 a6;refine⟨a1.trans cc.bs.ci,a2.trans cc.bs.cg,a3.trans cc.bs.cd,a4,a5,a6,yIK (a7 j3) (by omega) fun W L hW=>hW.1,fun hf=> ?_⟩;have d4:=a8 (cc.bf hf);obtain⟨d1,d2,d3⟩:=a9 d4.1;exact⟨d1,⟨yCL d2.x (by omega),d2.fd,d2.nd⟩,d3,d4⟩
  ·rw[show(T.2 !=0)=true from bne_iff_ne.2 j1]
   refine⟨cc.bs.ci,cc.bs.cg,cc.bs.cd,cc.bk,cc.ba,cc.bn,fin cc j2 (by omega),fun hf=> ?_⟩;have:=(cc.bf hf).1;rw[j2]at this; cases this
 ·rw[show(S.2 !=0)=true from bne_iff_ne.2 k1]
  refine⟨b1.bs.ci,b1.bs.cg,b1.bs.cd,b1.bk,b1.ba,b1.bn,fin b1 k2 (by omega),fun hf=> ?_⟩;have:=(b1.bf hf).1;rw[k2]at this; cases this
def yR3:Code:=(f111.body).getD .skip
def ySw:Env:=zkw TT [(81,yO)] []
theorem yIQ:FrOk prog ⟨ySw,9,fun _=>none⟩ yR3:=zkA mixed ye ⟨yX,trivial⟩
abbrev yuY:List Par:= [.rd tI]
abbrev yvg:List OT:= [⟨false,tI,.fz⟩]
def yBk (a0:Int):Option (zaY yvg×zak yuY) :=let r1:=yg a0 0 1099511627776;bif(!r1)then some (((-1),()),()) else some (((i64.wrap ((i64.wrap (a0+2))+4)),()),())
theorem yNH:ConOk prog 111 ⟨yuY,yvg,fun x=>yBk x.1⟩:=zkI (yIQ) func111 ntmps111.symm fun x=>by kernel_rfl
def yji (a0:Int):Int :=let r1:=yg a0 0 1099511627776;bif(!r1)then (-1) else (i64.wrap ((i64.wrap (a0+2))+4))
def yqA:Con:=⟨yuY,yvg,fun x=>(fun n=>some ((n,()),())) (yji x.1)⟩
theorem yP3 (a0:Int):yBk a0=(fun n=>some ((n,()),())) (yji a0):=zkV (p:=fun(n:Int)=>((n,()),())) (zkG (p:=fun(n:Int)=>((n,()),())) rfl rfl)
theorem yCP:ConOk prog 111 yqA:=(yNH).mono (fun x r _ h=>(yP3 x.1).trans h)
theorem yCJ (s:Int):yji s=yz s:=ymq s
def yf2:Code:=(f201.body).getD .skip
def ykM:Env:=zkw TT [] []
theorem yCE:FrOk prog ⟨ykM,19,fun _=>none⟩ yf2:=zkA mixed ye trivial
def ypp:Nat→Option Seg:=fun _=>none
def yaB:Shape:=⟨[(0,false,[.br tI]),(1,false,[.int .i64]),(7,false,[.int .i64]),(8,false,[.int .i64])],[],[]⟩
def ycg:Shape:=⟨[(0,false,[.br tI]),(1,false,[.int .i64]),(7,false,[.int .i64]),(8,false,[.ci .i64 0])],[],[]⟩
def yce:Shape:=⟨[],[],[]⟩
def yci:Shape:=⟨[(4,false,[.int .i64])],[],[]⟩
abbrev yhi (v0:List Int) (v1 v2 v3:Int):(yaB).X:=(((v0,()),(v1,()),(v2,()),(v3,()),()),(),())
abbrev yBY (v0:List Int) (v1 v2:Int):(ycg).X:=(((v0,()),(v1,()),(v2,()),((),()),()),(),())
abbrev yBW  :(yce).X:=((),(),())
abbrev yno (v0:Int):(yci).X:=(((v0,()),()),(),())
def yhl (v0:List Int) (v1 v2 v3:Int):Option ((yaB).X ⊕ ((yce).X ⊕ (yci).X)) :=bif(ltb v3 v2)then bif(inb v3 v0.length)then bif(v1==(nth v0 v3 0))then some (.inr (.inr (((v3,()),()),(),()))) else some (.inl (((v0,()),(v1,()),(v2,()),((i64.wrap (v3+1)),()),()),(),())) else none else some (.inr (.inl ((),(),())))
def yaI (x:(yaB).X):=yhl x.1.1.1 x.1.2.1.1 x.1.2.2.1.1 x.1.2.2.2.1.1
def ynk (x:(ycg).X):(yaB).X:=(((x.1.1.1,()),(x.1.2.1.1,()),(x.1.2.2.1.1,()),(0,()),()),(),())
def yo6:Code:=(zd7 yf2 64 52).getD .skip
theorem yCh:zd7 yf2 64 13=some (.block 0 (.loop yo6)):=by kernel_rfl
theorem yCY (x:(yaB).X):zhu ⟨ykM,19,ypp⟩ 0 yo6 52 yaB yce yci x=yaI x:=by kernel_rfl
def ynm (x:(ycg).X):Nat:=18446744073709551616
def yhG (x:(ycg).X):Option ((yce).X ⊕ (yci).X):=zF yaI (ynm x) (ynk x)
def yns:Seg:=⟨ycg,yce,yci,yhG⟩
def yC7:Nat→Option Seg:=fun q=>bif Nat.beq q 13 then some yns else ypp q
theorem yCF:FrOk prog ⟨ykM,19,yC7⟩ yf2:=(yCE).loop (sg:=yns) yaB ynk (by decide) yCh yaI ynm (by decide) (fun _=>rfl) (fun x r _ h=>h) yCY
abbrev yf8:List Par:= [.rd tL,.rd tI]
abbrev yk1:List OT:= [⟨false,tI,.fz⟩]
def yiX (a0:List Int) (a1:Int):Option (zaY yk1×zak yf8) :=zkt (yhG (((a0,()),(a1,()),((a0.length:Int),()),((),()),()),(),())) (fun y0 =>some (((-1),()),())) (fun y0 =>some ((y0.1.1.1,()),()))
theorem yDu:ConOk prog 201 ⟨yf8,yk1,fun x=>yiX x.1 x.2.1⟩:=zkI (yCF) func201 ntmps201.symm fun x=>by kernel_rfl
def yPW (l:List Int) (x:Int):Int:=bif l.any (· ==x)then((l.takeWhile (· !=x)).length:Int)else -1
def yd6 (a0:List Int) (a1:Int):Int:=yPW a0 a1
theorem yVH {A B α:Type} {step:A→Option (A ⊕ B)} (l:List α) (d:α) (f:Nat→A) (p:α→Bool) (b:Nat→B) (c:B)
  (h: ∀i,i<l.length→step (f i)=some (bif p (l.getD i d)then .inr (b i)else .inl (f (i+1)))) (e:step (f l.length)=some (.inr c)) (fuel:Nat) (hf:l.length<fuel) :
  zF step fuel (f 0)=some (bif l.any p then b (l.takeWhile (fun x=> !p x)).length else c):=by
 have: ∀(t q:List α) (fuel:Nat),q++t=l→t.length<fuel→zF step fuel (f q.length)=some (bif t.any p then b (q.length+(t.takeWhile (fun x=> !p x)).length)else c):=by
  intro t
  induction t with
  | nil =>
   intro q fuel hq hf;obtain⟨fuel,rfl⟩: ∃m,fuel=m+1:=⟨fuel-1,by omega⟩;rw[List.append_nil]at hq;subst hq;simp only[zF,e,List.any_nil,cond_false]
  | cons x t ih =>
   intro q fuel hq hf;obtain⟨fuel,rfl⟩: ∃m,fuel=m+1:=⟨fuel-1,by omega⟩
   have hx:l.getD q.length d=x:=by
    subst hq;rw[zkJ (by simp)]; simp
   have hs:=h q.length (by rw[← hq]; simp);rw[hx]at hs;cases hp:p x
   ·rw[hp]at hs
    have:=ih (q++ [x]) fuel (by rw[← hq]; simp) (by simp at hf; omega);simp only[List.length_append,List.length_cons,List.length_nil]at this;simp only[zF,hs,cond_false];simp only[List.any_cons,hp,Bool.false_or,List.takeWhile_cons,Bool.not_false,if_true,List.length_cons];rw[show q.length+((t.takeWhile (fun x=> !p x)).length+1)=q.length+(0+1)+(t.takeWhile (fun x=> !p x)).length by omega];exact this
   ·rw[hp]at hs
    simp only[zF,hs,cond_true,List.any_cons,hp,Bool.true_or,List.takeWhile_cons,Bool.not_true,Bool.false_eq_true,if_false,List.length_nil,Nat.add_zero]
 have:=this l [] fuel rfl hf;simpa using this
theorem yEc (a0:List Int) (a1:Int) (hk:zjx yf8 (a0,a1,())):yiX a0 a1=(fun n=>some ((n,()),())) (yd6 a0 a1):=by
 have hb:a0.length*8≤2^47:=hk.1.1
 have h1:yhG (yBY a0 a1 a0.length)=some (bif a0.any (· ==a1)then .inr (yno ((a0.takeWhile (fun x=> !(x==a1))).length:Int))else .inl yBW) :=
  yVH (step:=yaI) a0 0 (fun i=>yhi a0 a1 a0.length i) (· ==a1) (fun i=> .inr (yno (i:Int))) _ (fun i hi=>by
   simp only[yaI,yhi,yhl,zky (show(i:Int)<a0.length by omega),cond_true,wq ((i:Int)+1) (by omega) (by omega),Int.natCast_add,Int.natCast_one,Int.toNat_natCast,zkR hi,zkS];rw[show(a1==a0.getD i 0)=(a0.getD i 0==a1)by rw[Bool.eq_iff_iff,beq_iff_eq,beq_iff_eq]; exact eq_comm]
   cases(a0.getD i 0==a1)<;>rfl) (by simp only[yaI,yhi,yhl,zk3 (Int.le_refl _),cond_false]) _ (by show _<18446744073709551616; omega)
 unfold yiX yd6 yPW;rw[h1];cases a0.any (· ==a1)<;>rfl
def yqF:Con:=⟨yf8,yk1,fun x=>(fun n=>some ((n,()),())) (yd6 x.1 x.2.1)⟩
theorem yEh:ConOk prog 201 yqF:=(yDu).mono (fun x r hk h=>(yEc x.1 x.2.1 hk).trans h)
def yB3:Code:=(f157.body).getD .skip
def yCg:Env:=zkw TT [(201,yqF)] []
theorem yza:FrOk prog ⟨yCg,9,fun _=>none⟩ yB3:=zkA mixed ye ⟨yEh,trivial⟩
abbrev yeb:List Par:= [.rd tL,.rd tI]
abbrev yhW:List OT:= [⟨false,tB,.fz⟩]
def yfV (a0:List Int) (a1:Int):Option (zaY yhW×zak yeb) :=let r1:=yd6 a0 a1;some (((leb 0 r1),()),())
theorem yAh:ConOk prog 157 ⟨yeb,yhW,fun x=>yfV x.1 x.2.1⟩:=zkI (yza) func157 ntmps157.symm fun x=>by kernel_rfl
def ycm (a0:List Int) (a1:Int):Bool:=a0.any (· ==a1)
theorem yB0 (a0:List Int) (a1:Int) (hk:zjx yeb (a0,a1,())):yfV a0 a1=(fun n=>some ((n,()),())) (ycm a0 a1):=by
 unfold yfV ycm yd6 yPW;cases a0.any (· ==a1)
 ·rfl
 ·simp only[cond_true]
  rw[zk2 (show(0:Int)≤((a0.takeWhile (· !=a1)).length:Int)by omega)]
def yms:Con:=⟨yeb,yhW,fun x=>(fun n=>some ((n,()),())) (ycm x.1 x.2.1)⟩
theorem yB1:ConOk prog 157 yms:=(yAh).mono (fun x r hk h=>(yB0 x.1 x.2.1 hk).trans h)
def ylK:Code:=(f87.body).getD .skip
def yr8:Env:=zkw TT [(127,yh2),(156,yky),(157,yms),(158,ybD)] []
theorem yGA:FrOk prog ⟨yr8,49,fun _=>none⟩ ylK:=zkA mixed ye ⟨ynY,ys1,yB1,ydu,trivial⟩
def yxy:Nat→Option Seg:=fun _=>none
def ybv:Shape:=⟨[(1,false,[.int .i64]),(6,false,[.br tI]),(34,false,[.br tW]),(35,false,[.int .i64]),(36,false,[.int .i64])],[],[]⟩
def yeE:Shape:=⟨[(1,false,[.int .i64]),(6,false,[.br tI]),(34,false,[.br tW]),(35,false,[.int .i64]),(36,false,[.ci .i64 0])],[],[]⟩
def yev:Shape:=⟨[(6,false,[.br tI])],[],[]⟩
def yht:Shape:=⟨[],[],[]⟩
abbrev ylc (v0:Int) (v1:List Int) (v2:List dW) (v3 v4:Int):(ybv).X:=(((v0,()),(v1,()),(v2,()),(v3,()),(v4,()),()),(),())
abbrev yFo (v0:Int) (v1:List Int) (v2:List dW) (v3:Int):(yeE).X:=(((v0,()),(v1,()),(v2,()),(v3,()),((),()),()),(),())
abbrev yut (v0:List Int):(yev).X:=(((v0,()),()),(),())
def ylx (v0:Int) (v1:List Int) (v2:List dW) (v3 v4:Int):Option ((ybv).X ⊕ ((yev).X ⊕ (yht).X)) :=bif(ltb v4 v3)then bif(inb v4 v2.length)then bif((nth v2 v4 (0,[])).1==v0)then some (.inl (((v0,()),((nth v2 v4 (0,[])).2,()),(v2,()),(v3,()),((i64.wrap (v4+1)),()),()),(),())) else some (.inl (((v0,()),(v1,()),(v2,()),(v3,()),((i64.wrap (v4+1)),()),()),(),())) else none else some (.inr (.inl (((v1,()),()),(),())))
def ybM (x:(ybv).X):=ylx x.1.1.1 x.1.2.1.1 x.1.2.2.1.1 x.1.2.2.2.1.1 x.1.2.2.2.2.1.1
def yt3 (x:(yeE).X):(ybv).X:=(((x.1.1.1,()),(x.1.2.1.1,()),(x.1.2.2.1.1,()),(x.1.2.2.2.1.1,()),(0,()),()),(),())
def ywb:Code:=(zd7 ylK 64 244).getD .skip
theorem yGo:zd7 ylK 64 61=some (.block 0 (.loop ywb)):=by kernel_rfl
theorem yHW (x:(ybv).X):zhu ⟨yr8,49,yxy⟩ 0 ywb 244 ybv yev yht x=ybM x:=by kernel_rfl
def yug (x:(yeE).X):Nat:=18446744073709551616
def ymu (x:(yeE).X):Option ((yev).X ⊕ (yht).X):=zF ybM (yug x) (yt3 x)
def yuD:Seg:=⟨yeE,yev,yht,ymu⟩
def yIn:Nat→Option Seg:=fun q=>bif Nat.beq q 61 then some yuD else yxy q
theorem yGB:FrOk prog ⟨yr8,49,yIn⟩ ylK:=(yGA).loop (sg:=yuD) ybv yt3 (by decide) yGo ybM yug (by decide) (fun _=>rfl) (fun x r _ h=>h) yHW
abbrev ylT:List Par:= [.rd tM,.rd tI]
abbrev ysw:List OT:= [⟨false,tL,(.ow .fz)⟩,⟨false,tB,.fz⟩]
def yoC (a0:dM) (a1:Int):Option (zaY ysw×zak ylT) :=let r1:=ybe a0;bif(!(!r1))then bif(!a0.2.2.1)then let r2:=ybh a0 a1;bif(!(!r2))then let r3:=ycm a0.2.2.2 a1;bif r3 then some (([],false,()),()) else bif(inb a1 a0.1.length)then zkt (ymu (((a1,()),((nth a0.1 a1 []),()),(a0.2.1,()),((a0.2.1.length:Int),()),((),()),()),(),())) (fun y3 =>let r5:=yC y3.1.1.1;some ((r5,true,()),())) (fun y3 =>none) else none else some (([],false,()),()) else some (([],false,()),()) else some (([],false,()),())
theorem yKv:ConOk prog 87 ⟨ylT,ysw,fun x=>yoC x.1 x.2.1⟩:=zkI (yGB) func87 ntmps87.symm fun x=>by kernel_rfl
def yh7 (a0:dM) (a1:Int):List Int×Bool:=yf1 a0 a1
theorem yNh (a0:dM) (a1:Int) (hk:zjx ylT (a0,a1,())):yoC a0 a1=(fun n=>some ((n.1,n.2,()),())) (yh7 a0 a1):=by
 have hb1:a0.1.length*24≤2^47:=hk.1.1.1;have hb2:a0.2.1.length*32≤2^47:=hk.1.2.1.1
 have h1: ∀s,ymu (yFo a1 s a0.2.1 a0.2.1.length)=some (.inl (yut (yfG a1 a0.2.1 s))):=fun s =>
  zkx (step:=ybM) a0.2.1 (0,[]) (fun i s=>ylc a1 s a0.2.1 a0.2.1.length i) (fun s w=>bif w.1==a1 then w.2 else s) (fun _ _=>True) (fun s=> .inl (yut s)) (fun i s hi _=>⟨by
   simp only[ybM,ylc,ylx,zky (show(i:Int)<a0.2.1.length by omega),cond_true,wq ((i:Int)+1) (by omega) (by omega),Int.natCast_add,Int.natCast_one,Int.toNat_natCast,zkR hi,zkS]
   cases((a0.2.1.getD i (0,[])).1==a1)<;>rfl,trivial⟩) (fun s _=>by simp only[ybM,ylc,ylx,zk3 (Int.le_refl _),cond_false]) s trivial _ (by show _<18446744073709551616; omega)
 unfold yoC yh7 yf1 yxv ybh;rw[yan,yje (show a0.1.length≤1152921504606846976 by omega)];unfold ybe ycm yC;simp only[h1,zkN];cases yD a0
 ·rfl
 cases a0.2.2.1
 ·cases inb a1 a0.1.length
  ·rfl
  ·cases a0.2.2.2.any (· ==a1)<;>rfl
 ·rfl
def yyC:Con:=⟨ylT,ysw,fun x=>(fun n=>some ((n.1,n.2,()),())) (yh7 x.1 x.2.1)⟩
theorem yOg:ConOk prog 87 yyC:=(yKv).mono (fun x r hk h=>(yNh x.1 x.2.1 hk).trans h)
def yR5:Code:=(f168.body).getD .skip
def ySy:Env:=zkw TT [(81,yO)] []
theorem yIU:FrOk prog ⟨ySy,34,fun _=>none⟩ yR5:=zkA mixed ye ⟨yX,trivial⟩
abbrev ynD:List Par:= [.rd tA,.rd tI,.rd tI]
abbrev yvj:List OT:= [⟨false,tB,.fz⟩]
def yq7 (a0:dA) (a1 a2:Int):Option (zaY yvj×zak ynD) :=let r1:=yg a1 0 (i64.wrap ((a0.2.2.1.length:Int)-1));bif r1 then bif(inb a1 a0.2.2.1.length)then bif(!((((nth a0.2.2.1 a1 ([],[],false,[])).2).2).1))then bif(!(a0.2.2.2.1 !=a1))then some (((ltb a2 a0.2.2.2.2.1),()),()) else some ((true,()),()) else some ((false,()),()) else none else some ((false,()),())
theorem yNK:ConOk prog 168 ⟨ynD,yvj,fun x=>yq7 x.1 x.2.1 x.2.2.1⟩:=zkI (yIU) func168 ntmps168.symm fun x=>by kernel_rfl
def yjl (a0:dA) (a1 a2:Int):Bool:=yck a0 a1 a2
theorem yP6 (a0:dA) (a1 a2:Int) (hk:zjx ynD (a0,a1,a2,())):yq7 a0 a1 a2=(fun n=>some ((n,()),())) (yjl a0 a1 a2):=by
 have hb:a0.2.2.1.length*80≤2^47:=hk.1.2.2.1.1;unfold yq7 yjl yck yf;rw[yan,yje (show a0.2.2.1.length≤1152921504606846976 by omega),bne_comm];cases inb a1 a0.2.2.1.length
 ·rfl
 ·cases(nth a0.2.2.1 a1 ([],[],false,[])).2.2.1<;>cases(a1 !=a0.2.2.2.1)<;>rfl
def yAL:Con:=⟨ynD,yvj,fun x=>(fun n=>some ((n,()),())) (yjl x.1 x.2.1 x.2.2.1)⟩
theorem yQ0:ConOk prog 168 yAL:=(yNK).mono (fun x r hk h=>(yP6 x.1 x.2.1 x.2.2.1 hk).trans h)
def ySd:Code:=(f141.body).getD .skip
def ySG:Env:=zkw TT [(87,yyC),(111,yqA),(168,yAL)] []
theorem yI2:FrOk prog ⟨ySG,38,fun _=>none⟩ ySd:=zkA mixed ye ⟨yOg,yCP,yQ0,trivial⟩
abbrev yi5:List Par:= [.rd tA,.rd tI,.rd tI]
abbrev ynO:List OT:= [⟨false,tI,.fz⟩,⟨false,tB,.fz⟩]
def yq9 (a0:dA) (a1 a2:Int):Option (zaY ynO×zak yi5) :=bif(inb a1 a0.2.2.1.length)then let r1:=yji a2;let r2:=yh7 ((nth a0.2.2.1 a1 ([],[],false,[])).1,((nth a0.2.2.1 a1 ([],[],false,[])).2).1,(((nth a0.2.2.1 a1 ([],[],false,[])).2).2)) r1;let r3:=yjl a0 a1 a2;bif(!(!r3))then bif(!(!r2.2))then bif((r2.1.length:Int) !=1)then some ((0,false,()),()) else bif(inb 0 r2.1.length)then some (((nth r2.1 0 0),true,()),()) else none else some ((0,false,()),()) else some ((0,false,()),()) else none
theorem yNS:ConOk prog 141 ⟨yi5,ynO,fun x=>yq9 x.1 x.2.1 x.2.2.1⟩:=zkI (yI2) func141 ntmps141.symm fun x=>by kernel_rfl
def yfY (a0:dA) (a1 a2:Int):Int×Bool:=(yhn a0 a1 a2,yw a0 a1 a2)
def yvT (a0:dA) (a1 a2:Int):Bool:=inb a1 a0.2.2.1.length
theorem yQe (a0:dA) (a1 a2:Int) (hk:zjx yi5 (a0,a1,a2,())) (hq:yvT a0 a1 a2=true):yq9 a0 a1 a2=(fun n=>some ((n.1,n.2,()),())) (yfY a0 a1 a2):=by
 unfold yq9 yfY yhn yjl;simp only[zkX,yCJ,yh7];rw[show yw a0 a1 a2=(yck a0 a1 a2&&((ycv a0 a1 a2).2&&((ycv a0 a1 a2).1.length:Int)==1))from rfl];rw[show yf1 (nth a0.2.2.1 a1 ([],[],false,[])) (yz a2)=ycv a0 a1 a2 from rfl];rw[show inb a1 a0.2.2.1.length=true from hq];cases hl:yck a0 a1 a2
 ·rfl
 ·cases(ycv a0 a1 a2).2
  ·rfl
  ·rw[bne]
   cases h1:(((ycv a0 a1 a2).1.length:Int)==1)
   ·rfl
   ·rw[show inb 0 (ycv a0 a1 a2).1.length=true from zj6.2 (by have:=beq_iff_eq.1 h1; omega)]; rfl
def yjt (a0:dA) (a1 a2:Int):Option (zaY ynO×zak yi5):=bif yvT a0 a1 a2 then(fun n=>some ((n.1,n.2,()),())) (yfY a0 a1 a2)else none
theorem yCX (a0:dA) (a1 a2:Int) (h:yvT a0 a1 a2=true):yjt a0 a1 a2=(fun n=>some ((n.1,n.2,()),())) (yfY a0 a1 a2):=by unfold yjt; rw[h]; rfl
def yqE:Con:=⟨yi5,ynO,fun x=>yjt x.1 x.2.1 x.2.2.1⟩
theorem yCS:ConOk prog 141 yqE:=(yNS).mono (fun x r hk h=>zkY h (fun hq=>yQe x.1 x.2.1 x.2.2.1 hk hq))
def ypi:Code:=(f185.body).getD .skip
def yxM:Env:=zkw TT [] []
theorem yMt:FrOk prog ⟨yxM,17,fun _=>none⟩ ypi:=zkA mixed ye trivial
def yB8:Nat→Option Seg:=fun _=>none
def ycC:Shape:=⟨[(3,false,[.int .i64]),(6,false,[.br tI]),(7,false,[.int .i64]),(8,false,[.int .i64])],[],[]⟩
def ygv:Shape:=⟨[(3,false,[.ci .i64 0]),(6,false,[.br tI]),(7,false,[.int .i64]),(8,false,[.ci .i64 0])],[],[]⟩
def ygg:Shape:=⟨[(3,false,[.int .i64])],[],[]⟩
def yko:Shape:=⟨[],[],[]⟩
abbrev yor (v0:Int) (v1:List Int) (v2 v3:Int):(ycC).X:=(((v0,()),(v1,()),(v2,()),(v3,()),()),(),())
abbrev yJQ (v0:List Int) (v1:Int):(ygv).X:=((((),()),(v0,()),(v1,()),((),()),()),(),())
abbrev yzu (v0:Int):(ygg).X:=(((v0,()),()),(),())
def yoW (v0:Int) (v1:List Int) (v2 v3:Int):Option ((ycC).X ⊕ ((ygg).X ⊕ (yko).X)) :=bif(ltb v3 v2)then bif(inb v3 v1.length)then some (.inl ((((i64.wrap ((BitVec.ofInt IntKind.i64.bits v0 ^^^ BitVec.ofInt IntKind.i64.bits (nth v1 v3 0)).toNat:Int)),()),(v1,()),(v2,()),((i64.wrap (v3+1)),()),()),(),())) else none else some (.inr (.inl (((v0,()),()),(),())))
def yc0 (x:(ycC).X):=yoW x.1.1.1 x.1.2.1.1 x.1.2.2.1.1 x.1.2.2.2.1.1
def yy0 (x:(ygv).X):(ycC).X:=(((0,()),(x.1.2.1.1,()),(x.1.2.2.1.1,()),(0,()),()),(),())
def yAz:Code:=(zd7 ypi 64 116).getD .skip
theorem yL1:zd7 ypi 64 29=some (.block 0 (.loop yAz)):=by kernel_rfl
theorem yOJ (x:(ycC).X):zhu ⟨yxM,17,yB8⟩ 0 yAz 116 ycC ygg yko x=yc0 x:=by kernel_rfl
def yzg (x:(ygv).X):Nat:=18446744073709551616
def ypH (x:(ygv).X):Option ((ygg).X ⊕ (yko).X):=zF yc0 (yzg x) (yy0 x)
def yz0:Seg:=⟨ygv,ygg,yko,ypH⟩
def yPh:Nat→Option Seg:=fun q=>bif Nat.beq q 29 then some yz0 else yB8 q
theorem yMu:FrOk prog ⟨yxM,17,yPh⟩ ypi:=(yMt).loop (sg:=yz0) ycC yy0 (by decide) yL1 yc0 yzg (by decide) (fun _=>rfl) (fun x r _ h=>h) yOJ
abbrev ypY:List Par:= [.rd tL]
abbrev yx8:List OT:= [⟨false,tI,.fz⟩]
def yti (a0:List Int):Option (zaY yx8×zak ypY) :=zkt (ypH ((((),()),(a0,()),((a0.length:Int),()),((),()),()),(),())) (fun y0 =>some ((y0.1.1.1,()),())) (fun y0 =>none)
theorem yQH:ConOk prog 185 ⟨ypY,yx8,fun x=>yti x.1⟩:=zkI (yMu) func185 ntmps185.symm fun x=>by kernel_rfl
def yfC (a0:List Int):Int:=ya0 a0
theorem yS5 (a0:List Int) (hk:zjx ypY (a0,())):yti a0=(fun n=>some ((n,()),())) (yfC a0):=by
 have hb:a0.length*8≤2^47:=hk.1.1
 have h1:ypH (yJQ a0 a0.length)=some (.inl (yzu (ya0 a0))) :=
  zkx (step:=yc0) a0 0 (fun i s=>yor s a0 a0.length i) xw (fun _ _=>True) (fun s=> .inl (yzu s)) (fun i s hi _=>⟨by
   simp only[yc0,yor,yoW,zky (show(i:Int)<a0.length by omega),cond_true,wq ((i:Int)+1) (by omega) (by omega),Int.natCast_add,Int.natCast_one,Int.toNat_natCast,zkR hi,zkS]; rfl,trivial⟩) (fun s _=>by simp only[yc0,yor,yoW,zk3 (Int.le_refl _),cond_false]) 0 trivial _ (by show _<18446744073709551616; omega)
 unfold yti yfC;rw[h1]; rfl
def ysT:Con:=⟨ypY,yx8,fun x=>(fun n=>some ((n,()),())) (yfC x.1)⟩
theorem yDN:ConOk prog 185 ysT:=(yQH).mono (fun x r hk h=>(yS5 x.1 hk).trans h)
def yEl:Code:=(f191.body).getD .skip
def yEn:Env:=zkw TT [(81,yO),(185,ysT)] []
theorem yCD:FrOk prog ⟨yEn,20,fun _=>none⟩ yEl:=zkA mixed ye ⟨yX,yDN,trivial⟩
abbrev yf7:List Par:= [.rd tL,.rd tI]
abbrev yk0:List OT:= [⟨false,tI,.fz⟩]
def yiW (a0:List Int) (a1:Int):Option (zaY yk0×zak yf7) :=let r1:=yfC a0;let r2:=yg a1 0 (i64.wrap ((a0.length:Int)-1));bif r2 then bif(inb a1 a0.length)then some (((i64.wrap ((BitVec.ofInt IntKind.i64.bits r1 ^^^ BitVec.ofInt IntKind.i64.bits (nth a0 a1 0)).toNat:Int)),()),()) else none else some ((r1,()),())
theorem yDt:ConOk prog 191 ⟨yf7,yk0,fun x=>yiW x.1 x.2.1⟩:=zkI (yCD) func191 ntmps191.symm fun x=>by kernel_rfl
def yd5 (a0:List Int) (a1:Int):Int:=yla a0 a1
theorem yEb (a0:List Int) (a1:Int) (hk:zjx yf7 (a0,a1,())):yiW a0 a1=(fun n=>some ((n,()),())) (yd5 a0 a1):=by
 have hb:a0.length*8≤2^47:=hk.1.1;unfold yiW yd5 yla yfC;rw[yan,yje (show a0.length≤1152921504606846976 by omega)];cases inb a1 a0.length<;>rfl
def yqB:Con:=⟨yf7,yk0,fun x=>(fun n=>some ((n,()),())) (yd5 x.1 x.2.1)⟩
theorem yEg:ConOk prog 191 yqB:=(yDt).mono (fun x r hk h=>(yEb x.1 x.2.1 hk).trans h)
def ypg:Code:=(f138.body).getD .skip
def yxK:Env:=zkw TT [(55,ycj),(109,yd3),(141,yqE),(191,yqB)] []
theorem yMp:FrOk prog ⟨yxK,62,fun _=>none⟩ ypg:=zkA mixed ye ⟨yer,yhD,yCS,yEg,trivial⟩
def yB6:Nat→Option Seg:=fun _=>none
def yb3:Shape:=⟨[(1,false,[.int .i64]),(2,false,[.ptr 0 0]),(6,false,[.at 800000000]),(7,false,[.int .i64]),(28,false,[.int .i64]),(29,false,[.int .i64])],[(0,[.int .i64,.int .i64,.int .i64,.br tM,.int .i64,.int .i64,.int .i64,.int .i64,.int .i64,.br tW,.int .i64,.bool,.bool])],[(800000000,tI,.fz)]⟩
def yfh:Shape:=⟨[(1,false,[.int .i64]),(2,false,[.ptr 0 0]),(6,false,[.at 800000000]),(7,false,[.ci .i64 (-1)]),(28,false,[.int .i64]),(29,false,[.ci .i64 0])],[(0,[.int .i64,.int .i64,.int .i64,.br tM,.int .i64,.int .i64,.int .i64,.int .i64,.int .i64,.br tW,.int .i64,.bool,.bool])],[(800000000,tI,.fz)]⟩
def ye7:Shape:=⟨[(6,false,[.at 800000000]),(7,false,[.int .i64])],[],[(800000000,tI,.fz)]⟩
def yfq:Shape:=⟨[(4,false,[.nil]),(5,false,[.bool])],[],[]⟩
abbrev ymM (v0 v1 v2 v3:Int) (v4:dA) (v5:List Int):(yb3).X:=(((v0,()),((),()),((),()),(v1,()),(v2,()),(v3,()),()),((v4.1,v4.2.1.1,v4.2.1.2,v4.2.2.1,v4.2.2.2.1,v4.2.2.2.2.1,v4.2.2.2.2.2.1,v4.2.2.2.2.2.2.1,v4.2.2.2.2.2.2.2.1,v4.2.2.2.2.2.2.2.2.1,v4.2.2.2.2.2.2.2.2.2.1,v4.2.2.2.2.2.2.2.2.2.2.1,v4.2.2.2.2.2.2.2.2.2.2.2,()),()),(v5,()))
abbrev yHc (v0 v1:Int) (v2:dA) (v3:List Int):(yfh).X:=(((v0,()),((),()),((),()),((),()),(v1,()),((),()),()),((v2.1,v2.2.1.1,v2.2.1.2,v2.2.2.1,v2.2.2.2.1,v2.2.2.2.2.1,v2.2.2.2.2.2.1,v2.2.2.2.2.2.2.1,v2.2.2.2.2.2.2.2.1,v2.2.2.2.2.2.2.2.2.1,v2.2.2.2.2.2.2.2.2.2.1,v2.2.2.2.2.2.2.2.2.2.2.1,v2.2.2.2.2.2.2.2.2.2.2.2,()),()),(v3,()))
abbrev yG8 (v0:Int) (v1:List Int):(ye7).X:=((((),()),(v0,()),()),(),(v1,()))
abbrev yHk (v0:Bool):(yfq).X:=((((),()),(v0,()),()),(),())
def ync (v0 v1 v2 v3 v4 v5 v6:Int) (v7:List dM) (v8 v9 v10 v11 v12:Int) (v13:List dW) (v14:Int) (v15 v16:Bool) (v17:List Int):Option ((yb3).X ⊕ ((ye7).X ⊕ (yfq).X)) :=bif(ltb v3 v2)then bnd (yjt (v4,(v5,v6),v7,v8,v9,v10,v11,v12,v13,v14,v15,v16) v3 v0) fun r4 =>bif(!r4.1.2.1)then bif(leb 0 v1)then some (.inr (.inr ((((),()),(false,()),()),(),()))) else bif(!r4.1.2.1)then bif(zkl v17.length ([r4.1.1]:List Int).length 8)then some (.inl (((v0,()),((),()),((),()),(v3,()),(v2,()),((i64.wrap (v3+1)),()),()),((v4,v5,v6,v7,v8,v9,v10,v11,v12,v13,v14,v15,v16,()),()),((v17++([r4.1.1]:List Int)),()))) else none else bif(zkl v17.length ([r4.1.1]:List Int).length 8)then some (.inl (((v0,()),((),()),((),()),(v1,()),(v2,()),((i64.wrap (v3+1)),()),()),((v4,v5,v6,v7,v8,v9,v10,v11,v12,v13,v14,v15,v16,()),()),((v17++([r4.1.1]:List Int)),()))) else none else bif(!r4.1.2.1)then bif(zkl v17.length ([r4.1.1]:List Int).length 8)then some (.inl (((v0,()),((),()),((),()),(v3,()),(v2,()),((i64.wrap (v3+1)),()),()),((v4,v5,v6,v7,v8,v9,v10,v11,v12,v13,v14,v15,v16,()),()),((v17++([r4.1.1]:List Int)),()))) else none else bif(zkl v17.length ([r4.1.1]:List Int).length 8)then some (.inl (((v0,()),((),()),((),()),(v1,()),(v2,()),((i64.wrap (v3+1)),()),()),((v4,v5,v6,v7,v8,v9,v10,v11,v12,v13,v14,v15,v16,()),()),((v17++([r4.1.1]:List Int)),()))) else none else some (.inr (.inl ((((),()),(v1,()),()),(),(v17,()))))
def ycn (x:(yb3).X):=ync x.1.1.1 x.1.2.2.2.1.1 x.1.2.2.2.2.1.1 x.1.2.2.2.2.2.1.1 x.2.1.1.1 x.2.1.1.2.1 x.2.1.1.2.2.1 x.2.1.1.2.2.2.1 x.2.1.1.2.2.2.2.1 x.2.1.1.2.2.2.2.2.1 x.2.1.1.2.2.2.2.2.2.1 x.2.1.1.2.2.2.2.2.2.2.1 x.2.1.1.2.2.2.2.2.2.2.2.1 x.2.1.1.2.2.2.2.2.2.2.2.2.1 x.2.1.1.2.2.2.2.2.2.2.2.2.2.1 x.2.1.1.2.2.2.2.2.2.2.2.2.2.2.1 x.2.1.1.2.2.2.2.2.2.2.2.2.2.2.2.1 x.2.2.1
def ywB (x:(yfh).X):(yb3).X:=(((x.1.1.1,()),((),()),((),()),((-1),()),(x.1.2.2.2.2.1.1,()),(0,()),()),((x.2.1.1.1,x.2.1.1.2.1,x.2.1.1.2.2.1,x.2.1.1.2.2.2.1,x.2.1.1.2.2.2.2.1,x.2.1.1.2.2.2.2.2.1,x.2.1.1.2.2.2.2.2.2.1,x.2.1.1.2.2.2.2.2.2.2.1,x.2.1.1.2.2.2.2.2.2.2.2.1,x.2.1.1.2.2.2.2.2.2.2.2.2.1,x.2.1.1.2.2.2.2.2.2.2.2.2.2.1,x.2.1.1.2.2.2.2.2.2.2.2.2.2.2.1,x.2.1.1.2.2.2.2.2.2.2.2.2.2.2.2.1,()),()),(x.2.2.1,()))
def yyq:Code:=(zd7 ypg 64 500).getD .skip
theorem yIB:zd7 ypg 64 125=some (.block 0 (.loop yyq)):=by kernel_rfl
theorem yLa (x:(yb3).X):zhu ⟨yxK,62,yB6⟩ 0 yyq 500 yb3 ye7 yfq x=ycn x:=by kernel_rfl
def ywK (x:(yfh).X):Nat:=18446744073709551616
def yn4 (x:(yfh).X):Option ((ye7).X ⊕ (yfq).X):=zF ycn (ywK x) (ywB x)
def yw4:Seg:=⟨yfh,ye7,yfq,yn4⟩
def yPf:Nat→Option Seg:=fun q=>bif Nat.beq q 125 then some yw4 else yB6 q
theorem yMq:FrOk prog ⟨yxK,62,yPf⟩ ypg:=(yMp).loop (sg:=yw4) yb3 ywB (by decide) yIB ycn ywK (by decide) (fun _=>rfl) (fun x r _ h=>h) yLa
abbrev ypW:List Par:= [.rd tA,.rd tI]
abbrev yx6:List OT:= [⟨false,tL,(.ow .fz)⟩,⟨false,tB,.fz⟩]
def ytg (a0:dA) (a1:Int):Option (zaY yx6×zak ypW) :=let r1:=yT a0;bif(!(!r1))then bif(!a0.2.2.2.2.2.2.2.2.2.2.2)then let r2:=yaK a0.2.1 a1;bif(!r2)then some (([],false,()),()) else zkt (yn4 (((a1,()),((),()),((),()),((),()),((a0.2.2.1.length:Int),()),((),()),()),((a0.1,a0.2.1.1,a0.2.1.2,a0.2.2.1,a0.2.2.2.1,a0.2.2.2.2.1,a0.2.2.2.2.2.1,a0.2.2.2.2.2.2.1,a0.2.2.2.2.2.2.2.1,a0.2.2.2.2.2.2.2.2.1,a0.2.2.2.2.2.2.2.2.2.1,a0.2.2.2.2.2.2.2.2.2.2.1,a0.2.2.2.2.2.2.2.2.2.2.2,()),()),(([]:List Int),()))) (fun y4 =>bif(leb 0 y4.1.2.1.1)then let r6:=yd5 y4.2.2.1 y4.1.2.1.1;bif(inb y4.1.2.1.1 y4.2.2.1.length)then some (((y4.2.2.1.set (y4.1.2.1.1).toNat r6),true,()),()) else none else some ((y4.2.2.1,true,()),())) (fun y4 =>some (([],y4.1.2.1.1,()),())) else some (([],false,()),()) else some (([],false,()),())
theorem yQF:ConOk prog 138 ⟨ypW,yx6,fun x=>ytg x.1 x.2.1⟩:=zkI (yMq) func138 ntmps138.symm fun x=>by kernel_rfl
def yfA (a0:dA) (a1:Int):List Int×Bool:=bif yR a0&&(!a0.2.2.2.2.2.2.2.2.2.2.2&&y5 a0.2.1 a1)then yF a0 a1 else([],false)
theorem yS3 (a0:dA) (a1:Int) (hk:zjx ypW (a0,a1,())):ytg a0 a1=(fun n=>some ((n.1,n.2,()),())) (yfA a0 a1):=by
 unfold ytg yfA yT;rw[yBT];cases ha:yR a0
 ·rfl
 have hg:=yl.1 (yd1 ha);have hl:=yEA ha
 have h1:yn4 (yHc a1 a0.2.2.1.length a0 [])=some (bif ydE (fun(i:Nat)=>yw a0 i a1) a0.2.1.1.toNat then .inr (yHk false)else .inl (yG8 (yB (fun(i:Nat)=>yw a0 i a1) a0.2.1.1.toNat) (yY a0 a1 a0.2.1.1.toNat))) :=
  zji (step:=ycn) (fun i=>ymM a1 (yB (fun(i:Nat)=>yw a0 i a1) i) a0.2.2.1.length i a0 (yY a0 a1 i)) a0.2.1.1.toNat (fun i=> !yw a0 i a1&&leb 0 (yB (fun(i:Nat)=>yw a0 i a1) i)) _ _ (fun i hi=>by
   simp only[ycn,ymM,ync,zky (show(i:Int)<a0.2.2.1.length by omega),cond_true,wq ((i:Int)+1) (by omega) (by omega),Int.natCast_add,Int.natCast_one,Int.toNat_natCast,zkX,yCX a0 i a1 (zkR (show i<a0.2.2.1.length by omega)),yfY,zkH,yB];rw[zkF.2 (show((yY a0 a1 i).length+ [yhn a0 i a1].length)*8≤140737488355328 by simp only[List.length_cons,List.length_nil,yd9]; omega),yDR]
   cases yw a0 i a1<;>cases leb 0 (yB (fun(i:Nat)=>yw a0 i a1) i)<;>rfl) (by simp only[ycn,ymM,ync,zk3 (show(a0.2.2.1.length:Int)≤(a0.2.1.1.toNat:Int)by omega),cond_false]) _ (by show _<18446744073709551616; omega)
 rw[h1];cases a0.2.2.2.2.2.2.2.2.2.2.2
 ·cases y5 a0.2.1 a1
  ·rfl
  ·unfold yF
   cases ydE (fun(i:Nat)=>yw a0 i a1) a0.2.1.1.toNat
   ·simp only[cond_false,zkN,yd5]
    cases hm:leb 0 (yB (fun(i:Nat)=>yw a0 i a1) a0.2.1.1.toNat)
    ·rfl
    ·obtain⟨h2,h3⟩:=yRT a0 a1 a0.2.1.1.toNat hm
     rw[h2,h3]; rfl
   ·rfl
 ·rfl
def ysR:Con:=⟨ypW,yx6,fun x=>(fun n=>some ((n.1,n.2,()),())) (yfA x.1 x.2.1)⟩
theorem yDL:ConOk prog 138 ysR:=(yQF).mono (fun x r hk h=>(yS3 x.1 x.2.1 hk).trans h)
def yIk:Code:=(f63.body).getD .skip
def yIy:Env:=zkw TT [(55,ycj),(95,yft),(111,yqA),(138,ysR),(139,yk4)] []
theorem yDW:FrOk prog ⟨yIy,73,fun _=>none⟩ yIk:=zkA mixed ye ⟨yer,ykH,yCP,yDL,ywY,trivial⟩
abbrev yiz:List Par:= [.rd tA]
abbrev yoe:List OT:= [⟨false,tA,(.pr .fz (.pr (.pr .fz .fz) (.pr (.ow (.pr (.ow (.ow .fz)) (.pr (.ow (.pr .fz (.ow .fz))) (.pr .fz (.ow .fz))))) (.pr .fz (.pr .fz (.pr .fz (.pr .fz (.pr .fz (.pr (.ow (.pr .fz (.ow .fz))) (.pr .fz (.pr .fz .fz)))))))))))⟩,⟨false,tI,.fz⟩]
def ylu (a0:dA):Option (zaY yoe×zak yiz) :=let r1:=yaD a0;let r2:=yT a0;bif(!r2)then some ((r1,1,()),()) else bif a0.2.2.2.2.2.2.2.2.2.2.1 then some ((r1,6,()),()) else bif(!(a0.2.2.2.1==(-1)))then bif(inb a0.2.2.2.1 a0.2.2.1.length)then bif(!((((nth a0.2.2.1 a0.2.2.2.1 ([],[],false,[])).2).2).1))then bif(a0.2.2.2.2.1==a0.2.1.2)then some ((r1,2,()),()) else let r3:=yfA a0 a0.2.2.2.2.1;bif(!(!r3.2))then bif a0.2.2.2.2.2.2.2.2.2.2.2 then some ((r1,5,()),()) else let r4:=yji a0.2.2.2.2.1;bif(inb a0.2.2.2.1 r3.1.length)then bnd (yfH r1 a0.2.2.2.1 r4 ([(nth r3.1 a0.2.2.2.1 0)]:List Int)) fun r5 =>bif(!r5.1.1)then some ((r5.2.1,6,()),()) else some (((r5.2.1.1,r5.2.1.2.1,r5.2.1.2.2.1,r5.2.1.2.2.2.1,(i64.wrap (r5.2.1.2.2.2.2.1+1)),r5.2.1.2.2.2.2.2),0,()),()) else none else some ((r1,5,()),()) else some ((r1,2,()),()) else none else some ((r1,2,()),())
theorem yFD:ConOk prog 63 ⟨yiz,yoe,fun x=>ylu x.1⟩:=zkI (yDW) func63 ntmps63.symm fun x=>by kernel_rfl
def yfy (a0:dA):dA×Int:=ybc a0
theorem yHp (a0:dA) (hk:zjx yiz (a0,())):ylu a0=(fun n=>some ((n.1,n.2,()),())) (yfy a0):=by
 unfold ylu yfy ybc;simp only[yaD,yT,yfA,yCJ];cases ha:yR a0
 ·rfl
 have hg:=yl.1 (yd1 ha);have hb:=yRy ha;cases hd:ya a0
 ·rw[show a0.2.2.2.2.2.2.2.2.2.2.1=false from hd]
  cases hl:(a0.2.2.2.1== -1)
  ·have hi:=yPZ ha (beq_eq_false_iff_ne.1 hl)
   have hS:leb a0.2.1.2 a0.2.2.2.2.1=(a0.2.2.2.2.1==a0.2.1.2):=by rw[Bool.eq_iff_iff,zj7,beq_iff_eq]; omega
   rw[hi,hS];cases(nth a0.2.2.1 a0.2.2.2.1 yf).2.2.1
   ·cases hbs:(a0.2.2.2.2.1==a0.2.1.2)
    ·have hne:=beq_eq_false_iff_ne.1 hbs
     cases hbr:a0.2.2.2.2.2.2.2.2.2.2.2
     ·rw[yab.2 (show yd a0.2.1=true∧0≤a0.2.2.2.2.1∧a0.2.2.2.2.1≤a0.2.1.2-1 from⟨yd1 ha,by omega,by omega⟩)]
      simp only[Bool.not_false,Bool.not_true,Bool.and_self,cond_true,cond_false,Bool.false_or,Bool.or_false];unfold yac;cases hw:(yF a0 a0.2.2.2.2.1).2
      ·rfl
      ·rw[yF0 hw,yWL ha (beq_eq_false_iff_ne.1 hl),ywZ a0 a0.2.2.2.1 (yz a0.2.2.2.2.1) [nth (yF a0 a0.2.2.2.2.1).1 a0.2.2.2.1 0] (by unfold ydv; rw[hi,hd]; rfl)]
       simp only[zkH,ydt];show(bif !(!(ya (yZ a0)))then some ((yZ a0,6,()),())else some ((yUM (yZ a0),0,()),()))=_;cases ya (yZ a0)<;>rfl
     ·rfl
    ·rfl
   ·rfl
  ·rfl
 ·rw[show a0.2.2.2.2.2.2.2.2.2.2.1=true from hd]; rfl
def ytX:Con:=⟨yiz,yoe,fun x=>(fun n=>some ((n.1,n.2,()),())) (yfy x.1)⟩
theorem yHR:ConOk prog 63 ytX:=(yFD).mono (fun x r hk h=>(yHp x.1 hk).trans h)
def yIi:Code:=(f99.body).getD .skip
def yIw:Env:=zkw TT [(107,yeP),(165,ymI)] []
theorem yDU:FrOk prog ⟨yIw,15,fun _=>none⟩ yIi:=zkA mixed ye ⟨yiT,yzD,trivial⟩
abbrev ye5:List Par:= [.pt tA (.pr .fz (.pr (.pr .fz .fz) (.pr (.ow (.pr (.ow (.ow .fz)) (.pr (.ow (.pr .fz (.ow .fz))) (.pr .fz (.ow .fz))))) (.pr .fz (.pr .fz (.pr .fz (.pr .fz (.pr .fz (.pr (.ow (.pr .fz (.ow .fz))) (.pr .fz (.pr .fz .fz)))))))))))]
abbrev yiB:List OT:= [⟨false,tB,.fz⟩]
def yls (a0:dA):Option (zaY yiB×zak ye5) :=bnd (yha a0) fun r1 =>bif(!r1.1.1)then some ((false,()),(r1.2.1,())) else bnd (yV (r1.2.1.1,r1.2.1.2.1,r1.2.1.2.2.1,r1.2.1.2.2.2.1,r1.2.1.2.2.2.2.1,r1.2.1.2.2.2.2.2.1,r1.2.1.2.2.2.2.2.1,r1.2.1.2.2.2.2.2.2.2)) fun r2 =>some ((r2.1.1,()),(r2.2.1,()))
theorem yFB:ConOk prog 99 ⟨ye5,yiB,fun x=>yls x.1⟩:=zkI (yDU) func99 ntmps99.symm fun x=>by kernel_rfl
def yiQ (a0:dA):Bool×dA:=(!(ya (yi a0)),yi a0)
def yiV (a0:dA):Bool:= !(ya a0)
theorem yHn (a0:dA) (hk:zjx ye5 (a0,())) (hq:yiV a0=true):yls a0=(fun n=>some ((n.1,()),(n.2,()))) (yiQ a0):=by
 unfold yls yiQ yi;rw[yzI a0 hq];simp only[zkH,ygW];cases hd:ya (yc a0)
 ·have hm:yV (yH (yc a0))=some ((!(ya (yj (yH (yc a0)))),()),(yj (yH (yc a0)),())):=yiU (yH (yc a0)) (by unfold ybI; rw[show ya (yH (yc a0))=ya (yc a0)from rfl,hd]; rfl)
  exact(congrArg (fun z=>bnd z _) hm).trans rfl
 ·simp only[Bool.not_true,Bool.not_false,cond_true]
  rw[hd]; rfl
def yiS (a0:dA):Option (zaY yiB×zak ye5):=bif yiV a0 then(fun n=>some ((n.1,()),(n.2,()))) (yiQ a0)else none
theorem yHU (a0:dA) (h:yiV a0=true):yiS a0=(fun n=>some ((n.1,()),(n.2,()))) (yiQ a0):=by unfold yiS; rw[h]; rfl
def ytW:Con:=⟨ye5,yiB,fun x=>yiS x.1⟩
theorem yHQ:ConOk prog 99 ytW:=(yFB).mono (fun x r hk h=>zkY h (fun hq=>yHn x.1 hk hq))
def yR8:Code:=(f131.body).getD .skip
def ySB:Env:=zkw TT [] []
theorem yIX:FrOk prog ⟨ySB,4,fun _=>none⟩ yR8:=zkA mixed ye trivial
abbrev yu0:List Par:= [.rd tB]
abbrev yvm:List OT:= [⟨false,tI,.fz⟩]
def yBm (a0:Bool):Option (zaY yvm×zak yu0) :=bif a0 then some ((0,()),()) else some ((6,()),())
theorem yNN:ConOk prog 131 ⟨yu0,yvm,fun x=>yBm x.1⟩:=zkI (yIX) func131 ntmps131.symm fun x=>by kernel_rfl
def yeo (a0:Bool):Int :=bif a0 then 0 else 6
def yqC:Con:=⟨yu0,yvm,fun x=>(fun n=>some ((n,()),())) (yeo x.1)⟩
theorem yP9 (a0:Bool):yBm a0=(fun n=>some ((n,()),())) (yeo a0):=zkV (p:=fun(n:Int)=>((n,()),())) (zkG (p:=fun(n:Int)=>((n,()),())) rfl rfl)
theorem yCQ:ConOk prog 131 yqC:=(yNN).mono (fun x r _ h=>(yP9 x.1).trans h)
def yTO:Code:=(f64.body).getD .skip
def yT1:Env:=zkw TT [(55,ycj),(95,yft),(99,ytW),(107,yeP),(131,yqC)] []
theorem yMf:FrOk prog ⟨yT1,57,fun _=>none⟩ yTO:=zkA mixed ye ⟨yer,ykH,yHQ,yiT,yCQ,trivial⟩
abbrev ypR:List Par:= [.rd tA]
abbrev yx0:List OT:= [⟨false,tA,(.pr .fz (.pr (.pr .fz .fz) (.pr (.ow (.pr (.ow (.ow .fz)) (.pr (.ow (.pr .fz (.ow .fz))) (.pr .fz (.ow .fz))))) (.pr .fz (.pr .fz (.pr .fz (.pr .fz (.pr .fz (.pr (.ow (.pr .fz (.ow .fz))) (.pr .fz (.pr .fz .fz)))))))))))⟩,⟨false,tI,.fz⟩]
def ytc (a0:dA):Option (zaY yx0×zak ypR) :=let r1:=yaD a0;let r2:=yT a0;bif(!r2)then some ((r1,1,()),()) else bif a0.2.2.2.2.2.2.2.2.2.2.1 then some ((r1,6,()),()) else bif(!(a0.2.2.2.1==(-1)))then bif(inb a0.2.2.2.1 a0.2.2.1.length)then bif(!((((nth a0.2.2.1 a0.2.2.2.1 ([],[],false,[])).2).2).1))then bif(ltb a0.2.2.2.2.1 a0.2.1.2)then some ((r1,2,()),()) else bif a0.2.2.2.2.2.2.2.2.2.2.2 then some ((r1,5,()),()) else bif(leb 59990 a0.2.2.2.2.2.2.2.1)then some ((r1,7,()),()) else bnd (yiS r1) fun r3 =>bif(!r3.1.1)then some ((r3.2.1,6,()),()) else bnd (yV (r3.2.1.1,r3.2.1.2.1,r3.2.1.2.2.1,(-1),0,r3.2.1.2.2.2.2.2)) fun r4 =>let r5:=yeo r4.1.1;some ((r4.2.1,r5,()),()) else some ((r1,2,()),()) else none else some ((r1,2,()),())
theorem yQz:ConOk prog 64 ⟨ypR,yx0,fun x=>ytc x.1⟩:=zkI (yMf) func64 ntmps64.symm fun x=>by kernel_rfl
def ylk (a0:dA):dA×Int:=yd0 a0
theorem ySX (a0:dA) (hk:zjx ypR (a0,())):ytc a0=(fun n=>some ((n.1,n.2,()),())) (ylk a0):=by
 unfold ytc ylk yd0;simp only[yaD,yT];cases ha:yR a0
 ·rfl
 cases hd:ya a0
 ·rw[yHU a0 (by unfold yiV; rw[hd]; rfl),show a0.2.2.2.2.2.2.2.2.2.2.1=false from hd]
  cases hl:(a0.2.2.2.1== -1)
  ·rw[yPZ ha (beq_eq_false_iff_ne.1 hl)]
   have key:(bnd (some ((!(ya (yi a0)),()),(yi a0,()))) fun r3=>bif !r3.1.1 then some ((r3.2.1,6,()),())else bnd (yV (yy r3.2.1)) fun r4=>some ((r4.2.1,yeo r4.1.1,()),()))=some (((ysO a0).1,(ysO a0).2,()),()):=by
    simp only[zkH];unfold ysO yeo;cases hc:ya (yi a0)
    ·have hm:yV (yy (yi a0))=some ((!(ya (yj (yy (yi a0)))),()),(yj (yy (yi a0)),())):=yiU _ (by unfold ybI; rw[show ya (yy (yi a0))=ya (yi a0)from rfl,hc]; rfl)
     rw[hm];simp only[zkH];cases ya (yj (yy (yi a0)))<;>rfl
    ·rfl
   cases(nth a0.2.2.1 a0.2.2.2.1 yf).2.2.1<;>cases ltb a0.2.2.2.2.1 a0.2.1.2<;>cases a0.2.2.2.2.2.2.2.2.2.2.2<;>cases leb 59990 a0.2.2.2.2.2.2.2.1<;>first | rfl | exact key
  ·rfl
 ·rw[show a0.2.2.2.2.2.2.2.2.2.2.1=true from hd]; rfl
def yCo:Con:=⟨ypR,yx0,fun x=>(fun n=>some ((n.1,n.2,()),())) (ylk x.1)⟩
theorem yTp:ConOk prog 64 yCo:=(yQz).mono (fun x r hk h=>(ySX x.1 hk).trans h)
end
end Go.Tf
