/- Functions of the program, and what they come to. -/
import Derived.Test.YtolmneojjjpnjaaGreatBlocksF1
namespace Go.Tf
noncomputable section
open Go.Proofs Go.Proofs.Tryz IntKind
set_option synthInstance.maxHeartbeats 400000
set_option synthInstance.maxSize 10000
set_option linter.unusedVariables false
set_option linter.unusedSimpArgs false
set_option maxRecDepth 100000
def yof:Code:=(f200.body).getD .skip
def yvM:Env:=zkw TT [(226,yEL)] []
theorem yMe:FrOk prog ⟨yvM,16,fun _=>none⟩ yof:=zkA mixed yc ⟨yWG,trivial⟩
def yBv:Nat→Option Seg:=fun _=>none
def ydM:Shape:=⟨[(0,false,[.br tI]),(3,false,[.int .i64])],[],[]⟩
def yi1:Shape:=⟨[(0,false,[.br tI]),(3,false,[.ci .i64 0])],[],[]⟩
def yiZ:Shape:=⟨[],[],[]⟩
def yjc:Shape:=⟨[(2,false,[.bool])],[],[]⟩
def yn5 (v0:List Int) (v1:Int):Option ((ydM).X ⊕ ((yiZ).X ⊕ (yjc).X)) :=bif(ltb v1 (v0.length:Int))then bif(inb v1 v0.length)then let r2:=y9 (nth v0 v1 0);bif(!r2)then some (.inr (.inr (((false,()),()),(),()))) else some (.inl (((v0,()),((i64.wrap (v1+1)),()),()),(),())) else none else some (.inr (.inl ((),(),())))
def yco (x:(ydM).X):=yn5 x.1.1.1 x.1.2.1.1
def yxG (x:(yi1).X):(ydM).X:=(((x.1.1.1,()),(0,()),()),(),())
def yAa:Code:=(zd7 yof 64 52).getD .skip
theorem yLE:zd7 yof 64 13=some (.block 0 (.loop yAa)):=by kernel_rfl
theorem yNr (x:(ydM).X):zhu ⟨yvM,16,yBv⟩ 0 yAa 52 ydM yiZ yjc x=yco x:=by kernel_rfl
def yxX (x:(yi1).X):Nat:=18446744073709551616
def yo3 (x:(yi1).X):Option ((yiZ).X ⊕ (yjc).X):=zF yco (yxX x) (yxG x)
def yyq:Seg:=⟨yi1,yiZ,yjc,yo3⟩
def yNR:Nat→Option Seg:=fun q=>bif Nat.beq q 13 then some yyq else yBv q
theorem yMf:FrOk prog ⟨yvM,16,yNR⟩ yof:=(yMe).loop (sg:=yyq) ydM yxG (by decide) yLE yco yxX (by decide) (fun _=>rfl) (fun x r _ h=>h) yNr
abbrev yor:List Par:= [.rd tL]
abbrev ywm:List OT:= [⟨false,tB,.fz⟩]
def yrE (a0:List Int):Option (zaY ywm×zak yor) :=zkt (yo3 (((a0,()),((),()),()),(),())) (fun y2 =>some ((true,()),())) (fun y2 =>some ((y2.1.1.1,()),()))
theorem yQj:ConOk prog 200 ⟨yor,ywm,fun x=>yrE x.1⟩:=zkI (yMf) func200 ntmps200.symm fun x=>by kernel_rfl
def yag (a0:List Int):Bool:=a0.all y9
theorem yS7 (a0:List Int) (hk:zjx yor (a0,())):yrE a0=(fun n=>some ((n,()),())) (yag a0):=by
 have hb:a0.length*8≤2^47:=hk.1.1
 have hl:yo3 (((a0,()),((),()),()),(),())=some (bif a0.all y9 then .inl ((),(),())else .inr (((false,()),()),(),())) :=
  zj9 (step:=yco) a0 0 (fun i=>(((a0,()),((i:Int),()),()),(),())) y9 _ _ (fun i hi=>by
   simp only[yco,yn5,zkR hi,zkS,zky (show(i:Int)<a0.length by omega),cond_true,wq ((i:Int)+1) (by omega) (by omega),Int.natCast_add,Int.natCast_one]
   cases y9 (a0.getD i 0)<;>rfl) (by simp only[yco,yn5,zk3 (Int.le_refl _),cond_false]) _ (by show _<18446744073709551616; omega)
 unfold yrE yag;rw[hl];cases a0.all y9<;>rfl
def ygT:Con:=⟨yor,ywm,fun x=>(fun n=>some ((n,()),())) (yag x.1)⟩
theorem ym3:ConOk prog 200 ygT:=(yQj).mono (fun x r hk h=>(yS7 x.1 hk).trans h)
theorem yZR (a:Int):yai a=y9 a:=by kernel_rfl
def yZn:Code:=(f202.body).getD .skip
def yZA:Env:=zkw TT [(200,ygT)] []
theorem ySj:FrOk prog ⟨yZA,10,fun _=>none⟩ yZn:=zkA mixed yc ⟨ym3,trivial⟩
abbrev yBO:List Par:= [.rd tL]
abbrev yB5:List OT:= [⟨false,tB,.fz⟩]
def yG6 (a0:List Int):Option (zaY yB5×zak yBO) :=bif(leb (a0.length:Int) 12)then let r1:=yag a0;some ((r1,()),()) else some ((false,()),())
theorem yWk:ConOk prog 202 ⟨yBO,yB5,fun x=>yG6 x.1⟩:=zkI (ySj) func202 ntmps202.symm fun x=>by kernel_rfl
def yg0 (a0:List Int):Bool :=bif(leb (a0.length:Int) 12)then let r1:=yag a0;r1 else false
def ywr:Con:=⟨yBO,yB5,fun x=>(fun n=>some ((n,()),())) (yg0 x.1)⟩
theorem yYH (a0:List Int):yG6 a0=(fun n=>some ((n,()),())) (yg0 a0):=zkV (p:=fun(n:Bool)=>((n,()),())) (zkG (p:=fun(n:Bool)=>((n,()),())) rfl rfl)
theorem yH2:ConOk prog 202 ywr:=(yWk).mono (fun x r _ h=>(yYH x.1).trans h)
theorem yFX:yg0=yan:=funext fun s=>by
 unfold yg0 yan yag;rw[show y9=isW from funext fun x=>by unfold y9; rw[yb6]; rfl];cases leb (s.length:Int) 12<;>rfl
def ycs:Code:=(f160.body).getD .skip
def ygr:Env:=zkw TT [(82,yF),(202,ywr)] []
theorem ySe:FrOk prog ⟨ygr,91,fun _=>none⟩ ycs:=zkA mixed yc ⟨yK,yH2,trivial⟩
def yF4:Nat→Option Seg:=fun _=>none
def ydo:Shape:=⟨[(1,false,[.ptr 0 0]),(3,false,[.int .i64]),(4,false,[.int .i64])],[(0,[.br tL,.br tW,.bool,.br tI])],[]⟩
def yh4:Shape:=⟨[(1,false,[.ptr 0 0]),(3,false,[.int .i64]),(4,false,[.ci .i64 0])],[(0,[.br tL,.br tW,.bool,.br tI])],[]⟩
def yhP:Shape:=⟨[(1,false,[.ptr 0 0]),(3,false,[.int .i64])],[(0,[.br tL,.br tW,.bool,.br tI])],[]⟩
def yin:Shape:=⟨[(2,false,[.bool])],[],[]⟩
abbrev yre (v0 v1:Int) (v2:dM):(ydo).X:=((((),()),(v0,()),(v1,()),()),((v2.1,v2.2.1,v2.2.2.1,v2.2.2.2,()),()),())
abbrev yPi (v0:Int) (v1:dM):(yh4).X:=((((),()),(v0,()),((),()),()),((v1.1,v1.2.1,v1.2.2.1,v1.2.2.2,()),()),())
abbrev yO8 (v0:Int) (v1:dM):(yhP).X:=((((),()),(v0,()),()),((v1.1,v1.2.1,v1.2.2.1,v1.2.2.2,()),()),())
abbrev yPv (v0:Bool):(yin).X:=(((v0,()),()),(),())
def yrP (v0 v1:Int) (v2:List (List Int)) (v3:List dW) (v4:Bool) (v5:List Int):Option ((ydo).X ⊕ ((yhP).X ⊕ (yin).X)) :=bif(ltb v1 v0)then bif(inb v1 v2.length)then let r2:=yg0 (nth v2 v1 []);bif(!r2)then some (.inr (.inr (((false,()),()),(),()))) else some (.inl ((((),()),(v0,()),((i64.wrap (v1+1)),()),()),((v2,v3,v4,v5,()),()),())) else none else some (.inr (.inl ((((),()),(v0,()),()),((v2,v3,v4,v5,()),()),())))
def ydX (x:(ydo).X):=yrP x.1.2.1.1 x.1.2.2.1.1 x.2.1.1.1 x.2.1.1.2.1 x.2.1.1.2.2.1 x.2.1.1.2.2.2.1
def yCQ (x:(yh4).X):(ydo).X:=((((),()),(x.1.2.1.1,()),(0,()),()),((x.2.1.1.1,x.2.1.1.2.1,x.2.1.1.2.2.1,x.2.1.1.2.2.2.1,()),()),())
def yEr:Code:=(zd7 ycs 64 116).getD .skip
theorem yRC:zd7 ycs 64 29=some (.block 0 (.loop yEr)):=by kernel_rfl
theorem yUj (x:(ydo).X):zhu ⟨ygr,91,yF4⟩ 0 yEr 116 ydo yhP yin x=ydX x:=by kernel_rfl
def yC6 (x:(yh4).X):Nat:=18446744073709551616
def ysR (x:(yh4).X):Option ((yhP).X ⊕ (yin).X):=zF ydX (yC6 x) (yCQ x)
def yDQ:Seg:=⟨yh4,yhP,yin,ysR⟩
def yvE:Nat→Option Seg:=fun q=>bif Nat.beq q 29 then some yDQ else yF4 q
theorem ySf:FrOk prog ⟨ygr,91,yvE⟩ ycs:=(ySe).loop (sg:=yDQ) ydo yCQ (by decide) yRC ydX yC6 (by decide) (fun _=>rfl) (fun x r _ h=>h) yUj
def ydp:Shape:=⟨[(1,false,[.ptr 0 0]),(3,false,[.int .i64]),(5,false,[.int .i64])],[(0,[.br tL,.br tW,.bool,.br tI])],[]⟩
def yh5:Shape:=⟨[(1,false,[.ptr 0 0]),(3,false,[.int .i64]),(5,false,[.ci .i64 0])],[(0,[.br tL,.br tW,.bool,.br tI])],[]⟩
def yhQ:Shape:=⟨[(1,false,[.ptr 0 0]),(3,false,[.int .i64])],[(0,[.br tL,.br tW,.bool,.br tI])],[]⟩
def yio:Shape:=⟨[(2,false,[.bool])],[],[]⟩
abbrev yrf (v0 v1:Int) (v2:dM):(ydp).X:=((((),()),(v0,()),(v1,()),()),((v2.1,v2.2.1,v2.2.2.1,v2.2.2.2,()),()),())
abbrev yPj (v0:Int) (v1:dM):(yh5).X:=((((),()),(v0,()),((),()),()),((v1.1,v1.2.1,v1.2.2.1,v1.2.2.2,()),()),())
abbrev yO9 (v0:Int) (v1:dM):(yhQ).X:=((((),()),(v0,()),()),((v1.1,v1.2.1,v1.2.2.1,v1.2.2.2,()),()),())
abbrev yPw (v0:Bool):(yio).X:=(((v0,()),()),(),())
def yrQ (v0 v1:Int) (v2:List (List Int)) (v3:List dW) (v4:Bool) (v5:List Int):Option ((ydp).X ⊕ ((yhQ).X ⊕ (yio).X)) :=bif(ltb v1 (v3.length:Int))then bif(inb v1 v3.length)then let r6:=yb ((nth v3 v1 (0,[])).1) 0 (i64.wrap (v0-1));bif(!(!r6))then bif(inb v1 v3.length)then let r7:=yg0 ((nth v3 v1 (0,[])).2);bif(!r7)then some (.inr (.inr (((false,()),()),(),()))) else some (.inl ((((),()),(v0,()),((i64.wrap (v1+1)),()),()),((v2,v3,v4,v5,()),()),())) else none else some (.inr (.inr (((false,()),()),(),()))) else none else some (.inr (.inl ((((),()),(v0,()),()),((v2,v3,v4,v5,()),()),())))
def ydY (x:(ydp).X):=yrQ x.1.2.1.1 x.1.2.2.1.1 x.2.1.1.1 x.2.1.1.2.1 x.2.1.1.2.2.1 x.2.1.1.2.2.2.1
def yCR (x:(yh5).X):(ydp).X:=((((),()),(x.1.2.1.1,()),(0,()),()),((x.2.1.1.1,x.2.1.1.2.1,x.2.1.1.2.2.1,x.2.1.1.2.2.2.1,()),()),())
def yEs:Code:=(zd7 ycs 64 244).getD .skip
theorem yRD:zd7 ycs 64 61=some (.block 2 (.loop yEs)):=by kernel_rfl
theorem yUk (x:(ydp).X):zhu ⟨ygr,91,yvE⟩ 2 yEs 244 ydp yhQ yio x=ydY x:=by kernel_rfl
def yC7 (x:(yh5).X):Nat:=18446744073709551616
def ysS (x:(yh5).X):Option ((yhQ).X ⊕ (yio).X):=zF ydY (yC7 x) (yCR x)
def yDR:Seg:=⟨yh5,yhQ,yio,ysS⟩
def yvF:Nat→Option Seg:=fun q=>bif Nat.beq q 61 then some yDR else yvE q
theorem ySg:FrOk prog ⟨ygr,91,yvF⟩ ycs:=(ySf).loop (sg:=yDR) ydp yCR (by decide) yRD ydY yC7 (by decide) (fun _=>rfl) (fun x r _ h=>h) yUk
def ycH:Shape:=⟨[(1,false,[.ptr 0 0]),(3,false,[.int .i64]),(6,false,[.int .i64])],[(0,[.br tL,.br tW,.bool,.br tI])],[]⟩
def ygI:Shape:=⟨[(1,false,[.ptr 0 0]),(3,false,[.int .i64]),(6,false,[.ci .i64 0])],[(0,[.br tL,.br tW,.bool,.br tI])],[]⟩
def ygy:Shape:=⟨[(1,false,[.ptr 0 0]),(3,false,[.int .i64])],[(0,[.br tL,.br tW,.bool,.br tI])],[]⟩
def ygQ:Shape:=⟨[(2,false,[.bool])],[],[]⟩
abbrev ypl (v0 v1:Int) (v2:dM):(ycH).X:=((((),()),(v0,()),(v1,()),()),((v2.1,v2.2.1,v2.2.2.1,v2.2.2.2,()),()),())
abbrev yMv (v0:Int) (v1:dM):(ygI).X:=((((),()),(v0,()),((),()),()),((v1.1,v1.2.1,v1.2.2.1,v1.2.2.2,()),()),())
abbrev yMp (v0:Int) (v1:dM):(ygy).X:=((((),()),(v0,()),()),((v1.1,v1.2.1,v1.2.2.1,v1.2.2.2,()),()),())
abbrev yMC (v0:Bool):(ygQ).X:=(((v0,()),()),(),())
def ypT (v0 v1:Int) (v2:List (List Int)) (v3:List dW) (v4:Bool) (v5:List Int):Option ((ycH).X ⊕ ((ygy).X ⊕ (ygQ).X)) :=bif(ltb v1 (v5.length:Int))then bif(inb v1 v5.length)then let r10:=yb (nth v5 v1 0) 0 (i64.wrap (v0-1));bif(!(!r10))then bif(ltb 0 v1)then bif(inb (i64.wrap (v1-1)) v5.length)then bif(inb v1 v5.length)then bif(leb (nth v5 v1 0) (nth v5 (i64.wrap (v1-1)) 0))then some (.inr (.inr (((false,()),()),(),()))) else some (.inl ((((),()),(v0,()),((i64.wrap (v1+1)),()),()),((v2,v3,v4,v5,()),()),())) else none else none else some (.inl ((((),()),(v0,()),((i64.wrap (v1+1)),()),()),((v2,v3,v4,v5,()),()),())) else some (.inr (.inr (((false,()),()),(),()))) else none else some (.inr (.inl ((((),()),(v0,()),()),((v2,v3,v4,v5,()),()),())))
def yc9 (x:(ycH).X):=ypT x.1.2.1.1 x.1.2.2.1.1 x.2.1.1.1 x.2.1.1.2.1 x.2.1.1.2.2.1 x.2.1.1.2.2.2.1
def yAu (x:(ygI).X):(ycH).X:=((((),()),(x.1.2.1.1,()),(0,()),()),((x.2.1.1.1,x.2.1.1.2.1,x.2.1.1.2.2.1,x.2.1.1.2.2.2.1,()),()),())
def yCk:Code:=(zd7 ycs 64 500).getD .skip
theorem yN1:zd7 ycs 64 125=some (.block 4 (.loop yCk)):=by kernel_rfl
theorem yQK (x:(ycH).X):zhu ⟨ygr,91,yvF⟩ 4 yCk 500 ycH ygy ygQ x=yc9 x:=by kernel_rfl
def yAE (x:(ygI).X):Nat:=18446744073709551616
def yqP (x:(ygI).X):Option ((ygy).X ⊕ (ygQ).X):=zF yc9 (yAE x) (yAu x)
def yAY:Seg:=⟨ygI,ygy,ygQ,yqP⟩
def yUS:Nat→Option Seg:=fun q=>bif Nat.beq q 125 then some yAY else yvF q
theorem ySh:FrOk prog ⟨ygr,91,yUS⟩ ycs:=(ySg).loop (sg:=yAY) ycH yAu (by decide) yN1 yc9 yAE (by decide) (fun _=>rfl) (fun x r _ h=>h) yQK
abbrev yta:List Par:= [.rd tM]
abbrev yB3:List OT:= [⟨false,tB,.fz⟩]
def ywQ (a0:dM):Option (zaY yB3×zak yta) :=zkt (ysR ((((),()),((a0.1.length:Int),()),((),()),()),((a0.1,a0.2.1,a0.2.2.1,a0.2.2.2,()),()),())) (fun y2 =>zkt (ysS ((((),()),(y2.1.2.1.1,()),((),()),()),((y2.2.1.1.1,y2.2.1.1.2.1,y2.2.1.1.2.2.1,y2.2.1.1.2.2.2.1,()),()),())) (fun y7 =>zkt (yqP ((((),()),(y7.1.2.1.1,()),((),()),()),((y7.2.1.1.1,y7.2.1.1.2.1,y7.2.1.1.2.2.1,y7.2.1.1.2.2.2.1,()),()),())) (fun y10 =>let r12:=yb y10.1.2.1.1 1 20;bif r12 then some (((leb (y10.2.1.1.2.1.length:Int) 60),()),()) else some ((false,()),())) (fun y10 =>some ((y10.1.1.1,()),()))) (fun y7 =>some ((y7.1.1.1,()),()))) (fun y2 =>some ((y2.1.1.1,()),()))
theorem yWi:ConOk prog 160 ⟨yta,yB3,fun x=>ywQ x.1⟩:=zkI (ySh) func160 ntmps160.symm fun x=>by kernel_rfl
def yaC (a0:dM):Bool:=yz a0
theorem yYF (a0:dM) (hk:zjx yta (a0,())):ywQ a0=(fun n=>some ((n,()),())) (yaC a0):=by
 have hb1:a0.1.length*24≤2^47:=hk.1.1.1;have hb2:a0.2.1.length*32≤2^47:=hk.1.2.1.1;have hb3:a0.2.2.2.length*8≤2^47:=hk.1.2.2.2.1
 have h1:ysR (yPi a0.1.length a0)=some (bif a0.1.all yan then .inl (yO8 a0.1.length a0)else .inr (yPv false)) :=
  zj9 (step:=ydX) a0.1 [] (fun i=>yre a0.1.length i a0) yan _ _ (fun i hi=>by
   simp only[ydX,yre,yrP,zky (show(i:Int)<a0.1.length by omega),cond_true,wq ((i:Int)+1) (by omega) (by omega),Int.natCast_add,Int.natCast_one,Int.toNat_natCast,zkR hi,zkS,yFX]
   cases yan (a0.1.getD i [])<;>rfl) (by simp only[ydX,yre,yrP,zk3 (Int.le_refl _),cond_false]) _ (by show _<18446744073709551616; omega)
 have h2:ysS (yPj a0.1.length a0)=some (bif a0.2.1.all (yrX a0.1.length)then .inl (yO9 a0.1.length a0)else .inr (yPw false)) :=
  zj9 (step:=ydY) a0.2.1 (0,[]) (fun i=>yrf a0.1.length i a0) (yrX a0.1.length) _ _ (fun i hi=>by
   simp only[ydY,yrf,yrQ,zky (show(i:Int)<a0.2.1.length by omega),cond_true,wq ((i:Int)+1) (by omega) (by omega),Int.natCast_add,Int.natCast_one,Int.toNat_natCast,zkR hi,zkS,yFX,ynu (show a0.1.length≤1152921504606846976 by omega),yrX]
   cases inb (a0.2.1.getD i (0,[])).1 a0.1.length<;>cases yan (a0.2.1.getD i (0,[])).2<;>rfl) (by simp only[ydY,yrf,yrQ,zk3 (Int.le_refl _),cond_false]) _ (by show _<18446744073709551616; omega)
 have h3:yqP (yMv a0.1.length a0)=some (bif(List.range a0.2.2.2.length).any (yEk a0.1.length a0.2.2.2)then .inr (yMC false)else .inl (yMp a0.1.length a0)) :=
  zji (step:=yc9) (fun i=>ypl a0.1.length i a0) a0.2.2.2.length (yEk a0.1.length a0.2.2.2) _ _ (fun i hi=>by
   simp only[yc9,ypl,ypT,zky (show(i:Int)<a0.2.2.2.length by omega),cond_true,wq ((i:Int)+1) (by omega) (by omega),Int.natCast_add,Int.natCast_one,Int.toNat_natCast,zkR hi,zkS,ynu (show a0.1.length≤1152921504606846976 by omega),yEk];rcases Nat.eq_zero_or_pos i with rfl | h0
   ·cases inb (a0.2.2.2.getD 0 0) a0.1.length<;>rfl
   ·rw[show i64.wrap ((i:Int)-1)=((i-1:Nat):Int)by rw[wr (by omega) (by omega)]; omega,zkR (show i-1<a0.2.2.2.length by omega),zkS,zky (show(0:Int)<i by omega),decide_eq_true h0]
    cases inb (a0.2.2.2.getD i 0) a0.1.length<;>cases leb (a0.2.2.2.getD i 0) (a0.2.2.2.getD (i-1) 0)<;>rfl) (by simp only[yc9,ypl,ypT,zk3 (Int.le_refl _),cond_false]) _ (by show _<18446744073709551616; omega)
 unfold ywQ yaC yz;rw[h1];cases a0.1.all yan
 ·rfl
 simp only[cond_true,zkN,h2];cases a0.2.1.all (yrX a0.1.length)
 ·rfl
 simp only[cond_true,zkN,h3,yWY,yb6];cases yoz a0.1.length a0.2.2.2
 ·rfl
 simp only[Bool.not_true,cond_false,zkN];cases leb 1 (a0.1.length:Int)<;>cases leb (a0.1.length:Int) 20<;>rfl
def ygk:Con:=⟨yta,yB3,fun x=>(fun n=>some ((n,()),())) (yaC x.1)⟩
theorem ylu:ConOk prog 160 ygk:=(yWi).mono (fun x r hk h=>(yYF x.1 hk).trans h)
def yXS:Code:=(f178.body).getD .skip
def yYn:Env:=zkw TT [] []
theorem yOP:FrOk prog ⟨yYn,6,fun _=>none⟩ yXS:=zkA mixed yc trivial
abbrev yyW:List Par:= [.rd tG]
abbrev yzr:List OT:= [⟨false,tI,.fz⟩]
def yFv (a0:dG):Option (zaY yzr×zak yyW) :=some (((i64.wrap (6+a0.2)),()),())
theorem yTJ:ConOk prog 178 ⟨yyW,yzr,fun x=>yFv x.1⟩:=zkI (yOP) func178 ntmps178.symm fun x=>by kernel_rfl
def ycB (a0:dG):Int :=(i64.wrap (6+a0.2))
def ymU:Con:=⟨yyW,yzr,fun x=>(fun n=>some ((n,()),())) (ycB x.1)⟩
theorem yVZ (a0:dG):yFv a0=(fun n=>some ((n,()),())) (ycB a0):=zkV (p:=fun(n:Int)=>((n,()),())) rfl
theorem ywB:ConOk prog 178 ymU:=(yTJ).mono (fun x r _ h=>(yVZ x.1).trans h)
def yqe:Code:=(f151.body).getD .skip
def yyz:Env:=zkw TT [(160,ygk),(178,ymU)] []
theorem yON:FrOk prog ⟨yyz,51,fun _=>none⟩ yqe:=zkA mixed yc ⟨ylu,ywB,trivial⟩
def yEf:Nat→Option Seg:=fun _=>none
def ycM:Shape:=⟨[(1,false,[.ptr 0 0]),(3,false,[.int .i64])],[(0,[.int .i64,.int .i64,.int .i64,.br tM,.int .i64,.int .i64,.int .i64,.int .i64,.int .i64,.br tW,.int .i64,.bool,.bool])],[]⟩
def ygN:Shape:=⟨[(1,false,[.ptr 0 0]),(3,false,[.ci .i64 0])],[(0,[.int .i64,.int .i64,.int .i64,.br tM,.int .i64,.int .i64,.int .i64,.int .i64,.int .i64,.br tW,.int .i64,.bool,.bool])],[]⟩
def ygD:Shape:=⟨[(1,false,[.ptr 0 0])],[(0,[.int .i64,.int .i64,.int .i64,.br tM,.int .i64,.int .i64,.int .i64,.int .i64,.int .i64,.br tW,.int .i64,.bool,.bool])],[]⟩
def ygR:Shape:=⟨[(2,false,[.bool])],[],[]⟩
abbrev ypp (v0:Int) (v1:dA):(ycM).X:=((((),()),(v0,()),()),((v1.1,v1.2.1.1,v1.2.1.2,v1.2.2.1,v1.2.2.2.1,v1.2.2.2.2.1,v1.2.2.2.2.2.1,v1.2.2.2.2.2.2.1,v1.2.2.2.2.2.2.2.1,v1.2.2.2.2.2.2.2.2.1,v1.2.2.2.2.2.2.2.2.2.1,v1.2.2.2.2.2.2.2.2.2.2.1,v1.2.2.2.2.2.2.2.2.2.2.2,()),()),())
abbrev yMz (v0:dA):(ygN).X:=((((),()),((),()),()),((v0.1,v0.2.1.1,v0.2.1.2,v0.2.2.1,v0.2.2.2.1,v0.2.2.2.2.1,v0.2.2.2.2.2.1,v0.2.2.2.2.2.2.1,v0.2.2.2.2.2.2.2.1,v0.2.2.2.2.2.2.2.2.1,v0.2.2.2.2.2.2.2.2.2.1,v0.2.2.2.2.2.2.2.2.2.2.1,v0.2.2.2.2.2.2.2.2.2.2.2,()),()),())
abbrev yMr (v0:dA):(ygD).X:=((((),()),()),((v0.1,v0.2.1.1,v0.2.1.2,v0.2.2.1,v0.2.2.2.1,v0.2.2.2.2.1,v0.2.2.2.2.2.1,v0.2.2.2.2.2.2.1,v0.2.2.2.2.2.2.2.1,v0.2.2.2.2.2.2.2.2.1,v0.2.2.2.2.2.2.2.2.2.1,v0.2.2.2.2.2.2.2.2.2.2.1,v0.2.2.2.2.2.2.2.2.2.2.2,()),()),())
abbrev yMD (v0:Bool):(ygR).X:=(((v0,()),()),(),())
def ypX (v0 v1 v2 v3:Int) (v4:List dM) (v5 v6 v7 v8 v9:Int) (v10:List dW) (v11:Int) (v12 v13:Bool):Option ((ycM).X ⊕ ((ygD).X ⊕ (ygR).X)) :=bif(ltb v0 (v4.length:Int))then bif(inb v0 v4.length)then let r3:=yaC ((nth v4 v0 ([],[],false,[])).1,((nth v4 v0 ([],[],false,[])).2).1,(((nth v4 v0 ([],[],false,[])).2).2));bif(!(!r3))then let r4:=ycB (v2,v3);bif(!((((nth v4 v0 ([],[],false,[])).1).length:Int) !=r4))then bif(((nth v4 v0 ([],[],false,[])).2).2).1 then bif(v0 !=v5)then bif(!v13)then some (.inr (.inr (((false,()),()),(),()))) else some (.inl ((((),()),((i64.wrap (v0+1)),()),()),((v1,v2,v3,v4,v5,v6,v7,v8,v9,v10,v11,v12,v13,()),()),())) else some (.inl ((((),()),((i64.wrap (v0+1)),()),()),((v1,v2,v3,v4,v5,v6,v7,v8,v9,v10,v11,v12,v13,()),()),())) else some (.inl ((((),()),((i64.wrap (v0+1)),()),()),((v1,v2,v3,v4,v5,v6,v7,v8,v9,v10,v11,v12,v13,()),()),())) else some (.inr (.inr (((false,()),()),(),()))) else some (.inr (.inr (((false,()),()),(),()))) else none else some (.inr (.inl ((((),()),()),((v1,v2,v3,v4,v5,v6,v7,v8,v9,v10,v11,v12,v13,()),()),())))
def ydd (x:(ycM).X):=ypX x.1.2.1.1 x.2.1.1.1 x.2.1.1.2.1 x.2.1.1.2.2.1 x.2.1.1.2.2.2.1 x.2.1.1.2.2.2.2.1 x.2.1.1.2.2.2.2.2.1 x.2.1.1.2.2.2.2.2.2.1 x.2.1.1.2.2.2.2.2.2.2.1 x.2.1.1.2.2.2.2.2.2.2.2.1 x.2.1.1.2.2.2.2.2.2.2.2.2.1 x.2.1.1.2.2.2.2.2.2.2.2.2.2.1 x.2.1.1.2.2.2.2.2.2.2.2.2.2.2.1 x.2.1.1.2.2.2.2.2.2.2.2.2.2.2.2.1
def yAz (x:(ygN).X):(ycM).X:=((((),()),(0,()),()),((x.2.1.1.1,x.2.1.1.2.1,x.2.1.1.2.2.1,x.2.1.1.2.2.2.1,x.2.1.1.2.2.2.2.1,x.2.1.1.2.2.2.2.2.1,x.2.1.1.2.2.2.2.2.2.1,x.2.1.1.2.2.2.2.2.2.2.1,x.2.1.1.2.2.2.2.2.2.2.2.1,x.2.1.1.2.2.2.2.2.2.2.2.2.1,x.2.1.1.2.2.2.2.2.2.2.2.2.2.1,x.2.1.1.2.2.2.2.2.2.2.2.2.2.2.1,x.2.1.1.2.2.2.2.2.2.2.2.2.2.2.2.1,()),()),())
def yCp:Code:=(zd7 yqe 64 52).getD .skip
theorem yN6:zd7 yqe 64 13=some (.block 0 (.loop yCp)):=by kernel_rfl
theorem yQP (x:(ycM).X):zhu ⟨yyz,51,yEf⟩ 0 yCp 52 ycM ygD ygR x=ydd x:=by kernel_rfl
def yAJ (x:(ygN).X):Nat:=18446744073709551616
def yqT (x:(ygN).X):Option ((ygD).X ⊕ (ygR).X):=zF ydd (yAJ x) (yAz x)
def yA3:Seg:=⟨ygN,ygD,ygR,yqT⟩
def yRe:Nat→Option Seg:=fun q=>bif Nat.beq q 13 then some yA3 else yEf q
theorem yOO:FrOk prog ⟨yyz,51,yRe⟩ yqe:=(yON).loop (sg:=yA3) ycM yAz (by decide) yN6 ydd yAJ (by decide) (fun _=>rfl) (fun x r _ h=>h) yQP
abbrev yk8:List Par:= [.rd tA]
abbrev yqx:List OT:= [⟨false,tB,.fz⟩]
def yuG (a0:dA):Option (zaY yqx×zak yk8) :=zkt (yqT ((((),()),((),()),()),((a0.1,a0.2.1.1,a0.2.1.2,a0.2.2.1,a0.2.2.2.1,a0.2.2.2.2.1,a0.2.2.2.2.2.1,a0.2.2.2.2.2.2.1,a0.2.2.2.2.2.2.2.1,a0.2.2.2.2.2.2.2.2.1,a0.2.2.2.2.2.2.2.2.2.1,a0.2.2.2.2.2.2.2.2.2.2.1,a0.2.2.2.2.2.2.2.2.2.2.2,()),()),())) (fun y4 =>some ((((y4.2.1.1.2.2.2.1.length:Int)==y4.2.1.1.2.1),()),())) (fun y4 =>some ((y4.1.1.1,()),()))
theorem yTI:ConOk prog 151 ⟨yk8,yqx,fun x=>yuG x.1⟩:=zkI (yOO) func151 ntmps151.symm fun x=>by kernel_rfl
def ylo (a0:dA):Bool:=ylg a0
def yzJ (a0:dA):Bool:=ye a0.2.1
theorem yVY (a0:dA) (hk:zjx yk8 (a0,())) (hq:yzJ a0=true):yuG a0=(fun n=>some ((n,()),())) (ylo a0):=by
 have hb:a0.2.2.1.length*80≤2^47:=hk.1.2.2.1.1;have hg:=yj.1 hq
 have h1:yqT (yMz a0)=some (bif(List.range a0.2.2.1.length).any (ygX a0)then .inr (yMD false)else .inl (yMr a0)) :=
  zji (step:=ydd) (fun i=>ypp i a0) a0.2.2.1.length (ygX a0) _ _ (fun i hi=>by
   simp only[ydd,ypp,ypX,zky (show(i:Int)<a0.2.2.1.length by omega),cond_true,wq ((i:Int)+1) (by omega) (by omega),Int.natCast_add,Int.natCast_one,Int.toNat_natCast,zkR hi,zkX,yaC,ygX,ycB,wq (6+a0.2.1.2) (by omega) (by omega),yh]
   cases yz (nth a0.2.2.1 i ([],[],false,[]))<;>cases(((nth a0.2.2.1 i ([],[],false,[])).1.length:Int) !=6+a0.2.1.2)<;>cases(nth a0.2.2.1 i ([],[],false,[])).2.2.1<;>cases((i:Int) !=a0.2.2.2.1)<;>cases a0.2.2.2.2.2.2.2.2.2.2.2<;>rfl) (by simp only[ydd,ypp,ypX,zk3 (Int.le_refl _),cond_false]) _ (by show _<18446744073709551616; omega)
 unfold yuG ylo ylg;rw[h1];cases(List.range a0.2.2.1.length).any (ygX a0)<;>rfl
def yqE (a0:dA):Option (zaY yqx×zak yk8):=bif yzJ a0 then(fun n=>some ((n,()),())) (ylo a0)else none
theorem yWQ (a0:dA) (h:yzJ a0=true):yqE a0=(fun n=>some ((n,()),())) (ylo a0):=by unfold yqE; rw[h]; rfl
def yEO:Con:=⟨yk8,yqx,fun x=>yqE x.1⟩
theorem yWJ:ConOk prog 151 yEO:=(yTI).mono (fun x r hk h=>zkY h (fun hq=>yVY x.1 hk hq))
def yog:Code:=(f152.body).getD .skip
def yvN:Env:=zkw TT [(82,yF),(200,ygT)] []
theorem yMg:FrOk prog ⟨yvN,57,fun _=>none⟩ yog:=zkA mixed yc ⟨yK,ym3,trivial⟩
def yBw:Nat→Option Seg:=fun _=>none
def yb0:Shape:=⟨[(1,false,[.ptr 0 0]),(3,false,[.int .i64])],[(0,[.int .i64,.int .i64,.int .i64,.br tM,.int .i64,.int .i64,.int .i64,.int .i64,.int .i64,.br tW,.int .i64,.bool,.bool])],[]⟩
def yfV:Shape:=⟨[(1,false,[.ptr 0 0]),(3,false,[.ci .i64 0])],[(0,[.int .i64,.int .i64,.int .i64,.br tM,.int .i64,.int .i64,.int .i64,.int .i64,.int .i64,.br tW,.int .i64,.bool,.bool])],[]⟩
def yfJ:Shape:=⟨[],[],[]⟩
def yf0:Shape:=⟨[(2,false,[.bool])],[],[]⟩
abbrev ynH (v0:Int) (v1:dA):(yb0).X:=((((),()),(v0,()),()),((v1.1,v1.2.1.1,v1.2.1.2,v1.2.2.1,v1.2.2.2.1,v1.2.2.2.2.1,v1.2.2.2.2.2.1,v1.2.2.2.2.2.2.1,v1.2.2.2.2.2.2.2.1,v1.2.2.2.2.2.2.2.2.1,v1.2.2.2.2.2.2.2.2.2.1,v1.2.2.2.2.2.2.2.2.2.2.1,v1.2.2.2.2.2.2.2.2.2.2.2,()),()),())
abbrev yKe (v0:dA):(yfV).X:=((((),()),((),()),()),((v0.1,v0.2.1.1,v0.2.1.2,v0.2.2.1,v0.2.2.2.1,v0.2.2.2.2.1,v0.2.2.2.2.2.1,v0.2.2.2.2.2.2.1,v0.2.2.2.2.2.2.2.1,v0.2.2.2.2.2.2.2.2.1,v0.2.2.2.2.2.2.2.2.2.1,v0.2.2.2.2.2.2.2.2.2.2.1,v0.2.2.2.2.2.2.2.2.2.2.2,()),()),())
abbrev yJ2  :(yfJ).X:=((),(),())
abbrev yKi (v0:Bool):(yf0).X:=(((v0,()),()),(),())
def yn6 (v0 v1 v2 v3:Int) (v4:List dM) (v5 v6 v7 v8 v9:Int) (v10:List dW) (v11:Int) (v12 v13:Bool):Option ((yb0).X ⊕ ((yfJ).X ⊕ (yf0).X)) :=bif(ltb v0 (v10.length:Int))then bif(inb v0 v10.length)then let r3:=yb ((nth v10 v0 (0,[])).1) 0 (i64.wrap (v3-1));bif(!(!r3))then bif(!((((nth v10 v0 (0,[])).2).length:Int) !=(i64.wrap (v2-1))))then let r4:=yag ((nth v10 v0 (0,[])).2);bif(!(!r4))then bif(ltb 0 v0)then bif(inb (i64.wrap (v0-1)) v10.length)then bif(leb ((nth v10 v0 (0,[])).1) ((nth v10 (i64.wrap (v0-1)) (0,[])).1))then some (.inr (.inr (((false,()),()),(),()))) else some (.inl ((((),()),((i64.wrap (v0+1)),()),()),((v1,v2,v3,v4,v5,v6,v7,v8,v9,v10,v11,v12,v13,()),()),())) else none else some (.inl ((((),()),((i64.wrap (v0+1)),()),()),((v1,v2,v3,v4,v5,v6,v7,v8,v9,v10,v11,v12,v13,()),()),())) else some (.inr (.inr (((false,()),()),(),()))) else some (.inr (.inr (((false,()),()),(),()))) else some (.inr (.inr (((false,()),()),(),()))) else none else some (.inr (.inl ((),(),())))
def ycp (x:(yb0).X):=yn6 x.1.2.1.1 x.2.1.1.1 x.2.1.1.2.1 x.2.1.1.2.2.1 x.2.1.1.2.2.2.1 x.2.1.1.2.2.2.2.1 x.2.1.1.2.2.2.2.2.1 x.2.1.1.2.2.2.2.2.2.1 x.2.1.1.2.2.2.2.2.2.2.1 x.2.1.1.2.2.2.2.2.2.2.2.1 x.2.1.1.2.2.2.2.2.2.2.2.2.1 x.2.1.1.2.2.2.2.2.2.2.2.2.2.1 x.2.1.1.2.2.2.2.2.2.2.2.2.2.2.1 x.2.1.1.2.2.2.2.2.2.2.2.2.2.2.2.1
def yxH (x:(yfV).X):(yb0).X:=((((),()),(0,()),()),((x.2.1.1.1,x.2.1.1.2.1,x.2.1.1.2.2.1,x.2.1.1.2.2.2.1,x.2.1.1.2.2.2.2.1,x.2.1.1.2.2.2.2.2.1,x.2.1.1.2.2.2.2.2.2.1,x.2.1.1.2.2.2.2.2.2.2.1,x.2.1.1.2.2.2.2.2.2.2.2.1,x.2.1.1.2.2.2.2.2.2.2.2.2.1,x.2.1.1.2.2.2.2.2.2.2.2.2.2.1,x.2.1.1.2.2.2.2.2.2.2.2.2.2.2.1,x.2.1.1.2.2.2.2.2.2.2.2.2.2.2.2.1,()),()),())
def yAb:Code:=(zd7 yog 64 52).getD .skip
theorem yLF:zd7 yog 64 13=some (.block 0 (.loop yAb)):=by kernel_rfl
theorem yNs (x:(yb0).X):zhu ⟨yvN,57,yBw⟩ 0 yAb 52 yb0 yfJ yf0 x=ycp x:=by kernel_rfl
def yxY (x:(yfV).X):Nat:=18446744073709551616
def yo4 (x:(yfV).X):Option ((yfJ).X ⊕ (yf0).X):=zF ycp (yxY x) (yxH x)
def yyr:Seg:=⟨yfV,yfJ,yf0,yo4⟩
def yNS:Nat→Option Seg:=fun q=>bif Nat.beq q 13 then some yyr else yBw q
theorem yMh:FrOk prog ⟨yvN,57,yNS⟩ yog:=(yMg).loop (sg:=yyr) yb0 yxH (by decide) yLF ycp yxY (by decide) (fun _=>rfl) (fun x r _ h=>h) yNs
abbrev yjt:List Par:= [.rd tA]
abbrev yov:List OT:= [⟨false,tB,.fz⟩]
def yrF (a0:dA):Option (zaY yov×zak yjt) :=zkt (yo4 ((((),()),((),()),()),((a0.1,a0.2.1.1,a0.2.1.2,a0.2.2.1,a0.2.2.2.1,a0.2.2.2.2.1,a0.2.2.2.2.2.1,a0.2.2.2.2.2.2.1,a0.2.2.2.2.2.2.2.1,a0.2.2.2.2.2.2.2.2.1,a0.2.2.2.2.2.2.2.2.2.1,a0.2.2.2.2.2.2.2.2.2.2.1,a0.2.2.2.2.2.2.2.2.2.2.2,()),()),())) (fun y4 =>some ((true,()),())) (fun y4 =>some ((y4.1.1.1,()),()))
theorem yQk:ConOk prog 152 ⟨yjt,yov,fun x=>yrF x.1⟩:=zkI (yMh) func152 ntmps152.symm fun x=>by kernel_rfl
def yj2 (a0:dA):Bool:=yaq a0.2.1 a0.2.2.2.2.2.2.2.2.1
def ywH (a0:dA):Bool:=ye a0.2.1
theorem yfv (l:List Int):yag l=l.all isW:=by
 unfold yag;rw[show y9=isW from funext fun x=>by unfold y9; rw[yb6]; rfl]
theorem yS8 (a0:dA) (hk:zjx yjt (a0,())) (hq:ywH a0=true):yrF a0=(fun n=>some ((n,()),())) (yj2 a0):=by
 have hb:a0.2.2.2.2.2.2.2.2.1.length*32≤2^47:=hk.1.2.2.2.2.2.2.2.2.1.1;have hg:=yj.1 hq
 have h1:yo4 (yKe a0)=some (bif(List.range a0.2.2.2.2.2.2.2.2.1.length).any (yhr a0.2.1 a0.2.2.2.2.2.2.2.2.1)then .inr (yKi false)else .inl yJ2) :=
  zji (step:=ycp) (fun i=>ynH i a0) a0.2.2.2.2.2.2.2.2.1.length (yhr a0.2.1 a0.2.2.2.2.2.2.2.2.1) _ _ (fun i hi=>by
   simp only[ycp,ynH,yn6,zky (show(i:Int)<a0.2.2.2.2.2.2.2.2.1.length by omega),cond_true,wq ((i:Int)+1) (by omega) (by omega),Int.natCast_add,Int.natCast_one,Int.toNat_natCast,zkR hi,yb6,yfv,wq (a0.2.1.2-1) (by omega) (by omega),wq (a0.2.1.1-1) (by omega) (by omega),yhr];rcases Nat.eq_zero_or_pos i with rfl | h0
   ·cases(leb 0 (nth a0.2.2.2.2.2.2.2.2.1 ((0:Nat):Int) (0,[])).1&&leb (nth a0.2.2.2.2.2.2.2.2.1 ((0:Nat):Int) (0,[])).1 (a0.2.1.2-1))<;>cases(((nth a0.2.2.2.2.2.2.2.2.1 ((0:Nat):Int) (0,[])).2.length:Int) !=a0.2.1.1-1)<;>cases((nth a0.2.2.2.2.2.2.2.2.1 ((0:Nat):Int) (0,[])).2.all isW)<;>rfl
   ·rw[show i64.wrap ((i:Int)-1)=((i-1:Nat):Int)by rw[wr (by omega) (by omega)]; omega,zkR (show i-1<a0.2.2.2.2.2.2.2.2.1.length by omega),zky (show(0:Int)<i by omega),decide_eq_true h0]
    cases(leb 0 (nth a0.2.2.2.2.2.2.2.2.1 (i:Int) (0,[])).1&&leb (nth a0.2.2.2.2.2.2.2.2.1 (i:Int) (0,[])).1 (a0.2.1.2-1))<;>cases(((nth a0.2.2.2.2.2.2.2.2.1 (i:Int) (0,[])).2.length:Int) !=a0.2.1.1-1)<;>cases((nth a0.2.2.2.2.2.2.2.2.1 (i:Int) (0,[])).2.all isW)<;>cases leb (nth a0.2.2.2.2.2.2.2.2.1 (i:Int) (0,[])).1 (nth a0.2.2.2.2.2.2.2.2.1 ((i-1:Nat):Int) (0,[])).1<;>rfl) (by simp only[ycp,ynH,yn6,zk3 (Int.le_refl _),cond_false]) _ (by show _<18446744073709551616; omega)
 unfold yrF yj2 yaq;rw[h1];cases(List.range a0.2.2.2.2.2.2.2.2.1.length).any (yhr a0.2.1 a0.2.2.2.2.2.2.2.2.1)<;>rfl
def yoL (a0:dA):Option (zaY yov×zak yjt):=bif ywH a0 then(fun n=>some ((n,()),())) (yj2 a0)else none
theorem yUb (a0:dA) (h:ywH a0=true):yoL a0=(fun n=>some ((n,()),())) (yj2 a0):=by unfold yoL; rw[h]; rfl
def yCH:Con:=⟨yjt,yov,fun x=>yoL x.1⟩
theorem yT6:ConOk prog 152 yCH:=(yQk).mono (fun x r hk h=>zkY h (fun hq=>yS8 x.1 hk hq))
def yZk:Code:=(f78.body).getD .skip
def yZx:Env:=zkw TT [(82,yF),(150,ygj),(151,yEO),(152,yCH)] []
theorem ySc:FrOk prog ⟨yZx,78,fun _=>none⟩ yZk:=zkA mixed yc ⟨yK,ylt,yWJ,yT6,trivial⟩
abbrev ys9:List Par:= [.rd tA]
abbrev yB1:List OT:= [⟨false,tB,.fz⟩]
def ywP (a0:dA):Option (zaY yB1×zak ys9) :=let r1:=ye a0.2.1;bif(!(!r1))then let r2:=yb a0.1 1 60000;bif(!(!r2))then bnd (yqE a0) fun r3 =>bif(!(!r3.1.1))then bnd (yoL a0) fun r4 =>bif(!r4.1.1)then some ((false,()),()) else let r5:=yb a0.2.2.2.1 (-1) (i64.wrap (a0.2.1.1-1));bif(!(!r5))then let r6:=yb a0.2.2.2.2.1 0 a0.2.1.2;bif(!(!r6))then bif(a0.2.2.2.1==(-1))then bif(a0.2.2.2.2.1 !=0)then some ((false,()),()) else let r7:=yb a0.2.2.2.2.2.2.1 0 60000;bif r7 then let r8:=yb a0.2.2.2.2.2.1 a0.2.2.2.2.2.2.1 60000;bif r8 then bif(leb a0.2.2.2.2.2.1 (i64.wrap (a0.2.2.2.2.2.2.1+4)))then let r9:=yb a0.2.2.2.2.2.2.2.1 0 60000;bif r9 then let r10:=yb a0.2.2.2.2.2.2.2.2.2.1 (-1) 1000;some ((r10,()),()) else some ((false,()),()) else some ((false,()),()) else some ((false,()),()) else some ((false,()),()) else let r11:=yb a0.2.2.2.2.2.2.1 0 60000;bif r11 then let r12:=yb a0.2.2.2.2.2.1 a0.2.2.2.2.2.2.1 60000;bif r12 then bif(leb a0.2.2.2.2.2.1 (i64.wrap (a0.2.2.2.2.2.2.1+4)))then let r13:=yb a0.2.2.2.2.2.2.2.1 0 60000;bif r13 then let r14:=yb a0.2.2.2.2.2.2.2.2.2.1 (-1) 1000;some ((r14,()),()) else some ((false,()),()) else some ((false,()),()) else some ((false,()),()) else some ((false,()),()) else some ((false,()),()) else some ((false,()),()) else some ((false,()),()) else some ((false,()),()) else some ((false,()),())
theorem yWg:ConOk prog 78 ⟨ys9,yB1,fun x=>ywP x.1⟩:=zkI (ySc) func78 ntmps78.symm fun x=>by kernel_rfl
def ycy (a0:dA):Bool:=yO a0
theorem yYD (a0:dA) (hk:zjx ys9 (a0,())):ywP a0=(fun n=>some ((n,()),())) (ycy a0):=by
 unfold ywP ycy yO;simp only[yb6];cases hg:ye a0.2.1
 ·rfl
 have hg2:=yj.1 hg;rw[yWQ a0 hg,yUb a0 hg,wq (a0.2.1.1-1) (by omega) (by omega)];simp only[zkH,ylo,yj2,Bool.not_not,cond_true];cases(leb 1 a0.1&&leb a0.1 60000)
 ·rfl
 cases ylg a0
 ·rfl
 cases yaq a0.2.1 a0.2.2.2.2.2.2.2.2.1
 ·rfl
 cases(leb (-1) a0.2.2.2.1&&leb a0.2.2.2.1 (a0.2.1.1-1))
 ·rfl
 cases(leb 0 a0.2.2.2.2.1&&leb a0.2.2.2.2.1 a0.2.1.2)
 ·rfl
 have ht:(leb 0 a0.2.2.2.2.2.2.1&&leb a0.2.2.2.2.2.2.1 60000)=true→i64.wrap (a0.2.2.2.2.2.2.1+4)=a0.2.2.2.2.2.2.1+4:=fun h=>by
  rw[Bool.and_eq_true,zj7,zj7]at h;exact wr (by omega) (by omega)
 cases hT:(leb 0 a0.2.2.2.2.2.2.1&&leb a0.2.2.2.2.2.2.1 60000)
 ·cases(a0.2.2.2.1== -1)<;>cases(a0.2.2.2.2.1 !=0)<;>rfl
 rw[ht hT];cases(leb a0.2.2.2.2.2.2.1 a0.2.2.2.2.2.1&&leb a0.2.2.2.2.2.1 60000)
 ·cases(a0.2.2.2.1== -1)<;>cases(a0.2.2.2.2.1 !=0)<;>rfl
 cases leb a0.2.2.2.2.2.1 (a0.2.2.2.2.2.2.1+4)
 ·cases(a0.2.2.2.1== -1)<;>cases(a0.2.2.2.2.1 !=0)<;>rfl
 cases(leb 0 a0.2.2.2.2.2.2.2.1&&leb a0.2.2.2.2.2.2.2.1 60000)<;>cases(a0.2.2.2.1== -1)<;>cases(a0.2.2.2.2.1 !=0)<;>rfl
def yGl:Con:=⟨ys9,yB1,fun x=>(fun n=>some ((n,()),())) (ycy x.1)⟩
theorem yYY:ConOk prog 78 yGl:=(yWg).mono (fun x r hk h=>(yYD x.1 hk).trans h)
def yXM:Code:=(f91.body).getD .skip
def yYh:Env:=zkw TT [] []
theorem yOA:FrOk prog ⟨yYh,8,fun _=>none⟩ yXM:=zkA mixed yc trivial
abbrev yyP:List Par:= [.rd tI]
abbrev yzj:List OT:= [⟨false,tI,.fz⟩]
def yFs (a0:Int):Option (zaY yzj×zak yyP) :=bif(ltb a0 0)then some (((-1),()),()) else some (((i64.wrap (2+(a0.tmod 4))),()),())
theorem yTz:ConOk prog 91 ⟨yyP,yzj,fun x=>yFs x.1⟩:=zkI (yOA) func91 ntmps91.symm fun x=>by kernel_rfl
def yT (a0:Int):Int :=bif(ltb a0 0)then (-1) else (i64.wrap (2+(a0.tmod 4)))
def yEG:Con:=⟨yyP,yzj,fun x=>(fun n=>some ((n,()),())) (yT x.1)⟩
theorem yVT (a0:Int):yFs a0=(fun n=>some ((n,()),())) (yT a0):=zkV (p:=fun(n:Int)=>((n,()),())) (zkG (p:=fun(n:Int)=>((n,()),())) rfl rfl)
theorem yWB:ConOk prog 91 yEG:=(yTz).mono (fun x r _ h=>(yVT x.1).trans h)
def yQ3:Code:=(f180.body).getD .skip
def yRr:Env:=zkw TT [(82,yF),(119,ymT)] []
theorem yJR:FrOk prog ⟨yRr,16,fun _=>none⟩ yQ3:=zkA mixed yc ⟨yK,ywA,trivial⟩
abbrev ymz:List Par:= [.rd tG,.rd tI]
abbrev ytA:List OT:= [⟨false,tI,.fz⟩]
def ypM (a0:dG) (a1:Int):Option (zaY ytA×zak ymz) :=let r1:=yd a0;let r2:=yb a1 0 (i64.wrap (r1-1));bif(!r2)then some (((-1),()),()) else bif((i64.wrap (a0.1-1)) !=0)then some (((i64.wrap (a1.tdiv (i64.wrap (a0.1-1)))),()),()) else none
theorem yM5:ConOk prog 180 ⟨ymz,ytA,fun x=>ypM x.1 x.2.1⟩:=zkI (yJR) func180 ntmps180.symm fun x=>by kernel_rfl
def yiA (a0:dG) (a1:Int):Int:=yp a0 a1
theorem yPS (a0:dG) (a1:Int) (hk:zjx ymz (a0,a1,())):ypM a0 a1=(fun n=>some ((n,()),())) (yiA a0 a1):=by
 unfold ypM yiA yp;simp only[yZF];cases hb:yax a0 a1
 ·rfl
 ·obtain⟨h1,h2,h3⟩:=ye1 hb
  have h4:=yj.1 h1;rw[wq (a0.1-1) (by omega) (by omega),show(a0.1-1 !=0)=true from bne_iff_ne.2 (by omega),wr (by omega) (by omega)]; rfl
def yAn:Con:=⟨ymz,ytA,fun x=>(fun n=>some ((n,()),())) (yiA x.1 x.2.1)⟩
theorem yQA:ConOk prog 180 yAn:=(yM5).mono (fun x r hk h=>(yPS x.1 x.2.1 hk).trans h)
def yw0:Code:=(f215.body).getD .skip
def yFE:Env:=zkw TT [] []
theorem yVt:FrOk prog ⟨yFE,22,fun _=>none⟩ yw0:=zkA mixed yc trivial
def yHY:Nat→Option Seg:=fun _=>none
def yet:Shape:=⟨[(1,false,[.int .i64]),(2,false,[.ptr 0 0]),(5,false,[.int .i64])],[(0,[.int .i64,.int .i64,.int .i64,.br tM,.int .i64,.int .i64,.int .i64,.int .i64,.int .i64,.br tW,.int .i64,.bool,.bool])],[]⟩
def yjC:Shape:=⟨[(1,false,[.int .i64]),(2,false,[.ptr 0 0]),(5,false,[.ci .i64 0])],[(0,[.int .i64,.int .i64,.int .i64,.br tM,.int .i64,.int .i64,.int .i64,.int .i64,.int .i64,.br tW,.int .i64,.bool,.bool])],[]⟩
def yjz:Shape:=⟨[],[],[]⟩
def yjG:Shape:=⟨[(4,false,[.int .i64])],[],[]⟩
abbrev yui (v0 v1:Int) (v2:dA):(yet).X:=(((v0,()),((),()),(v1,()),()),((v2.1,v2.2.1.1,v2.2.1.2,v2.2.2.1,v2.2.2.2.1,v2.2.2.2.2.1,v2.2.2.2.2.2.1,v2.2.2.2.2.2.2.1,v2.2.2.2.2.2.2.2.1,v2.2.2.2.2.2.2.2.2.1,v2.2.2.2.2.2.2.2.2.2.1,v2.2.2.2.2.2.2.2.2.2.2.1,v2.2.2.2.2.2.2.2.2.2.2.2,()),()),())
abbrev ySL (v0:Int) (v1:dA):(yjC).X:=(((v0,()),((),()),((),()),()),((v1.1,v1.2.1.1,v1.2.1.2,v1.2.2.1,v1.2.2.2.1,v1.2.2.2.2.1,v1.2.2.2.2.2.1,v1.2.2.2.2.2.2.1,v1.2.2.2.2.2.2.2.1,v1.2.2.2.2.2.2.2.2.1,v1.2.2.2.2.2.2.2.2.2.1,v1.2.2.2.2.2.2.2.2.2.2.1,v1.2.2.2.2.2.2.2.2.2.2.2,()),()),())
abbrev ySI  :(yjz).X:=((),(),())
abbrev yE7 (v0:Int):(yjG).X:=(((v0,()),()),(),())
def yuS (v0 v1 v2 v3 v4:Int) (v5:List dM) (v6 v7 v8 v9 v10:Int) (v11:List dW) (v12:Int) (v13 v14:Bool):Option ((yet).X ⊕ ((yjz).X ⊕ (yjG).X)) :=bif(ltb v1 (v11.length:Int))then bif(inb v1 v11.length)then bif((nth v11 v1 (0,[])).1==v0)then some (.inr (.inr (((v1,()),()),(),()))) else some (.inl (((v0,()),((),()),((i64.wrap (v1+1)),()),()),((v2,v3,v4,v5,v6,v7,v8,v9,v10,v11,v12,v13,v14,()),()),())) else none else some (.inr (.inl ((),(),())))
def yeA (x:(yet).X):=yuS x.1.1.1 x.1.2.2.1.1 x.2.1.1.1 x.2.1.1.2.1 x.2.1.1.2.2.1 x.2.1.1.2.2.2.1 x.2.1.1.2.2.2.2.1 x.2.1.1.2.2.2.2.2.1 x.2.1.1.2.2.2.2.2.2.1 x.2.1.1.2.2.2.2.2.2.2.1 x.2.1.1.2.2.2.2.2.2.2.2.1 x.2.1.1.2.2.2.2.2.2.2.2.2.1 x.2.1.1.2.2.2.2.2.2.2.2.2.2.1 x.2.1.1.2.2.2.2.2.2.2.2.2.2.2.1 x.2.1.1.2.2.2.2.2.2.2.2.2.2.2.2.1
def yEX (x:(yjC).X):(yet).X:=(((x.1.1.1,()),((),()),(0,()),()),((x.2.1.1.1,x.2.1.1.2.1,x.2.1.1.2.2.1,x.2.1.1.2.2.2.1,x.2.1.1.2.2.2.2.1,x.2.1.1.2.2.2.2.2.1,x.2.1.1.2.2.2.2.2.2.1,x.2.1.1.2.2.2.2.2.2.2.1,x.2.1.1.2.2.2.2.2.2.2.2.1,x.2.1.1.2.2.2.2.2.2.2.2.2.1,x.2.1.1.2.2.2.2.2.2.2.2.2.2.1,x.2.1.1.2.2.2.2.2.2.2.2.2.2.2.1,x.2.1.1.2.2.2.2.2.2.2.2.2.2.2.2.1,()),()),())
def yGg:Code:=(zd7 yw0 64 52).getD .skip
theorem yVi:zd7 yw0 64 13=some (.block 0 (.loop yGg)):=by kernel_rfl
theorem yWU (x:(yet).X):zhu ⟨yFE,22,yHY⟩ 0 yGg 52 yet yjz yjG x=yeA x:=by kernel_rfl
def yE2 (x:(yjC).X):Nat:=18446744073709551616
def yvR (x:(yjC).X):Option ((yjz).X ⊕ (yjG).X):=zF yeA (yE2 x) (yEX x)
def yFA:Seg:=⟨yjC,yjz,yjG,yvR⟩
def yXX:Nat→Option Seg:=fun q=>bif Nat.beq q 13 then some yFA else yHY q
theorem yVu:FrOk prog ⟨yFE,22,yXX⟩ yw0:=(yVt).loop (sg:=yFA) yet yEX (by decide) yVi yeA yE2 (by decide) (fun _=>rfl) (fun x r _ h=>h) yWU
abbrev yw2:List Par:= [.rd tA,.rd tI]
abbrev yFL:List OT:= [⟨false,tI,.fz⟩]
def yzM (a0:dA) (a1:Int):Option (zaY yFL×zak yw2) :=zkt (yvR (((a1,()),((),()),((),()),()),((a0.1,a0.2.1.1,a0.2.1.2,a0.2.2.1,a0.2.2.2.1,a0.2.2.2.2.1,a0.2.2.2.2.2.1,a0.2.2.2.2.2.2.1,a0.2.2.2.2.2.2.2.1,a0.2.2.2.2.2.2.2.2.1,a0.2.2.2.2.2.2.2.2.2.1,a0.2.2.2.2.2.2.2.2.2.2.1,a0.2.2.2.2.2.2.2.2.2.2.2,()),()),())) (fun y0 =>some (((-1),()),())) (fun y0 =>some ((y0.1.1.1,()),()))
theorem yYT:ConOk prog 215 ⟨yw2,yFL,fun x=>yzM x.1 x.2.1⟩:=zkI (yVu) func215 ntmps215.symm fun x=>by kernel_rfl
def yiT (a0:dA) (a1:Int):Int:=yi a0.2.2.2.2.2.2.2.2.1 a1
theorem yZ7 (a0:dA) (a1:Int) (hk:zjx yw2 (a0,a1,())):yzM a0 a1=(fun n=>some ((n,()),())) (yiT a0 a1):=by
 have hb:a0.2.2.2.2.2.2.2.2.1.length*32≤2^47:=hk.1.2.2.2.2.2.2.2.2.1.1
 have h1:yvR (ySL a1 a0)=some (bif leb 0 (yi a0.2.2.2.2.2.2.2.2.1 a1)then .inr (yE7 (yi a0.2.2.2.2.2.2.2.2.1 a1))else .inl ySI) :=
  yE6 (step:=yeA) a0.2.2.2.2.2.2.2.2.1 (0,[]) (fun i=>yui a1 i a0) (fun e:dW=>e.1==a1) (fun i=> .inr (yE7 i)) _ (fun i hi=>by
   simp only[yeA,yui,yuS,zky (show(i:Int)<a0.2.2.2.2.2.2.2.2.1.length by omega),cond_true,wq ((i:Int)+1) (by omega) (by omega),Int.natCast_add,Int.natCast_one,Int.toNat_natCast,zkR hi,zkS]
   cases((a0.2.2.2.2.2.2.2.2.1.getD i (0,[])).1==a1)<;>rfl) (by simp only[yeA,yui,yuS,zk3 (Int.le_refl _),cond_false]) _ (by show _<18446744073709551616; omega)
 unfold yzM yiT;rw[h1];cases h:leb 0 (yi a0.2.2.2.2.2.2.2.2.1 a1)
 ·rw[show yi a0.2.2.2.2.2.2.2.2.1 a1= -1 from yK3 h]; rfl
 ·rfl
def yzy:Con:=⟨yw2,yFL,fun x=>(fun n=>some ((n,()),())) (yiT x.1 x.2.1)⟩
theorem yKB:ConOk prog 215 yzy:=(yYT).mono (fun x r hk h=>(yZ7 x.1 x.2.1 hk).trans h)
def ysr:Code:=(f161.body).getD .skip
def yBE:Env:=zkw TT [] []
theorem ySp:FrOk prog ⟨yBE,18,fun _=>none⟩ ysr:=zkA mixed yc trivial
def yF7:Nat→Option Seg:=fun _=>none
def ydr:Shape:=⟨[(0,false,[.br tI]),(1,false,[.int .i64]),(5,false,[.int .i64])],[],[]⟩
def yh7:Shape:=⟨[(0,false,[.br tI]),(1,false,[.int .i64]),(5,false,[.ci .i64 0])],[],[]⟩
def yhS:Shape:=⟨[],[],[]⟩
def yip:Shape:=⟨[(4,false,[.bool])],[],[]⟩
abbrev yrh (v0:List Int) (v1 v2:Int):(ydr).X:=(((v0,()),(v1,()),(v2,()),()),(),())
abbrev yPl (v0:List Int) (v1:Int):(yh7).X:=(((v0,()),(v1,()),((),()),()),(),())
abbrev yPa  :(yhS).X:=((),(),())
abbrev yPx (v0:Bool):(yip).X:=(((v0,()),()),(),())
def yrS (v0:List Int) (v1 v2:Int):Option ((ydr).X ⊕ ((yhS).X ⊕ (yip).X)) :=bif(ltb v2 (v0.length:Int))then bif(inb v2 v0.length)then bif((nth v0 v2 0)==v1)then some (.inr (.inr (((true,()),()),(),()))) else some (.inl (((v0,()),(v1,()),((i64.wrap (v2+1)),()),()),(),())) else none else some (.inr (.inl ((),(),())))
def yd0 (x:(ydr).X):=yrS x.1.1.1 x.1.2.1.1 x.1.2.2.1.1
def yCU (x:(yh7).X):(ydr).X:=(((x.1.1.1,()),(x.1.2.1.1,()),(0,()),()),(),())
def yEv:Code:=(zd7 ysr 64 52).getD .skip
theorem yRG:zd7 ysr 64 13=some (.block 0 (.loop yEv)):=by kernel_rfl
theorem yUn (x:(ydr).X):zhu ⟨yBE,18,yF7⟩ 0 yEv 52 ydr yhS yip x=yd0 x:=by kernel_rfl
def yDa (x:(yh7).X):Nat:=18446744073709551616
def ysV (x:(yh7).X):Option ((yhS).X ⊕ (yip).X):=zF yd0 (yDa x) (yCU x)
def yDU:Seg:=⟨yh7,yhS,yip,ysV⟩
def yUV:Nat→Option Seg:=fun q=>bif Nat.beq q 13 then some yDU else yF7 q
theorem ySq:FrOk prog ⟨yBE,18,yUV⟩ ysr:=(ySp).loop (sg:=yDU) ydr yCU (by decide) yRG yd0 yDa (by decide) (fun _=>rfl) (fun x r _ h=>h) yUn
abbrev yte:List Par:= [.rd tL,.rd tI]
abbrev yB9:List OT:= [⟨false,tB,.fz⟩]
def ywS (a0:List Int) (a1:Int):Option (zaY yB9×zak yte) :=zkt (ysV (((a0,()),(a1,()),((),()),()),(),())) (fun y0 =>some ((false,()),())) (fun y0 =>some ((y0.1.1.1,()),()))
theorem yWo:ConOk prog 161 ⟨yte,yB9,fun x=>ywS x.1 x.2.1⟩:=zkI (ySq) func161 ntmps161.symm fun x=>by kernel_rfl
def yg1 (a0:List Int) (a1:Int):Bool:=a0.any (· ==a1)
theorem yYK (a0:List Int) (a1:Int) (hk:zjx yte (a0,a1,())):ywS a0 a1=(fun n=>some ((n,()),())) (yg1 a0 a1):=by
 have hb:a0.length*8≤2^47:=hk.1.1
 have h1:ysV (yPl a0 a1)=some (bif a0.all (· !=a1)then .inl yPa else .inr (yPx true)) :=
  zj9 (step:=yd0) a0 0 (fun i=>yrh a0 a1 i) (· !=a1) _ _ (fun i hi=>by
   simp only[yd0,yrh,yrS,zky (show(i:Int)<a0.length by omega),cond_true,wq ((i:Int)+1) (by omega) (by omega),Int.natCast_add,Int.natCast_one,Int.toNat_natCast,zkR hi,zkS,bne]
   cases(a0.getD i 0==a1)<;>rfl) (by simp only[yd0,yrh,yrS,zk3 (Int.le_refl _),cond_false]) _ (by show _<18446744073709551616; omega)
 unfold ywS yg1;rw[h1,show a0.any (· ==a1)= !(a0.all (· !=a1))by simp[List.all_eq_not_any_not,bne]];cases a0.all (· !=a1)<;>rfl
def yws:Con:=⟨yte,yB9,fun x=>(fun n=>some ((n,()),())) (yg1 x.1 x.2.1)⟩
theorem yH3:ConOk prog 161 yws:=(yWo).mono (fun x r hk h=>(yYK x.1 x.2.1 hk).trans h)
def yoe:Code:=(f90.body).getD .skip
def yvL:Env:=zkw TT [(82,yF),(160,ygk),(161,yws)] []
theorem yL8:FrOk prog ⟨yvL,60,fun _=>none⟩ yoe:=zkA mixed yc ⟨yK,ylu,yH3,trivial⟩
def yBu:Nat→Option Seg:=fun _=>none
def ybZ:Shape:=⟨[(1,false,[.int .i64]),(2,false,[.ptr 0 0]),(6,false,[.br tI]),(7,false,[.int .i64])],[(0,[.br tL,.br tW,.bool,.br tI])],[]⟩
def yfU:Shape:=⟨[(1,false,[.int .i64]),(2,false,[.ptr 0 0]),(6,false,[.br tI]),(7,false,[.ci .i64 0])],[(0,[.br tL,.br tW,.bool,.br tI])],[]⟩
def yfI:Shape:=⟨[(6,false,[.br tI])],[],[]⟩
def yjb:Shape:=⟨[],[],[]⟩
abbrev ynG (v0:Int) (v1:List Int) (v2:Int) (v3:dM):(ybZ).X:=(((v0,()),((),()),(v1,()),(v2,()),()),((v3.1,v3.2.1,v3.2.2.1,v3.2.2.2,()),()),())
abbrev yKd (v0:Int) (v1:List Int) (v2:dM):(yfU).X:=(((v0,()),((),()),(v1,()),((),()),()),((v2.1,v2.2.1,v2.2.2.1,v2.2.2.2,()),()),())
abbrev yya (v0:List Int):(yfI).X:=(((v0,()),()),(),())
def yn4 (v0:Int) (v1:List Int) (v2:Int) (v3:List (List Int)) (v4:List dW) (v5:Bool) (v6:List Int):Option ((ybZ).X ⊕ ((yfI).X ⊕ (yjb).X)) :=bif(ltb v2 (v4.length:Int))then bif(inb v2 v4.length)then bif((nth v4 v2 (0,[])).1==v0)then bif(inb v2 v4.length)then some (.inl (((v0,()),((),()),((nth v4 v2 (0,[])).2,()),((i64.wrap (v2+1)),()),()),((v3,v4,v5,v6,()),()),())) else none else some (.inl (((v0,()),((),()),(v1,()),((i64.wrap (v2+1)),()),()),((v3,v4,v5,v6,()),()),())) else none else some (.inr (.inl (((v1,()),()),(),())))
def ycn (x:(ybZ).X):=yn4 x.1.1.1 x.1.2.2.1.1 x.1.2.2.2.1.1 x.2.1.1.1 x.2.1.1.2.1 x.2.1.1.2.2.1 x.2.1.1.2.2.2.1
def yxF (x:(yfU).X):(ybZ).X:=(((x.1.1.1,()),((),()),(x.1.2.2.1.1,()),(0,()),()),((x.2.1.1.1,x.2.1.1.2.1,x.2.1.1.2.2.1,x.2.1.1.2.2.2.1,()),()),())
def yz9:Code:=(zd7 yoe 64 244).getD .skip
theorem yLD:zd7 yoe 64 61=some (.block 0 (.loop yz9)):=by kernel_rfl
theorem yNq (x:(ybZ).X):zhu ⟨yvL,60,yBu⟩ 0 yz9 244 ybZ yfI yjb x=ycn x:=by kernel_rfl
def yxW (x:(yfU).X):Nat:=18446744073709551616
def yo2 (x:(yfU).X):Option ((yfI).X ⊕ (yjb).X):=zF ycn (yxW x) (yxF x)
def yyp:Seg:=⟨yfU,yfI,yjb,yo2⟩
def yNQ:Nat→Option Seg:=fun q=>bif Nat.beq q 61 then some yyp else yBu q
theorem yL9:FrOk prog ⟨yvL,60,yNQ⟩ yoe:=(yL8).loop (sg:=yyp) ybZ yxF (by decide) yLD ycn yxW (by decide) (fun _=>rfl) (fun x r _ h=>h) yNq
abbrev yoq:List Par:= [.rd tM,.rd tI]
abbrev ywj:List OT:= [⟨false,tL,(.ow .fz)⟩,⟨false,tB,.fz⟩]
def yrB (a0:dM) (a1:Int):Option (zaY ywj×zak yoq) :=let r1:=yaC a0;bif(!(!r1))then bif(!a0.2.2.1)then let r2:=yb a1 0 (i64.wrap ((a0.1.length:Int)-1));bif(!(!r2))then let r3:=yg1 a0.2.2.2 a1;bif r3 then some ((([]:List Int),false,()),()) else bif(inb a1 a0.1.length)then zkt (yo2 (((a1,()),((),()),((nth a0.1 a1 []),()),((),()),()),((a0.1,a0.2.1,a0.2.2.1,a0.2.2.2,()),()),())) (fun y3 =>bif(zkl ([]:List Int).length y3.1.1.1.length 8)then some (((([]:List Int)++y3.1.1.1),true,()),()) else none) (fun y3 =>none) else none else some ((([]:List Int),false,()),()) else some ((([]:List Int),false,()),()) else some ((([]:List Int),false,()),())
theorem yQe:ConOk prog 90 ⟨yoq,ywj,fun x=>yrB x.1 x.2.1⟩:=zkI (yL9) func90 ntmps90.symm fun x=>by kernel_rfl
def yjZ (a0:dM) (a1:Int):List Int×Bool:=yhv a0 a1
theorem yS3 (a0:dM) (a1:Int) (hk:zjx yoq (a0,a1,())):yrB a0 a1=(fun n=>some ((n.1,n.2,()),())) (yjZ a0 a1):=by
 have hb1:a0.1.length*24≤2^47:=hk.1.1.1;have hb2:a0.2.1.length*32≤2^47:=hk.1.2.1.1
 have h1: ∀s,yo2 (yKd a1 s a0)=some (.inl (yya (yg3 a1 a0.2.1 s))):=fun s =>
  zkx (step:=ycn) a0.2.1 (0,[]) (fun i s=>ynG a1 s i a0) (fun s w=>bif w.1==a1 then w.2 else s) (fun _ _=>True) (fun s=> .inl (yya s)) (fun i s hi _=>⟨by
   simp only[ycn,ynG,yn4,zky (show(i:Int)<a0.2.1.length by omega),cond_true,wq ((i:Int)+1) (by omega) (by omega),Int.natCast_add,Int.natCast_one,Int.toNat_natCast,zkR hi,zkS]
   cases((a0.2.1.getD i (0,[])).1==a1)<;>rfl,trivial⟩) (fun s _=>by simp only[ycn,ynG,yn4,zk3 (Int.le_refl _),cond_false]) s trivial _ (by show _<18446744073709551616; omega)
 unfold yrB yjZ yhv yBj;rw[ynu (show a0.1.length≤1152921504606846976 by omega)];unfold yaC yg1;simp only[h1,zkN,List.nil_append];cases yz a0
 ·rfl
 cases a0.2.2.1
 ·cases hi:inb a1 a0.1.length
  ·rfl
  ·cases a0.2.2.2.any (· ==a1)
   ·have hs:(yg3 a1 a0.2.1 (nth a0.1 a1 [])).length*8≤2^47 :=
     yHE (P:=fun s=>s.length*8≤2^47) (ywx (P:=fun s:List Int=>s.length*8≤2^47) hi fun x hx=>(hk.1.1.2 x hx).1) fun w hw=>(hk.1.2.1.2 w hw).2.1
    simp only[Bool.not_true,Bool.not_false,cond_true,cond_false,Bool.true_and,show zkl ([]:List Int).length (yg3 a1 a0.2.1 (nth a0.1 a1 [])).length 8=true from zkF.2 (by rw[List.length_nil]; omega)]
   ·rfl
 ·rfl
def yCD:Con:=⟨yoq,ywj,fun x=>(fun n=>some ((n.1,n.2,()),())) (yjZ x.1 x.2.1)⟩
theorem yT2:ConOk prog 90 yCD:=(yQe).mono (fun x r hk h=>(yS3 x.1 x.2.1 hk).trans h)
def yXK:Code:=(f211.body).getD .skip
def yYf:Env:=zkw TT [(82,yF)] []
theorem yOw:FrOk prog ⟨yYf,34,fun _=>none⟩ yXK:=zkA mixed yc ⟨yK,trivial⟩
abbrev yqo:List Par:= [.rd tA,.rd tI,.rd tI]
abbrev yzg:List OT:= [⟨false,tB,.fz⟩]
def yuB (a0:dA) (a1 a2:Int):Option (zaY yzg×zak yqo) :=let r1:=yb a1 0 (i64.wrap ((a0.2.2.1.length:Int)-1));bif r1 then bif(inb a1 a0.2.2.1.length)then bif(!((((nth a0.2.2.1 a1 ([],[],false,[])).2).2).1))then bif(!(a1 !=a0.2.2.2.1))then some (((ltb a2 a0.2.2.2.2.1),()),()) else some ((true,()),()) else some ((false,()),()) else none else some ((false,()),())
theorem yTw:ConOk prog 211 ⟨yqo,yzg,fun x=>yuB x.1 x.2.1 x.2.2.1⟩:=zkI (yOw) func211 ntmps211.symm fun x=>by kernel_rfl
def yd7 (a0:dA) (a1 a2:Int):Bool:=yct a0 a1 a2
theorem yVQ (a0:dA) (a1 a2:Int) (hk:zjx yqo (a0,a1,a2,())):yuB a0 a1 a2=(fun n=>some ((n,()),())) (yd7 a0 a1 a2):=by
 have hb:a0.2.2.1.length*80≤2^47:=hk.1.2.2.1.1;unfold yuB yd7 yct yh;rw[ynu (show a0.2.2.1.length≤1152921504606846976 by omega)];cases inb a1 a0.2.2.1.length
 ·rfl
 ·cases(nth a0.2.2.1 a1 ([],[],false,[])).2.2.1<;>cases(a1 !=a0.2.2.2.1)<;>rfl
def ytY:Con:=⟨yqo,yzg,fun x=>(fun n=>some ((n,()),())) (yd7 x.1 x.2.1 x.2.2.1)⟩
theorem yGT:ConOk prog 211 ytY:=(yTw).mono (fun x r hk h=>(yVQ x.1 x.2.1 x.2.2.1 hk).trans h)
def yXU:Code:=(f246.body).getD .skip
def yYp:Env:=zkw TT [(90,yCD),(113,yfh),(211,ytY)] []
theorem yOR:FrOk prog ⟨yYp,36,fun _=>none⟩ yXU:=zkA mixed yc ⟨yT2,yka,yGT,trivial⟩
abbrev yqs:List Par:= [.rd tA,.rd tI,.rd tI]
abbrev yzs:List OT:= [⟨false,tI,.fz⟩,⟨false,tB,.fz⟩]
def yuH (a0:dA) (a1 a2:Int):Option (zaY yzs×zak yqs) :=let r1:=yd7 a0 a1 a2;bif(!r1)then some ((0,false,()),()) else bif(inb a1 a0.2.2.1.length)then let r2:=ybD a2;let r3:=yjZ ((nth a0.2.2.1 a1 ([],[],false,[])).1,((nth a0.2.2.1 a1 ([],[],false,[])).2).1,(((nth a0.2.2.1 a1 ([],[],false,[])).2).2)) r2;bif(!(!r3.2))then bif((r3.1.length:Int) !=1)then some ((0,false,()),()) else bif(inb 0 r3.1.length)then some (((nth r3.1 0 0),true,()),()) else none else some ((0,false,()),()) else none
theorem yTL:ConOk prog 246 ⟨yqs,yzs,fun x=>yuH x.1 x.2.1 x.2.2.1⟩:=zkI (yOR) func246 ntmps246.symm fun x=>by kernel_rfl
def ylp (a0:dA) (a1 a2:Int):Int×Bool:=(yiW a0 a1 a2,yu a0 a1 a2)
theorem yV0 (a0:dA) (a1 a2:Int) (hk:zjx yqs (a0,a1,a2,())):yuH a0 a1 a2=(fun n=>some ((n.1,n.2,()),())) (ylp a0 a1 a2):=by
 unfold yuH ylp yiW yd7;simp only[zkX,ygo,yjZ];rw[show yu a0 a1 a2=(yct a0 a1 a2&&((ydh a0 a1 a2).2&&((ydh a0 a1 a2).1.length:Int)==1))from rfl];rw[show yhv (nth a0.2.2.1 a1 ([],[],false,[])) (yX a2)=ydh a0 a1 a2 from rfl];cases hl:yct a0 a1 a2
 ·rfl
 ·rw[show inb a1 a0.2.2.1.length=true by unfold yct at hl; exact(Bool.and_eq_true_iff.1 hl).1]
  cases(ydh a0 a1 a2).2
  ·rfl
  ·rw[bne]
   cases h1:(((ydh a0 a1 a2).1.length:Int)==1)
   ·rfl
   ·rw[show inb 0 (ydh a0 a1 a2).1.length=true from zj6.2 (by have:=beq_iff_eq.1 h1; omega)]; rfl
def yEQ:Con:=⟨yqs,yzs,fun x=>(fun n=>some ((n.1,n.2,()),())) (ylp x.1 x.2.1 x.2.2.1)⟩
theorem yWL:ConOk prog 246 yEQ:=(yTL).mono (fun x r hk h=>(yV0 x.1 x.2.1 x.2.2.1 hk).trans h)
def yhy:Code:=(f247.body).getD .skip
def ym8:Env:=zkw TT [] []
theorem yGA:FrOk prog ⟨ym8,23,fun _=>none⟩ yhy:=zkA mixed yc trivial
def ysx:Nat→Option Seg:=fun _=>none
def yaB:Shape:=⟨[(0,false,[.br tI]),(1,false,[.int .i64]),(5,false,[.int .i64]),(6,false,[.int .i64])],[],[]⟩
def ycX:Shape:=⟨[(0,false,[.br tI]),(1,false,[.int .i64]),(5,false,[.ci .i64 0]),(6,false,[.ci .i64 0])],[],[]⟩
def ycV:Shape:=⟨[(5,false,[.int .i64])],[],[]⟩
def yfg:Shape:=⟨[],[],[]⟩
abbrev yiS (v0:List Int) (v1 v2 v3:Int):(yaB).X:=(((v0,()),(v1,()),(v2,()),(v3,()),()),(),())
abbrev yFT (v0:List Int) (v1:Int):(ycX).X:=(((v0,()),(v1,()),((),()),((),()),()),(),())
abbrev yFR (v0:Int):(ycV).X:=(((v0,()),()),(),())
def yiV (v0:List Int) (v1 v2 v3:Int):Option ((yaB).X ⊕ ((ycV).X ⊕ (yfg).X)) :=bif(ltb v3 (v0.length:Int))then bif(v3 !=v1)then bif(inb v3 v0.length)then some (.inl (((v0,()),(v1,()),((i64.wrap ((BitVec.ofInt IntKind.i64.bits v2 ^^^ BitVec.ofInt IntKind.i64.bits (nth v0 v3 0)).toNat:Int)),()),((i64.wrap (v3+1)),()),()),(),())) else none else some (.inl (((v0,()),(v1,()),(v2,()),((i64.wrap (v3+1)),()),()),(),())) else some (.inr (.inl (((v2,()),()),(),())))
def yaL (x:(yaB).X):=yiV x.1.1.1 x.1.2.1.1 x.1.2.2.1.1 x.1.2.2.2.1.1
def yp0 (x:(ycX).X):(yaB).X:=(((x.1.1.1,()),(x.1.2.1.1,()),(0,()),(0,()),()),(),())
def yr0:Code:=(zd7 yhy 64 116).getD .skip
theorem yGd:zd7 yhy 64 29=some (.block 0 (.loop yr0)):=by kernel_rfl
theorem yGY (x:(yaB).X):zhu ⟨ym8,23,ysx⟩ 0 yr0 116 yaB ycV yfg x=yaL x:=by kernel_rfl
def yp2 (x:(ycX).X):Nat:=18446744073709551616
def yjp (x:(ycX).X):Option ((ycV).X ⊕ (yfg).X):=zF yaL (yp2 x) (yp0 x)
def yp9:Seg:=⟨ycX,ycV,yfg,yjp⟩
def yG8:Nat→Option Seg:=fun q=>bif Nat.beq q 29 then some yp9 else ysx q
theorem yGB:FrOk prog ⟨ym8,23,yG8⟩ yhy:=(yGA).loop (sg:=yp9) yaB yp0 (by decide) yGd yaL yp2 (by decide) (fun _=>rfl) (fun x r _ h=>h) yGY
abbrev yhF:List Par:= [.rd tL,.rd tI]
abbrev ynq:List OT:= [⟨false,tI,.fz⟩]
def ykY (a0:List Int) (a1:Int):Option (zaY ynq×zak yhF) :=zkt (yjp (((a0,()),(a1,()),((),()),((),()),()),(),())) (fun y0 =>some ((y0.1.1.1,()),())) (fun y0 =>none)
theorem yHJ:ConOk prog 247 ⟨yhF,ynq,fun x=>ykY x.1 x.2.1⟩:=zkI (yGB) func247 ntmps247.symm fun x=>by kernel_rfl
def ye7 (a0:List Int) (a1:Int):Int:=ynw a0 a1
theorem yID (a0:List Int) (a1:Int) (hk:zjx yhF (a0,a1,())):ykY a0 a1=(fun n=>some ((n,()),())) (ye7 a0 a1):=by
 have hb:a0.length*8≤2^47:=hk.1.1
 have h1:=zkD (step:=yaL) a0.length (fun i s=>yiS a0 a1 s i) (fun n (i:Nat)=>bif(i:Int) !=a1 then xw n (nth a0 i 0)else n) (fun _ _=>True) (fun s=> .inl (yFR s)) (fun i s hi _=>⟨by
  simp only[yaL,yiS,yiV,zky (show(i:Int)<a0.length by omega),cond_true,wq ((i:Int)+1) (by omega) (by omega),Int.natCast_add,Int.natCast_one,Int.toNat_natCast,zkR hi]
  cases((i:Int) !=a1)<;>rfl,trivial⟩) (fun s _=>by simp only[yaL,yiS,yiV,zk3 (Int.le_refl _),cond_false]) 0 trivial 18446744073709551616 (by omega)
 rw[y1X]at h1;unfold ykY ye7;rw[show yjp (yFT a0 a1)=_ from h1]; rfl
def yt0:Con:=⟨yhF,ynq,fun x=>(fun n=>some ((n,()),())) (ye7 x.1 x.2.1)⟩
theorem yIN:ConOk prog 247 yt0:=(yHJ).mono (fun x r hk h=>(yID x.1 x.2.1 hk).trans h)
def yoh:Code:=(f227.body).getD .skip
def yvO:Env:=zkw TT [(246,yEQ),(247,yt0)] []
theorem yMi:FrOk prog ⟨yvO,45,fun _=>none⟩ yoh:=zkA mixed yc ⟨yWL,yIN,trivial⟩
def yBx:Nat→Option Seg:=fun _=>none
def yb1:Shape:=⟨[(1,false,[.int .i64]),(2,false,[.ptr 0 0]),(6,false,[.at 800000000]),(7,false,[.int .i64]),(8,false,[.int .i64])],[(0,[.int .i64,.int .i64,.int .i64,.br tM,.int .i64,.int .i64,.int .i64,.int .i64,.int .i64,.br tW,.int .i64,.bool,.bool])],[(800000000,tI,.fz)]⟩
def yfW:Shape:=⟨[(1,false,[.int .i64]),(2,false,[.ptr 0 0]),(6,false,[.at 800000000]),(7,false,[.ci .i64 (-1)]),(8,false,[.ci .i64 0])],[(0,[.int .i64,.int .i64,.int .i64,.br tM,.int .i64,.int .i64,.int .i64,.int .i64,.int .i64,.br tW,.int .i64,.bool,.bool])],[(800000000,tI,.fz)]⟩
def yfK:Shape:=⟨[(6,false,[.at 800000000]),(7,false,[.int .i64])],[],[(800000000,tI,.fz)]⟩
def yf1:Shape:=⟨[(4,false,[.at 800000000]),(5,false,[.bool])],[],[(800000000,tI,.fz)]⟩
abbrev ynI (v0 v1 v2:Int) (v3:dA) (v4:List Int):(yb1).X:=(((v0,()),((),()),((),()),(v1,()),(v2,()),()),((v3.1,v3.2.1.1,v3.2.1.2,v3.2.2.1,v3.2.2.2.1,v3.2.2.2.2.1,v3.2.2.2.2.2.1,v3.2.2.2.2.2.2.1,v3.2.2.2.2.2.2.2.1,v3.2.2.2.2.2.2.2.2.1,v3.2.2.2.2.2.2.2.2.2.1,v3.2.2.2.2.2.2.2.2.2.2.1,v3.2.2.2.2.2.2.2.2.2.2.2,()),()),(v4,()))
abbrev yKf (v0:Int) (v1:dA) (v2:List Int):(yfW).X:=(((v0,()),((),()),((),()),((),()),((),()),()),((v1.1,v1.2.1.1,v1.2.1.2,v1.2.2.1,v1.2.2.2.1,v1.2.2.2.2.1,v1.2.2.2.2.2.1,v1.2.2.2.2.2.2.1,v1.2.2.2.2.2.2.2.1,v1.2.2.2.2.2.2.2.2.1,v1.2.2.2.2.2.2.2.2.2.1,v1.2.2.2.2.2.2.2.2.2.2.1,v1.2.2.2.2.2.2.2.2.2.2.2,()),()),(v2,()))
abbrev yJ3 (v0:Int) (v1:List Int):(yfK).X:=((((),()),(v0,()),()),(),(v1,()))
abbrev yKj (v0:Bool) (v1:List Int):(yf1).X:=((((),()),(v0,()),()),(),(v1,()))
def yn7 (v0 v1 v2 v3 v4 v5:Int) (v6:List dM) (v7 v8 v9 v10 v11:Int) (v12:List dW) (v13:Int) (v14 v15:Bool) (v16:List Int):Option ((yb1).X ⊕ ((yfK).X ⊕ (yf1).X)) :=bif(ltb v2 v4)then let r2:=ylp (v3,(v4,v5),v6,v7,v8,v9,v10,v11,v12,v13,v14,v15) v2 v0;bif(!r2.2)then bif(leb 0 v1)then some (.inr (.inr ((((),()),(false,()),()),(),(([]:List Int),())))) else bif(zkl v16.length ([r2.1]:List Int).length 8)then some (.inl (((v0,()),((),()),((),()),(v2,()),((i64.wrap (v2+1)),()),()),((v3,v4,v5,v6,v7,v8,v9,v10,v11,v12,v13,v14,v15,()),()),((v16++([r2.1]:List Int)),()))) else none else bif(zkl v16.length ([r2.1]:List Int).length 8)then some (.inl (((v0,()),((),()),((),()),(v1,()),((i64.wrap (v2+1)),()),()),((v3,v4,v5,v6,v7,v8,v9,v10,v11,v12,v13,v14,v15,()),()),((v16++([r2.1]:List Int)),()))) else none else some (.inr (.inl ((((),()),(v1,()),()),(),(v16,()))))
def ycq (x:(yb1).X):=yn7 x.1.1.1 x.1.2.2.2.1.1 x.1.2.2.2.2.1.1 x.2.1.1.1 x.2.1.1.2.1 x.2.1.1.2.2.1 x.2.1.1.2.2.2.1 x.2.1.1.2.2.2.2.1 x.2.1.1.2.2.2.2.2.1 x.2.1.1.2.2.2.2.2.2.1 x.2.1.1.2.2.2.2.2.2.2.1 x.2.1.1.2.2.2.2.2.2.2.2.1 x.2.1.1.2.2.2.2.2.2.2.2.2.1 x.2.1.1.2.2.2.2.2.2.2.2.2.2.1 x.2.1.1.2.2.2.2.2.2.2.2.2.2.2.1 x.2.1.1.2.2.2.2.2.2.2.2.2.2.2.2.1 x.2.2.1
def yxI (x:(yfW).X):(yb1).X:=(((x.1.1.1,()),((),()),((),()),((-1),()),(0,()),()),((x.2.1.1.1,x.2.1.1.2.1,x.2.1.1.2.2.1,x.2.1.1.2.2.2.1,x.2.1.1.2.2.2.2.1,x.2.1.1.2.2.2.2.2.1,x.2.1.1.2.2.2.2.2.2.1,x.2.1.1.2.2.2.2.2.2.2.1,x.2.1.1.2.2.2.2.2.2.2.2.1,x.2.1.1.2.2.2.2.2.2.2.2.2.1,x.2.1.1.2.2.2.2.2.2.2.2.2.2.1,x.2.1.1.2.2.2.2.2.2.2.2.2.2.2.1,x.2.1.1.2.2.2.2.2.2.2.2.2.2.2.2.1,()),()),(x.2.2.1,()))
def yAc:Code:=(zd7 yoh 64 244).getD .skip
theorem yLG:zd7 yoh 64 61=some (.block 0 (.loop yAc)):=by kernel_rfl
theorem yNt (x:(yb1).X):zhu ⟨yvO,45,yBx⟩ 0 yAc 244 yb1 yfK yf1 x=ycq x:=by kernel_rfl
def yxZ (x:(yfW).X):Nat:=18446744073709551616
def yo5 (x:(yfW).X):Option ((yfK).X ⊕ (yf1).X):=zF ycq (yxZ x) (yxI x)
def yys:Seg:=⟨yfW,yfK,yf1,yo5⟩
def yNT:Nat→Option Seg:=fun q=>bif Nat.beq q 61 then some yys else yBx q
theorem yMj:FrOk prog ⟨yvO,45,yNT⟩ yoh:=(yMi).loop (sg:=yys) yb1 yxI (by decide) yLG ycq yxZ (by decide) (fun _=>rfl) (fun x r _ h=>h) yNt
abbrev yju:List Par:= [.rd tA,.rd tI]
abbrev yow:List OT:= [⟨false,tL,(.ow .fz)⟩,⟨false,tB,.fz⟩]
def yrG (a0:dA) (a1:Int):Option (zaY yow×zak yju) :=zkt (yo5 (((a1,()),((),()),((),()),((),()),((),()),()),((a0.1,a0.2.1.1,a0.2.1.2,a0.2.2.1,a0.2.2.2.1,a0.2.2.2.2.1,a0.2.2.2.2.2.1,a0.2.2.2.2.2.2.1,a0.2.2.2.2.2.2.2.1,a0.2.2.2.2.2.2.2.2.1,a0.2.2.2.2.2.2.2.2.2.1,a0.2.2.2.2.2.2.2.2.2.2.1,a0.2.2.2.2.2.2.2.2.2.2.2,()),()),(([]:List Int),()))) (fun y2 =>bif(leb 0 y2.1.2.1.1)then let r4:=ye7 y2.2.2.1 y2.1.2.1.1;bif(inb y2.1.2.1.1 y2.2.2.1.length)then some (((y2.2.2.1.set (y2.1.2.1.1).toNat r4),true,()),()) else none else some ((y2.2.2.1,true,()),())) (fun y2 =>some ((y2.2.2.1,y2.1.2.1.1,()),()))
theorem yQl:ConOk prog 227 ⟨yju,yow,fun x=>yrG x.1 x.2.1⟩:=zkI (yMj) func227 ntmps227.symm fun x=>by kernel_rfl
def ygm (a0:dA) (a1:Int):List Int×Bool:=yR a0 a1
def ywI (a0:dA) (a1:Int):Bool:=ye a0.2.1
theorem yS9 (a0:dA) (a1:Int) (hk:zjx yju (a0,a1,())) (hq:ywI a0 a1=true):yrG a0 a1=(fun n=>some ((n.1,n.2,()),())) (ygm a0 a1):=by
 have hg:=yj.1 hq
 have h1:yo5 (yKf a1 a0 [])=some (bif yeF (fun(i:Nat)=>yu a0 i a1) a0.2.1.1.toNat then .inr (yKj false [])else .inl (yJ3 (yA (fun(i:Nat)=>yu a0 i a1) a0.2.1.1.toNat) (yV a0 a1 a0.2.1.1.toNat))) :=
  zji (step:=ycq) (fun i=>ynI a1 (yA (fun(i:Nat)=>yu a0 i a1) i) i a0 (yV a0 a1 i)) a0.2.1.1.toNat (fun i=> !yu a0 i a1&&leb 0 (yA (fun(i:Nat)=>yu a0 i a1) i)) _ _ (fun i hi=>by
   simp only[ycq,ynI,yn7,zky (show(i:Int)<a0.2.1.1 by omega),cond_true,wq ((i:Int)+1) (by omega) (by omega),Int.natCast_add,Int.natCast_one,Int.toNat_natCast,zkX,ylp,yA];rw[zkF.2 (show((yV a0 a1 i).length+ [yiW a0 i a1].length)*8≤140737488355328 by simp only[List.length_cons,List.length_nil,yfc]; omega),yH7]
   cases yu a0 i a1<;>cases leb 0 (yA (fun(i:Nat)=>yu a0 i a1) i)<;>rfl) (by simp only[ycq,ynI,yn7,zk3 (show a0.2.1.1≤(a0.2.1.1.toNat:Int)by omega),cond_false]) _ (by show _<18446744073709551616; omega)
 unfold yrG ygm yR;rw[h1];cases yeF (fun(i:Nat)=>yu a0 i a1) a0.2.1.1.toNat
 ·simp only[cond_false,zkN,ye7]
  cases hm:leb 0 (yA (fun(i:Nat)=>yu a0 i a1) a0.2.1.1.toNat)
  ·rfl
  ·obtain⟨h2,h3⟩:=yXj a0 a1 a0.2.1.1.toNat hm
   rw[h2,h3]; rfl
 ·rfl
def yj9 (a0:dA) (a1:Int):Option (zaY yow×zak yju):=bif ywI a0 a1 then(fun n=>some ((n.1,n.2,()),())) (ygm a0 a1)else none
theorem yFd (a0:dA) (a1:Int) (h:ywI a0 a1=true):yj9 a0 a1=(fun n=>some ((n.1,n.2,()),())) (ygm a0 a1):=by unfold yj9; rw[h]; rfl
def yq4:Con:=⟨yju,yow,fun x=>yj9 x.1 x.2.1⟩
theorem yFa:ConOk prog 227 yq4:=(yQl).mono (fun x r hk h=>zkY h (fun hq=>yS9 x.1 x.2.1 hk hq))
def yQ6:Code:=(f229.body).getD .skip
def yRu:Env:=zkw TT [(82,yF),(150,ygj)] []
theorem yJU:FrOk prog ⟨yRu,14,fun _=>none⟩ yQ6:=zkA mixed yc ⟨yK,ylt,trivial⟩
abbrev ytf:List Par:= [.rd tG,.rd tI]
abbrev ytC:List OT:= [⟨false,tB,.fz⟩]
def yAU (a0:dG) (a1:Int):Option (zaY ytC×zak ytf) :=let r1:=ye a0;bif r1 then let r2:=yb a1 0 (i64.wrap (a0.2-1));some ((r2,()),()) else some ((false,()),())
theorem yM8:ConOk prog 229 ⟨ytf,ytC,fun x=>yAU x.1 x.2.1⟩:=zkI (yJU) func229 ntmps229.symm fun x=>by kernel_rfl
def yfi (a0:dG) (a1:Int):Bool :=let r1:=ye a0;bif r1 then let r2:=yb a1 0 (i64.wrap (a0.2-1));r2 else false
def ypi:Con:=⟨ytf,ytC,fun x=>(fun n=>some ((n,()),())) (yfi x.1 x.2.1)⟩
theorem yPV (a0:dG) (a1:Int):yAU a0 a1=(fun n=>some ((n,()),())) (yfi a0 a1):=zkV (p:=fun(n:Bool)=>((n,()),())) (zkG (p:=fun(n:Bool)=>((n,()),())) rfl rfl)
theorem yDz:ConOk prog 229 ypi:=(yM8).mono (fun x r _ h=>(yPV x.1 x.2.1).trans h)
theorem yND (g:dG) (s:Int):yfi g s=yG g s:=by
 unfold yfi yG;cases hg:ye g
 ·rfl
 have:=yj.1 hg;rw[yb6,wr (by omega) (by omega)]; rfl
def yQ1:Code:=(f209.body).getD .skip
def yRp:Env:=zkw TT [(229,ypi)] []
theorem yJN:FrOk prog ⟨yRp,17,fun _=>none⟩ yQ1:=zkA mixed yc ⟨yDz,trivial⟩
abbrev ymx:List Par:= [.rd tG,.rd tI]
abbrev ytx:List OT:= [⟨false,tI,.fz⟩]
def ypK (a0:dG) (a1:Int):Option (zaY ytx×zak ymx) :=let r1:=yfi a0 a1;bif(!r1)then some (((-1),()),()) else bif(a0.1 !=0)then some (((i64.wrap ((i64.wrap (a0.1-1))-(a1.tmod a0.1))),()),()) else none
theorem yM2:ConOk prog 209 ⟨ymx,ytx,fun x=>ypK x.1 x.2.1⟩:=zkI (yJN) func209 ntmps209.symm fun x=>by kernel_rfl
def ydH (a0:dG) (a1:Int):Int:=yg a0 a1
theorem yPP (a0:dG) (a1:Int) (hk:zjx ymx (a0,a1,())):ypK a0 a1=(fun n=>some ((n,()),())) (ydH a0 a1):=by
 unfold ypK ydH;rw[yND];cases hs:yG a0 a1
 ·unfold yg; rw[hs]; rfl
 ·have h1:=yM.1 hs
  have h2:=yj.1 h1.1;have h3:=yiG hs;have h4:yg a0 a1=a0.1-1-a1.tmod a0.1:=by unfold yg; rw[hs]; rfl
  rw[show(a0.1 !=0)=true from bne_iff_ne.2 (by omega),wq (a0.1-1) (by omega) (by omega),wq (a0.1-1-a1.tmod a0.1) (by omega) (by omega),h4]; rfl
def ypg:Con:=⟨ymx,ytx,fun x=>(fun n=>some ((n,()),())) (ydH x.1 x.2.1)⟩
theorem yDx:ConOk prog 209 ypg:=(yM2).mono (fun x r hk h=>(yPP x.1 x.2.1 hk).trans h)
def yXJ:Code:=(f242.body).getD .skip
def yYe:Env:=zkw TT [(82,yF),(209,ypg),(229,ypi)] []
theorem yOv:FrOk prog ⟨yYe,28,fun _=>none⟩ yXJ:=zkA mixed yc ⟨yK,yDx,yDz,trivial⟩
abbrev yqn:List Par:= [.rd tG,.rd tI,.rd tI]
abbrev yzf:List OT:= [⟨false,tI,.fz⟩]
def yuA (a0:dG) (a1 a2:Int):Option (zaY yzf×zak yqn) :=let r1:=yfi a0 a1;bif(!(!r1))then let r2:=yb a2 0 (i64.wrap (a0.1-2));bif(!r2)then some (((-1),()),()) else let r3:=ydH a0 a1;bif(a0.1 !=0)then some ((((i64.wrap ((i64.wrap (r3+1))+a2)).tmod a0.1),()),()) else none else some (((-1),()),())
theorem yTv:ConOk prog 242 ⟨yqn,yzf,fun x=>yuA x.1 x.2.1 x.2.2.1⟩:=zkI (yOv) func242 ntmps242.symm fun x=>by kernel_rfl
def ylm (a0:dG) (a1 a2:Int):Int:=yaI a0 a1 a2
theorem yVP (a0:dG) (a1 a2:Int) (hk:zjx yqn (a0,a1,a2,())):yuA a0 a1 a2=(fun n=>some ((n,()),())) (ylm a0 a1 a2):=by
 unfold yuA ylm yaI ydH;rw[yND];cases hs:yG a0 a1
 ·rfl
 ·have h1:=yM.1 hs
  have h2:=yj.1 h1.1;have h3:=yiG hs;rw[yb6,wq (a0.1-2) (by omega) (by omega)];cases hi:(leb 0 a2&&leb a2 (a0.1-2))
  ·rfl
  ·rw[Bool.and_eq_true,zj7,zj7]at hi
   rw[show(a0.1 !=0)=true from bne_iff_ne.2 (by omega)];show some (((i64.wrap (i64.wrap (yg a0 a1+1)+a2)).tmod a0.1,()),())=some (((yg a0 a1+1+a2).tmod a0.1,()),());rw[wq (yg a0 a1+1) (by omega) (by omega),wq (yg a0 a1+1+a2) (by omega) (by omega)]
def yEE:Con:=⟨yqn,yzf,fun x=>(fun n=>some ((n,()),())) (ylm x.1 x.2.1 x.2.2.1)⟩
theorem yWz:ConOk prog 242 yEE:=(yTv).mono (fun x r hk h=>(yVP x.1 x.2.1 x.2.2.1 hk).trans h)
def yqc:Code:=(f218.body).getD .skip
def yyx:Env:=zkw TT [(227,yq4),(242,yEE)] []
theorem yOJ:FrOk prog ⟨yyx,41,fun _=>none⟩ yqc:=zkA mixed yc ⟨yFa,yWz,trivial⟩
def yEd:Nat→Option Seg:=fun _=>none
def ycK:Shape:=⟨[(1,false,[.int .i64]),(2,false,[.ptr 0 0]),(6,false,[.at 800000000]),(7,false,[.bool]),(8,false,[.at 800000001]),(9,false,[.int .i64])],[(0,[.int .i64,.int .i64,.int .i64,.br tM,.int .i64,.int .i64,.int .i64,.int .i64,.int .i64,.br tW,.int .i64,.bool,.bool])],[(800000000,tI,.fz),(800000001,tI,.fz)]⟩
def ygL:Shape:=⟨[(1,false,[.int .i64]),(2,false,[.ptr 0 0]),(6,false,[.at 800000000]),(7,false,[.bool]),(8,false,[.at 800000001]),(9,false,[.ci .i64 0])],[(0,[.int .i64,.int .i64,.int .i64,.br tM,.int .i64,.int .i64,.int .i64,.int .i64,.int .i64,.br tW,.int .i64,.bool,.bool])],[(800000000,tI,.fz),(800000001,tI,.fz)]⟩
def ygB:Shape:=⟨[(7,false,[.bool]),(8,false,[.at 800000000])],[],[(800000000,tI,.fz)]⟩
def ykD:Shape:=⟨[],[],[]⟩
abbrev yf2 (v0:Int) (v1:Bool) (v2:Int) (v3:dA) (v4 v5:List Int):(ycK).X:=(((v0,()),((),()),((),()),(v1,()),((),()),(v2,()),()),((v3.1,v3.2.1.1,v3.2.1.2,v3.2.2.1,v3.2.2.2.1,v3.2.2.2.2.1,v3.2.2.2.2.2.1,v3.2.2.2.2.2.2.1,v3.2.2.2.2.2.2.2.1,v3.2.2.2.2.2.2.2.2.1,v3.2.2.2.2.2.2.2.2.2.1,v3.2.2.2.2.2.2.2.2.2.2.1,v3.2.2.2.2.2.2.2.2.2.2.2,()),()),(v4,v5,()))
abbrev yAP (v0:Int) (v1:Bool) (v2:dA) (v3 v4:List Int):(ygL).X:=(((v0,()),((),()),((),()),(v1,()),((),()),((),()),()),((v2.1,v2.2.1.1,v2.2.1.2,v2.2.2.1,v2.2.2.2.1,v2.2.2.2.2.1,v2.2.2.2.2.2.1,v2.2.2.2.2.2.2.1,v2.2.2.2.2.2.2.2.1,v2.2.2.2.2.2.2.2.2.1,v2.2.2.2.2.2.2.2.2.2.1,v2.2.2.2.2.2.2.2.2.2.2.1,v2.2.2.2.2.2.2.2.2.2.2.2,()),()),(v3,v4,()))
abbrev ypr (v0:Bool) (v1:List Int):(ygB).X:=(((v0,()),((),()),()),(),(v1,()))
def yjl (v0:Int) (v1:Bool) (v2 v3 v4 v5:Int) (v6:List dM) (v7 v8 v9 v10 v11:Int) (v12:List dW) (v13:Int) (v14 v15:Bool) (v16 v17:List Int):Option ((ycK).X ⊕ ((ygB).X ⊕ (ykD).X)) :=bif(ltb v2 (i64.wrap (v4-1)))then bif v1 then let r3:=ylm (v4,v5) v0 v2;bif(inb r3 v16.length)then bif(zkl v17.length ([(nth v16 r3 0)]:List Int).length 8)then some (.inl (((v0,()),((),()),((),()),(v1,()),((),()),((i64.wrap (v2+1)),()),()),((v3,v4,v5,v6,v7,v8,v9,v10,v11,v12,v13,v14,v15,()),()),(v16,(v17++([(nth v16 r3 0)]:List Int)),()))) else none else none else some (.inr (.inl (((v1,()),((),()),()),(),(v17,())))) else some (.inr (.inl (((v1,()),((),()),()),(),(v17,()))))
def yaJ (x:(ycK).X):=yjl x.1.1.1 x.1.2.2.2.1.1 x.1.2.2.2.2.2.1.1 x.2.1.1.1 x.2.1.1.2.1 x.2.1.1.2.2.1 x.2.1.1.2.2.2.1 x.2.1.1.2.2.2.2.1 x.2.1.1.2.2.2.2.2.1 x.2.1.1.2.2.2.2.2.2.1 x.2.1.1.2.2.2.2.2.2.2.1 x.2.1.1.2.2.2.2.2.2.2.2.1 x.2.1.1.2.2.2.2.2.2.2.2.2.1 x.2.1.1.2.2.2.2.2.2.2.2.2.2.1 x.2.1.1.2.2.2.2.2.2.2.2.2.2.2.1 x.2.1.1.2.2.2.2.2.2.2.2.2.2.2.2.1 x.2.2.1 x.2.2.2.1
def yAx (x:(ygL).X):(ycK).X:=(((x.1.1.1,()),((),()),((),()),(x.1.2.2.2.1.1,()),((),()),(0,()),()),((x.2.1.1.1,x.2.1.1.2.1,x.2.1.1.2.2.1,x.2.1.1.2.2.2.1,x.2.1.1.2.2.2.2.1,x.2.1.1.2.2.2.2.2.1,x.2.1.1.2.2.2.2.2.2.1,x.2.1.1.2.2.2.2.2.2.2.1,x.2.1.1.2.2.2.2.2.2.2.2.1,x.2.1.1.2.2.2.2.2.2.2.2.2.1,x.2.1.1.2.2.2.2.2.2.2.2.2.2.1,x.2.1.1.2.2.2.2.2.2.2.2.2.2.2.1,x.2.1.1.2.2.2.2.2.2.2.2.2.2.2.2.1,()),()),(x.2.2.1,x.2.2.2.1,()))
def yCn:Code:=(zd7 yqc 64 244).getD .skip
theorem yN4:zd7 yqc 64 61=some (.block 0 (.loop yCn)):=by kernel_rfl
theorem yQN (x:(ycK).X):zhu ⟨yyx,41,yEd⟩ 0 yCn 244 ycK ygB ykD x=yaJ x:=by kernel_rfl
def yAH (x:(ygL).X):Nat:=18446744073709551616
def yku (x:(ygL).X):Option ((ygB).X ⊕ (ykD).X):=zF yaJ (yAH x) (yAx x)
def yA1:Seg:=⟨ygL,ygB,ykD,yku⟩
def yRc:Nat→Option Seg:=fun q=>bif Nat.beq q 61 then some yA1 else yEd q
theorem yOK:FrOk prog ⟨yyx,41,yRc⟩ yqc:=(yOJ).loop (sg:=yA1) ycK yAx (by decide) yN4 yaJ yAH (by decide) (fun _=>rfl) (fun x r _ h=>h) yQN
abbrev yk7:List Par:= [.rd tA,.rd tI]
abbrev yqw:List OT:= [⟨false,tL,(.ow .fz)⟩,⟨false,tB,.fz⟩]
def yuF (a0:dA) (a1:Int):Option (zaY yqw×zak yk7) :=bnd (yj9 a0 a1) fun r1 =>zkt (yku (((a1,()),((),()),((),()),(r1.1.2.1,()),((),()),((),()),()),((a0.1,a0.2.1.1,a0.2.1.2,a0.2.2.1,a0.2.2.2.1,a0.2.2.2.2.1,a0.2.2.2.2.2.1,a0.2.2.2.2.2.2.1,a0.2.2.2.2.2.2.2.1,a0.2.2.2.2.2.2.2.2.1,a0.2.2.2.2.2.2.2.2.2.1,a0.2.2.2.2.2.2.2.2.2.2.1,a0.2.2.2.2.2.2.2.2.2.2.2,()),()),(r1.1.1,([]:List Int),()))) (fun y3 =>some ((y3.2.2.1,y3.1.1.1,()),())) (fun y3 =>none)
theorem yTG:ConOk prog 218 ⟨yk7,yqw,fun x=>yuF x.1 x.2.1⟩:=zkI (yOK) func218 ntmps218.symm fun x=>by kernel_rfl
def yqB (a0:dA) (a1:Int):List Int×Bool:=ykK a0 a1
def yzI (a0:dA) (a1:Int):Bool:=yG a0.2.1 a1
theorem yVX (a0:dA) (a1:Int) (hk:zjx yk7 (a0,a1,())) (hq:yzI a0 a1=true):yuF a0 a1=(fun n=>some ((n.1,n.2,()),())) (yqB a0 a1):=by
 have hs:yG a0.2.1 a1=true:=hq;have hg:=yj.1 (yM.1 hs).1;unfold yuF yqB ykK;rw[yFd a0 a1 (yM.1 hs).1,ygm];simp only[zkH];cases hw:(yR a0 a1).2
 ·have h1:yku (yAP a1 false a0 (yR a0 a1).1 [])=some (.inl (ypr false [])) :=
   zkL (step:=yaJ) (fun i=>yf2 a1 false i a0 (yR a0 a1).1 []) 0 _ (fun i hi=>absurd hi (Nat.not_lt_zero _)) (by
    simp only[yaJ,yf2,yjl,cond_false]
    cases ltb ((0:Nat):Int) (i64.wrap (a0.2.1.1-1))<;>rfl) _ (by show _<18446744073709551616; omega)
  rw[h1]; rfl
 ·have hL:=yKT hw
  have h1:yku (yAP a1 true a0 (yR a0 a1).1 [])=some (.inl (ypr true ((List.range (a0.2.1.1-1).toNat).foldl (fun l (i:Nat)=>l++ [nth (yR a0 a1).1 (yaI a0.2.1 a1 i) 0]) []))) :=
   zkD (step:=yaJ) (a0.2.1.1-1).toNat (fun i s=>yf2 a1 true i a0 (yR a0 a1).1 s) (fun l (i:Nat)=>l++ [nth (yR a0 a1).1 (yaI a0.2.1 a1 i) 0]) (fun i s=>s.length=i) (fun s=> .inl (ypr true s)) (fun i s hi hs2=>⟨by
    have hd:=yK0 hs (show(0:Int)≤i by omega) (show(i:Int)≤a0.2.1.1-2 by omega);simp only[yaJ,yf2,yjl,wq (a0.2.1.1-1) (by omega) (by omega),zky (show(i:Int)<a0.2.1.1-1 by omega),cond_true,wq ((i:Int)+1) (by omega) (by omega),Int.natCast_add,Int.natCast_one,Int.toNat_natCast,zkX,ylm,zj6.2 (show 0≤yaI a0.2.1 a1 i∧yaI a0.2.1 a1 i<(yR a0 a1).1.length by omega)]
    rw[zkF.2 (show(s.length+ [nth (yR a0 a1).1 (yaI a0.2.1 a1 i) 0].length)*8≤140737488355328 by simp only[List.length_cons,List.length_nil]; omega)]; rfl,by simp[hs2]⟩) (fun s hs2=>by simp only[yaJ,yf2,yjl,wq (a0.2.1.1-1) (by omega) (by omega),zk3 (show a0.2.1.1-1≤((a0.2.1.1-1).toNat:Int)by omega),cond_false]) [] rfl _ (by show _<18446744073709551616; omega)
  rw[h1,yoD]; rfl
def yqD (a0:dA) (a1:Int):Option (zaY yqw×zak yk7):=bif yzI a0 a1 then(fun n=>some ((n.1,n.2,()),())) (yqB a0 a1)else none
theorem yWP (a0:dA) (a1:Int) (h:yzI a0 a1=true):yqD a0 a1=(fun n=>some ((n.1,n.2,()),())) (yqB a0 a1):=by unfold yqD; rw[h]; rfl
def yEM:Con:=⟨yk7,yqw,fun x=>yqD x.1 x.2.1⟩
theorem yWH:ConOk prog 218 yEM:=(yTG).mono (fun x r hk h=>zkY h (fun hq=>yVX x.1 x.2.1 hk hq))
def yQ7:Code:=(f181.body).getD .skip
def yRv:Env:=zkw TT [(215,yzy),(218,yEM)] []
theorem yJV:FrOk prog ⟨yRv,28,fun _=>none⟩ yQ7:=zkA mixed yc ⟨yKB,yWH,trivial⟩
abbrev yhH:List Par:= [.rd tA,.rd tI]
abbrev ymG:List OT:= [⟨false,tL,(.ow .fz)⟩,⟨false,tB,.fz⟩]
def ypP (a0:dA) (a1:Int):Option (zaY ymG×zak yhH) :=let r1:=yiT a0 a1;bif(leb 0 r1)then bif(inb r1 a0.2.2.2.2.2.2.2.2.1.length)then bif(zkl ([]:List Int).length ((nth a0.2.2.2.2.2.2.2.2.1 r1 (0,[])).2).length 8)then some (((([]:List Int)++((nth a0.2.2.2.2.2.2.2.2.1 r1 (0,[])).2)),true,()),()) else none else none else bif a0.2.2.2.2.2.2.2.2.2.2.2 then some ((([]:List Int),false,()),()) else bnd (yqD a0 a1) fun r2 =>some ((r2.1.1,r2.1.2.1,()),())
theorem yM9:ConOk prog 181 ⟨yhH,ymG,fun x=>ypP x.1 x.2.1⟩:=zkI (yJV) func181 ntmps181.symm fun x=>by kernel_rfl
def yiC (a0:dA) (a1:Int):List Int×Bool:=ym a0 a1
def yut (a0:dA) (a1:Int):Bool:=yG a0.2.1 a1
theorem yPW (a0:dA) (a1:Int) (hk:zjx yhH (a0,a1,())) (hq:yut a0 a1=true):ypP a0 a1=(fun n=>some ((n.1,n.2,()),())) (yiC a0 a1):=by
 unfold ypP yiC ym yiT;rw[yWP a0 a1 hq];simp only[List.nil_append];cases h:leb 0 (yi a0.2.2.2.2.2.2.2.2.1 a1)
 ·cases a0.2.2.2.2.2.2.2.2.2.2.2<;>rfl
 ·have h1:=(ygV (d:=((0,[]):dW)) h).1
  have h2:(nth a0.2.2.2.2.2.2.2.2.1 (yi a0.2.2.2.2.2.2.2.2.1 a1) (0,[])).2.length*8≤2^47:=ywx (P:=fun x:dW=>x.2.length*8≤2^47) h1 (fun x hx=>(hk.1.2.2.2.2.2.2.2.2.1.2 x hx).2.1);rw[show inb (yi a0.2.2.2.2.2.2.2.2.1 a1) a0.2.2.2.2.2.2.2.2.1.length=true from h1,zkF.2 (show(([]:List Int).length+(nth a0.2.2.2.2.2.2.2.2.1 (yi a0.2.2.2.2.2.2.2.2.1 a1) (0,[])).2.length)*8≤140737488355328 by rw[List.length_nil]; omega)]; rfl
def ym1 (a0:dA) (a1:Int):Option (zaY ymG×zak yhH):=bif yut a0 a1 then(fun n=>some ((n.1,n.2,()),())) (yiC a0 a1)else none
theorem yQG (a0:dA) (a1:Int) (h:yut a0 a1=true):ym1 a0 a1=(fun n=>some ((n.1,n.2,()),())) (yiC a0 a1):=by unfold ym1; rw[h]; rfl
def yAq:Con:=⟨yhH,ymG,fun x=>ym1 x.1 x.2.1⟩
theorem yQD:ConOk prog 181 yAq:=(yM9).mono (fun x r hk h=>zkY h (fun hq=>yPW x.1 x.2.1 hk hq))
def yUF:Code:=(f182.body).getD .skip
def yU8:Env:=zkw TT [(82,yF),(119,ymT)] []
theorem yL7:FrOk prog ⟨yU8,16,fun _=>none⟩ yUF:=zkA mixed yc ⟨yK,ywA,trivial⟩
abbrev yop:List Par:= [.rd tG,.rd tI]
abbrev ywi:List OT:= [⟨false,tI,.fz⟩]
def yrA (a0:dG) (a1:Int):Option (zaY ywi×zak yop) :=let r1:=yd a0;let r2:=yb a1 0 (i64.wrap (r1-1));bif(!r2)then some (((-1),()),()) else bif((i64.wrap (a0.1-1)) !=0)then some (((a1.tmod (i64.wrap (a0.1-1))),()),()) else none
theorem yQd:ConOk prog 182 ⟨yop,ywi,fun x=>yrA x.1 x.2.1⟩:=zkI (yL7) func182 ntmps182.symm fun x=>by kernel_rfl
def yjY (a0:dG) (a1:Int):Int:=yC a0 a1
theorem yS2 (a0:dG) (a1:Int) (hk:zjx yop (a0,a1,())):yrA a0 a1=(fun n=>some ((n,()),())) (yjY a0 a1):=by
 unfold yrA yjY yC;simp only[yZF];cases hb:yax a0 a1
 ·rfl
 ·obtain⟨h1,h2,h3⟩:=ye1 hb
  have h4:=yj.1 h1;rw[wq (a0.1-1) (by omega) (by omega),show(a0.1-1 !=0)=true from bne_iff_ne.2 (by omega)]; rfl
def yCC:Con:=⟨yop,ywi,fun x=>(fun n=>some ((n,()),())) (yjY x.1 x.2.1)⟩
theorem yT1:ConOk prog 182 yCC:=(yQd).mono (fun x r hk h=>(yS2 x.1 x.2.1 hk).trans h)
def ysu:Code:=(f183.body).getD .skip
def yBH:Env:=zkw TT [] [(4096,(.pr .fz .fz)),(28800,(.pr .fz .fz)),(41472,(.pr .fz .fz)),(49280,(.pr .fz .fz))]
theorem ySx:FrOk prog ⟨yBH,67,fun _=>none⟩ ysu:=zkA mixed yc trivial
def yGa:Nat→Option Seg:=fun _=>none
def ydv:Shape:=⟨[(0,false,[.ptr 1000000000 0]),(3,false,[.ptr 0 0]),(4,false,[.at 800000000]),(5,false,[.bool]),(6,false,[.int .i64])],[(0,[.int .i64,.fz tI]),(1000000000,[.int .i64,.int .i64,.int .i64,.at 800000001,.int .i64,.int .i64,.int .i64,.int .i64,.int .i64,.at 800000002,.int .i64,.bool,.bool])],[(800000000,tW,(.pr .fz .fz)),(800000001,tM,(.pr (.ow .fz) (.pr (.ow (.pr .fz .fz)) (.pr .fz (.ow .fz))))),(800000002,tW,(.pr .fz .fz))]⟩
def yib:Shape:=⟨[(0,false,[.ptr 1000000000 0]),(3,false,[.ptr 0 0]),(4,false,[.at 800000000]),(5,false,[.cb false]),(6,false,[.ci .i64 0])],[(0,[.int .i64,.fz tI]),(1000000000,[.int .i64,.int .i64,.int .i64,.at 800000001,.int .i64,.int .i64,.int .i64,.int .i64,.int .i64,.at 800000002,.int .i64,.bool,.bool])],[(800000000,tW,(.pr .fz .fz)),(800000001,tM,(.pr (.ow .fz) (.pr (.ow (.pr .fz .fz)) (.pr .fz (.ow .fz))))),(800000002,tW,(.pr .fz .fz))]⟩
def yhW:Shape:=⟨[(0,false,[.ptr 1000000000 0]),(3,false,[.ptr 0 0]),(4,false,[.at 800000000]),(5,false,[.bool])],[(0,[.int .i64,.fz tI]),(1000000000,[.int .i64,.int .i64,.int .i64,.at 800000001,.int .i64,.int .i64,.int .i64,.int .i64,.int .i64,.at 800000002,.int .i64,.bool,.bool])],[(800000000,tW,(.pr .fz .fz)),(800000001,tM,(.pr (.ow .fz) (.pr (.ow (.pr .fz .fz)) (.pr .fz (.ow .fz))))),(800000002,tW,(.pr .fz .fz))]⟩
def ymN:Shape:=⟨[],[],[]⟩
abbrev yrl (v0:Bool) (v1:Int) (v2:dW) (v3:dA) (v4:List dW):(ydv).X:=((((),()),((),()),((),()),(v0,()),(v1,()),()),((v2.1,v2.2,()),(v3.1,v3.2.1.1,v3.2.1.2,(),v3.2.2.2.1,v3.2.2.2.2.1,v3.2.2.2.2.2.1,v3.2.2.2.2.2.2.1,v3.2.2.2.2.2.2.2.1,(),v3.2.2.2.2.2.2.2.2.2.1,v3.2.2.2.2.2.2.2.2.2.2.1,v3.2.2.2.2.2.2.2.2.2.2.2,()),()),(v4,v3.2.2.1,v3.2.2.2.2.2.2.2.2.1,()))
abbrev yPp (v0:dW) (v1:dA) (v2:List dW):(yib).X:=((((),()),((),()),((),()),((),()),((),()),()),((v0.1,v0.2,()),(v1.1,v1.2.1.1,v1.2.1.2,(),v1.2.2.2.1,v1.2.2.2.2.1,v1.2.2.2.2.2.1,v1.2.2.2.2.2.2.1,v1.2.2.2.2.2.2.2.1,(),v1.2.2.2.2.2.2.2.2.2.1,v1.2.2.2.2.2.2.2.2.2.2.1,v1.2.2.2.2.2.2.2.2.2.2.2,()),()),(v2,v1.2.2.1,v1.2.2.2.2.2.2.2.2.1,()))
abbrev yPb (v0:Bool) (v1:dW) (v2:dA) (v3:List dW):(yhW).X:=((((),()),((),()),((),()),(v0,()),()),((v1.1,v1.2,()),(v2.1,v2.2.1.1,v2.2.1.2,(),v2.2.2.2.1,v2.2.2.2.2.1,v2.2.2.2.2.2.1,v2.2.2.2.2.2.2.1,v2.2.2.2.2.2.2.2.1,(),v2.2.2.2.2.2.2.2.2.2.1,v2.2.2.2.2.2.2.2.2.2.2.1,v2.2.2.2.2.2.2.2.2.2.2.2,()),()),(v3,v2.2.2.1,v2.2.2.2.2.2.2.2.2.1,()))
def yrW (v0:Bool) (v1 v2:Int) (v3:List Int) (v4 v5 v6 v7 v8 v9 v10 v11 v12:Int) (v13 v14:Bool) (v15:List dW) (v16:List dM) (v17:List dW):Option ((ydv).X ⊕ ((yhW).X ⊕ (ymN).X)) :=bif(ltb v1 (v17.length:Int))then bif(!v0)then bif(inb v1 v17.length)then bif(leb v2 ((nth v17 v1 (0,[])).1))then bif(zkl v15.length ([(v2,v3)]:List dW).length 32)then bif(inb v1 v17.length)then bif((nth v17 v1 (0,[])).1 !=v2)then bif(inb v1 v17.length)then bif(zkl (v15++([(v2,v3)]:List dW)).length ([(nth v17 v1 (0,[]))]:List dW).length 32)then some (.inl ((((),()),((),()),((),()),(true,()),((i64.wrap (v1+1)),()),()),((v2,v3,()),(v4,v5,v6,(),v7,v8,v9,v10,v11,(),v12,v13,v14,()),()),(((v15++([(v2,v3)]:List dW))++([(nth v17 v1 (0,[]))]:List dW)),v16,v17,()))) else none else none else some (.inl ((((),()),((),()),((),()),(true,()),((i64.wrap (v1+1)),()),()),((v2,v3,()),(v4,v5,v6,(),v7,v8,v9,v10,v11,(),v12,v13,v14,()),()),((v15++([(v2,v3)]:List dW)),v16,v17,()))) else none else none else bif(inb v1 v17.length)then bif((nth v17 v1 (0,[])).1 !=v2)then bif(inb v1 v17.length)then bif(zkl v15.length ([(nth v17 v1 (0,[]))]:List dW).length 32)then some (.inl ((((),()),((),()),((),()),(v0,()),((i64.wrap (v1+1)),()),()),((v2,v3,()),(v4,v5,v6,(),v7,v8,v9,v10,v11,(),v12,v13,v14,()),()),((v15++([(nth v17 v1 (0,[]))]:List dW)),v16,v17,()))) else none else none else some (.inl ((((),()),((),()),((),()),(v0,()),((i64.wrap (v1+1)),()),()),((v2,v3,()),(v4,v5,v6,(),v7,v8,v9,v10,v11,(),v12,v13,v14,()),()),(v15,v16,v17,()))) else none else none else bif(inb v1 v17.length)then bif((nth v17 v1 (0,[])).1 !=v2)then bif(inb v1 v17.length)then bif(zkl v15.length ([(nth v17 v1 (0,[]))]:List dW).length 32)then some (.inl ((((),()),((),()),((),()),(v0,()),((i64.wrap (v1+1)),()),()),((v2,v3,()),(v4,v5,v6,(),v7,v8,v9,v10,v11,(),v12,v13,v14,()),()),((v15++([(nth v17 v1 (0,[]))]:List dW)),v16,v17,()))) else none else none else some (.inl ((((),()),((),()),((),()),(v0,()),((i64.wrap (v1+1)),()),()),((v2,v3,()),(v4,v5,v6,(),v7,v8,v9,v10,v11,(),v12,v13,v14,()),()),(v15,v16,v17,()))) else none else some (.inr (.inl ((((),()),((),()),((),()),(v0,()),()),((v2,v3,()),(v4,v5,v6,(),v7,v8,v9,v10,v11,(),v12,v13,v14,()),()),(v15,v16,v17,()))))
def yd4 (x:(ydv).X):=yrW x.1.2.2.2.1.1 x.1.2.2.2.2.1.1 x.2.1.1.1 x.2.1.1.2.1 x.2.1.2.1.1 x.2.1.2.1.2.1 x.2.1.2.1.2.2.1 x.2.1.2.1.2.2.2.2.1 x.2.1.2.1.2.2.2.2.2.1 x.2.1.2.1.2.2.2.2.2.2.1 x.2.1.2.1.2.2.2.2.2.2.2.1 x.2.1.2.1.2.2.2.2.2.2.2.2.1 x.2.1.2.1.2.2.2.2.2.2.2.2.2.2.1 x.2.1.2.1.2.2.2.2.2.2.2.2.2.2.2.1 x.2.1.2.1.2.2.2.2.2.2.2.2.2.2.2.2.1 x.2.2.1 x.2.2.2.1 x.2.2.2.2.1
def yCY (x:(yib).X):(ydv).X:=((((),()),((),()),((),()),(false,()),(0,()),()),((x.2.1.1.1,x.2.1.1.2.1,()),(x.2.1.2.1.1,x.2.1.2.1.2.1,x.2.1.2.1.2.2.1,(),x.2.1.2.1.2.2.2.2.1,x.2.1.2.1.2.2.2.2.2.1,x.2.1.2.1.2.2.2.2.2.2.1,x.2.1.2.1.2.2.2.2.2.2.2.1,x.2.1.2.1.2.2.2.2.2.2.2.2.1,(),x.2.1.2.1.2.2.2.2.2.2.2.2.2.2.1,x.2.1.2.1.2.2.2.2.2.2.2.2.2.2.2.1,x.2.1.2.1.2.2.2.2.2.2.2.2.2.2.2.2.1,()),()),(x.2.2.1,x.2.2.2.1,x.2.2.2.2.1,()))
def yEz:Code:=(zd7 ysu 64 244).getD .skip
theorem yRK:zd7 ysu 64 61=some (.block 0 (.loop yEz)):=by kernel_rfl
theorem yUr (x:(ydv).X):zhu ⟨yBH,67,yGa⟩ 0 yEz 244 ydv yhW ymN x=yd4 x:=by kernel_rfl
def yDe (x:(yib).X):Nat:=18446744073709551616
def ysZ (x:(yib).X):Option ((yhW).X ⊕ (ymN).X):=zF yd4 (yDe x) (yCY x)
def yDY:Seg:=⟨yib,yhW,ymN,ysZ⟩
def yUY:Nat→Option Seg:=fun q=>bif Nat.beq q 61 then some yDY else yGa q
theorem ySy:FrOk prog ⟨yBH,67,yUY⟩ ysu:=(ySx).loop (sg:=yDY) ydv yCY (by decide) yRK yd4 yDe (by decide) (fun _=>rfl) (fun x r _ h=>h) yUr
abbrev ynk:List Par:= [.pt tA (.pr .fz (.pr (.pr .fz .fz) (.pr (.ow (.pr (.ow .fz) (.pr (.ow (.pr .fz .fz)) (.pr .fz (.ow .fz))))) (.pr .fz (.pr .fz (.pr .fz (.pr .fz (.pr .fz (.pr (.ow (.pr .fz .fz)) (.pr .fz (.pr .fz .fz))))))))))),.kp tW .fz]
abbrev ytF:List OT:= []
def ywW (a0:dA) (a1:dW):Option (zaY ytF×zak ynk) :=zkt (ysZ ((((),()),((),()),((),()),((),()),((),()),()),((a1.1,a1.2,()),(a0.1,a0.2.1.1,a0.2.1.2,(),a0.2.2.2.1,a0.2.2.2.2.1,a0.2.2.2.2.2.1,a0.2.2.2.2.2.2.1,a0.2.2.2.2.2.2.2.1,(),a0.2.2.2.2.2.2.2.2.2.1,a0.2.2.2.2.2.2.2.2.2.2.1,a0.2.2.2.2.2.2.2.2.2.2.2,()),()),(([]:List dW),a0.2.2.1,a0.2.2.2.2.2.2.2.2.1,()))) (fun y0 =>bif(!y0.1.2.2.2.1.1)then bif(zkl y0.2.2.1.length ([(y0.2.1.1.1,y0.2.1.1.2.1)]:List dW).length 32)then some ((),((y0.2.1.2.1.1,(y0.2.1.2.1.2.1,y0.2.1.2.1.2.2.1),y0.2.2.2.1,y0.2.1.2.1.2.2.2.2.1,y0.2.1.2.1.2.2.2.2.2.1,y0.2.1.2.1.2.2.2.2.2.2.1,y0.2.1.2.1.2.2.2.2.2.2.2.1,y0.2.1.2.1.2.2.2.2.2.2.2.2.1,(y0.2.2.1++([(y0.2.1.1.1,y0.2.1.1.2.1)]:List dW)),y0.2.1.2.1.2.2.2.2.2.2.2.2.2.2.1,y0.2.1.2.1.2.2.2.2.2.2.2.2.2.2.2.1,y0.2.1.2.1.2.2.2.2.2.2.2.2.2.2.2.2.1),())) else none else some ((),((y0.2.1.2.1.1,(y0.2.1.2.1.2.1,y0.2.1.2.1.2.2.1),y0.2.2.2.1,y0.2.1.2.1.2.2.2.2.1,y0.2.1.2.1.2.2.2.2.2.1,y0.2.1.2.1.2.2.2.2.2.2.1,y0.2.1.2.1.2.2.2.2.2.2.2.1,y0.2.1.2.1.2.2.2.2.2.2.2.2.1,y0.2.2.1,y0.2.1.2.1.2.2.2.2.2.2.2.2.2.2.1,y0.2.1.2.1.2.2.2.2.2.2.2.2.2.2.2.1,y0.2.1.2.1.2.2.2.2.2.2.2.2.2.2.2.2.1),()))) (fun y0 =>none)
theorem yWt:ConOk prog 183 ⟨ynk,ytF,fun x=>ywW x.1 x.2.1⟩:=zkI (ySy) func183 ntmps183.symm fun x=>by kernel_rfl
def yuo (a0:dA) (a1:dW):dA:=yav a0 (ydI a0.2.2.2.2.2.2.2.2.1 a1)
def yDC (a0:dA) (a1:dW):Bool:=decide (a0.2.2.2.2.2.2.2.2.1.length≤1000)
theorem yYO (a0:dA) (a1:dW) (hk:zjx ynk (a0,a1,())) (hq:yDC a0 a1=true):ywW a0 a1=(fun n=>some ((),(n,()))) (yuo a0 a1):=by
 have hq:=of_decide_eq_true hq
 have h1:=zkx (step:=yd4) a0.2.2.2.2.2.2.2.2.1 (0,[]) (fun i s=>yrl s.1 i a1 a0 s.2) (ycz a1) (fun i s=>s.2.length≤i*2) (fun s=> .inl (yPb s.1 a1 a0 s.2)) (fun i s hi hs=>by
  constructor
  ·simp only[yd4,yrl,yrW,zky (show(i:Int)<a0.2.2.2.2.2.2.2.2.1.length by omega),cond_true,wq ((i:Int)+1) (by omega) (by omega),Int.natCast_add,Int.natCast_one,Int.toNat_natCast,zkR hi,zkX,zkS,ycz,zkF.2 (show(s.2.length+ [a1].length)*32≤140737488355328 by simp only[List.length_cons,List.length_nil]; omega),
    show ∀x:dW,zkl s.2.length [x].length 32=true from fun x=>zkF.2 (by simp only[List.length_cons,List.length_nil]; omega),show ∀x:dW,zkl (s.2++ [a1]).length [x].length 32=true from fun x=>zkF.2 (by simp only[List.length_append,List.length_cons,List.length_nil]; omega)]
   cases s.1<;>cases leb a1.1 (a0.2.2.2.2.2.2.2.2.1.getD i (0,[])).1<;>cases((a0.2.2.2.2.2.2.2.2.1.getD i (0,[])).1 !=a1.1)<;>simp
  ·unfold ycz
   have: ∀(b c:Bool) (x:dW),((bif b then s.2++ [a1]else s.2)++(bif c then[x]else[])).length≤(i+1)*2:=fun b c x=>by
    cases b<;>cases c<;>simp<;>omega
   exact this _ _ _) (fun s hs=>by simp only[yd4,yrl,yrW,zk3 (Int.le_refl _),cond_false]) (false,[]) (Nat.zero_le _) 18446744073709551616 (by omega)
 have hl:((a0.2.2.2.2.2.2.2.2.1.foldl (ycz a1) (false,[])).2).length≤2000:=by
  have: ∀(l:List dW) (s:Bool×List dW),((l.foldl (ycz a1) s).2).length≤s.2.length+l.length*2:=by
   intro l
   induction l with
   | nil=>intro s; simp
   | cons x t ih =>
    intro s;rw[List.foldl_cons];have:=ih (ycz a1 s x)
    have h2:(ycz a1 s x).2.length≤s.2.length+2:=by
     unfold ycz;cases(!s.1&&leb a1.1 x.1)<;>cases(x.1 !=a1.1)<;>simp
    simp only[List.length_cons]; omega
  have:=this a0.2.2.2.2.2.2.2.2.1 (false,[]);simp only[List.length_nil]at this;omega
 unfold ywW yuo ydI;refine(congrArg (fun z=>zkt z _ _) (show ysZ (yPp a1 a0 [])=_ from h1)).trans ?_;generalize a0.2.2.2.2.2.2.2.2.1.foldl (ycz a1) (false,[])=R at hl;simp only[zkN,zkX];cases hr:R.1
 ·rw[zkF.2 (show(R.2.length+ [a1].length)*32≤140737488355328 by simp only[List.length_cons,List.length_nil]; omega)]; rfl
 ·rfl
def yuq (a0:dA) (a1:dW):Option (zaY ytF×zak ynk):=bif yDC a0 a1 then(fun n=>some ((),(n,()))) (yuo a0 a1)else none
theorem yY9 (a0:dA) (a1:dW) (h:yDC a0 a1=true):yuq a0 a1=(fun n=>some ((),(n,()))) (yuo a0 a1):=by unfold yuq; rw[h]; rfl
def yGt:Con:=⟨ynk,ytF,fun x=>yuq x.1 x.2.1⟩
theorem yY6:ConOk prog 183 yGt:=(yWt).mono (fun x r hk h=>zkY h (fun hq=>yYO x.1 x.2.1 hk hq))
def yZr:Code:=(f118.body).getD .skip
def yZE:Env:=zkw TT [(180,yAn),(181,yAq),(182,yCC),(183,yGt)] []
theorem ySz:FrOk prog ⟨yZE,40,fun _=>none⟩ yZr:=zkA mixed yc ⟨yQA,yQD,yT1,yY6,trivial⟩
abbrev ynl:List Par:= [.pt tA (.pr .fz (.pr (.pr .fz .fz) (.pr (.ow (.pr (.ow .fz) (.pr (.ow (.pr .fz .fz)) (.pr .fz (.ow .fz))))) (.pr .fz (.pr .fz (.pr .fz (.pr .fz (.pr .fz (.pr (.ow (.pr .fz .fz)) (.pr .fz (.pr .fz .fz))))))))))),.rd tI,.rd tI]
abbrev ytG:List OT:= [⟨false,tI,.fz⟩]
def ywX (a0:dA) (a1 a2:Int):Option (zaY ytG×zak ynl) :=let r1:=yiA a0.2.1 a1;bnd (ym1 a0 r1) fun r2 =>bif(!r2.1.2.1)then some ((5,()),(a0,())) else let r3:=yjY a0.2.1 a1;bif(inb r3 r2.1.1.length)then bnd (yuq a0 (r1,(r2.1.1.set (r3).toNat a2))) fun r4 =>some ((0,()),(r4.2.1,())) else none
theorem yWu:ConOk prog 118 ⟨ynl,ytG,fun x=>ywX x.1 x.2.1 x.2.2.1⟩:=zkI (ySz) func118 ntmps118.symm fun x=>by kernel_rfl
def ybB (a:dA) (b n:Int):Int×dA:=bif(ym a (yp a.2.1 b)).2 then(0,yav a (ydI a.2.2.2.2.2.2.2.2.1 (yp a.2.1 b,(ym a (yp a.2.1 b)).1.set (yC a.2.1 b).toNat n)))else(5,a)
def yup (a0:dA) (a1 a2:Int):Int×dA:=ybB a0 a1 a2
def ynP (a0:dA) (a1 a2:Int):Bool:=yO a0&&(yax a0.2.1 a1&&decide (a0.2.2.2.2.2.2.2.2.1.length≤1000))
theorem yYP (a0:dA) (a1 a2:Int) (hk:zjx ynl (a0,a1,a2,())) (hq:ynP a0 a1 a2=true):ywX a0 a1 a2=(fun n=>some ((n.1,()),(n.2,()))) (yup a0 a1 a2):=by
 simp only[ynP,Bool.and_eq_true]at hq;have hs:=ygg hq.2.1;obtain⟨hg,_,hi⟩:=ye1 hq.2.1;unfold ywX yup ybB;simp only[yiA,yjY];rw[yQG a0 (yp a0.2.1 a1) hs];simp only[zkH,yiC];cases hn:(ym a0 (yp a0.2.1 a1)).2
 ·rfl
 ·have hl:=yhw hq.1 hs hn
  have hx:yC a0.2.1 a1=a1.tmod (a0.2.1.1-1):=by unfold yC; rw[hq.2.1]; rfl
  rw[zj6.2 (show 0≤yC a0.2.1 a1∧yC a0.2.1 a1<(ym a0 (yp a0.2.1 a1)).1.length by omega),yY9 _ _ hq.2.2];rfl
def ye9 (a0:dA) (a1 a2:Int):Option (zaY ytG×zak ynl):=bif ynP a0 a1 a2 then(fun n=>some ((n.1,()),(n.2,()))) (yup a0 a1 a2)else none
theorem yZa (a0:dA) (a1 a2:Int) (h:ynP a0 a1 a2=true):ye9 a0 a1 a2=(fun n=>some ((n.1,()),(n.2,()))) (yup a0 a1 a2):=by unfold ye9; rw[h]; rfl
def yGu:Con:=⟨ynl,ytG,fun x=>ye9 x.1 x.2.1 x.2.2.1⟩
theorem yY7:ConOk prog 118 yGu:=(yWu).mono (fun x r hk h=>zkY h (fun hq=>yYP x.1 x.2.1 x.2.2.1 hk hq))
def yXN:Code:=(f147.body).getD .skip
def yYi:Env:=zkw TT [] []
theorem yOB:FrOk prog ⟨yYi,58,fun _=>none⟩ yXN:=zkA mixed yc trivial
abbrev yyQ:List Par:= [.pt tU .fz]
abbrev yzk:List OT:= [⟨false,tI,.fz⟩]
def ycb (a0:dU):Option (zaY yzk×zak yyQ) :=bif(ltb a0.2.1 (a0.1.length:Int))then bif(inb a0.2.1 a0.1.length)then some (((i64.wrap ((BitVec.ofInt IntKind.i64.bits (i64.wrap ((i64.wrap ((BitVec.ofInt IntKind.i64.bits (i64.wrap ((BitVec.ofInt IntKind.i64.bits ((i64.wrap ((i64.wrap (a0.2.2*6364136223846793005))+1442695040888963407)).fdiv (2^(min (33:Int).toNat IntKind.i64.bits))) ^^^ BitVec.ofInt IntKind.i64.bits ((i64.wrap ((i64.wrap (a0.2.2*6364136223846793005))+1442695040888963407)).fdiv (2^(min (47:Int).toNat IntKind.i64.bits)))).toNat:Int)) &&& BitVec.ofInt IntKind.i64.bits 255).toNat:Int))+(i64.wrap (nth a0.1 a0.2.1 0)))) &&& BitVec.ofInt IntKind.i64.bits 255).toNat:Int)),()),((a0.1,(i64.wrap (a0.2.1+1)),(i64.wrap ((i64.wrap (a0.2.2*6364136223846793005))+1442695040888963407))),())) else none else some (((i64.wrap ((BitVec.ofInt IntKind.i64.bits (i64.wrap ((BitVec.ofInt IntKind.i64.bits ((i64.wrap ((i64.wrap (a0.2.2*6364136223846793005))+1442695040888963407)).fdiv (2^(min (33:Int).toNat IntKind.i64.bits))) ^^^ BitVec.ofInt IntKind.i64.bits ((i64.wrap ((i64.wrap (a0.2.2*6364136223846793005))+1442695040888963407)).fdiv (2^(min (47:Int).toNat IntKind.i64.bits)))).toNat:Int)) &&& BitVec.ofInt IntKind.i64.bits 255).toNat:Int)),()),((a0.1,a0.2.1,(i64.wrap ((i64.wrap (a0.2.2*6364136223846793005))+1442695040888963407))),()))
theorem yTA:ConOk prog 147 ⟨yyQ,yzk,fun x=>ycb x.1⟩:=zkI (yOB) func147 ntmps147.symm fun x=>by kernel_rfl
def yEH:Con:=⟨yyQ,yzk,fun x=>ycb x.1⟩
theorem yWC:ConOk prog 147 yEH:=yTA
theorem y1E (x:Int):0≤i64.wrap ((BitVec.ofInt IntKind.i64.bits x &&& BitVec.ofInt IntKind.i64.bits 255).toNat:Int)∧i64.wrap ((BitVec.ofInt IntKind.i64.bits x &&& BitVec.ofInt IntKind.i64.bits 255).toNat:Int)≤255:=by
 have h:(BitVec.ofInt IntKind.i64.bits x &&& BitVec.ofInt IntKind.i64.bits 255).toNat≤255:=by
  rw[BitVec.toNat_and];exact Nat.le_trans Nat.and_le_right (by decide)
 rw[wr (by omega) (by omega)];omega
theorem yK1 (u:List Int×Int×Int) (h:yeH u): ∃(r:Int) (u':List Int×Int×Int),ycb u=some ((r,()),(u',()))∧(0≤r∧r≤255)∧yeH u':=by
 unfold ycb;by_cases h1:u.2.1<(u.1.length:Int)
 ·rw[zky h1,zj6.2 ⟨h.1,h1⟩]
  refine⟨_,_,rfl,y1E _,?_,h.2⟩;show 0≤i64.wrap (u.2.1+1);have:=h.1; have:=h.2;rw[wr (by omega) (by omega)]; omega
 ·rw[zk3 (Int.not_lt.1 h1)]
  exact⟨_,_,rfl,y1E _,h⟩
def yUJ:Code:=(f72.body).getD .skip
def yVc:Env:=zkw TT [(147,yEH)] []
theorem yMd:FrOk prog ⟨yVc,31,fun _=>none⟩ yUJ:=zkA mixed yc ⟨yWC,trivial⟩
abbrev yv1:List Par:= [.pt tU .fz,.rd tI]
abbrev ywl:List OT:= [⟨false,tI,.fz⟩]
def yk (a0:dU) (a1:Int):Option (zaY ywl×zak yv1) :=bif(leb a1 0)then some ((0,()),(a0,())) else bif(leb a1 256)then bnd (ycb a0) fun r1 =>bif(a1 !=0)then some (((r1.1.1.tmod a1),()),(r1.2.1,())) else none else bnd (ycb a0) fun r2 =>bnd (ycb r2.2.1) fun r3 =>bnd (ycb r3.2.1) fun r4 =>bif(a1 !=0)then some ((((i64.wrap ((i64.wrap ((i64.wrap (r2.1.1*65536))+(i64.wrap (r3.1.1*256))))+r4.1.1)).tmod a1),()),(r4.2.1,())) else none
theorem yQi:ConOk prog 72 ⟨yv1,ywl,fun x=>yk x.1 x.2.1⟩:=zkI (yMd) func72 ntmps72.symm fun x=>by kernel_rfl
def yeu:Con:=⟨yv1,ywl,fun x=>yk x.1 x.2.1⟩
theorem yiF:ConOk prog 72 yeu:=yQi
theorem yfo (u:List Int×Int×Int) (n:Int) (h:yeH u): ∃(r:Int) (u':List Int×Int×Int),yk u n=some ((r,()),(u',()))∧(0≤r∧(0<n→r<n)∧(n≤0→r=0))∧yeH u':=by
 unfold yk;by_cases h0:n≤0
 ·rw[zk2 h0]
  exact⟨_,_,rfl,⟨Int.le_refl _,fun h=>absurd h0 (by omega),fun _=>rfl⟩,h⟩
 ·have hn:(n !=0)=true:=bne_iff_ne.2 (by omega)
  have key: ∀x:Int,0≤x→0≤x.tmod n∧(0<n→x.tmod n<n)∧(n≤0→x.tmod n=0):=fun x hx =>
   ⟨Int.tmod_nonneg n hx,fun hp=>Int.tmod_lt_of_pos x hp,fun hp=>absurd hp h0⟩
  rw[zk1 (by omega)];by_cases h1:n≤256
  ·rw[zk2 h1]
   obtain⟨r1,u1,e1,q1,d1⟩:=yK1 u h;rw[e1,zkZ,zk0,zkH,hn];exact⟨_,_,rfl,key r1 q1.1,d1⟩
  ·rw[zk1 (by omega)]
   obtain⟨r1,u1,e1,q1,d1⟩:=yK1 u h;obtain⟨r2,u2,e2,q2,d2⟩:=yK1 u1 d1;obtain⟨r3,u3,e3,q3,d3⟩:=yK1 u2 d2;simp only[e1,e2,e3,zkZ,zkH,hn,zk0];refine⟨_,_,rfl,key _ ?_,d3⟩;rw[wq (r1*65536) (by omega) (by omega),wq (r2*256) (by omega) (by omega),wq (r1*65536+r2*256) (by omega) (by omega),wr (by omega) (by omega)];omega
def yqb:Code:=(f177.body).getD .skip
def yyw:Env:=zkw TT [(82,yF)] [(28864,.fz),(28928,.fz)]
theorem yOx:FrOk prog ⟨yyw,22,fun _=>none⟩ yqb:=zkA mixed yc ⟨yK,trivial⟩
def yEb:Nat→Option Seg:=fun _=>none
def ycG:Shape:=⟨[(0,false,[.int .i64]),(2,false,[.ptr 0 0]),(3,false,[.ptr 12352 0]),(4,false,[.int .i64])],[(0,[.nil,.nil,.bool,.nil]),(12352,[.at 800000000,.nil,.bool,.nil])],[(800000000,tL,.fz)]⟩
def ygH:Shape:=⟨[(0,false,[.int .i64]),(2,false,[.ptr 0 0]),(3,false,[.ptr 12352 0]),(4,false,[.ci .i64 0])],[(0,[.nil,.nil,.bool,.nil]),(12352,[.at 800000000,.nil,.bool,.nil])],[(800000000,tL,.fz)]⟩
def ygx:Shape:=⟨[(2,false,[.ptr 0 0]),(3,false,[.ptr 12352 0])],[(0,[.nil,.nil,.bool,.nil]),(12352,[.at 800000000,.nil,.bool,.nil])],[(800000000,tL,.fz)]⟩
def ykA:Shape:=⟨[],[],[]⟩
abbrev ypk (v0 v1:Int) (v2 v3:dM):(ycG).X:=(((v0,()),((),()),((),()),(v1,()),()),(((),(),v2.2.2.1,(),()),((),(),v3.2.2.1,(),()),()),(v3.1,()))
abbrev yMu (v0:Int) (v1 v2:dM):(ygH).X:=(((v0,()),((),()),((),()),((),()),()),(((),(),v1.2.2.1,(),()),((),(),v2.2.2.1,(),()),()),(v2.1,()))
abbrev yMo (v0 v1:dM):(ygx).X:=((((),()),((),()),()),(((),(),v0.2.2.1,(),()),((),(),v1.2.2.1,(),()),()),(v1.1,()))
def ypS (v0 v1:Int) (v2 v3:Bool) (v4:List (List Int)):Option ((ycG).X ⊕ ((ygx).X ⊕ (ykA).X)) :=bif(ltb v1 v0)then bif(zkl v4.length ([([]:List Int)]:List (List Int)).length 24)then some (.inl (((v0,()),((),()),((),()),((i64.wrap (v1+1)),()),()),(((),(),v2,(),()),((),(),v3,(),()),()),((v4++([([]:List Int)]:List (List Int))),()))) else none else some (.inr (.inl ((((),()),((),()),()),(((),(),v2,(),()),((),(),v3,(),()),()),(v4,()))))
def yc8 (x:(ycG).X):=ypS x.1.1.1 x.1.2.2.2.1.1 x.2.1.1.2.2.1 x.2.1.2.1.2.2.1 x.2.2.1
def yAt (x:(ygH).X):(ycG).X:=(((x.1.1.1,()),((),()),((),()),(0,()),()),(((),(),x.2.1.1.2.2.1,(),()),((),(),x.2.1.2.1.2.2.1,(),()),()),(x.2.2.1,()))
def yCj:Code:=(zd7 yqb 64 244).getD .skip
theorem yN0:zd7 yqb 64 61=some (.block 0 (.loop yCj)):=by kernel_rfl
theorem yQJ (x:(ycG).X):zhu ⟨yyw,22,yEb⟩ 0 yCj 244 ycG ygx ykA x=yc8 x:=by kernel_rfl
def yAD (x:(ygH).X):Nat:=18446744073709551616
def yqO (x:(ygH).X):Option ((ygx).X ⊕ (ykA).X):=zF yc8 (yAD x) (yAt x)
def yAX:Seg:=⟨ygH,ygx,ykA,yqO⟩
def yRa:Nat→Option Seg:=fun q=>bif Nat.beq q 61 then some yAX else yEb q
theorem yOy:FrOk prog ⟨yyw,22,yRa⟩ yqb:=(yOx).loop (sg:=yAX) ycG yAt (by decide) yN0 yc8 yAD (by decide) (fun _=>rfl) (fun x r _ h=>h) yQJ
abbrev yqp:List Par:= [.rd tI]
abbrev yzh:List OT:= [⟨false,tM,(.pr (.ow .fz) (.pr (.ow (.pr .fz .fz)) (.pr .fz (.ow .fz))))⟩]
def yuC (a0:Int):Option (zaY yzh×zak yqp) :=let r1:=yb a0 1 20;bif(!r1)then some ((([],[],false,[]),()),()) else zkt (yqO (((a0,()),((),()),((),()),((),()),()),(((),(),false,(),()),((),(),false,(),()),()),([],()))) (fun y1 =>some (((y1.2.2.1,[],y1.2.1.2.1.2.2.1,[]),()),())) (fun y1 =>none)
theorem yTx:ConOk prog 177 ⟨yqp,yzh,fun x=>yuC x.1⟩:=zkI (yOy) func177 ntmps177.symm fun x=>by kernel_rfl
def yd8 (a0:Int):dM:=ycu a0
theorem yVR (a0:Int) (hk:zjx yqp (a0,())):yuC a0=(fun n=>some ((n,()),())) (yd8 a0):=by
 unfold yuC yd8 ycu;simp only[yb6];cases hc:(leb 1 a0&&leb a0 20)
 ·rfl
 ·rw[Bool.and_eq_true,zj7,zj7]at hc
  have h1:yqO (yMu a0 yh yh)=some (.inl (yMo yh (List.replicate a0.toNat [],[],false,[]))) :=
   zkL (step:=yc8) (fun i=>ypk a0 i yh (List.replicate i [],[],false,[])) a0.toNat _ (fun i hi=>by
    simp only[yc8,ypk,ypS,zky (show(i:Int)<a0 by omega),cond_true,wq ((i:Int)+1) (by omega) (by omega),Int.natCast_add,Int.natCast_one,Int.toNat_natCast]
    rw[zkF.2 (show((List.replicate i ([]:List Int)).length+([[]]:List (List Int)).length)*24≤140737488355328 by simp only[List.length_cons,List.length_nil,List.length_replicate]; omega),← List.replicate_succ']; rfl) (by simp only[yc8,ypk,ypS,zk3 (show a0≤(a0.toNat:Int)by omega),cond_false]) _ (by show _<18446744073709551616; omega)
  rw[h1]; rfl
def ytZ:Con:=⟨yqp,yzh,fun x=>(fun n=>some ((n,()),())) (yd8 x.1)⟩
theorem yGU:ConOk prog 177 ytZ:=(yTx).mono (fun x r hk h=>(yVR x.1 hk).trans h)
end
end Go.Tf
