/- Functions of the program, and what they come to. -/
import Derived.Test.YtolmneojjjpnjaaGreatBuiltF0
namespace Go.Tf
noncomputable section
open Go.Proofs Go.Proofs.Tryz IntKind
set_option synthInstance.maxHeartbeats 400000
set_option synthInstance.maxSize 10000
set_option linter.unusedVariables false
set_option linter.unusedSimpArgs false
set_option maxRecDepth 100000
def ydd:Code:=(f222.body).getD .skip
def yfT:Env:=zkw TT [(223,yjD),(244,yk6)] []
theorem yvM:FrOk prog ⟨yfT,42,fun _=>none⟩ ydd:=zkA mixed ye ⟨yuz,yAj,trivial⟩
def yj3:Nat→Option Seg:=fun _=>none
def y9:Shape:=⟨[(0,false,[.at 800000000]),(1,false,[.fx 223 tI]),(5,false,[.int .i64]),(6,false,[.int .i64])],[],[(800000000,tI,.fz)]⟩
def yaN:Shape:=⟨[(0,false,[.at 800000000]),(1,false,[.fx 223 tI]),(5,false,[.int .i64]),(6,false,[.int .i64])],[],[(800000000,tI,.fz)]⟩
def yaM:Shape:=⟨[(0,false,[.at 800000000]),(5,false,[.int .i64])],[],[(800000000,tI,.fz)]⟩
def yb1:Shape:=⟨[],[],[]⟩
abbrev ybG (v0 v1 v2:Int) (v3:List Int):(y9).X:=((((),()),(v0,()),(v1,()),(v2,()),()),(),(v3,()))
abbrev yuy (v0 v1 v2:Int) (v3:List Int):(yaN).X:=((((),()),(v0,()),(v1,()),(v2,()),()),(),(v3,()))
abbrev yuw (v0:Int) (v1:List Int):(yaM).X:=((((),()),(v0,()),()),(),(v1,()))
def yd8 (v0 v1 v2:Int) (v3:List Int):Option ((y9).X ⊕ ((yaM).X ⊕ (yb1).X)) :=bif(ltb v2 (v3.length:Int))then bif(inb v2 v3.length)then let r3:=ycU (nth v3 v2 0) v0;bif(!r3)then bif(inb v1 v3.length)then some (.inl ((((),()),(v0,()),((i64.wrap (v1+1)),()),((i64.wrap (v2+1)),()),()),(),((v3.set (v1).toNat (nth v3 v2 0)),()))) else none else some (.inl ((((),()),(v0,()),(v1,()),((i64.wrap (v2+1)),()),()),(),(v3,()))) else none else some (.inr (.inl ((((),()),(v1,()),()),(),(v3,()))))
def yak (x:(y9).X):=yd8 x.1.2.1.1 x.1.2.2.1.1 x.1.2.2.2.1.1 x.2.2.1
def yir (x:(yaN).X):(y9).X:=((((),()),(x.1.2.1.1,()),(x.1.2.2.1.1,()),(x.1.2.2.2.1.1,()),()),(),(x.2.2.1,()))
def yi9:Code:=(zd7 ydd 64 244).getD .skip
theorem yvJ:zd7 ydd 64 61=some (.block 0 (.loop yi9)):=by kernel_rfl
theorem yvW (x:(y9).X):zhu ⟨yfT,42,yj3⟩ 0 yi9 244 y9 yaM yb1 x=yak x:=by kernel_rfl
def yit (x:(yaN).X):Nat:=18446744073709551616
def yek (x:(yaN).X):Option ((yaM).X ⊕ (yb1).X):=zF yak (yit x) (yir x)
def yiv:Seg:=⟨yaN,yaM,yb1,yek⟩
def yxd:Nat→Option Seg:=fun q=>bif Nat.beq q 61 then some yiv else yj3 q
theorem yvN:FrOk prog ⟨yfT,42,yxd⟩ ydd:=(yvM).loop (sg:=yiv) y9 yir (by decide) yvJ yak yit (by decide) (fun _=>rfl) (fun x r _ h=>h) yvW
abbrev yde:List Par:= [.kp tL (.ow .fz),.fn 223 tI]
abbrev yfU:List OT:= [⟨false,tL,(.ow .fz)⟩]
def yeW (a0:List Int) (a1:Int):Option (zaY yfU×zak yde) :=let r1:=ybZ a0 a1;bif(r1==(-1))then some ((a0,()),()) else zkt (yek ((((),()),(a1,()),(r1,()),((i64.wrap (r1+1)),()),()),(),(a0,()))) (fun y3 =>bif(zj0 y3.1.2.1.1 (y3.2.2.1.length:Int) y3.2.2.1.length)then bif(zj0 0 y3.1.2.1.1 (y3.2.2.1.take (y3.1.2.1.1).toNat++(List.replicate ((y3.2.2.1.length:Int)-y3.1.2.1.1).toNat (0:Int))++y3.2.2.1.drop ((y3.1.2.1.1).toNat+(List.replicate ((y3.2.2.1.length:Int)-y3.1.2.1.1).toNat (0:Int)).length)).length)then some (((((y3.2.2.1.take (y3.1.2.1.1).toNat++(List.replicate ((y3.2.2.1.length:Int)-y3.1.2.1.1).toNat (0:Int))++y3.2.2.1.drop ((y3.1.2.1.1).toNat+(List.replicate ((y3.2.2.1.length:Int)-y3.1.2.1.1).toNat (0:Int)).length)).drop (0:Int).toNat).take (y3.1.2.1.1-0).toNat),()),()) else none else none) (fun y3 =>none)
theorem yxq:ConOk prog 222 ⟨yde,yfU,fun x=>yeW x.1 x.2.1⟩:=zkI (yvN) func222 ntmps222.symm fun x=>by kernel_rfl
def ybs (a0:List Int) (a1:Int):List Int:=yDx a0 a1
theorem yzz (a0:List Int) (a1:Int) (hk:zjx yde (a0,a1,())):yeW a0 a1=(fun n=>some ((n,()),())) (ybs a0 a1):=by
 have hb:a0.length*8≤2^47:=hk.1.1;have hs:yDx a0 a1=a0.filter (fun x=> !(x==a1)):=rfl;unfold yeW ybs ybZ;simp only[];cases hi:leb 0 (yau (fun e:Int=>e==a1) a0)
 ·rw[yF5 hi,hs,yWG hi]; rfl
 ·obtain⟨h1,h2⟩:=yk9 (d:=(0:Int)) hi
  have h3:=zj6.1 h1;have h4:=yRL hi;generalize hk0:yau (fun e:Int=>e==a1) a0=k at *;obtain⟨k,rfl⟩: ∃m:Nat,k=m:=⟨k.toNat,by omega⟩;rw[Int.toNat_natCast]at h4;rw[show((k:Int)== -1)=false from beq_eq_false_iff_ne.2 (by omega),cond_false,wq ((k:Int)+1) (by omega) (by omega)]
  obtain⟨b,e,i,s,rfl,q1,q2,q3⟩:=zjj (step:=yak) (fun x=>(a0.length-Int.toNat x.1.2.2.2.1.1))
   (fun x=> ∃(i j:Nat) (s:List Int),x=ybG a1 i j s∧i<j∧j≤a0.length∧s.length=a0.length∧s.take i=(a0.take j).filter (fun x=> !(x==a1))∧s.drop j=a0.drop j)
   (fun b=> ∃(i:Nat) (s:List Int),b= .inl (yuw i s)∧i≤a0.length∧s.length=a0.length∧s.take i=a0.filter (fun x=> !(x==a1)))
   (fun x hx=>by
    obtain⟨i,j,s,rfl,p1,p2,p3,p4,p5⟩:=hx;by_cases hj:j<a0.length
    ·left
     have e1:nth s j 0=a0[j]:=by
      rw[zkS,zkJ (by omega)];have:=List.getElem_drop (xs:=s) (i:=j) (j:=0) (h:=by rw[List.length_drop]; omega);have h6:(s.drop j)[0]'(by rw[List.length_drop]; omega)=(a0.drop j)[0]'(by rw[List.length_drop]; omega):=by simp only[p5]
      simpa using h6
     have e2:a0.take (j+1)=a0.take j++ [a0[j]]:=(List.take_append_getElem hj).symm;simp only[yak,ybG,yd8,p3,zky (show(j:Int)<a0.length by omega),zkR hj,zkR (show i<a0.length by omega),e1,ycU,wq ((j:Int)+1) (by omega) (by omega),wq ((i:Int)+1) (by omega) (by omega),cond_true,Int.toNat_natCast];cases hx:(a0[j]==a1)
     ·refine⟨_,rfl,⟨i+1,j+1,s.set i a0[j],rfl,by omega,by omega,by rw[List.length_set,p3],?_,?_⟩,by show a0.length-((j:Int)+1).toNat<a0.length-((j:Int)).toNat; omega⟩
      ·rw[List.take_set,← List.take_append_getElem (show i<s.length by omega),List.set_append_right _ _ (by rw[List.length_take]; omega),p4,e2,List.filter_append,List.filter_cons,hx]
       have:i-(List.filter (fun x=> !x==a1) (a0.take j)).length=0:=by rw[← p4,List.length_take]; omega
       rw[this]; rfl
      ·rw[List.drop_set_of_lt (by omega),← List.drop_drop,p5,List.drop_drop]
     ·refine⟨_,rfl,⟨i,j+1,s,rfl,by omega,by omega,p3,?_,?_⟩,by show a0.length-((j:Int)+1).toNat<a0.length-((j:Int)).toNat; omega⟩
      ·rw[p4,e2,List.filter_append,List.filter_cons,hx]; simp
      ·rw[← List.drop_drop,p5,List.drop_drop]
    ·right
     have:j=a0.length:=by omega
     subst this;rw[List.take_length]at p4;refine⟨_,?_,i,s,rfl,by omega,p3,p4⟩
     simp only[yak,ybG,yd8,p3,zk3 (Int.le_refl _),cond_false]) 18446744073709551616 (ybG a1 k (k+1:Nat) a0) ⟨k,k+1,a0,rfl,by omega,by omega,rfl,h4.symm,rfl⟩ (by show a0.length-((k+1:Nat):Int).toNat<18446744073709551616; omega)
  rw[show((k+1:Nat):Int)=(k:Int)+1 by omega]at e;rw[show yek (yuy a1 k ((k:Int)+1) a0)=_ from e];rw[hs,← q3]
  have hL:(s.take i++List.replicate ((s.length:Int)-i).toNat (0:Int)++s.drop ((i:Int).toNat+(List.replicate ((s.length:Int)-i).toNat (0:Int)).length)).length=s.length:=by
   simp only[List.length_append,List.length_take,List.length_replicate,List.length_drop]; omega
  show(bif zj0 i s.length s.length then bif zj0 0 i (s.take i++List.replicate ((s.length:Int)-i).toNat (0:Int)++s.drop ((i:Int).toNat+(List.replicate ((s.length:Int)-i).toNat (0:Int)).length)).length then some ((((s.take i++List.replicate ((s.length:Int)-i).toNat (0:Int)++s.drop ((i:Int).toNat+(List.replicate ((s.length:Int)-i).toNat (0:Int)).length)).drop 0).take ((i:Int)-0).toNat,()),())else none else none)=some ((s.take i,()),());rw[hL,zkz.2 (show 0≤(i:Int)∧(i:Int)≤s.length∧(s.length:Int)≤s.length by omega),zkz.2 (show(0:Int)≤0∧(0:Int)≤i∧(i:Int)≤s.length by omega),List.drop_zero,show((i:Int)-0).toNat=i by omega,List.append_assoc,List.take_append_of_le_length (by rw[List.length_take]; omega),List.take_take,Nat.min_self]; rfl
def ykz:Con:=⟨yde,yfU,fun x=>(fun n=>some ((n,()),())) (ybs x.1 x.2.1)⟩
theorem yzE:ConOk prog 222 ykz:=(yxq).mono (fun x r hk h=>(yzz x.1 x.2.1 hk).trans h)
def yLq:Code:=(f193.body).getD .skip
def yLN:Env:=zkw TT [(127,yh2),(133,yfu),(156,yky),(158,ybD),(186,ysQ),(222,ykz)] []
theorem yEX:FrOk prog ⟨yLN,51,fun _=>none⟩ yLq:=zkA mixed ye ⟨ynY,ykI,ys1,ydu,yDK,yzE,trivial⟩
abbrev ykb:List Par:= [.rd tM,.rd tI,.rd tL]
abbrev yqj:List OT:= [⟨false,tM,(.pr (.ow (.ow .fz)) (.pr (.ow (.pr .fz (.ow .fz))) (.pr .fz (.ow .fz))))⟩,⟨false,tB,.fz⟩]
def ym3 (a0:dM) (a1:Int) (a2:List Int):Option (zaY yqj×zak ykb) :=let r1:=yat a0;let r2:=ybe a0;bif(!(!r2))then bif(!a0.2.2.1)then let r3:=ybh a0 a1;bif(!(!r3))then let r4:=yfz a2;bif(!(!r4))then bif((a0.2.1.length:Int)==60)then some ((r1,false,()),()) else let r5:=yC a2;bif(zkl r1.2.1.length ([(a1,r5)]:List dW).length 32)then let r6:=ybs r1.2.2.2 a1;some (((r1.1,(r1.2.1++([(a1,r5)]:List dW)),r1.2.2.1,r6),true,()),()) else none else some ((r1,false,()),()) else some ((r1,false,()),()) else some ((r1,false,()),()) else some ((r1,false,()),())
theorem yHD:ConOk prog 193 ⟨ykb,yqj,fun x=>ym3 x.1 x.2.1 x.2.2.1⟩:=zkI (yEX) func193 ntmps193.symm fun x=>by kernel_rfl
def yg4 (a0:dM) (a1:Int) (a2:List Int):dM×Bool:=yQ a0 a1 a2
theorem yKh (a0:dM) (a1:Int) (a2:List Int) (hk:zjx ykb (a0,a1,a2,())):ym3 a0 a1 a2=(fun n=>some ((n.1,n.2,()),())) (yg4 a0 a1 a2):=by
 have hb1:a0.1.length*24≤2^47:=hk.1.1.1;unfold ym3 yg4 yQ yaS;simp only[yat,ybe,ybh,yan,yje (show a0.1.length≤1152921504606846976 by omega),yBS,yC,ybs];cases hm:yD a0
 ·rfl
 have hc:=(yeY hm).2.2.2.2.2;cases a0.2.2.1
 ·cases inb a1 a0.1.length
  ·rfl
  cases yao a2
  ·rfl
  by_cases h:(a0.2.1.length:Int)<60
  ·rw[zky h,show((a0.2.1.length:Int)==60)=false from beq_eq_false_iff_ne.2 (by omega),zkF.2 (show(a0.2.1.length+ [(a1,a2)].length)*32≤140737488355328 by simp only[List.length_cons,List.length_nil]; omega)]; rfl
  ·rw[zk3 (by omega),show((a0.2.1.length:Int)==60)=true from beq_iff_eq.2 (by omega)]; rfl
 ·rfl
def ywt:Con:=⟨ykb,yqj,fun x=>(fun n=>some ((n.1,n.2,()),())) (yg4 x.1 x.2.1 x.2.2.1)⟩
theorem yK1:ConOk prog 193 ywt:=(yHD).mono (fun x r hk h=>(yKh x.1 x.2.1 x.2.2.1 hk).trans h)
def yIj:Code:=(f139.body).getD .skip
def yIx:Env:=zkw TT [(192,yqz),(193,ywt)] []
theorem yDV:FrOk prog ⟨yIx,39,fun _=>none⟩ yIj:=zkA mixed ye ⟨yCO,yK1,trivial⟩
abbrev ye6:List Par:= [.pt tA (.pr .fz (.pr (.pr .fz .fz) (.pr (.ow (.pr (.ow (.ow .fz)) (.pr (.ow (.pr .fz (.ow .fz))) (.pr .fz (.ow .fz))))) (.pr .fz (.pr .fz (.pr .fz (.pr .fz (.pr .fz (.pr (.ow (.pr .fz (.ow .fz))) (.pr .fz (.pr .fz .fz))))))))))),.rd tI,.rd tI,.rd tL]
abbrev yiC:List OT:= [⟨false,tB,.fz⟩]
def ylt (a0:dA) (a1 a2:Int) (a3:List Int):Option (zaY yiC×zak ye6) :=bif(inb a1 a0.2.2.1.length)then bif(((nth a0.2.2.1 a1 ([],[],false,[])).2).2).1 then some ((true,()),(a0,())) else let r1:=yfX a0;bif(!r1.1)then some ((false,()),(r1.2,())) else bif(inb a1 r1.2.2.2.1.length)then let r2:=yg4 ((nth r1.2.2.2.1 a1 ([],[],false,[])).1,((nth r1.2.2.2.1 a1 ([],[],false,[])).2).1,(((nth r1.2.2.2.1 a1 ([],[],false,[])).2).2)) a2 a3;bif(inb a1 r1.2.2.2.1.length)then some ((true,()),((r1.2.1,r1.2.2.1,(r1.2.2.2.1.set (a1).toNat r2.1),r1.2.2.2.2),())) else none else none else none
theorem yFC:ConOk prog 139 ⟨ye6,yiC,fun x=>ylt x.1 x.2.1 x.2.2.1 x.2.2.2.1⟩:=zkI (yDV) func139 ntmps139.symm fun x=>by kernel_rfl
def ydt (a0:dA) (a1 a2:Int) (a3:List Int):Bool×dA:=(!(ya (ybk a0 a1 a2 a3)),ybk a0 a1 a2 a3)
def ydv (a0:dA) (a1 a2:Int) (a3:List Int):Bool:=inb a1 a0.2.2.1.length&& !(ya a0)
theorem yHo (a0:dA) (a1 a2:Int) (a3:List Int) (hk:zjx ye6 (a0,a1,a2,a3,())) (hq:ydv a0 a1 a2 a3=true):ylt a0 a1 a2 a3=(fun n=>some ((n.1,()),(n.2,()))) (ydt a0 a1 a2 a3):=by
 simp only[ydv,Bool.and_eq_true,Bool.not_eq_true']at hq;unfold ylt ydt;simp only[yUK hq.2];unfold ybk yjw;simp only[yMY hq.2,yaE,hq.1,zkX,yg4];cases(nth a0.2.2.1 a1 yf).2.2.1<;>cases(opA a0).1<;>rfl
def yfH (a0:dA) (a1 a2:Int) (a3:List Int):Option (zaY yiC×zak ye6):=bif ydv a0 a1 a2 a3 then(fun n=>some ((n.1,()),(n.2,()))) (ydt a0 a1 a2 a3)else none
theorem ywZ (a0:dA) (a1 a2:Int) (a3:List Int) (h:ydv a0 a1 a2 a3=true):yfH a0 a1 a2 a3=(fun n=>some ((n.1,()),(n.2,()))) (ydt a0 a1 a2 a3):=by unfold yfH; rw[h]; rfl
def yk4:Con:=⟨ye6,yiC,fun x=>yfH x.1 x.2.1 x.2.2.1 x.2.2.2.1⟩
theorem ywY:ConOk prog 139 yk4:=(yFC).mono (fun x r hk h=>zkY h (fun hq=>yHo x.1 x.2.1 x.2.2.1 x.2.2.2.1 hk hq))
def yjY:Code:=(f205.body).getD .skip
def ypx:Env:=zkw TT [(127,yh2),(133,yfu),(158,ybD)] []
theorem yER:FrOk prog ⟨ypx,34,fun _=>none⟩ yjY:=zkA mixed ye ⟨ynY,ykI,ydu,trivial⟩
def yv5:Nat→Option Seg:=fun _=>none
def ya8:Shape:=⟨[(2,false,[.ptr 64 0]),(3,false,[.ptr 4224 0]),(17,false,[.br tW]),(18,false,[.int .i64]),(19,false,[.int .i64])],[(64,[.nil,.nil,.bool,.nil]),(4224,[.at 800000000,.at 800000001,.bool,.at 800000002])],[(800000000,tL,(.ow .fz)),(800000001,tW,(.pr .fz (.ow .fz))),(800000002,tI,.fz)]⟩
def ydT:Shape:=⟨[(2,false,[.ptr 64 0]),(3,false,[.ptr 4224 0]),(17,false,[.br tW]),(18,false,[.int .i64]),(19,false,[.ci .i64 0])],[(64,[.nil,.nil,.bool,.nil]),(4224,[.at 800000000,.at 800000001,.bool,.at 800000002])],[(800000000,tL,(.ow .fz)),(800000001,tW,(.pr .fz (.ow .fz))),(800000002,tI,.fz)]⟩
def ydL:Shape:=⟨[(2,false,[.ptr 64 0]),(3,false,[.ptr 4224 0])],[(64,[.nil,.nil,.bool,.nil]),(4224,[.at 800000000,.at 800000001,.bool,.at 800000002])],[(800000000,tL,(.ow .fz)),(800000001,tW,(.pr .fz (.ow .fz))),(800000002,tI,.fz)]⟩
def ygH:Shape:=⟨[],[],[]⟩
abbrev yjG (v0:List dW) (v1 v2:Int) (v3 v4:dM):(ya8).X:=((((),()),((),()),(v0,()),(v1,()),(v2,()),()),(((),(),v3.2.2.1,(),()),((),(),v4.2.2.1,(),()),()),(v4.1,v4.2.1,v4.2.2.2,()))
abbrev yD6 (v0:List dW) (v1:Int) (v2 v3:dM):(ydT).X:=((((),()),((),()),(v0,()),(v1,()),((),()),()),(((),(),v2.2.2.1,(),()),((),(),v3.2.2.1,(),()),()),(v3.1,v3.2.1,v3.2.2.2,()))
abbrev yrP (v0 v1:dM):(ydL).X:=((((),()),((),()),()),(((),(),v0.2.2.1,(),()),((),(),v1.2.2.1,(),()),()),(v1.1,v1.2.1,v1.2.2.2,()))
def yjQ (v0:List dW) (v1 v2:Int) (v3 v4:Bool) (v5:List (List Int)) (v6:List dW) (v7:List Int):Option ((ya8).X ⊕ ((ydL).X ⊕ (ygH).X)) :=bif(ltb v2 v1)then bif(inb v2 v0.length)then let r4:=yC ((nth v0 v2 (0,[])).2);bif(inb ((nth v0 v2 (0,[])).1) v5.length)then some (.inl ((((),()),((),()),(v0,()),(v1,()),((i64.wrap (v2+1)),()),()),(((),(),v3,(),()),((),(),v4,(),()),()),((v5.set ((nth v0 v2 (0,[])).1).toNat r4),v6,v7,()))) else none else none else some (.inr (.inl ((((),()),((),()),()),(((),(),v3,(),()),((),(),v4,(),()),()),(v5,v6,v7,()))))
def ybo (x:(ya8).X):=yjQ x.1.2.2.1.1 x.1.2.2.2.1.1 x.1.2.2.2.2.1.1 x.2.1.1.2.2.1 x.2.1.2.1.2.2.1 x.2.2.1 x.2.2.2.1 x.2.2.2.2.1
def yrz (x:(ydT).X):(ya8).X:=((((),()),((),()),(x.1.2.2.1.1,()),(x.1.2.2.2.1.1,()),(0,()),()),(((),(),x.2.1.1.2.2.1,(),()),((),(),x.2.1.2.1.2.2.1,(),()),()),(x.2.2.1,x.2.2.2.1,x.2.2.2.2.1,()))
def ytP:Code:=(zd7 yjY 64 244).getD .skip
theorem yEu:zd7 yjY 64 61=some (.block 0 (.loop ytP)):=by kernel_rfl
theorem yFQ (x:(ya8).X):zhu ⟨ypx,34,yv5⟩ 0 ytP 244 ya8 ydL ygH x=ybo x:=by kernel_rfl
def yrI (x:(ydT).X):Nat:=18446744073709551616
def ykR (x:(ydT).X):Option ((ydL).X ⊕ (ygH).X):=zF ybo (yrI x) (yrz x)
def yrY:Seg:=⟨ydT,ydL,ygH,ykR⟩
def yGg:Nat→Option Seg:=fun q=>bif Nat.beq q 61 then some yrY else yv5 q
theorem yES:FrOk prog ⟨ypx,34,yGg⟩ yjY:=(yER).loop (sg:=yrY) ya8 yrz (by decide) yEu ybo yrI (by decide) (fun _=>rfl) (fun x r _ h=>h) yFQ
abbrev yj7:List Par:= [.rd tM]
abbrev yqe:List OT:= [⟨false,tM,(.pr (.ow (.ow .fz)) (.pr (.ow (.pr .fz (.ow .fz))) (.pr .fz (.ow .fz))))⟩]
def ymZ (a0:dM):Option (zaY yqe×zak yj7) :=let r1:=yat a0;let r2:=ybe a0;bif(!(!r2))then bif a0.2.2.1 then some ((r1,()),()) else zkt (ykR ((((),()),((),()),(a0.2.1,()),((a0.2.1.length:Int),()),((),()),()),(((),(),false,(),()),((),(),r1.2.2.1,(),()),()),(r1.1,r1.2.1,r1.2.2.2,()))) (fun y4 =>some (((y4.2.2.1,[],y4.2.1.2.1.2.2.1,y4.2.2.2.2.1),()),())) (fun y4 =>none) else some ((r1,()),())
theorem yHy:ConOk prog 205 ⟨yj7,yqe,fun x=>ymZ x.1⟩:=zkI (yES) func205 ntmps205.symm fun x=>by kernel_rfl
def ygZ (a0:dM):dM:=yx a0
theorem yKc (a0:dM) (hk:zjx yj7 (a0,())):ymZ a0=(fun n=>some ((n,()),())) (ygZ a0):=by
 have hb2:a0.2.1.length*32≤2^47:=hk.1.2.1.1;unfold ymZ ygZ yx;simp only[yat,ybe];cases hm:yD a0
 ·rfl
 have h1:ykR (yD6 a0.2.1 a0.2.1.length yf a0)=some (.inl (yrP yf (yh5 (fun _=>true) a0.2.1 a0.1,a0.2))) :=
  zkD (step:=ybo) a0.2.1.length (fun i s=>yjG a0.2.1 a0.2.1.length i yf (s,a0.2)) (yfw (fun _=>true) a0.2.1) (fun i s=>s.length=a0.1.length) (fun s=> .inl (yrP yf (s,a0.2))) (fun i s hi hs=>by
   have hw:=(yUy hm hi).1;refine⟨?_,yxo.trans hs⟩
   simp only[ybo,yjG,yjQ,zky (show(i:Int)<a0.2.1.length by omega),cond_true,wq ((i:Int)+1) (by omega) (by omega),Int.natCast_add,Int.natCast_one,Int.toNat_natCast,zkR hi,hs,hw,yfw,yC]) (fun s hs=>by simp only[ybo,yjG,yjQ,zk3 (Int.le_refl _),cond_false]) a0.1 rfl _ (by show _<18446744073709551616; omega)
 rw[h1];cases hf:a0.2.2.1
 ·exact congrArg (fun z=>some (((yh5 (fun _=>true) a0.2.1 a0.1,([]:List dW),z,a0.2.2.2),()),())) hf
 ·rfl
def ywo:Con:=⟨yj7,yqe,fun x=>(fun n=>some ((n,()),())) (ygZ x.1)⟩
theorem yKW:ConOk prog 205 ywo:=(yHy).mono (fun x r hk h=>(yKc x.1 hk).trans h)
def yjV:Code:=(f165.body).getD .skip
def ypu:Env:=zkw TT [(192,yqz),(205,ywo)] []
theorem yEK:FrOk prog ⟨ypu,38,fun _=>none⟩ yjV:=zkA mixed ye ⟨yCO,yKW,trivial⟩
def yv2:Nat→Option Seg:=fun _=>none
def ya5:Shape:=⟨[(0,false,[.ptr 1000000000 0]),(8,false,[.int .i64]),(9,false,[.int .i64])],[(1000000000,[.int .i64,.int .i64,.int .i64,.at 800000000,.int .i64,.int .i64,.int .i64,.int .i64,.int .i64,.at 800000001,.int .i64,.bool,.bool])],[(800000000,tM,(.pr (.ow (.ow .fz)) (.pr (.ow (.pr .fz (.ow .fz))) (.pr .fz (.ow .fz))))),(800000001,tW,(.pr .fz (.ow .fz)))]⟩
def ydQ:Shape:=⟨[(0,false,[.ptr 1000000000 0]),(8,false,[.int .i64]),(9,false,[.ci .i64 0])],[(1000000000,[.int .i64,.int .i64,.int .i64,.at 800000000,.int .i64,.int .i64,.int .i64,.int .i64,.int .i64,.at 800000001,.int .i64,.bool,.bool])],[(800000000,tM,(.pr (.ow (.ow .fz)) (.pr (.ow (.pr .fz (.ow .fz))) (.pr .fz (.ow .fz))))),(800000001,tW,(.pr .fz (.ow .fz)))]⟩
def ydI:Shape:=⟨[],[(1000000000,[.int .i64,.int .i64,.int .i64,.at 800000000,.int .i64,.int .i64,.int .i64,.int .i64,.int .i64,.at 800000001,.int .i64,.bool,.bool])],[(800000000,tM,(.pr (.ow (.ow .fz)) (.pr (.ow (.pr .fz (.ow .fz))) (.pr .fz (.ow .fz))))),(800000001,tW,(.pr .fz (.ow .fz)))]⟩
def ydY:Shape:=⟨[(2,false,[.bool])],[(1000000000,[.int .i64,.int .i64,.int .i64,.at 800000000,.int .i64,.int .i64,.int .i64,.int .i64,.int .i64,.at 800000001,.int .i64,.bool,.bool])],[(800000000,tM,(.pr (.ow (.ow .fz)) (.pr (.ow (.pr .fz (.ow .fz))) (.pr .fz (.ow .fz))))),(800000001,tW,(.pr .fz (.ow .fz)))]⟩
abbrev yfQ (v0 v1:Int) (v2:dA):(ya5).X:=((((),()),(v0,()),(v1,()),()),((v2.1,v2.2.1.1,v2.2.1.2,(),v2.2.2.2.1,v2.2.2.2.2.1,v2.2.2.2.2.2.1,v2.2.2.2.2.2.2.1,v2.2.2.2.2.2.2.2.1,(),v2.2.2.2.2.2.2.2.2.2.1,v2.2.2.2.2.2.2.2.2.2.2.1,v2.2.2.2.2.2.2.2.2.2.2.2,()),()),(v2.2.2.1,v2.2.2.2.2.2.2.2.2.1,()))
abbrev yD4 (v0:Int) (v1:dA):(ydQ).X:=((((),()),(v0,()),((),()),()),((v1.1,v1.2.1.1,v1.2.1.2,(),v1.2.2.2.1,v1.2.2.2.2.1,v1.2.2.2.2.2.1,v1.2.2.2.2.2.2.1,v1.2.2.2.2.2.2.2.1,(),v1.2.2.2.2.2.2.2.2.2.1,v1.2.2.2.2.2.2.2.2.2.2.1,v1.2.2.2.2.2.2.2.2.2.2.2,()),()),(v1.2.2.1,v1.2.2.2.2.2.2.2.2.1,()))
abbrev yjK (v0:dA):(ydI).X:=((),((v0.1,v0.2.1.1,v0.2.1.2,(),v0.2.2.2.1,v0.2.2.2.2.1,v0.2.2.2.2.2.1,v0.2.2.2.2.2.2.1,v0.2.2.2.2.2.2.2.1,(),v0.2.2.2.2.2.2.2.2.2.1,v0.2.2.2.2.2.2.2.2.2.2.1,v0.2.2.2.2.2.2.2.2.2.2.2,()),()),(v0.2.2.1,v0.2.2.2.2.2.2.2.2.1,()))
abbrev yjM (v0:Bool) (v1:dA):(ydY).X:=(((v0,()),()),((v1.1,v1.2.1.1,v1.2.1.2,(),v1.2.2.2.1,v1.2.2.2.2.1,v1.2.2.2.2.2.1,v1.2.2.2.2.2.2.1,v1.2.2.2.2.2.2.2.1,(),v1.2.2.2.2.2.2.2.2.2.1,v1.2.2.2.2.2.2.2.2.2.2.1,v1.2.2.2.2.2.2.2.2.2.2.2,()),()),(v1.2.2.1,v1.2.2.2.2.2.2.2.2.1,()))
def yjO (v0 v1 v2 v3 v4 v5 v6 v7 v8 v9 v10:Int) (v11 v12:Bool) (v13:List dM) (v14:List dW):Option ((ya5).X ⊕ ((ydI).X ⊕ (ydY).X)) :=bif(ltb v1 v0)then bif(inb v1 v13.length)then bif(((nth v13 v1 ([],[],false,[])).2).2).1 then some (.inl ((((),()),(v0,()),((i64.wrap (v1+1)),()),()),((v2,v3,v4,(),v5,v6,v7,v8,v9,(),v10,v11,v12,()),()),(v13,v14,()))) else let r3:=yfX (v2,(v3,v4),v13,v5,v6,v7,v8,v9,v14,v10,v11,v12);bif(!r3.1)then some (.inr (.inr (((false,()),()),((r3.2.1,r3.2.2.1.1,r3.2.2.1.2,(),r3.2.2.2.2.1,r3.2.2.2.2.2.1,r3.2.2.2.2.2.2.1,r3.2.2.2.2.2.2.2.1,r3.2.2.2.2.2.2.2.2.1,(),r3.2.2.2.2.2.2.2.2.2.2.1,r3.2.2.2.2.2.2.2.2.2.2.2.1,r3.2.2.2.2.2.2.2.2.2.2.2.2,()),()),(r3.2.2.2.1,r3.2.2.2.2.2.2.2.2.2.1,())))) else bif(inb v1 r3.2.2.2.1.length)then let r4:=ygZ ((nth r3.2.2.2.1 v1 ([],[],false,[])).1,((nth r3.2.2.2.1 v1 ([],[],false,[])).2).1,(((nth r3.2.2.2.1 v1 ([],[],false,[])).2).2));bif(inb v1 r3.2.2.2.1.length)then some (.inl ((((),()),(v0,()),((i64.wrap (v1+1)),()),()),((r3.2.1,r3.2.2.1.1,r3.2.2.1.2,(),r3.2.2.2.2.1,r3.2.2.2.2.2.1,r3.2.2.2.2.2.2.1,r3.2.2.2.2.2.2.2.1,r3.2.2.2.2.2.2.2.2.1,(),r3.2.2.2.2.2.2.2.2.2.2.1,r3.2.2.2.2.2.2.2.2.2.2.2.1,r3.2.2.2.2.2.2.2.2.2.2.2.2,()),()),((r3.2.2.2.1.set (v1).toNat r4),r3.2.2.2.2.2.2.2.2.2.1,()))) else none else none else none else some (.inr (.inl ((),((v2,v3,v4,(),v5,v6,v7,v8,v9,(),v10,v11,v12,()),()),(v13,v14,()))))
def ybm (x:(ya5).X):=yjO x.1.2.1.1 x.1.2.2.1.1 x.2.1.1.1 x.2.1.1.2.1 x.2.1.1.2.2.1 x.2.1.1.2.2.2.2.1 x.2.1.1.2.2.2.2.2.1 x.2.1.1.2.2.2.2.2.2.1 x.2.1.1.2.2.2.2.2.2.2.1 x.2.1.1.2.2.2.2.2.2.2.2.1 x.2.1.1.2.2.2.2.2.2.2.2.2.2.1 x.2.1.1.2.2.2.2.2.2.2.2.2.2.2.1 x.2.1.1.2.2.2.2.2.2.2.2.2.2.2.2.1 x.2.2.1 x.2.2.2.1
def yrw (x:(ydQ).X):(ya5).X:=((((),()),(x.1.2.1.1,()),(0,()),()),((x.2.1.1.1,x.2.1.1.2.1,x.2.1.1.2.2.1,(),x.2.1.1.2.2.2.2.1,x.2.1.1.2.2.2.2.2.1,x.2.1.1.2.2.2.2.2.2.1,x.2.1.1.2.2.2.2.2.2.2.1,x.2.1.1.2.2.2.2.2.2.2.2.1,(),x.2.1.1.2.2.2.2.2.2.2.2.2.2.1,x.2.1.1.2.2.2.2.2.2.2.2.2.2.2.1,x.2.1.1.2.2.2.2.2.2.2.2.2.2.2.2.1,()),()),(x.2.2.1,x.2.2.2.1,()))
def ytM:Code:=(zd7 yjV 64 52).getD .skip
theorem yEr:zd7 yjV 64 13=some (.block 0 (.loop ytM)):=by kernel_rfl
theorem yFN (x:(ya5).X):zhu ⟨ypu,38,yv2⟩ 0 ytM 52 ya5 ydI ydY x=ybm x:=by kernel_rfl
def yrF (x:(ydQ).X):Nat:=18446744073709551616
def ykP (x:(ydQ).X):Option ((ydI).X ⊕ (ydY).X):=zF ybm (yrF x) (yrw x)
def yrV:Seg:=⟨ydQ,ydI,ydY,ykP⟩
def yGd:Nat→Option Seg:=fun q=>bif Nat.beq q 13 then some yrV else yv2 q
theorem yEL:FrOk prog ⟨ypu,38,yGd⟩ yjV:=(yEK).loop (sg:=yrV) ya5 yrw (by decide) yEr ybm yrF (by decide) (fun _=>rfl) (fun x r _ h=>h) yFN
abbrev yf6:List Par:= [.pt tA (.pr .fz (.pr (.pr .fz .fz) (.pr (.ow (.pr (.ow (.ow .fz)) (.pr (.ow (.pr .fz (.ow .fz))) (.pr .fz (.ow .fz))))) (.pr .fz (.pr .fz (.pr .fz (.pr .fz (.pr .fz (.pr (.ow (.pr .fz (.ow .fz))) (.pr .fz (.pr .fz .fz)))))))))))]
abbrev ykm:List OT:= [⟨false,tB,.fz⟩]
def ymV (a0:dA):Option (zaY ykm×zak yf6) :=zkt (ykP ((((),()),((a0.2.2.1.length:Int),()),((),()),()),((a0.1,a0.2.1.1,a0.2.1.2,(),a0.2.2.2.1,a0.2.2.2.2.1,a0.2.2.2.2.2.1,a0.2.2.2.2.2.2.1,a0.2.2.2.2.2.2.2.1,(),a0.2.2.2.2.2.2.2.2.2.1,a0.2.2.2.2.2.2.2.2.2.2.1,a0.2.2.2.2.2.2.2.2.2.2.2,()),()),(a0.2.2.1,a0.2.2.2.2.2.2.2.2.1,()))) (fun y4 =>some ((true,()),((y4.2.1.1.1,(y4.2.1.1.2.1,y4.2.1.1.2.2.1),y4.2.2.1,y4.2.1.1.2.2.2.2.1,y4.2.1.1.2.2.2.2.2.1,y4.2.1.1.2.2.2.2.2.2.1,y4.2.1.1.2.2.2.2.2.2.2.1,y4.2.1.1.2.2.2.2.2.2.2.2.1,y4.2.2.2.1,y4.2.1.1.2.2.2.2.2.2.2.2.2.2.1,y4.2.1.1.2.2.2.2.2.2.2.2.2.2.2.1,y4.2.1.1.2.2.2.2.2.2.2.2.2.2.2.2.1),()))) (fun y4 =>some ((y4.1.1.1,()),((y4.2.1.1.1,(y4.2.1.1.2.1,y4.2.1.1.2.2.1),y4.2.2.1,y4.2.1.1.2.2.2.2.1,y4.2.1.1.2.2.2.2.2.1,y4.2.1.1.2.2.2.2.2.2.1,y4.2.1.1.2.2.2.2.2.2.2.1,y4.2.1.1.2.2.2.2.2.2.2.2.1,y4.2.2.2.1,y4.2.1.1.2.2.2.2.2.2.2.2.2.2.1,y4.2.1.1.2.2.2.2.2.2.2.2.2.2.2.1,y4.2.1.1.2.2.2.2.2.2.2.2.2.2.2.2.1),())))
theorem yHu:ConOk prog 165 ⟨yf6,ykm,fun x=>ymV x.1⟩:=zkI (yEL) func165 ntmps165.symm fun x=>by kernel_rfl
def ygW (a0:dA):Bool×dA:=(!(ya (yc a0)),yc a0)
def yhb (a0:dA):Bool:= !(ya a0)
theorem yJ8 (a0:dA) (hk:zjx yf6 (a0,())) (hq:yhb a0=true):ymV a0=(fun n=>some ((n.1,()),(n.2,()))) (ygW a0):=by
 have hb:a0.2.2.1.length*80≤2^47:=hk.1.2.2.1.1
 have h1:ykP (yD4 a0.2.2.1.length a0)=some (bif ya (yc a0)then .inr (yjM false (yc a0))else .inl (yjK (yc a0))):=by
  have:=zkC (step:=ybm) a0.2.2.1.length (fun i s=>yfQ a0.2.2.1.length i s) (fun i s=>bif ya (yS s i)then(.inr (yS s i):dA ⊕ dA)else .inl (yS s i)) (fun _ s=>s.2.2.1.length=a0.2.2.1.length∧ya s=false) id
   (fun b=>bif ya b then .inr (yjM false b)else .inl (yjK b)) (fun i s hi hs=>by
    constructor
    ·rw[yFX hs.2]
     simp only[ybm,yfQ,yjO,hs.1,zky (show(i:Int)<a0.2.2.1.length by omega),cond_true,wq ((i:Int)+1) (by omega) (by omega),Int.natCast_add,Int.natCast_one,Int.toNat_natCast,zkR hi,zkX,yMY hs.2,yaE,ygZ];cases hf:(nth s.2.2.1 i yf).2.2.1
     ·cases ho:(opA s).1
      ·have e:yS s i=(opA s).2:=by unfold yS; rw[hf,ho]; rfl
       have d:ya (opA s).2=true:=by rw[yRi hs.2,ho]; rfl
       rw[e];simp only[Bool.not_false,Bool.and_self,cond_true,cond_false,d,yaE,yjM]
      ·have e:yS s i=yjw (opA s).2 i (yx (nth s.2.2.1 i yf)):=by unfold yS; rw[hf,ho]; rfl
       rw[e];simp only[Bool.not_true,Bool.not_false,Bool.and_false,cond_true,cond_false,yfQ,yjw,yaE,Int.toNat_natCast]
     ·have e:yS s i=s:=by unfold yS; rw[hf]; rfl
      rw[e]; rfl
    ·intro s' h
     cases hd:ya (yS s i)
     ·rw[hd]at h
      cases h;exact⟨(yjA s i).trans hs.1,hd⟩
     ·rw[hd]at h; cases h) (fun s hs=>by simp only[ybm,yfQ,yjO,hs.2,zk3 (Int.le_refl _),cond_false,id,yjK]) a0 ⟨rfl,by simpa [yhb]using hq⟩ 18446744073709551616 (by omega)
  rw[yJy (fun a i h=>yAc i h),← List.range_eq_range']at this;exact this
 unfold ymV ygW;rw[h1];cases hd:ya (yc a0)<;>rfl
def yha (a0:dA):Option (zaY ykm×zak yf6):=bif yhb a0 then(fun n=>some ((n.1,()),(n.2,()))) (ygW a0)else none
theorem yzI (a0:dA) (h:yhb a0=true):yha a0=(fun n=>some ((n.1,()),(n.2,()))) (ygW a0):=by unfold yha; rw[h]; rfl
def ymI:Con:=⟨yf6,ykm,fun x=>yha x.1⟩
theorem yzD:ConOk prog 165 ymI:=(yHu).mono (fun x r hk h=>zkY h (fun hq=>yJ8 x.1 hk hq))
def yOY:Code:=(f212.body).getD .skip
def yPr:Env:=zkw TT [(81,yO),(123,yh1),(125,yqD)] []
theorem yGC:FrOk prog ⟨yPr,44,fun _=>none⟩ yOY:=zkA mixed ye ⟨yX,ynX,yCR,trivial⟩
abbrev ysl:List Par:= [.rd tS]
abbrev ysx:List OT:= [⟨false,tB,.fz⟩]
def yzN (a0:dS):Option (zaY ysx×zak ysl) :=let r1:=yg a0.1 1 60000;bif r1 then let r2:=yg a0.2.1 0 60000;bif r2 then let r3:=yg a0.2.2.2.2.2.1 0 60000;bif r3 then let r4:=ybY (a0.2.2.2.1,a0.2.2.2.2.1);bif r4 then let r5:=yg a0.2.2.1 0 (i64.wrap (a0.2.2.2.1-1));bif r5 then let r6:=yep (a0.2.2.2.1,a0.2.2.2.2.1) a0.2.2.2.2.2.2.1 a0.2.2.2.2.2.2.2;some ((r6,()),()) else some ((false,()),()) else some ((false,()),()) else some ((false,()),()) else some ((false,()),()) else some ((false,()),())
theorem yKw:ConOk prog 212 ⟨ysl,ysx,fun x=>yzN x.1⟩:=zkI (yGC) func212 ntmps212.symm fun x=>by kernel_rfl
def ye0 (a0:dS):Bool :=let r1:=yg a0.1 1 60000;bif r1 then let r2:=yg a0.2.1 0 60000;bif r2 then let r3:=yg a0.2.2.2.2.2.1 0 60000;bif r3 then let r4:=ybY (a0.2.2.2.1,a0.2.2.2.2.1);bif r4 then let r5:=yg a0.2.2.1 0 (i64.wrap (a0.2.2.2.1-1));bif r5 then let r6:=yep (a0.2.2.2.1,a0.2.2.2.2.1) a0.2.2.2.2.2.2.1 a0.2.2.2.2.2.2.2;r6 else false else false else false else false else false
def yyD:Con:=⟨ysl,ysx,fun x=>(fun n=>some ((n,()),())) (ye0 x.1)⟩
theorem yNi (a0:dS):yzN a0=(fun n=>some ((n,()),())) (ye0 a0):=zkV (p:=fun(n:Bool)=>((n,()),())) (zkG (p:=fun(n:Bool)=>((n,()),())) (zkG (p:=fun(n:Bool)=>((n,()),())) (zkG (p:=fun(n:Bool)=>((n,()),())) (zkG (p:=fun(n:Bool)=>((n,()),())) (zkG (p:=fun(n:Bool)=>((n,()),())) rfl rfl) rfl) rfl) rfl) rfl)
theorem yOh:ConOk prog 212 yyD:=(yKw).mono (fun x r _ h=>(yNi x.1).trans h)
theorem ySW (s:dS):ye0 s=yG s:=by
 rw[Bool.eq_iff_iff,ytH];unfold ye0 yep;simp only[yMX,yan];cases hg:yd (s.2.2.2.1,s.2.2.2.2.1)
 ·cases yb s.1 1 60000<;>cases yb s.2.1 0 60000<;>cases yb s.2.2.2.2.2.1 0 60000<;>simp
 have hg2:=yl.1 hg;simp only at hg2;rw[wq (s.2.2.2.1-1) (by omega) (by omega)];simp only[← yqQ];cases yb s.1 1 60000
 ·simp
 cases yb s.2.1 0 60000
 ·simp
 cases yb s.2.2.2.2.2.1 0 60000
 ·simp
 cases yb s.2.2.1 0 (s.2.2.2.1-1)
 ·simp
 cases hl:yb s.2.2.2.2.2.2.1 (-1) (s.2.2.2.1-1)
 ·simp
 cases yb s.2.2.2.2.2.2.2 0 s.2.2.2.2.1
 ·simp
 have:=yqQ.1 hl;by_cases h0:s.2.2.2.2.2.2.2=0
 ·simp[h0]
 ·simp[h0]; omega
def yLo:Code:=(f172.body).getD .skip
def yLL:Env:=zkw TT [(212,yyD)] []
theorem yEV:FrOk prog ⟨yLL,24,fun _=>none⟩ yLo:=zkA mixed ye ⟨yOh,trivial⟩
abbrev ypU:List Par:= [.rd tS]
abbrev yqh:List OT:= [⟨false,tL,(.ow .fz)⟩]
def yw0 (a0:dS):Option (zaY yqh×zak ypU) :=let r1:=ye0 a0;bif(!r1)then some (([],()),()) else some ((([21317,a0.1,a0.2.1,a0.2.2.1,a0.2.2.2.1,a0.2.2.2.2.1,a0.2.2.2.2.2.1,(i64.wrap (a0.2.2.2.2.2.2.1+1)),a0.2.2.2.2.2.2.2]:List Int),()),())
theorem yHB:ConOk prog 172 ⟨ypU,yqh,fun x=>yw0 x.1⟩:=zkI (yEV) func172 ntmps172.symm fun x=>by kernel_rfl
def yg2 (a0:dS):(List Int) :=let r1:=ye0 a0;bif(!r1)then [] else ([21317,a0.1,a0.2.1,a0.2.2.1,a0.2.2.2.1,a0.2.2.2.2.1,a0.2.2.2.2.2.1,(i64.wrap (a0.2.2.2.2.2.2.1+1)),a0.2.2.2.2.2.2.2]:List Int)
def ywr:Con:=⟨ypU,yqh,fun x=>(fun n=>some ((n,()),())) (yg2 x.1)⟩
theorem yKf (a0:dS):yw0 a0=(fun n=>some ((n,()),())) (yg2 a0):=zkV (p:=fun(n:(List Int))=>((n,()),())) (zkG (p:=fun(n:(List Int))=>((n,()),())) rfl rfl)
theorem yKZ:ConOk prog 172 ywr:=(yHB).mono (fun x r _ h=>(yKf x.1).trans h)
theorem yU0 (s:dS):yg2 s=yk s:=by
 unfold yg2 yk;rw[ySW]
def yO3:Code:=(f173.body).getD .skip
def yPw:Env:=zkw TT [] []
theorem yGO:FrOk prog ⟨yPw,23,fun _=>none⟩ yO3:=zkA mixed ye trivial
abbrev ysp:List Par:= [.rd tA,.rd tI]
abbrev ysE:List OT:= [⟨false,tS,(.pr .fz (.pr .fz (.pr .fz (.pr .fz (.pr .fz (.pr .fz (.pr .fz .fz)))))))⟩]
def yzR (a0:dA) (a1:Int):Option (zaY ysE×zak ysp) :=some (((a0.1,a0.2.2.2.2.2.2.2.1,a1,a0.2.1.1,a0.2.1.2,a0.2.2.2.2.2.2.1,a0.2.2.2.1,a0.2.2.2.2.1),()),())
theorem yKE:ConOk prog 173 ⟨ysp,ysE,fun x=>yzR x.1 x.2.1⟩:=zkI (yGO) func173 ntmps173.symm fun x=>by kernel_rfl
def ymf (a0:dA) (a1:Int):dS :=(a0.1,a0.2.2.2.2.2.2.2.1,a1,a0.2.1.1,a0.2.1.2,a0.2.2.2.2.2.2.1,a0.2.2.2.1,a0.2.2.2.2.1)
def yyI:Con:=⟨ysp,ysE,fun x=>(fun n=>some ((n,()),())) (ymf x.1 x.2.1)⟩
theorem yNq (a0:dA) (a1:Int):yzR a0 a1=(fun n=>some ((n,()),())) (ymf a0 a1):=zkV (p:=fun(n:dS)=>((n,()),())) rfl
theorem yOm:ConOk prog 173 yyI:=(yKE).mono (fun x r _ h=>(yNq x.1 x.2.1).trans h)
def yej:Code:=(f76.body).getD .skip
def yi4:Env:=zkw TT [] [(21056,.fz),(21120,.fz),(37952,(.pr .fz .fz)),(38016,(.pr .fz .fz))]
theorem yJi:FrOk prog ⟨yi4,60,fun _=>none⟩ yej:=zkA mixed ye trivial
def yAn:Nat→Option Seg:=fun _=>none
def yb7:Shape:=⟨[(1,false,[.ptr 0 0]),(2,false,[.ptr 64 0]),(3,false,[.ptr 4544 0]),(4,false,[.int .i64])],[(0,[.br tL,.br tW,.bool,.br tI]),(64,[.nil,.nil,.bool,.nil]),(4544,[.at 800000001,.nil,.bool,.at 800000000])],[(800000001,tL,.fz),(800000000,tI,.fz)]⟩
def yfl:Shape:=⟨[(1,false,[.ptr 0 0]),(2,false,[.ptr 64 0]),(3,false,[.ptr 4544 0]),(4,false,[.ci .i64 0])],[(0,[.br tL,.br tW,.bool,.br tI]),(64,[.nil,.nil,.bool,.nil]),(4544,[.at 800000001,.nil,.bool,.at 800000000])],[(800000001,tL,.fz),(800000000,tI,.fz)]⟩
def yfb:Shape:=⟨[(1,false,[.ptr 0 0]),(2,false,[.ptr 64 0]),(3,false,[.ptr 4544 0])],[(0,[.br tL,.br tW,.bool,.br tI]),(64,[.nil,.nil,.bool,.nil]),(4544,[.at 800000000,.nil,.bool,.at 800000001])],[(800000000,tL,.fz),(800000001,tI,.fz)]⟩
def yiF:Shape:=⟨[],[],[]⟩
abbrev ymP (v0:Int) (v1 v2 v3:dM):(yb7).X:=((((),()),((),()),((),()),(v0,()),()),((v1.1,v1.2.1,v1.2.2.1,v1.2.2.2,()),((),(),v2.2.2.1,(),()),((),(),v3.2.2.1,(),()),()),(v3.1,v3.2.2.2,()))
abbrev yHg (v0 v1 v2:dM):(yfl).X:=((((),()),((),()),((),()),((),()),()),((v0.1,v0.2.1,v0.2.2.1,v0.2.2.2,()),((),(),v1.2.2.1,(),()),((),(),v2.2.2.1,(),()),()),(v2.1,v2.2.2.2,()))
abbrev ywU (v0 v1 v2:dM):(yfb).X:=((((),()),((),()),((),()),()),((v0.1,v0.2.1,v0.2.2.1,v0.2.2.2,()),((),(),v1.2.2.1,(),()),((),(),v2.2.2.1,(),()),()),(v2.1,v2.2.2.2,()))
def yng (v0:Int) (v1:List (List Int)) (v2:List dW) (v3:Bool) (v4:List Int) (v5 v6:Bool) (v7:List (List Int)) (v8:List Int):Option ((yb7).X ⊕ ((yfb).X ⊕ (yiF).X)) :=bif(ltb v0 (v1.length:Int))then bif(inb v0 v1.length)then bif(zkl ([]:List Int).length (nth v1 v0 []).length 8)then bif(zkl v7.length ([(([]:List Int)++(nth v1 v0 []))]:List (List Int)).length 24)then some (.inl ((((),()),((),()),((),()),((i64.wrap (v0+1)),()),()),((v1,v2,v3,v4,()),((),(),v5,(),()),((),(),v6,(),()),()),((v7++([(([]:List Int)++(nth v1 v0 []))]:List (List Int))),v8,()))) else none else none else none else some (.inr (.inl ((((),()),((),()),((),()),()),((v1,v2,v3,v4,()),((),(),v5,(),()),((),(),v6,(),()),()),(v7,v8,()))))
def ycr (x:(yb7).X):=yng x.1.2.2.2.1.1 x.2.1.1.1 x.2.1.1.2.1 x.2.1.1.2.2.1 x.2.1.1.2.2.2.1 x.2.1.2.1.2.2.1 x.2.1.2.2.1.2.2.1 x.2.2.1 x.2.2.2.1
def ywF (x:(yfl).X):(yb7).X:=((((),()),((),()),((),()),(0,()),()),((x.2.1.1.1,x.2.1.1.2.1,x.2.1.1.2.2.1,x.2.1.1.2.2.2.1,()),((),(),x.2.1.2.1.2.2.1,(),()),((),(),x.2.1.2.2.1.2.2.1,(),()),()),(x.2.2.1,x.2.2.2.1,()))
def yyu:Code:=(zd7 yej 64 116).getD .skip
theorem yIF:zd7 yej 64 29=some (.block 0 (.loop yyu)):=by kernel_rfl
theorem yLe (x:(yb7).X):zhu ⟨yi4,60,yAn⟩ 0 yyu 116 yb7 yfb yiF x=ycr x:=by kernel_rfl
def ywO (x:(yfl).X):Nat:=18446744073709551616
def yn8 (x:(yfl).X):Option ((yfb).X ⊕ (yiF).X):=zF ycr (ywO x) (ywF x)
def yw8:Seg:=⟨yfl,yfb,yiF,yn8⟩
def yps:Nat→Option Seg:=fun q=>bif Nat.beq q 29 then some yw8 else yAn q
theorem yJj:FrOk prog ⟨yi4,60,yps⟩ yej:=(yJi).loop (sg:=yw8) yb7 ywF (by decide) yIF ycr ywO (by decide) (fun _=>rfl) (fun x r _ h=>h) yLe
def yb8:Shape:=⟨[(1,false,[.ptr 0 0]),(2,false,[.ptr 64 0]),(3,false,[.ptr 4544 0]),(5,false,[.int .i64])],[(0,[.br tL,.br tW,.bool,.br tI]),(64,[.nil,.nil,.bool,.nil]),(4544,[.at 800000000,.at 800000002,.bool,.at 800000001])],[(800000000,tL,.fz),(800000002,tW,(.pr .fz .fz)),(800000001,tI,.fz)]⟩
def yfm:Shape:=⟨[(1,false,[.ptr 0 0]),(2,false,[.ptr 64 0]),(3,false,[.ptr 4544 0]),(5,false,[.ci .i64 0])],[(0,[.br tL,.br tW,.bool,.br tI]),(64,[.nil,.nil,.bool,.nil]),(4544,[.at 800000000,.at 800000002,.bool,.at 800000001])],[(800000000,tL,.fz),(800000002,tW,(.pr .fz .fz)),(800000001,tI,.fz)]⟩
def yfc:Shape:=⟨[(2,false,[.ptr 64 0]),(3,false,[.ptr 4544 0])],[(64,[.nil,.nil,.bool,.nil]),(4544,[.at 800000000,.at 800000001,.bool,.at 800000002])],[(800000000,tL,.fz),(800000001,tW,(.pr .fz .fz)),(800000002,tI,.fz)]⟩
def yiG:Shape:=⟨[],[],[]⟩
abbrev ymQ (v0:Int) (v1 v2 v3:dM):(yb8).X:=((((),()),((),()),((),()),(v0,()),()),((v1.1,v1.2.1,v1.2.2.1,v1.2.2.2,()),((),(),v2.2.2.1,(),()),((),(),v3.2.2.1,(),()),()),(v3.1,v3.2.1,v3.2.2.2,()))
abbrev yHh (v0 v1 v2:dM):(yfm).X:=((((),()),((),()),((),()),((),()),()),((v0.1,v0.2.1,v0.2.2.1,v0.2.2.2,()),((),(),v1.2.2.1,(),()),((),(),v2.2.2.1,(),()),()),(v2.1,v2.2.1,v2.2.2.2,()))
abbrev ywV (v0 v1:dM):(yfc).X:=((((),()),((),()),()),(((),(),v0.2.2.1,(),()),((),(),v1.2.2.1,(),()),()),(v1.1,v1.2.1,v1.2.2.2,()))
def ynh (v0:Int) (v1:List (List Int)) (v2:List dW) (v3:Bool) (v4:List Int) (v5 v6:Bool) (v7:List (List Int)) (v8:List dW) (v9:List Int):Option ((yb8).X ⊕ ((yfc).X ⊕ (yiG).X)) :=bif(ltb v0 (v2.length:Int))then bif(inb v0 v2.length)then bif(inb v0 v2.length)then bif(zkl ([]:List Int).length ((nth v2 v0 (0,[])).2).length 8)then bif(zkl v8.length ([((nth v2 v0 (0,[])).1,(([]:List Int)++((nth v2 v0 (0,[])).2)))]:List dW).length 32)then some (.inl ((((),()),((),()),((),()),((i64.wrap (v0+1)),()),()),((v1,v2,v3,v4,()),((),(),v5,(),()),((),(),v6,(),()),()),(v7,(v8++([((nth v2 v0 (0,[])).1,(([]:List Int)++((nth v2 v0 (0,[])).2)))]:List dW)),v9,()))) else none else none else none else none else some (.inr (.inl ((((),()),((),()),()),(((),(),v5,(),()),((),(),v6,(),()),()),(v7,v8,v9,()))))
def ycs (x:(yb8).X):=ynh x.1.2.2.2.1.1 x.2.1.1.1 x.2.1.1.2.1 x.2.1.1.2.2.1 x.2.1.1.2.2.2.1 x.2.1.2.1.2.2.1 x.2.1.2.2.1.2.2.1 x.2.2.1 x.2.2.2.1 x.2.2.2.2.1
def ywG (x:(yfm).X):(yb8).X:=((((),()),((),()),((),()),(0,()),()),((x.2.1.1.1,x.2.1.1.2.1,x.2.1.1.2.2.1,x.2.1.1.2.2.2.1,()),((),(),x.2.1.2.1.2.2.1,(),()),((),(),x.2.1.2.2.1.2.2.1,(),()),()),(x.2.2.1,x.2.2.2.1,x.2.2.2.2.1,()))
def yyv:Code:=(zd7 yej 64 244).getD .skip
theorem yIG:zd7 yej 64 61=some (.block 2 (.loop yyv)):=by kernel_rfl
theorem yLf (x:(yb8).X):zhu ⟨yi4,60,yps⟩ 2 yyv 244 yb8 yfc yiG x=ycs x:=by kernel_rfl
def ywP (x:(yfm).X):Nat:=18446744073709551616
def yn9 (x:(yfm).X):Option ((yfc).X ⊕ (yiG).X):=zF ycs (ywP x) (ywG x)
def yw9:Seg:=⟨yfm,yfc,yiG,yn9⟩
def yLC:Nat→Option Seg:=fun q=>bif Nat.beq q 61 then some yw9 else yps q
theorem yJk:FrOk prog ⟨yi4,60,yLC⟩ yej:=(yJj).loop (sg:=yw9) yb8 ywG (by decide) yIG ycs ywP (by decide) (fun _=>rfl) (fun x r _ h=>h) yLf
abbrev ynK:List Par:= [.rd tM]
abbrev yvD:List OT:= [⟨false,tM,(.pr (.ow .fz) (.pr (.ow (.pr .fz .fz)) (.pr .fz (.ow .fz))))⟩]
def yrf (a0:dM):Option (zaY yvD×zak ynK) :=bif(zkl ([]:List Int).length a0.2.2.2.length 8)then zkt (yn8 ((((),()),((),()),((),()),((),()),()),((a0.1,a0.2.1,a0.2.2.1,a0.2.2.2,()),((),(),false,(),()),((),(),a0.2.2.1,(),()),()),([],(([]:List Int)++a0.2.2.2),()))) (fun y0 =>zkt (yn9 ((((),()),((),()),((),()),((),()),()),((y0.2.1.1.1,y0.2.1.1.2.1,y0.2.1.1.2.2.1,y0.2.1.1.2.2.2.1,()),((),(),y0.2.1.2.1.2.2.1,(),()),((),(),y0.2.1.2.2.1.2.2.1,(),()),()),(y0.2.2.1,[],y0.2.2.2.1,()))) (fun y1 =>some (((y1.2.2.1,y1.2.2.2.1,y1.2.1.2.1.2.2.1,y1.2.2.2.2.1),()),())) (fun y1 =>none)) (fun y0 =>none) else none
theorem yN5:ConOk prog 76 ⟨ynK,yvD,fun x=>yrf x.1⟩:=zkI (yJk) func76 ntmps76.symm fun x=>by kernel_rfl
def ybi (a0:dM):dM:=a0
theorem yQp (a0:dM) (hk:zjx ynK (a0,())):yrf a0=(fun n=>some ((n,()),())) (ybi a0):=by
 have hb1:a0.1.length*24≤2^47:=hk.1.1.1;have hb2:a0.2.1.length*32≤2^47:=hk.1.2.1.1;have hb3:a0.2.2.2.length*8≤2^47:=hk.1.2.2.2.1;have hs: ∀i,i<a0.1.length→(a0.1.getD i []).length*8≤2^47:=fun i hi=>by rw[zkJ hi]; exact(hk.1.1.2 _ (List.getElem_mem hi)).1
 have hc: ∀i,i<a0.2.1.length→(a0.2.1.getD i (0,[])).2.length*8≤2^47:=fun i hi=>by rw[zkJ hi]; exact(hk.1.2.1.2 _ (List.getElem_mem hi)).2.1
 have h1:yn8 (yHg a0 yf ([],[],a0.2.2.1,a0.2.2.2))=some (.inl (ywU a0 yf (a0.1,[],a0.2.2.1,a0.2.2.2))):=by
  have:=zkx (step:=ycr) a0.1 [] (fun i s=>ymP i a0 yf (s,[],a0.2.2.1,a0.2.2.2)) (fun s x=>s++ [x]) (fun i s=>s.length=i) (fun s=> .inl (ywU a0 yf (s,[],a0.2.2.1,a0.2.2.2))) (fun i s hi hs2=>⟨by
   have:=hs i hi;simp only[ycr,ymP,yng,zky (show(i:Int)<a0.1.length by omega),cond_true,wq ((i:Int)+1) (by omega) (by omega),Int.natCast_add,Int.natCast_one,Int.toNat_natCast,zkR hi,zkS,List.nil_append]
   rw[zkF.2 (show(([]:List Int).length+(a0.1.getD i []).length)*8≤140737488355328 by rw[List.length_nil]; omega),zkF.2 (show(s.length+ [a0.1.getD i []].length)*24≤140737488355328 by simp only[List.length_cons,List.length_nil]; omega)]; rfl,by simp[hs2]⟩) (fun s _=>by simp only[ycr,ymP,yng,zk3 (Int.le_refl _),cond_false]) [] rfl 18446744073709551616 (by omega)
  rw[ysW]at this;exact this
 have h2:yn9 (yHh a0 yf (a0.1,[],a0.2.2.1,a0.2.2.2))=some (.inl (ywV yf a0)):=by
  have:=zkx (step:=ycs) a0.2.1 (0,[]) (fun i s=>ymQ i a0 yf (a0.1,s,a0.2.2.1,a0.2.2.2)) (fun s x=>s++ [x]) (fun i s=>s.length=i) (fun s=> .inl (ywV yf (a0.1,s,a0.2.2.1,a0.2.2.2))) (fun i s hi hs2=>⟨by
   have:=hc i hi;simp only[ycs,ymQ,ynh,zky (show(i:Int)<a0.2.1.length by omega),cond_true,wq ((i:Int)+1) (by omega) (by omega),Int.natCast_add,Int.natCast_one,Int.toNat_natCast,zkR hi,zkS,List.nil_append,zkX]
   rw[zkF.2 (show(([]:List Int).length+(a0.2.1.getD i (0,[])).2.length)*8≤140737488355328 by rw[List.length_nil]; omega),zkF.2 (show(s.length+ [a0.2.1.getD i (0,[])].length)*32≤140737488355328 by simp only[List.length_cons,List.length_nil]; omega)]; rfl,by simp[hs2]⟩) (fun s _=>by simp only[ycs,ymQ,ynh,zk3 (Int.le_refl _),cond_false]) [] rfl 18446744073709551616 (by omega)
  rw[ysW]at this;exact this
 unfold yrf ybi;rw[zkF.2 (show(([]:List Int).length+a0.2.2.2.length)*8≤140737488355328 by rw[List.length_nil]; omega)];simp only[cond_true,List.nil_append,h1,zkN,h2]
def ykC:Con:=⟨ynK,yvD,fun x=>(fun n=>some ((n,()),())) (ybi x.1)⟩
theorem ys4:ConOk prog 76 ykC:=(yN5).mono (fun x r hk h=>(yQp x.1 hk).trans h)
def ySn:Code:=(f226.body).getD .skip
def ySQ:Env:=zkw TT [(82,yK)] []
theorem yJh:FrOk prog ⟨ySQ,5,fun _=>none⟩ ySn:=zkA mixed ye ⟨yU,trivial⟩
abbrev yvb:List Par:= [.rd tI]
abbrev yvC:List OT:= [⟨false,tB,.fz⟩]
def yBv (a0:Int):Option (zaY yvC×zak yvb) :=let r1:=yb a0 0 65535;some ((r1,()),())
theorem yN4:ConOk prog 226 ⟨yvb,yvC,fun x=>yBv x.1⟩:=zkI (yJh) func226 ntmps226.symm fun x=>by kernel_rfl
def yaA (a0:Int):Bool :=let r1:=yb a0 0 65535;r1
def yAX:Con:=⟨yvb,yvC,fun x=>(fun n=>some ((n,()),())) (yaA x.1)⟩
theorem yQo (a0:Int):yBv a0=(fun n=>some ((n,()),())) (yaA a0):=zkV (p:=fun(n:Bool)=>((n,()),())) rfl
theorem yRc:ConOk prog 226 yAX:=(yN4).mono (fun x r _ h=>(yQo x.1).trans h)
def ylP:Code:=(f200.body).getD .skip
def ysd:Env:=zkw TT [(226,yAX)] []
theorem yGZ:FrOk prog ⟨ysd,16,fun _=>none⟩ ylP:=zkA mixed ye ⟨yRc,trivial⟩
def yxG:Nat→Option Seg:=fun _=>none
def ycS:Shape:=⟨[(0,false,[.br tI]),(3,false,[.int .i64])],[],[]⟩
def yhr:Shape:=⟨[(0,false,[.br tI]),(3,false,[.ci .i64 0])],[],[]⟩
def yhp:Shape:=⟨[],[],[]⟩
def yhz:Shape:=⟨[(2,false,[.bool])],[],[]⟩
def ylE (v0:List Int) (v1:Int):Option ((ycS).X ⊕ ((yhp).X ⊕ (yhz).X)) :=bif(ltb v1 (v0.length:Int))then bif(inb v1 v0.length)then let r2:=yaA (nth v0 v1 0);bif(!r2)then some (.inr (.inr (((false,()),()),(),()))) else some (.inl (((v0,()),((i64.wrap (v1+1)),()),()),(),())) else none else some (.inr (.inl ((),(),())))
def ybT (x:(ycS).X):=ylE x.1.1.1 x.1.2.1.1
def yua (x:(yhr).X):(ycS).X:=(((x.1.1.1,()),(0,()),()),(),())
def ywi:Code:=(zd7 ylP 64 52).getD .skip
theorem yGv:zd7 ylP 64 13=some (.block 0 (.loop ywi)):=by kernel_rfl
theorem yH3 (x:(ycS).X):zhu ⟨ysd,16,yxG⟩ 0 ywi 52 ycS yhp yhz x=ybT x:=by kernel_rfl
def yun (x:(yhr).X):Nat:=18446744073709551616
def ymB (x:(yhr).X):Option ((yhp).X ⊕ (yhz).X):=zF ybT (yun x) (yua x)
def yuK:Seg:=⟨yhr,yhp,yhz,ymB⟩
def yIt:Nat→Option Seg:=fun q=>bif Nat.beq q 13 then some yuK else yxG q
theorem yG0:FrOk prog ⟨ysd,16,yIt⟩ ylP:=(yGZ).loop (sg:=yuK) ycS yua (by decide) yGv ybT yun (by decide) (fun _=>rfl) (fun x r _ h=>h) yH3
abbrev yl1:List Par:= [.rd tL]
abbrev ysM:List OT:= [⟨false,tB,.fz⟩]
def yoM (a0:List Int):Option (zaY ysM×zak yl1) :=zkt (ymB (((a0,()),((),()),()),(),())) (fun y2 =>some ((true,()),())) (fun y2 =>some ((y2.1.1.1,()),()))
theorem yKN:ConOk prog 200 ⟨yl1,ysM,fun x=>yoM x.1⟩:=zkI (yG0) func200 ntmps200.symm fun x=>by kernel_rfl
def yaj (a0:List Int):Bool:=a0.all yaA
theorem yNy (a0:List Int) (hk:zjx yl1 (a0,())):yoM a0=(fun n=>some ((n,()),())) (yaj a0):=by
 have hb:a0.length*8≤2^47:=hk.1.1
 have hl:ymB (((a0,()),((),()),()),(),())=some (bif a0.all yaA then .inl ((),(),())else .inr (((false,()),()),(),())) :=
  zj9 (step:=ybT) a0 0 (fun i=>(((a0,()),((i:Int),()),()),(),())) yaA _ _ (fun i hi=>by
   simp only[ybT,ylE,zkR hi,zkS,zky (show(i:Int)<a0.length by omega),cond_true,wq ((i:Int)+1) (by omega) (by omega),Int.natCast_add,Int.natCast_one]
   cases yaA (a0.getD i 0)<;>rfl) (by simp only[ybT,ylE,zk3 (Int.le_refl _),cond_false]) _ (by show _<18446744073709551616; omega)
 unfold yoM yaj;rw[hl];cases a0.all yaA<;>rfl
def yfv:Con:=⟨yl1,ysM,fun x=>(fun n=>some ((n,()),())) (yaj x.1)⟩
theorem ykJ:ConOk prog 200 yfv:=(yKN).mono (fun x r hk h=>(yNy x.1 hk).trans h)
def yTW:Code:=(f202.body).getD .skip
def yT9:Env:=zkw TT [(200,yfv)] []
theorem yMD:FrOk prog ⟨yT9,10,fun _=>none⟩ yTW:=zkA mixed ye ⟨ykJ,trivial⟩
abbrev yxX:List Par:= [.rd tL]
abbrev yye:List OT:= [⟨false,tB,.fz⟩]
def yC5 (a0:List Int):Option (zaY yye×zak yxX) :=bif(leb (a0.length:Int) 12)then let r1:=yaj a0;some ((r1,()),()) else some ((false,()),())
theorem yQN:ConOk prog 202 ⟨yxX,yye,fun x=>yC5 x.1⟩:=zkI (yMD) func202 ntmps202.symm fun x=>by kernel_rfl
def yfE (a0:List Int):Bool :=bif(leb (a0.length:Int) 12)then let r1:=yaj a0;r1 else false
def ysU:Con:=⟨yxX,yye,fun x=>(fun n=>some ((n,()),())) (yfE x.1)⟩
theorem yTb (a0:List Int):yC5 a0=(fun n=>some ((n,()),())) (yfE a0):=zkV (p:=fun(n:Bool)=>((n,()),())) (zkG (p:=fun(n:Bool)=>((n,()),())) rfl rfl)
theorem yDO:ConOk prog 202 ysU:=(yQN).mono (fun x r _ h=>(yTb x.1).trans h)
theorem yB2:yfE=yao:=funext fun s=>by
 unfold yfE yao yaj;rw[show yaA=isW from funext fun x=>by unfold yaA; rw[ycN]; rfl];cases leb (s.length:Int) 12<;>rfl
def ybX:Code:=(f160.body).getD .skip
def ye4:Env:=zkw TT [(82,yK),(202,ysU)] []
theorem yMy:FrOk prog ⟨ye4,91,fun _=>none⟩ ybX:=zkA mixed ye ⟨yU,yDO,trivial⟩
def yB9:Nat→Option Seg:=fun _=>none
def ycD:Shape:=⟨[(1,false,[.ptr 0 0]),(3,false,[.int .i64]),(4,false,[.int .i64])],[(0,[.br tL,.br tW,.bool,.br tI])],[]⟩
def ygx:Shape:=⟨[(1,false,[.ptr 0 0]),(3,false,[.int .i64]),(4,false,[.ci .i64 0])],[(0,[.br tL,.br tW,.bool,.br tI])],[]⟩
def ygi:Shape:=⟨[(1,false,[.ptr 0 0]),(3,false,[.int .i64])],[(0,[.br tL,.br tW,.bool,.br tI])],[]⟩
def ygQ:Shape:=⟨[(2,false,[.bool])],[],[]⟩
abbrev yos (v0 v1:Int) (v2:dM):(ycD).X:=((((),()),(v0,()),(v1,()),()),((v2.1,v2.2.1,v2.2.2.1,v2.2.2.2,()),()),())
abbrev yJR (v0:Int) (v1:dM):(ygx).X:=((((),()),(v0,()),((),()),()),((v1.1,v1.2.1,v1.2.2.1,v1.2.2.2,()),()),())
abbrev yJH (v0:Int) (v1:dM):(ygi).X:=((((),()),(v0,()),()),((v1.1,v1.2.1,v1.2.2.1,v1.2.2.2,()),()),())
abbrev yJ4 (v0:Bool):(ygQ).X:=(((v0,()),()),(),())
def yoX (v0 v1:Int) (v2:List (List Int)) (v3:List dW) (v4:Bool) (v5:List Int):Option ((ycD).X ⊕ ((ygi).X ⊕ (ygQ).X)) :=bif(ltb v1 v0)then bif(inb v1 v2.length)then let r2:=yfE (nth v2 v1 []);bif(!r2)then some (.inr (.inr (((false,()),()),(),()))) else some (.inl ((((),()),(v0,()),((i64.wrap (v1+1)),()),()),((v2,v3,v4,v5,()),()),())) else none else some (.inr (.inl ((((),()),(v0,()),()),((v2,v3,v4,v5,()),()),())))
def yc1 (x:(ycD).X):=yoX x.1.2.1.1 x.1.2.2.1.1 x.2.1.1.1 x.2.1.1.2.1 x.2.1.1.2.2.1 x.2.1.1.2.2.2.1
def yy1 (x:(ygx).X):(ycD).X:=((((),()),(x.1.2.1.1,()),(0,()),()),((x.2.1.1.1,x.2.1.1.2.1,x.2.1.1.2.2.1,x.2.1.1.2.2.2.1,()),()),())
def yAA:Code:=(zd7 ybX 64 116).getD .skip
theorem yL2:zd7 ybX 64 29=some (.block 0 (.loop yAA)):=by kernel_rfl
theorem yOK (x:(ycD).X):zhu ⟨ye4,91,yB9⟩ 0 yAA 116 ycD ygi ygQ x=yc1 x:=by kernel_rfl
def yzh (x:(ygx).X):Nat:=18446744073709551616
def ypI (x:(ygx).X):Option ((ygi).X ⊕ (ygQ).X):=zF yc1 (yzh x) (yy1 x)
def yz1:Seg:=⟨ygx,ygi,ygQ,ypI⟩
def yr5:Nat→Option Seg:=fun q=>bif Nat.beq q 29 then some yz1 else yB9 q
theorem yMz:FrOk prog ⟨ye4,91,yr5⟩ ybX:=(yMy).loop (sg:=yz1) ycD yy1 (by decide) yL2 yc1 yzh (by decide) (fun _=>rfl) (fun x r _ h=>h) yOK
def ycE:Shape:=⟨[(1,false,[.ptr 0 0]),(3,false,[.int .i64]),(5,false,[.int .i64])],[(0,[.br tL,.br tW,.bool,.br tI])],[]⟩
def ygy:Shape:=⟨[(1,false,[.ptr 0 0]),(3,false,[.int .i64]),(5,false,[.ci .i64 0])],[(0,[.br tL,.br tW,.bool,.br tI])],[]⟩
def ygj:Shape:=⟨[(1,false,[.ptr 0 0]),(3,false,[.int .i64])],[(0,[.br tL,.br tW,.bool,.br tI])],[]⟩
def ygR:Shape:=⟨[(2,false,[.bool])],[],[]⟩
abbrev yot (v0 v1:Int) (v2:dM):(ycE).X:=((((),()),(v0,()),(v1,()),()),((v2.1,v2.2.1,v2.2.2.1,v2.2.2.2,()),()),())
abbrev yJS (v0:Int) (v1:dM):(ygy).X:=((((),()),(v0,()),((),()),()),((v1.1,v1.2.1,v1.2.2.1,v1.2.2.2,()),()),())
abbrev yJI (v0:Int) (v1:dM):(ygj).X:=((((),()),(v0,()),()),((v1.1,v1.2.1,v1.2.2.1,v1.2.2.2,()),()),())
abbrev yJ5 (v0:Bool):(ygR).X:=(((v0,()),()),(),())
def yoY (v0 v1:Int) (v2:List (List Int)) (v3:List dW) (v4:Bool) (v5:List Int):Option ((ycE).X ⊕ ((ygj).X ⊕ (ygR).X)) :=bif(ltb v1 (v3.length:Int))then bif(inb v1 v3.length)then let r6:=yb ((nth v3 v1 (0,[])).1) 0 (i64.wrap (v0-1));bif(!(!r6))then bif(inb v1 v3.length)then let r7:=yfE ((nth v3 v1 (0,[])).2);bif(!r7)then some (.inr (.inr (((false,()),()),(),()))) else some (.inl ((((),()),(v0,()),((i64.wrap (v1+1)),()),()),((v2,v3,v4,v5,()),()),())) else none else some (.inr (.inr (((false,()),()),(),()))) else none else some (.inr (.inl ((((),()),(v0,()),()),((v2,v3,v4,v5,()),()),())))
def yc2 (x:(ycE).X):=yoY x.1.2.1.1 x.1.2.2.1.1 x.2.1.1.1 x.2.1.1.2.1 x.2.1.1.2.2.1 x.2.1.1.2.2.2.1
def yy2 (x:(ygy).X):(ycE).X:=((((),()),(x.1.2.1.1,()),(0,()),()),((x.2.1.1.1,x.2.1.1.2.1,x.2.1.1.2.2.1,x.2.1.1.2.2.2.1,()),()),())
def yAB:Code:=(zd7 ybX 64 244).getD .skip
theorem yL3:zd7 ybX 64 61=some (.block 2 (.loop yAB)):=by kernel_rfl
theorem yOL (x:(ycE).X):zhu ⟨ye4,91,yr5⟩ 2 yAB 244 ycE ygj ygR x=yc2 x:=by kernel_rfl
def yzi (x:(ygy).X):Nat:=18446744073709551616
def ypJ (x:(ygy).X):Option ((ygj).X ⊕ (ygR).X):=zF yc2 (yzi x) (yy2 x)
def yz2:Seg:=⟨ygy,ygj,ygR,ypJ⟩
def yr6:Nat→Option Seg:=fun q=>bif Nat.beq q 61 then some yz2 else yr5 q
theorem yMA:FrOk prog ⟨ye4,91,yr6⟩ ybX:=(yMz).loop (sg:=yz2) ycE yy2 (by decide) yL3 yc2 yzi (by decide) (fun _=>rfl) (fun x r _ h=>h) yOL
def yb6:Shape:=⟨[(1,false,[.ptr 0 0]),(3,false,[.int .i64]),(6,false,[.int .i64])],[(0,[.br tL,.br tW,.bool,.br tI])],[]⟩
def yfk:Shape:=⟨[(1,false,[.ptr 0 0]),(3,false,[.int .i64]),(6,false,[.ci .i64 0])],[(0,[.br tL,.br tW,.bool,.br tI])],[]⟩
def yfa:Shape:=⟨[(1,false,[.ptr 0 0]),(3,false,[.int .i64])],[(0,[.br tL,.br tW,.bool,.br tI])],[]⟩
def yfr:Shape:=⟨[(2,false,[.bool])],[],[]⟩
abbrev ymO (v0 v1:Int) (v2:dM):(yb6).X:=((((),()),(v0,()),(v1,()),()),((v2.1,v2.2.1,v2.2.2.1,v2.2.2.2,()),()),())
abbrev yHf (v0:Int) (v1:dM):(yfk).X:=((((),()),(v0,()),((),()),()),((v1.1,v1.2.1,v1.2.2.1,v1.2.2.2,()),()),())
abbrev yHa (v0:Int) (v1:dM):(yfa).X:=((((),()),(v0,()),()),((v1.1,v1.2.1,v1.2.2.1,v1.2.2.2,()),()),())
abbrev yHl (v0:Bool):(yfr).X:=(((v0,()),()),(),())
def ynf (v0 v1:Int) (v2:List (List Int)) (v3:List dW) (v4:Bool) (v5:List Int):Option ((yb6).X ⊕ ((yfa).X ⊕ (yfr).X)) :=bif(ltb v1 (v5.length:Int))then bif(inb v1 v5.length)then let r10:=yb (nth v5 v1 0) 0 (i64.wrap (v0-1));bif(!(!r10))then bif(ltb 0 v1)then bif(inb (i64.wrap (v1-1)) v5.length)then bif(inb v1 v5.length)then bif(leb (nth v5 v1 0) (nth v5 (i64.wrap (v1-1)) 0))then some (.inr (.inr (((false,()),()),(),()))) else some (.inl ((((),()),(v0,()),((i64.wrap (v1+1)),()),()),((v2,v3,v4,v5,()),()),())) else none else none else some (.inl ((((),()),(v0,()),((i64.wrap (v1+1)),()),()),((v2,v3,v4,v5,()),()),())) else some (.inr (.inr (((false,()),()),(),()))) else none else some (.inr (.inl ((((),()),(v0,()),()),((v2,v3,v4,v5,()),()),())))
def ycq (x:(yb6).X):=ynf x.1.2.1.1 x.1.2.2.1.1 x.2.1.1.1 x.2.1.1.2.1 x.2.1.1.2.2.1 x.2.1.1.2.2.2.1
def ywE (x:(yfk).X):(yb6).X:=((((),()),(x.1.2.1.1,()),(0,()),()),((x.2.1.1.1,x.2.1.1.2.1,x.2.1.1.2.2.1,x.2.1.1.2.2.2.1,()),()),())
def yyt:Code:=(zd7 ybX 64 500).getD .skip
theorem yIE:zd7 ybX 64 125=some (.block 4 (.loop yyt)):=by kernel_rfl
theorem yLd (x:(yb6).X):zhu ⟨ye4,91,yr6⟩ 4 yyt 500 yb6 yfa yfr x=ycq x:=by kernel_rfl
def ywN (x:(yfk).X):Nat:=18446744073709551616
def yn7 (x:(yfk).X):Option ((yfa).X ⊕ (yfr).X):=zF ycq (ywN x) (ywE x)
def yw7:Seg:=⟨yfk,yfa,yfr,yn7⟩
def yPi:Nat→Option Seg:=fun q=>bif Nat.beq q 125 then some yw7 else yr6 q
theorem yMB:FrOk prog ⟨ye4,91,yPi⟩ ybX:=(yMA).loop (sg:=yw7) yb6 ywE (by decide) yIE ycq ywN (by decide) (fun _=>rfl) (fun x r _ h=>h) yLd
abbrev yp3:List Par:= [.rd tM]
abbrev yyc:List OT:= [⟨false,tB,.fz⟩]
def ytk (a0:dM):Option (zaY yyc×zak yp3) :=zkt (ypI ((((),()),((a0.1.length:Int),()),((),()),()),((a0.1,a0.2.1,a0.2.2.1,a0.2.2.2,()),()),())) (fun y2 =>zkt (ypJ ((((),()),(y2.1.2.1.1,()),((),()),()),((y2.2.1.1.1,y2.2.1.1.2.1,y2.2.1.1.2.2.1,y2.2.1.1.2.2.2.1,()),()),())) (fun y7 =>zkt (yn7 ((((),()),(y7.1.2.1.1,()),((),()),()),((y7.2.1.1.1,y7.2.1.1.2.1,y7.2.1.1.2.2.1,y7.2.1.1.2.2.2.1,()),()),())) (fun y10 =>let r12:=yb y10.1.2.1.1 1 20;bif r12 then some (((leb (y10.2.1.1.2.1.length:Int) 60),()),()) else some ((false,()),())) (fun y10 =>some ((y10.1.1.1,()),()))) (fun y7 =>some ((y7.1.1.1,()),()))) (fun y2 =>some ((y2.1.1.1,()),()))
theorem yQL:ConOk prog 160 ⟨yp3,yyc,fun x=>ytk x.1⟩:=zkI (yMB) func160 ntmps160.symm fun x=>by kernel_rfl
def ybf (a0:dM):Bool:=yD a0
theorem yS9 (a0:dM) (hk:zjx yp3 (a0,())):ytk a0=(fun n=>some ((n,()),())) (ybf a0):=by
 have hb1:a0.1.length*24≤2^47:=hk.1.1.1;have hb2:a0.2.1.length*32≤2^47:=hk.1.2.1.1;have hb3:a0.2.2.2.length*8≤2^47:=hk.1.2.2.2.1
 have h1:ypI (yJR a0.1.length a0)=some (bif a0.1.all yao then .inl (yJH a0.1.length a0)else .inr (yJ4 false)) :=
  zj9 (step:=yc1) a0.1 [] (fun i=>yos a0.1.length i a0) yao _ _ (fun i hi=>by
   simp only[yc1,yos,yoX,zky (show(i:Int)<a0.1.length by omega),cond_true,wq ((i:Int)+1) (by omega) (by omega),Int.natCast_add,Int.natCast_one,Int.toNat_natCast,zkR hi,zkS,yB2]
   cases yao (a0.1.getD i [])<;>rfl) (by simp only[yc1,yos,yoX,zk3 (Int.le_refl _),cond_false]) _ (by show _<18446744073709551616; omega)
 have h2:ypJ (yJS a0.1.length a0)=some (bif a0.2.1.all (yo5 a0.1.length)then .inl (yJI a0.1.length a0)else .inr (yJ5 false)) :=
  zj9 (step:=yc2) a0.2.1 (0,[]) (fun i=>yot a0.1.length i a0) (yo5 a0.1.length) _ _ (fun i hi=>by
   simp only[yc2,yot,yoY,zky (show(i:Int)<a0.2.1.length by omega),cond_true,wq ((i:Int)+1) (by omega) (by omega),Int.natCast_add,Int.natCast_one,Int.toNat_natCast,zkR hi,zkS,yB2,yje (show a0.1.length≤1152921504606846976 by omega),yo5]
   cases inb (a0.2.1.getD i (0,[])).1 a0.1.length<;>cases yao (a0.2.1.getD i (0,[])).2<;>rfl) (by simp only[yc2,yot,yoY,zk3 (Int.le_refl _),cond_false]) _ (by show _<18446744073709551616; omega)
 have h3:yn7 (yHf a0.1.length a0)=some (bif(List.range a0.2.2.2.length).any (yAt a0.1.length a0.2.2.2)then .inr (yHl false)else .inl (yHa a0.1.length a0)) :=
  zji (step:=ycq) (fun i=>ymO a0.1.length i a0) a0.2.2.2.length (yAt a0.1.length a0.2.2.2) _ _ (fun i hi=>by
   simp only[ycq,ymO,ynf,zky (show(i:Int)<a0.2.2.2.length by omega),cond_true,wq ((i:Int)+1) (by omega) (by omega),Int.natCast_add,Int.natCast_one,Int.toNat_natCast,zkR hi,zkS,yje (show a0.1.length≤1152921504606846976 by omega),yAt];rcases Nat.eq_zero_or_pos i with rfl | h0
   ·cases inb (a0.2.2.2.getD 0 0) a0.1.length<;>rfl
   ·rw[show i64.wrap ((i:Int)-1)=((i-1:Nat):Int)by rw[wr (by omega) (by omega)]; omega,zkR (show i-1<a0.2.2.2.length by omega),zkS,zky (show(0:Int)<i by omega),decide_eq_true h0]
    cases inb (a0.2.2.2.getD i 0) a0.1.length<;>cases leb (a0.2.2.2.getD i 0) (a0.2.2.2.getD (i-1) 0)<;>rfl) (by simp only[ycq,ymO,ynf,zk3 (Int.le_refl _),cond_false]) _ (by show _<18446744073709551616; omega)
 unfold ytk ybf yD;rw[h1];cases a0.1.all yao
 ·rfl
 simp only[cond_true,zkN,h2];cases a0.2.1.all (yo5 a0.1.length)
 ·rfl
 simp only[cond_true,zkN,h3,yRz,ycN];cases ynS a0.1.length a0.2.2.2
 ·rfl
 simp only[Bool.not_true,cond_false,zkN];cases leb 1 (a0.1.length:Int)<;>cases leb (a0.1.length:Int) 20<;>rfl
def yh3:Con:=⟨yp3,yyc,fun x=>(fun n=>some ((n,()),())) (ybf x.1)⟩
theorem ynZ:ConOk prog 160 yh3:=(yQL).mono (fun x r hk h=>(yS9 x.1 hk).trans h)
def yix:Code:=(f245.body).getD .skip
def yn3:Env:=zkw TT [] []
theorem yDZ:FrOk prog ⟨yn3,28,fun _=>none⟩ yix:=zkA mixed ye trivial
def ytI:Nat→Option Seg:=fun _=>none
def yaR:Shape:=⟨[(0,false,[.br tI]),(1,false,[.int .i64]),(5,false,[.at 800000000]),(6,false,[.int .i64])],[],[(800000000,tI,.fz)]⟩
def ydj:Shape:=⟨[(0,false,[.br tI]),(1,false,[.int .i64]),(5,false,[.at 800000000]),(6,false,[.ci .i64 0])],[],[(800000000,tI,.fz)]⟩
def ydh:Shape:=⟨[(5,false,[.at 800000000])],[],[(800000000,tI,.fz)]⟩
def yfP:Shape:=⟨[],[],[]⟩
abbrev yiP (v0:List Int) (v1 v2:Int) (v3:List Int):(yaR).X:=(((v0,()),(v1,()),((),()),(v2,()),()),(),(v3,()))
abbrev yDr (v0:List Int) (v1:Int) (v2:List Int):(ydj).X:=(((v0,()),(v1,()),((),()),((),()),()),(),(v2,()))
abbrev yDp (v0:List Int):(ydh).X:=((((),()),()),(),(v0,()))
def yi0 (v0:List Int) (v1 v2:Int) (v3:List Int):Option ((yaR).X ⊕ ((ydh).X ⊕ (yfP).X)) :=bif(ltb v2 (v0.length:Int))then bif(inb v2 v0.length)then bif((nth v0 v2 0) !=v1)then bif(inb v2 v0.length)then bif(zkl v3.length ([(nth v0 v2 0)]:List Int).length 8)then some (.inl (((v0,()),(v1,()),((),()),((i64.wrap (v2+1)),()),()),(),((v3++([(nth v0 v2 0)]:List Int)),()))) else none else none else some (.inl (((v0,()),(v1,()),((),()),((i64.wrap (v2+1)),()),()),(),(v3,()))) else none else some (.inr (.inl ((((),()),()),(),(v3,()))))
def ya3 (x:(yaR).X):=yi0 x.1.1.1 x.1.2.1.1 x.1.2.2.2.1.1 x.2.2.1
def yqM (x:(ydj).X):(yaR).X:=(((x.1.1.1,()),(x.1.2.1.1,()),((),()),(0,()),()),(),(x.2.2.1,()))
def yrt:Code:=(zd7 yix 64 116).getD .skip
theorem yDT:zd7 yix 64 29=some (.block 0 (.loop yrt)):=by kernel_rfl
theorem yEk (x:(yaR).X):zhu ⟨yn3,28,ytI⟩ 0 yrt 116 yaR ydh yfP x=ya3 x:=by kernel_rfl
def yqP (x:(ydj).X):Nat:=18446744073709551616
def yjC (x:(ydj).X):Option ((ydh).X ⊕ (yfP).X):=zF ya3 (yqP x) (yqM x)
def yrn:Seg:=⟨ydj,ydh,yfP,yjC⟩
def yEm:Nat→Option Seg:=fun q=>bif Nat.beq q 29 then some yrn else ytI q
theorem yD0:FrOk prog ⟨yn3,28,yEm⟩ yix:=(yDZ).loop (sg:=yrn) yaR yqM (by decide) yDT ya3 yqP (by decide) (fun _=>rfl) (fun x r _ h=>h) yEk
abbrev yiA:List Par:= [.rd tL,.rd tI]
abbrev yoh:List OT:= [⟨false,tL,(.ow .fz)⟩]
def ylv (a0:List Int) (a1:Int):Option (zaY yoh×zak yiA) :=zkt (yjC (((a0,()),(a1,()),((),()),((),()),()),(),(([]:List Int),()))) (fun y0 =>some ((y0.2.2.1,()),())) (fun y0 =>none)
theorem yFG:ConOk prog 245 ⟨yiA,yoh,fun x=>ylv x.1 x.2.1⟩:=zkI (yD0) func245 ntmps245.symm fun x=>by kernel_rfl
def yfF (a0:List Int) (a1:Int):List Int:=yDx a0 a1
theorem yEH {α:Type} (p:α→Bool): ∀(l:List α) (s:List α),l.foldl (fun s x=>bif p x then s++ [x]else s) s=s++l.filter p
 | [],s=>by simp
 | x::l,s=>by
  rw[List.foldl_cons,yEH p l,List.filter_cons];cases p x<;>simp
theorem yHs (a0:List Int) (a1:Int) (hk:zjx yiA (a0,a1,())):ylv a0 a1=(fun n=>some ((n,()),())) (yfF a0 a1):=by
 have hb:a0.length*8≤2^47:=hk.1.1
 have h1:=zkx (step:=ya3) a0 0 (fun i s=>yiP a0 a1 i s) (fun s x=>bif x !=a1 then s++ [x]else s) (fun i s=>s.length≤i) (fun s=> .inl (yDp s)) (fun i s hi hs=>by
   constructor
   ·simp only[ya3,yiP,yi0,zky (show(i:Int)<a0.length by omega),cond_true,wq ((i:Int)+1) (by omega) (by omega),Int.natCast_add,Int.natCast_one,Int.toNat_natCast,zkR hi,zkS]
    rw[zkF.2 (show(s.length+ [a0.getD i 0].length)*8≤140737488355328 by simp only[List.length_cons,List.length_nil]; omega)];cases(a0.getD i 0 !=a1)<;>rfl
   ·cases(a0.getD i 0 !=a1)
    ·show s.length≤_; omega
    ·simp only[cond_true,List.length_append,List.length_cons,List.length_nil]; omega) (fun s _=>by simp only[ya3,yiP,yi0,zk3 (Int.le_refl _),cond_false]) [] (Nat.le_refl _) 18446744073709551616 (by omega)
 unfold ylv yfF yDx;rw[show yjC (yDr a0 a1 [])=_ from h1,yEH]; rfl
def ytZ:Con:=⟨yiA,yoh,fun x=>(fun n=>some ((n,()),())) (yfF x.1 x.2.1)⟩
theorem yHT:ConOk prog 245 ytZ:=(yFG).mono (fun x r hk h=>(yHs x.1 x.2.1 hk).trans h)
def yLw:Code:=(f225.body).getD .skip
def yLT:Env:=zkw TT [(76,ykC),(82,yK),(160,yh3),(202,ysU),(245,ytZ)] [(16832,(.pr .fz .fz))]
theorem yFb:FrOk prog ⟨yLT,55,fun _=>none⟩ yLw:=zkA mixed ye ⟨ys4,yU,ynZ,yDO,yHT,trivial⟩
abbrev yki:List Par:= [.rd tM,.rd tI,.rd tL]
abbrev yqt:List OT:= [⟨false,tM,(.pr (.ow .fz) (.pr (.ow (.pr .fz .fz)) (.pr .fz (.ow .fz))))⟩,⟨false,tB,.fz⟩]
def yna (a0:dM) (a1:Int) (a2:List Int):Option (zaY yqt×zak yki) :=let r1:=ybi a0;let r2:=ybf a0;bif(!(!r2))then bif(!a0.2.2.1)then let r3:=yb a1 0 (i64.wrap ((a0.1.length:Int)-1));bif(!(!r3))then let r4:=yfE a2;bif(!(!r4))then bif(leb 60 (a0.2.1.length:Int))then some ((r1,false,()),()) else bif(zkl ([]:List Int).length a2.length 8)then bif(zkl r1.2.1.length ([(a1,(([]:List Int)++a2))]:List dW).length 32)then let r5:=yfF a0.2.2.2 a1;some (((r1.1,(r1.2.1++([(a1,(([]:List Int)++a2))]:List dW)),r1.2.2.1,r5),true,()),()) else none else none else some ((r1,false,()),()) else some ((r1,false,()),()) else some ((r1,false,()),()) else some ((r1,false,()),())
theorem yHN:ConOk prog 225 ⟨yki,yqt,fun x=>yna x.1 x.2.1 x.2.2.1⟩:=zkI (yFb) func225 ntmps225.symm fun x=>by kernel_rfl
def yg7 (a0:dM) (a1:Int) (a2:List Int):dM×Bool:=yQ a0 a1 a2
theorem yKq (a0:dM) (a1:Int) (a2:List Int) (hk:zjx yki (a0,a1,a2,())):yna a0 a1 a2=(fun n=>some ((n.1,n.2,()),())) (yg7 a0 a1 a2):=by
 have hb1:a0.1.length*24≤2^47:=hk.1.1.1;have hb2:a2.length*8≤2^47:=hk.2.2.1.1;unfold yna yg7 yQ yaS;simp only[ybi,ybf,yje (show a0.1.length≤1152921504606846976 by omega),yB2,yfF,List.nil_append];cases yD a0
 ·rfl
 cases a0.2.2.1
 ·cases inb a1 a0.1.length
  ·rfl
  cases yao a2
  ·rfl
  by_cases h:(a0.2.1.length:Int)<60
  ·rw[zky h,zk1 h,zkF.2 (show(([]:List Int).length+a2.length)*8≤140737488355328 by rw[List.length_nil]; omega),zkF.2 (show(a0.2.1.length+ [(a1,a2)].length)*32≤140737488355328 by simp only[List.length_cons,List.length_nil]; omega)]; rfl
  ·rw[zk3 (by omega),zk2 (by omega)]; rfl
 ·rfl
def ywz:Con:=⟨yki,yqt,fun x=>(fun n=>some ((n.1,n.2,()),())) (yg7 x.1 x.2.1 x.2.2.1)⟩
theorem yK7:ConOk prog 225 ywz:=(yHN).mono (fun x r hk h=>(yKq x.1 x.2.1 x.2.2.1 hk).trans h)
def yUT:Code:=(f228.body).getD .skip
def yUV:Env:=zkw TT [] []
theorem yPT:FrOk prog ⟨yUV,31,fun _=>none⟩ yUT:=zkA mixed ye trivial
abbrev yBI:List Par:= [.pt tA (.pr .fz (.pr (.pr .fz .fz) (.pr (.ow (.pr (.ow .fz) (.pr (.ow (.pr .fz .fz)) (.pr .fz (.ow .fz))))) (.pr .fz (.pr .fz (.pr .fz (.pr .fz (.pr .fz (.pr (.ow (.pr .fz .fz)) (.pr .fz (.pr .fz .fz)))))))))))]
abbrev yBN:List OT:= [⟨false,tB,.fz⟩]
def yDQ (a0:dA):Option (zaY yBN×zak yBI) :=bif a0.2.2.2.2.2.2.2.2.2.2.1 then some ((false,()),(a0,())) else bif(a0.2.2.2.2.2.2.2.2.2.1==0)then some ((false,()),((a0.1,a0.2.1,a0.2.2.1,a0.2.2.2.1,a0.2.2.2.2.1,a0.2.2.2.2.2.1,a0.2.2.2.2.2.2.1,a0.2.2.2.2.2.2.2.1,a0.2.2.2.2.2.2.2.2.1,(-1),true,a0.2.2.2.2.2.2.2.2.2.2.2),())) else bif(ltb 0 a0.2.2.2.2.2.2.2.2.2.1)then some ((true,()),((a0.1,a0.2.1,a0.2.2.1,a0.2.2.2.1,a0.2.2.2.2.1,a0.2.2.2.2.2.1,a0.2.2.2.2.2.2.1,a0.2.2.2.2.2.2.2.1,a0.2.2.2.2.2.2.2.2.1,(i64.wrap (a0.2.2.2.2.2.2.2.2.2.1-1)),a0.2.2.2.2.2.2.2.2.2.2),())) else some ((true,()),(a0,()))
theorem yTn:ConOk prog 228 ⟨yBI,yBN,fun x=>yDQ x.1⟩:=zkI (yPT) func228 ntmps228.symm fun x=>by kernel_rfl
def ynr (a0:dA):Bool×dA :=bif a0.2.2.2.2.2.2.2.2.2.2.1 then (false,a0) else bif(a0.2.2.2.2.2.2.2.2.2.1==0)then (false,(a0.1,a0.2.1,a0.2.2.1,a0.2.2.2.1,a0.2.2.2.2.1,a0.2.2.2.2.2.1,a0.2.2.2.2.2.2.1,a0.2.2.2.2.2.2.2.1,a0.2.2.2.2.2.2.2.2.1,(-1),true,a0.2.2.2.2.2.2.2.2.2.2.2)) else bif(ltb 0 a0.2.2.2.2.2.2.2.2.2.1)then (true,(a0.1,a0.2.1,a0.2.2.1,a0.2.2.2.1,a0.2.2.2.2.1,a0.2.2.2.2.2.1,a0.2.2.2.2.2.2.1,a0.2.2.2.2.2.2.2.1,a0.2.2.2.2.2.2.2.2.1,(i64.wrap (a0.2.2.2.2.2.2.2.2.2.1-1)),a0.2.2.2.2.2.2.2.2.2.2)) else (true,a0)
def yvK:Con:=⟨yBI,yBN,fun x=>(fun n=>some ((n.1,()),(n.2,()))) (ynr x.1)⟩
theorem yUE (a0:dA):yDQ a0=(fun n=>some ((n.1,()),(n.2,()))) (ynr a0):=zkV (p:=fun(n:Bool×dA)=>((n.1,()),(n.2,()))) (zkG (p:=fun(n:Bool×dA)=>((n.1,()),(n.2,()))) rfl (zkG (p:=fun(n:Bool×dA)=>((n.1,()),(n.2,()))) rfl (zkG (p:=fun(n:Bool×dA)=>((n.1,()),(n.2,()))) rfl rfl)))
theorem yFI:ConOk prog 228 yvK:=(yTn).mono (fun x r _ h=>(yUE x.1).trans h)
theorem yOT (a:dA):ynr a=opA a:=by kernel_rfl
def yTZ:Code:=(f206.body).getD .skip
def yUc:Env:=zkw TT [(225,ywz),(228,yvK)] []
theorem yMM:FrOk prog ⟨yUc,43,fun _=>none⟩ yTZ:=zkA mixed ye ⟨yK7,yFI,trivial⟩
abbrev ykW:List Par:= [.pt tA (.pr .fz (.pr (.pr .fz .fz) (.pr (.ow (.pr (.ow .fz) (.pr (.ow (.pr .fz .fz)) (.pr .fz (.ow .fz))))) (.pr .fz (.pr .fz (.pr .fz (.pr .fz (.pr .fz (.pr (.ow (.pr .fz .fz)) (.pr .fz (.pr .fz .fz))))))))))),.rd tI,.rd tI,.rd tL]
abbrev yqv:List OT:= []
def ytn (a0:dA) (a1 a2:Int) (a3:List Int):Option (zaY yqv×zak ykW) :=bif(inb a1 a0.2.2.1.length)then bif(!((((nth a0.2.2.1 a1 ([],[],false,[])).2).2).1))then let r1:=ynr a0;bif(!r1.1)then some ((),(r1.2,())) else bif(inb a1 r1.2.2.2.1.length)then let r2:=yg7 ((nth r1.2.2.2.1 a1 ([],[],false,[])).1,((nth r1.2.2.2.1 a1 ([],[],false,[])).2).1,(((nth r1.2.2.2.1 a1 ([],[],false,[])).2).2)) a2 a3;bif(inb a1 r1.2.2.2.1.length)then some ((),((r1.2.1,r1.2.2.1,(r1.2.2.2.1.set (a1).toNat r2.1),r1.2.2.2.2),())) else none else none else some ((),(a0,())) else none
theorem yQT:ConOk prog 206 ⟨ykW,yqv,fun x=>ytn x.1 x.2.1 x.2.2.1 x.2.2.2.1⟩:=zkI (yMM) func206 ntmps206.symm fun x=>by kernel_rfl
def yqY (a0:dA) (a1 a2:Int) (a3:List Int):dA:=ybk a0 a1 a2 a3
def yzJ (a0:dA) (a1 a2:Int) (a3:List Int):Bool:=inb a1 a0.2.2.1.length
theorem yTf (a0:dA) (a1 a2:Int) (a3:List Int) (hk:zjx ykW (a0,a1,a2,a3,())) (hq:yzJ a0 a1 a2 a3=true):ytn a0 a1 a2 a3=(fun n=>some ((),(n,()))) (yqY a0 a1 a2 a3):=by
 have hq:inb a1 a0.2.2.1.length=true:=hq;unfold ytn yqY ybk yjw;simp only[yOT,yaE,hq,zkX,yg7];cases(nth a0.2.2.1 a1 yf).2.2.1<;>cases(opA a0).1<;>rfl
def yfI (a0:dA) (a1 a2:Int) (a3:List Int):Option (zaY yqv×zak ykW):=bif yzJ a0 a1 a2 a3 then(fun n=>some ((),(n,()))) (yqY a0 a1 a2 a3)else none
theorem yn0 (a0:dA) (a1 a2:Int) (a3:List Int) (h:yzJ a0 a1 a2 a3=true):yfI a0 a1 a2 a3=(fun n=>some ((),(n,()))) (yqY a0 a1 a2 a3):=by unfold yfI; rw[h]; rfl
def yl9:Con:=⟨ykW,yqv,fun x=>yfI x.1 x.2.1 x.2.2.1 x.2.2.2.1⟩
theorem yvS:ConOk prog 206 yl9:=(yQT).mono (fun x r hk h=>zkY h (fun hq=>yTf x.1 x.2.1 x.2.2.1 x.2.2.2.1 hk hq))
def yj2:Code:=(f224.body).getD .skip
def ypB:Env:=zkw TT [(76,ykC),(160,yh3)] [(32768,(.pr .fz .fz))]
theorem yE6:FrOk prog ⟨ypB,40,fun _=>none⟩ yj2:=zkA mixed ye ⟨ys4,ynZ,trivial⟩
def yv9:Nat→Option Seg:=fun _=>none
def ybb:Shape:=⟨[(2,false,[.ptr 64 0]),(3,false,[.ptr 4224 0]),(4,false,[.int .i64])],[(64,[.nil,.nil,.bool,.nil]),(4224,[.at 800000000,.at 800000001,.bool,.at 800000002])],[(800000000,tL,.fz),(800000001,tW,(.pr .fz .fz)),(800000002,tI,.fz)]⟩
def ydW:Shape:=⟨[(2,false,[.ptr 64 0]),(3,false,[.ptr 4224 0]),(4,false,[.ci .i64 0])],[(64,[.nil,.nil,.bool,.nil]),(4224,[.at 800000000,.at 800000001,.bool,.at 800000002])],[(800000000,tL,.fz),(800000001,tW,(.pr .fz .fz)),(800000002,tI,.fz)]⟩
def ydO:Shape:=⟨[(2,false,[.ptr 64 0]),(3,false,[.ptr 4224 0])],[(64,[.nil,.nil,.bool,.nil]),(4224,[.at 800000000,.at 800000001,.bool,.at 800000002])],[(800000000,tL,.fz),(800000001,tW,(.pr .fz .fz)),(800000002,tI,.fz)]⟩
def ygP:Shape:=⟨[],[],[]⟩
abbrev yjI (v0:Int) (v1 v2:dM):(ybb).X:=((((),()),((),()),(v0,()),()),(((),(),v1.2.2.1,(),()),((),(),v2.2.2.1,(),()),()),(v2.1,v2.2.1,v2.2.2.2,()))
abbrev yD9 (v0 v1:dM):(ydW).X:=((((),()),((),()),((),()),()),(((),(),v0.2.2.1,(),()),((),(),v1.2.2.1,(),()),()),(v1.1,v1.2.1,v1.2.2.2,()))
abbrev yrQ (v0 v1:dM):(ydO).X:=((((),()),((),()),()),(((),(),v0.2.2.1,(),()),((),(),v1.2.2.1,(),()),()),(v1.1,v1.2.1,v1.2.2.2,()))
def yjT (v0:Int) (v1 v2:Bool) (v3:List (List Int)) (v4:List dW) (v5:List Int):Option ((ybb).X ⊕ ((ydO).X ⊕ (ygP).X)) :=bif(ltb v0 (v4.length:Int))then bif(inb v0 v4.length)then bif(inb v0 v4.length)then bif(inb ((nth v4 v0 (0,[])).1) v3.length)then let r4:=(v3.set ((nth v4 v0 (0,[])).1).toNat ((nth v4 v0 (0,[])).2));some (.inl ((((),()),((),()),((i64.wrap (v0+1)),()),()),(((),(),v1,(),()),((),(),v2,(),()),()),(r4,v4,v5,()))) else none else none else none else some (.inr (.inl ((((),()),((),()),()),(((),(),v1,(),()),((),(),v2,(),()),()),(v3,v4,v5,()))))
def ybr (x:(ybb).X):=yjT x.1.2.2.1.1 x.2.1.1.2.2.1 x.2.1.2.1.2.2.1 x.2.2.1 x.2.2.2.1 x.2.2.2.2.1
def yrD (x:(ydW).X):(ybb).X:=((((),()),((),()),(0,()),()),(((),(),x.2.1.1.2.2.1,(),()),((),(),x.2.1.2.1.2.2.1,(),()),()),(x.2.2.1,x.2.2.2.1,x.2.2.2.2.1,()))
def ytT:Code:=(zd7 yj2 64 244).getD .skip
theorem yEy:zd7 yj2 64 61=some (.block 0 (.loop ytT)):=by kernel_rfl
theorem yFU (x:(ybb).X):zhu ⟨ypB,40,yv9⟩ 0 ytT 244 ybb ydO ygP x=ybr x:=by kernel_rfl
def yrM (x:(ydW).X):Nat:=18446744073709551616
def ykV (x:(ydW).X):Option ((ydO).X ⊕ (ygP).X):=zF ybr (yrM x) (yrD x)
def yr2:Seg:=⟨ydW,ydO,ygP,ykV⟩
def yGk:Nat→Option Seg:=fun q=>bif Nat.beq q 61 then some yr2 else yv9 q
theorem yE7:FrOk prog ⟨ypB,40,yGk⟩ yj2:=(yE6).loop (sg:=yr2) ybb yrD (by decide) yEy ybr yrM (by decide) (fun _=>rfl) (fun x r _ h=>h) yFU
abbrev ykf:List Par:= [.rd tM]
abbrev yqp:List OT:= [⟨false,tM,(.pr (.ow .fz) (.pr (.ow (.pr .fz .fz)) (.pr .fz (.ow .fz))))⟩]
def ym7 (a0:dM):Option (zaY yqp×zak ykf) :=let r1:=ybi a0;let r2:=ybf a0;bif(!(!r2))then bif a0.2.2.1 then some ((r1,()),()) else zkt (ykV ((((),()),((),()),((),()),()),(((),(),false,(),()),((),(),r1.2.2.1,(),()),()),(r1.1,r1.2.1,r1.2.2.2,()))) (fun y4 =>some (((y4.2.2.1,([]:List dW),y4.2.1.2.1.2.2.1,y4.2.2.2.2.1),()),())) (fun y4 =>none) else some ((r1,()),())
theorem yHJ:ConOk prog 224 ⟨ykf,yqp,fun x=>ym7 x.1⟩:=zkI (yE7) func224 ntmps224.symm fun x=>by kernel_rfl
def yg5 (a0:dM):dM:=yx a0
theorem yKm (a0:dM) (hk:zjx ykf (a0,())):ym7 a0=(fun n=>some ((n,()),())) (yg5 a0):=by
 have hb2:a0.2.1.length*32≤2^47:=hk.1.2.1.1;unfold ym7 yg5 yx;simp only[ybi,ybf];cases hm:yD a0
 ·rfl
 have h1:ykV (yD9 yf a0)=some (.inl (yrQ yf (yh5 (fun _=>true) a0.2.1 a0.1,a0.2))) :=
  zkD (step:=ybr) a0.2.1.length (fun i s=>yjI i yf (s,a0.2)) (yfw (fun _=>true) a0.2.1) (fun i s=>s.length=a0.1.length) (fun s=> .inl (yrQ yf (s,a0.2))) (fun i s hi hs=>by
   have hw:=(yUy hm hi).1;refine⟨?_,yxo.trans hs⟩
   simp only[ybr,yjI,yjT,zky (show(i:Int)<a0.2.1.length by omega),cond_true,wq ((i:Int)+1) (by omega) (by omega),Int.natCast_add,Int.natCast_one,Int.toNat_natCast,zkR hi,hs,hw,yfw]) (fun s hs=>by simp only[ybr,yjI,yjT,zk3 (Int.le_refl _),cond_false]) a0.1 rfl _ (by show _<18446744073709551616; omega)
 rw[h1];cases hf:a0.2.2.1
 ·exact congrArg (fun z=>some (((yh5 (fun _=>true) a0.2.1 a0.1,([]:List dW),z,a0.2.2.2),()),())) hf
 ·rfl
def ywx:Con:=⟨ykf,yqp,fun x=>(fun n=>some ((n,()),())) (yg5 x.1)⟩
theorem yK5:ConOk prog 224 ywx:=(yHJ).mono (fun x r hk h=>(yKm x.1 hk).trans h)
def ynA:Code:=(f208.body).getD .skip
def yuV:Env:=zkw TT [(224,ywx),(228,yvK)] []
theorem yJw:FrOk prog ⟨yuV,39,fun _=>none⟩ ynA:=zkA mixed ye ⟨yK5,yFI,trivial⟩
def yAs:Nat→Option Seg:=fun _=>none
def ycJ:Shape:=⟨[(0,false,[.ptr 1000000000 0]),(2,false,[.int .i64])],[(1000000000,[.int .i64,.int .i64,.int .i64,.at 800000000,.int .i64,.int .i64,.int .i64,.int .i64,.int .i64,.at 800000001,.int .i64,.bool,.bool])],[(800000000,tM,(.pr (.ow .fz) (.pr (.ow (.pr .fz .fz)) (.pr .fz (.ow .fz))))),(800000001,tW,(.pr .fz .fz))]⟩
def ygD:Shape:=⟨[(0,false,[.ptr 1000000000 0]),(2,false,[.ci .i64 0])],[(1000000000,[.int .i64,.int .i64,.int .i64,.at 800000000,.int .i64,.int .i64,.int .i64,.int .i64,.int .i64,.at 800000001,.int .i64,.bool,.bool])],[(800000000,tM,(.pr (.ow .fz) (.pr (.ow (.pr .fz .fz)) (.pr .fz (.ow .fz))))),(800000001,tW,(.pr .fz .fz))]⟩
def ygo:Shape:=⟨[],[(1000000000,[.int .i64,.int .i64,.int .i64,.at 800000000,.int .i64,.int .i64,.int .i64,.int .i64,.int .i64,.at 800000001,.int .i64,.bool,.bool])],[(800000000,tM,(.pr (.ow .fz) (.pr (.ow (.pr .fz .fz)) (.pr .fz (.ow .fz))))),(800000001,tW,(.pr .fz .fz))]⟩
def ykt:Shape:=⟨[],[],[]⟩
abbrev yoy (v0:Int) (v1:dA):(ycJ).X:=((((),()),(v0,()),()),((v1.1,v1.2.1.1,v1.2.1.2,(),v1.2.2.2.1,v1.2.2.2.2.1,v1.2.2.2.2.2.1,v1.2.2.2.2.2.2.1,v1.2.2.2.2.2.2.2.1,(),v1.2.2.2.2.2.2.2.2.2.1,v1.2.2.2.2.2.2.2.2.2.2.1,v1.2.2.2.2.2.2.2.2.2.2.2,()),()),(v1.2.2.1,v1.2.2.2.2.2.2.2.2.1,()))
abbrev yJX (v0:dA):(ygD).X:=((((),()),((),()),()),((v0.1,v0.2.1.1,v0.2.1.2,(),v0.2.2.2.1,v0.2.2.2.2.1,v0.2.2.2.2.2.1,v0.2.2.2.2.2.2.1,v0.2.2.2.2.2.2.2.1,(),v0.2.2.2.2.2.2.2.2.2.1,v0.2.2.2.2.2.2.2.2.2.2.1,v0.2.2.2.2.2.2.2.2.2.2.2,()),()),(v0.2.2.1,v0.2.2.2.2.2.2.2.2.1,()))
abbrev yzy (v0:dA):(ygo).X:=((),((v0.1,v0.2.1.1,v0.2.1.2,(),v0.2.2.2.1,v0.2.2.2.2.1,v0.2.2.2.2.2.1,v0.2.2.2.2.2.2.1,v0.2.2.2.2.2.2.2.1,(),v0.2.2.2.2.2.2.2.2.2.1,v0.2.2.2.2.2.2.2.2.2.2.1,v0.2.2.2.2.2.2.2.2.2.2.2,()),()),(v0.2.2.1,v0.2.2.2.2.2.2.2.2.1,()))
def yo3 (v0 v1 v2 v3 v4 v5 v6 v7 v8 v9:Int) (v10 v11:Bool) (v12:List dM) (v13:List dW):Option ((ycJ).X ⊕ ((ygo).X ⊕ (ykt).X)) :=bif(ltb v0 (v12.length:Int))then bif(inb v0 v12.length)then bif(!((((nth v12 v0 ([],[],false,[])).2).2).1))then let r3:=ynr (v1,(v2,v3),v12,v4,v5,v6,v7,v8,v13,v9,v10,v11);bif r3.1 then bif(inb v0 r3.2.2.2.1.length)then let r4:=yg5 ((nth r3.2.2.2.1 v0 ([],[],false,[])).1,((nth r3.2.2.2.1 v0 ([],[],false,[])).2).1,(((nth r3.2.2.2.1 v0 ([],[],false,[])).2).2));bif(inb v0 r3.2.2.2.1.length)then some (.inl ((((),()),((i64.wrap (v0+1)),()),()),((r3.2.1,r3.2.2.1.1,r3.2.2.1.2,(),r3.2.2.2.2.1,r3.2.2.2.2.2.1,r3.2.2.2.2.2.2.1,r3.2.2.2.2.2.2.2.1,r3.2.2.2.2.2.2.2.2.1,(),r3.2.2.2.2.2.2.2.2.2.2.1,r3.2.2.2.2.2.2.2.2.2.2.2.1,r3.2.2.2.2.2.2.2.2.2.2.2.2,()),()),((r3.2.2.2.1.set (v0).toNat r4),r3.2.2.2.2.2.2.2.2.2.1,()))) else none else none else some (.inl ((((),()),((i64.wrap (v0+1)),()),()),((r3.2.1,r3.2.2.1.1,r3.2.2.1.2,(),r3.2.2.2.2.1,r3.2.2.2.2.2.1,r3.2.2.2.2.2.2.1,r3.2.2.2.2.2.2.2.1,r3.2.2.2.2.2.2.2.2.1,(),r3.2.2.2.2.2.2.2.2.2.2.1,r3.2.2.2.2.2.2.2.2.2.2.2.1,r3.2.2.2.2.2.2.2.2.2.2.2.2,()),()),(r3.2.2.2.1,r3.2.2.2.2.2.2.2.2.2.1,()))) else some (.inl ((((),()),((i64.wrap (v0+1)),()),()),((v1,v2,v3,(),v4,v5,v6,v7,v8,(),v9,v10,v11,()),()),(v12,v13,()))) else none else some (.inr (.inl ((),((v1,v2,v3,(),v4,v5,v6,v7,v8,(),v9,v10,v11,()),()),(v12,v13,()))))
def yc7 (x:(ycJ).X):=yo3 x.1.2.1.1 x.2.1.1.1 x.2.1.1.2.1 x.2.1.1.2.2.1 x.2.1.1.2.2.2.2.1 x.2.1.1.2.2.2.2.2.1 x.2.1.1.2.2.2.2.2.2.1 x.2.1.1.2.2.2.2.2.2.2.1 x.2.1.1.2.2.2.2.2.2.2.2.1 x.2.1.1.2.2.2.2.2.2.2.2.2.2.1 x.2.1.1.2.2.2.2.2.2.2.2.2.2.2.1 x.2.1.1.2.2.2.2.2.2.2.2.2.2.2.2.1 x.2.2.1 x.2.2.2.1
def yy8 (x:(ygD).X):(ycJ).X:=((((),()),(0,()),()),((x.2.1.1.1,x.2.1.1.2.1,x.2.1.1.2.2.1,(),x.2.1.1.2.2.2.2.1,x.2.1.1.2.2.2.2.2.1,x.2.1.1.2.2.2.2.2.2.1,x.2.1.1.2.2.2.2.2.2.2.1,x.2.1.1.2.2.2.2.2.2.2.2.1,(),x.2.1.1.2.2.2.2.2.2.2.2.2.2.1,x.2.1.1.2.2.2.2.2.2.2.2.2.2.2.1,x.2.1.1.2.2.2.2.2.2.2.2.2.2.2.2.1,()),()),(x.2.2.1,x.2.2.2.1,()))
def yAH:Code:=(zd7 ynA 64 12).getD .skip
theorem yL9:zd7 ynA 64 3=some (.block 0 (.loop yAH)):=by kernel_rfl
theorem yOR (x:(ycJ).X):zhu ⟨yuV,39,yAs⟩ 0 yAH 12 ycJ ygo ykt x=yc7 x:=by kernel_rfl
def yzo (x:(ygD).X):Nat:=18446744073709551616
def ypP (x:(ygD).X):Option ((ygo).X ⊕ (ykt).X):=zF yc7 (yzo x) (yy8 x)
def yz8:Seg:=⟨ygD,ygo,ykt,ypP⟩
def yLH:Nat→Option Seg:=fun q=>bif Nat.beq q 3 then some yz8 else yAs q
theorem yJx:FrOk prog ⟨yuV,39,yLH⟩ ynA:=(yJw).loop (sg:=yz8) ycJ yy8 (by decide) yL9 yc7 yzo (by decide) (fun _=>rfl) (fun x r _ h=>h) yOR
abbrev ynN:List Par:= [.pt tA (.pr .fz (.pr (.pr .fz .fz) (.pr (.ow (.pr (.ow .fz) (.pr (.ow (.pr .fz .fz)) (.pr .fz (.ow .fz))))) (.pr .fz (.pr .fz (.pr .fz (.pr .fz (.pr .fz (.pr (.ow (.pr .fz .fz)) (.pr .fz (.pr .fz .fz)))))))))))]
abbrev yvI:List OT:= []
def yrl (a0:dA):Option (zaY yvI×zak ynN) :=zkt (ypP ((((),()),((),()),()),((a0.1,a0.2.1.1,a0.2.1.2,(),a0.2.2.2.1,a0.2.2.2.2.1,a0.2.2.2.2.2.1,a0.2.2.2.2.2.2.1,a0.2.2.2.2.2.2.2.1,(),a0.2.2.2.2.2.2.2.2.2.1,a0.2.2.2.2.2.2.2.2.2.2.1,a0.2.2.2.2.2.2.2.2.2.2.2,()),()),(a0.2.2.1,a0.2.2.2.2.2.2.2.2.1,()))) (fun y4 =>some ((),((y4.2.1.1.1,(y4.2.1.1.2.1,y4.2.1.1.2.2.1),y4.2.2.1,y4.2.1.1.2.2.2.2.1,y4.2.1.1.2.2.2.2.2.1,y4.2.1.1.2.2.2.2.2.2.1,y4.2.1.1.2.2.2.2.2.2.2.1,y4.2.1.1.2.2.2.2.2.2.2.2.1,y4.2.2.2.1,y4.2.1.1.2.2.2.2.2.2.2.2.2.2.1,y4.2.1.1.2.2.2.2.2.2.2.2.2.2.2.1,y4.2.1.1.2.2.2.2.2.2.2.2.2.2.2.2.1),()))) (fun y4 =>none)
theorem yOd:ConOk prog 208 ⟨ynN,yvI,fun x=>yrl x.1⟩:=zkI (yJx) func208 ntmps208.symm fun x=>by kernel_rfl
def ydc (a0:dA):dA:=yc a0
theorem yQx (a0:dA) (hk:zjx ynN (a0,())):yrl a0=(fun n=>some ((),(n,()))) (ydc a0):=by
 have hb:a0.2.2.1.length*80≤2^47:=hk.1.2.2.1.1
 have h1:ypP (yJX a0)=some (.inl (yzy (yc a0))) :=
  zkD (step:=yc7) a0.2.2.1.length (fun i s=>yoy i s) yS (fun _ s=>s.2.2.1.length=a0.2.2.1.length) (fun s=> .inl (yzy s)) (fun i s hi hs=>⟨by
   simp only[yc7,yoy,yo3,hs,zky (show(i:Int)<a0.2.2.1.length by omega),cond_true,wq ((i:Int)+1) (by omega) (by omega),Int.natCast_add,Int.natCast_one,Int.toNat_natCast,zkR hi,zkX,yOT,yaE,yg5,yS,yjw]
   cases(nth s.2.2.1 i yf).2.2.1<;>cases(opA s).1<;>simp only[cond_true,cond_false,Bool.not_true,Bool.not_false,yaE,Int.toNat_natCast],(yjA s i).trans hs⟩) (fun s hs=>by simp only[yc7,yoy,yo3,hs,zk3 (Int.le_refl _),cond_false]) a0 rfl _ (by show _<18446744073709551616; omega)
 unfold yrl ydc;rw[h1]; rfl
def ykD:Con:=⟨ynN,yvI,fun x=>(fun n=>some ((),(n,()))) (ydc x.1)⟩
theorem ys5:ConOk prog 208 ykD:=(yOd).mono (fun x r hk h=>(yQx x.1 hk).trans h)
def ynz:Code:=(f174.body).getD .skip
def yuU:Env:=zkw TT [(144,ymK),(206,yl9),(208,ykD)] []
theorem yJu:FrOk prog ⟨yuU,63,fun _=>none⟩ ynz:=zkA mixed ye ⟨yzG,yvS,ys5,trivial⟩
def yAr:Nat→Option Seg:=fun _=>none
def ycb:Shape:=⟨[(0,false,[.ptr 1000000000 0]),(2,false,[.int .i64])],[(1000000000,[.int .i64,.int .i64,.int .i64,.at 800000000,.int .i64,.int .i64,.int .i64,.int .i64,.int .i64,.at 800000001,.int .i64,.bool,.bool])],[(800000000,tM,(.pr (.ow .fz) (.pr (.ow (.pr .fz .fz)) (.pr .fz (.ow .fz))))),(800000001,tW,(.pr .fz .fz))]⟩
def yfp:Shape:=⟨[(0,false,[.ptr 1000000000 0]),(2,false,[.ci .i64 0])],[(1000000000,[.int .i64,.int .i64,.int .i64,.at 800000000,.int .i64,.int .i64,.int .i64,.int .i64,.int .i64,.at 800000001,.int .i64,.bool,.bool])],[(800000000,tM,(.pr (.ow .fz) (.pr (.ow (.pr .fz .fz)) (.pr .fz (.ow .fz))))),(800000001,tW,(.pr .fz .fz))]⟩
def yff:Shape:=⟨[(0,false,[.ptr 1000000000 0])],[(1000000000,[.int .i64,.int .i64,.int .i64,.at 800000000,.int .i64,.int .i64,.int .i64,.int .i64,.int .i64,.at 800000001,.int .i64,.bool,.bool])],[(800000000,tM,(.pr (.ow .fz) (.pr (.ow (.pr .fz .fz)) (.pr .fz (.ow .fz))))),(800000001,tW,(.pr .fz .fz))]⟩
def yiI:Shape:=⟨[],[],[]⟩
abbrev ymS (v0:Int) (v1:dA):(ycb).X:=((((),()),(v0,()),()),((v1.1,v1.2.1.1,v1.2.1.2,(),v1.2.2.2.1,v1.2.2.2.2.1,v1.2.2.2.2.2.1,v1.2.2.2.2.2.2.1,v1.2.2.2.2.2.2.2.1,(),v1.2.2.2.2.2.2.2.2.2.1,v1.2.2.2.2.2.2.2.2.2.2.1,v1.2.2.2.2.2.2.2.2.2.2.2,()),()),(v1.2.2.1,v1.2.2.2.2.2.2.2.2.1,()))
abbrev yHj (v0:dA):(yfp).X:=((((),()),((),()),()),((v0.1,v0.2.1.1,v0.2.1.2,(),v0.2.2.2.1,v0.2.2.2.2.1,v0.2.2.2.2.2.1,v0.2.2.2.2.2.2.1,v0.2.2.2.2.2.2.2.1,(),v0.2.2.2.2.2.2.2.2.2.1,v0.2.2.2.2.2.2.2.2.2.2.1,v0.2.2.2.2.2.2.2.2.2.2.2,()),()),(v0.2.2.1,v0.2.2.2.2.2.2.2.2.1,()))
abbrev ywW (v0:dA):(yff).X:=((((),()),()),((v0.1,v0.2.1.1,v0.2.1.2,(),v0.2.2.2.1,v0.2.2.2.2.1,v0.2.2.2.2.2.1,v0.2.2.2.2.2.2.1,v0.2.2.2.2.2.2.2.1,(),v0.2.2.2.2.2.2.2.2.2.1,v0.2.2.2.2.2.2.2.2.2.2.1,v0.2.2.2.2.2.2.2.2.2.2.2,()),()),(v0.2.2.1,v0.2.2.2.2.2.2.2.2.1,()))
def ynj (v0 v1 v2 v3 v4 v5 v6 v7 v8 v9:Int) (v10 v11:Bool) (v12:List dM) (v13:List dW):Option ((ycb).X ⊕ ((yff).X ⊕ (yiI).X)) :=bif(ltb v0 (v12.length:Int))then let r3:=yk (v1,v8,v0,v2,v3,v7,v4,v5);bnd (yfI (v1,(v2,v3),v12,v4,v5,v6,v7,v8,v13,v9,v10,v11) v0 (v8.tmod 2) r3) fun r4 =>some (.inl ((((),()),((i64.wrap (v0+1)),()),()),((r4.2.1.1,r4.2.1.2.1.1,r4.2.1.2.1.2,(),r4.2.1.2.2.2.1,r4.2.1.2.2.2.2.1,r4.2.1.2.2.2.2.2.1,r4.2.1.2.2.2.2.2.2.1,r4.2.1.2.2.2.2.2.2.2.1,(),r4.2.1.2.2.2.2.2.2.2.2.2.1,r4.2.1.2.2.2.2.2.2.2.2.2.2.1,r4.2.1.2.2.2.2.2.2.2.2.2.2.2,()),()),(r4.2.1.2.2.1,r4.2.1.2.2.2.2.2.2.2.2.1,()))) else some (.inr (.inl ((((),()),()),((v1,v2,v3,(),v4,v5,v6,v7,v8,(),v9,v10,v11,()),()),(v12,v13,()))))
def ycu (x:(ycb).X):=ynj x.1.2.1.1 x.2.1.1.1 x.2.1.1.2.1 x.2.1.1.2.2.1 x.2.1.1.2.2.2.2.1 x.2.1.1.2.2.2.2.2.1 x.2.1.1.2.2.2.2.2.2.1 x.2.1.1.2.2.2.2.2.2.2.1 x.2.1.1.2.2.2.2.2.2.2.2.1 x.2.1.1.2.2.2.2.2.2.2.2.2.2.1 x.2.1.1.2.2.2.2.2.2.2.2.2.2.2.1 x.2.1.1.2.2.2.2.2.2.2.2.2.2.2.2.1 x.2.2.1 x.2.2.2.1
def ywJ (x:(yfp).X):(ycb).X:=((((),()),(0,()),()),((x.2.1.1.1,x.2.1.1.2.1,x.2.1.1.2.2.1,(),x.2.1.1.2.2.2.2.1,x.2.1.1.2.2.2.2.2.1,x.2.1.1.2.2.2.2.2.2.1,x.2.1.1.2.2.2.2.2.2.2.1,x.2.1.1.2.2.2.2.2.2.2.2.1,(),x.2.1.1.2.2.2.2.2.2.2.2.2.2.1,x.2.1.1.2.2.2.2.2.2.2.2.2.2.2.1,x.2.1.1.2.2.2.2.2.2.2.2.2.2.2.2.1,()),()),(x.2.2.1,x.2.2.2.1,()))
def yyy:Code:=(zd7 ynz 64 52).getD .skip
theorem yIJ:zd7 ynz 64 13=some (.block 0 (.loop yyy)):=by kernel_rfl
theorem yLi (x:(ycb).X):zhu ⟨yuU,63,yAr⟩ 0 yyy 52 ycb yff yiI x=ycu x:=by kernel_rfl
def ywS (x:(yfp).X):Nat:=18446744073709551616
def yob (x:(yfp).X):Option ((yff).X ⊕ (yiI).X):=zF ycu (ywS x) (ywJ x)
def yxc:Seg:=⟨yfp,yff,yiI,yob⟩
def yLG:Nat→Option Seg:=fun q=>bif Nat.beq q 13 then some yxc else yAr q
theorem yJv:FrOk prog ⟨yuU,63,yLG⟩ ynz:=(yJu).loop (sg:=yxc) ycb ywJ (by decide) yIJ ycu ywS (by decide) (fun _=>rfl) (fun x r _ h=>h) yLi
abbrev ynM:List Par:= [.pt tA (.pr .fz (.pr (.pr .fz .fz) (.pr (.ow (.pr (.ow .fz) (.pr (.ow (.pr .fz .fz)) (.pr .fz (.ow .fz))))) (.pr .fz (.pr .fz (.pr .fz (.pr .fz (.pr .fz (.pr (.ow (.pr .fz .fz)) (.pr .fz (.pr .fz .fz)))))))))))]
abbrev yvH:List OT:= []
def yrk (a0:dA):Option (zaY yvH×zak ynM) :=zkt (yob ((((),()),((),()),()),((a0.1,a0.2.1.1,a0.2.1.2,(),a0.2.2.2.1,a0.2.2.2.2.1,a0.2.2.2.2.2.1,a0.2.2.2.2.2.2.1,(i64.wrap (a0.2.2.2.2.2.2.2.1+1)),(),a0.2.2.2.2.2.2.2.2.2.1,a0.2.2.2.2.2.2.2.2.2.2.1,a0.2.2.2.2.2.2.2.2.2.2.2,()),()),(a0.2.2.1,a0.2.2.2.2.2.2.2.2.1,()))) (fun y4 =>let r6:=ydc (y4.2.1.1.1,(y4.2.1.1.2.1,y4.2.1.1.2.2.1),y4.2.2.1,y4.2.1.1.2.2.2.2.1,y4.2.1.1.2.2.2.2.2.1,y4.2.1.1.2.2.2.2.2.2.1,y4.2.1.1.2.2.2.2.2.2.2.1,y4.2.1.1.2.2.2.2.2.2.2.2.1,y4.2.2.2.1,y4.2.1.1.2.2.2.2.2.2.2.2.2.2.1,y4.2.1.1.2.2.2.2.2.2.2.2.2.2.2.1,y4.2.1.1.2.2.2.2.2.2.2.2.2.2.2.2.1);some ((),(r6,()))) (fun y4 =>none)
theorem yOc:ConOk prog 174 ⟨ynM,yvH,fun x=>yrk x.1⟩:=zkI (yJv) func174 ntmps174.symm fun x=>by kernel_rfl
def yb2 (a0:dA):dA:=yj a0
theorem yIb (a:dA) (i:Nat):(yW a i).2.2.1.length=a.2.2.1.length:=ymo _ _ _ _
theorem yQw (a0:dA) (hk:zjx ynM (a0,())):yrk a0=(fun n=>some ((),(n,()))) (yb2 a0):=by
 have hb:a0.2.2.1.length*80≤2^47:=hk.1.2.2.1.1
 have h1:yob (yHj (yE a0))=some (.inl (ywW ((List.range a0.2.2.1.length).foldl yW (yE a0)))) :=
  zkD (step:=ycu) a0.2.2.1.length (fun i s=>ymS i s) yW (fun _ s=>s.2.2.1.length=a0.2.2.1.length) (fun s=> .inl (ywW s)) (fun i s hi hs=>⟨by
   simp only[ycu,ymS,ynj,hs,zky (show(i:Int)<a0.2.2.1.length by omega),cond_true,wq ((i:Int)+1) (by omega) (by omega),Int.natCast_add,Int.natCast_one,Int.toNat_natCast,zkX];rw[yn0 s i (s.2.2.2.2.2.2.2.1.tmod 2) (yk (s.1,s.2.2.2.2.2.2.2.1,(i:Int),s.2.1.1,s.2.1.2,s.2.2.2.2.2.2.1,s.2.2.2.1,s.2.2.2.2.1)) (zkR (by rw[hs]; exact hi))]
   rfl,(yIb s i).trans hs⟩) (fun s hs=>by simp only[ycu,ymS,ynj,hs,zk3 (Int.le_refl _),cond_false]) (yE a0) rfl _ (by show _<18446744073709551616; omega)
 unfold yrk yb2 yj;exact(congrArg (fun z=>zkt z _ _) h1).trans rfl
def yqJ:Con:=⟨ynM,yvH,fun x=>(fun n=>some ((),(n,()))) (yb2 x.1)⟩
theorem yCV:ConOk prog 174 yqJ:=(yOc).mono (fun x r hk h=>(yQw x.1 hk).trans h)
def yjU:Code:=(f107.body).getD .skip
def ypt:Env:=zkw TT [(139,yk4),(165,ymI),(172,ywr),(173,yyI)] []
theorem yEI:FrOk prog ⟨ypt,37,fun _=>none⟩ yjU:=zkA mixed ye ⟨ywY,yzD,yKZ,yOm,trivial⟩
def yv1:Nat→Option Seg:=fun _=>none
def ya4:Shape:=⟨[(0,false,[.ptr 1000000000 0]),(15,false,[.int .i64]),(16,false,[.int .i64])],[(1000000000,[.int .i64,.int .i64,.int .i64,.at 800000000,.int .i64,.int .i64,.int .i64,.int .i64,.int .i64,.at 800000001,.int .i64,.bool,.bool])],[(800000000,tM,(.pr (.ow (.ow .fz)) (.pr (.ow (.pr .fz (.ow .fz))) (.pr .fz (.ow .fz))))),(800000001,tW,(.pr .fz (.ow .fz)))]⟩
def ydP:Shape:=⟨[(0,false,[.ptr 1000000000 0]),(15,false,[.int .i64]),(16,false,[.ci .i64 0])],[(1000000000,[.int .i64,.int .i64,.int .i64,.at 800000000,.int .i64,.int .i64,.int .i64,.int .i64,.int .i64,.at 800000001,.int .i64,.bool,.bool])],[(800000000,tM,(.pr (.ow (.ow .fz)) (.pr (.ow (.pr .fz (.ow .fz))) (.pr .fz (.ow .fz))))),(800000001,tW,(.pr .fz (.ow .fz)))]⟩
def ydH:Shape:=⟨[(0,false,[.ptr 1000000000 0])],[(1000000000,[.int .i64,.int .i64,.int .i64,.at 800000000,.int .i64,.int .i64,.int .i64,.int .i64,.int .i64,.at 800000001,.int .i64,.bool,.bool])],[(800000000,tM,(.pr (.ow (.ow .fz)) (.pr (.ow (.pr .fz (.ow .fz))) (.pr .fz (.ow .fz))))),(800000001,tW,(.pr .fz (.ow .fz)))]⟩
def ydX:Shape:=⟨[(2,false,[.bool])],[(1000000000,[.int .i64,.int .i64,.int .i64,.at 800000000,.int .i64,.int .i64,.int .i64,.int .i64,.int .i64,.at 800000001,.int .i64,.bool,.bool])],[(800000000,tM,(.pr (.ow (.ow .fz)) (.pr (.ow (.pr .fz (.ow .fz))) (.pr .fz (.ow .fz))))),(800000001,tW,(.pr .fz (.ow .fz)))]⟩
abbrev yjE (v0 v1:Int) (v2:dA):(ya4).X:=((((),()),(v0,()),(v1,()),()),((v2.1,v2.2.1.1,v2.2.1.2,(),v2.2.2.2.1,v2.2.2.2.2.1,v2.2.2.2.2.2.1,v2.2.2.2.2.2.2.1,v2.2.2.2.2.2.2.2.1,(),v2.2.2.2.2.2.2.2.2.2.1,v2.2.2.2.2.2.2.2.2.2.2.1,v2.2.2.2.2.2.2.2.2.2.2.2,()),()),(v2.2.2.1,v2.2.2.2.2.2.2.2.2.1,()))
abbrev yD3 (v0:Int) (v1:dA):(ydP).X:=((((),()),(v0,()),((),()),()),((v1.1,v1.2.1.1,v1.2.1.2,(),v1.2.2.2.1,v1.2.2.2.2.1,v1.2.2.2.2.2.1,v1.2.2.2.2.2.2.1,v1.2.2.2.2.2.2.2.1,(),v1.2.2.2.2.2.2.2.2.2.1,v1.2.2.2.2.2.2.2.2.2.2.1,v1.2.2.2.2.2.2.2.2.2.2.2,()),()),(v1.2.2.1,v1.2.2.2.2.2.2.2.2.1,()))
abbrev yjJ (v0:dA):(ydH).X:=((((),()),()),((v0.1,v0.2.1.1,v0.2.1.2,(),v0.2.2.2.1,v0.2.2.2.2.1,v0.2.2.2.2.2.1,v0.2.2.2.2.2.2.1,v0.2.2.2.2.2.2.2.1,(),v0.2.2.2.2.2.2.2.2.2.1,v0.2.2.2.2.2.2.2.2.2.2.1,v0.2.2.2.2.2.2.2.2.2.2.2,()),()),(v0.2.2.1,v0.2.2.2.2.2.2.2.2.1,()))
abbrev yjL (v0:Bool) (v1:dA):(ydX).X:=(((v0,()),()),((v1.1,v1.2.1.1,v1.2.1.2,(),v1.2.2.2.1,v1.2.2.2.2.1,v1.2.2.2.2.2.1,v1.2.2.2.2.2.2.1,v1.2.2.2.2.2.2.2.1,(),v1.2.2.2.2.2.2.2.2.2.1,v1.2.2.2.2.2.2.2.2.2.2.1,v1.2.2.2.2.2.2.2.2.2.2.2,()),()),(v1.2.2.1,v1.2.2.2.2.2.2.2.2.1,()))
def yjN (v0 v1 v2 v3 v4 v5 v6 v7 v8 v9 v10:Int) (v11 v12:Bool) (v13:List dM) (v14:List dW):Option ((ya4).X ⊕ ((ydH).X ⊕ (ydX).X)) :=bif(ltb v1 v0)then let r4:=ymf (v2,(v3,v4),v13,v5,v6,v7,v8,v9,v14,v10,v11,v12) v1;let r5:=yg2 r4;bnd (yfH (v2,(v3,v4),v13,v5,v6,v7,v8,v9,v14,v10,v11,v12) v1 (v9.tmod 2) r5) fun r6 =>bif(!r6.1.1)then some (.inr (.inr (((false,()),()),((r6.2.1.1,r6.2.1.2.1.1,r6.2.1.2.1.2,(),r6.2.1.2.2.2.1,r6.2.1.2.2.2.2.1,r6.2.1.2.2.2.2.2.1,r6.2.1.2.2.2.2.2.2.1,r6.2.1.2.2.2.2.2.2.2.1,(),r6.2.1.2.2.2.2.2.2.2.2.2.1,r6.2.1.2.2.2.2.2.2.2.2.2.2.1,r6.2.1.2.2.2.2.2.2.2.2.2.2.2,()),()),(r6.2.1.2.2.1,r6.2.1.2.2.2.2.2.2.2.2.1,())))) else some (.inl ((((),()),(v0,()),((i64.wrap (v1+1)),()),()),((r6.2.1.1,r6.2.1.2.1.1,r6.2.1.2.1.2,(),r6.2.1.2.2.2.1,r6.2.1.2.2.2.2.1,r6.2.1.2.2.2.2.2.1,r6.2.1.2.2.2.2.2.2.1,r6.2.1.2.2.2.2.2.2.2.1,(),r6.2.1.2.2.2.2.2.2.2.2.2.1,r6.2.1.2.2.2.2.2.2.2.2.2.2.1,r6.2.1.2.2.2.2.2.2.2.2.2.2.2,()),()),(r6.2.1.2.2.1,r6.2.1.2.2.2.2.2.2.2.2.1,()))) else some (.inr (.inl ((((),()),()),((v2,v3,v4,(),v5,v6,v7,v8,v9,(),v10,v11,v12,()),()),(v13,v14,()))))
def ybl (x:(ya4).X):=yjN x.1.2.1.1 x.1.2.2.1.1 x.2.1.1.1 x.2.1.1.2.1 x.2.1.1.2.2.1 x.2.1.1.2.2.2.2.1 x.2.1.1.2.2.2.2.2.1 x.2.1.1.2.2.2.2.2.2.1 x.2.1.1.2.2.2.2.2.2.2.1 x.2.1.1.2.2.2.2.2.2.2.2.1 x.2.1.1.2.2.2.2.2.2.2.2.2.2.1 x.2.1.1.2.2.2.2.2.2.2.2.2.2.2.1 x.2.1.1.2.2.2.2.2.2.2.2.2.2.2.2.1 x.2.2.1 x.2.2.2.1
def yrv (x:(ydP).X):(ya4).X:=((((),()),(x.1.2.1.1,()),(0,()),()),((x.2.1.1.1,x.2.1.1.2.1,x.2.1.1.2.2.1,(),x.2.1.1.2.2.2.2.1,x.2.1.1.2.2.2.2.2.1,x.2.1.1.2.2.2.2.2.2.1,x.2.1.1.2.2.2.2.2.2.2.1,x.2.1.1.2.2.2.2.2.2.2.2.1,(),x.2.1.1.2.2.2.2.2.2.2.2.2.2.1,x.2.1.1.2.2.2.2.2.2.2.2.2.2.2.1,x.2.1.1.2.2.2.2.2.2.2.2.2.2.2.2.1,()),()),(x.2.2.1,x.2.2.2.1,()))
def ytL:Code:=(zd7 yjU 64 116).getD .skip
theorem yEq:zd7 yjU 64 29=some (.block 0 (.loop ytL)):=by kernel_rfl
theorem yFM (x:(ya4).X):zhu ⟨ypt,37,yv1⟩ 0 ytL 116 ya4 ydH ydX x=ybl x:=by kernel_rfl
def yrE (x:(ydP).X):Nat:=18446744073709551616
def ykO (x:(ydP).X):Option ((ydH).X ⊕ (ydX).X):=zF ybl (yrE x) (yrv x)
def yrU:Seg:=⟨ydP,ydH,ydX,ykO⟩
def yGc:Nat→Option Seg:=fun q=>bif Nat.beq q 29 then some yrU else yv1 q
theorem yEJ:FrOk prog ⟨ypt,37,yGc⟩ yjU:=(yEI).loop (sg:=yrU) ya4 yrv (by decide) yEq ybl yrE (by decide) (fun _=>rfl) (fun x r _ h=>h) yFM
abbrev yf5:List Par:= [.pt tA (.pr .fz (.pr (.pr .fz .fz) (.pr (.ow (.pr (.ow (.ow .fz)) (.pr (.ow (.pr .fz (.ow .fz))) (.pr .fz (.ow .fz))))) (.pr .fz (.pr .fz (.pr .fz (.pr .fz (.pr .fz (.pr (.ow (.pr .fz (.ow .fz))) (.pr .fz (.pr .fz .fz)))))))))))]
abbrev ykl:List OT:= [⟨false,tB,.fz⟩]
def ymU (a0:dA):Option (zaY ykl×zak yf5) :=zkt (ykO ((((),()),((a0.2.2.1.length:Int),()),((),()),()),((a0.1,a0.2.1.1,a0.2.1.2,(),a0.2.2.2.1,a0.2.2.2.2.1,a0.2.2.2.2.2.1,a0.2.2.2.2.2.2.1,(i64.wrap (a0.2.2.2.2.2.2.2.1+1)),(),a0.2.2.2.2.2.2.2.2.2.1,a0.2.2.2.2.2.2.2.2.2.2.1,a0.2.2.2.2.2.2.2.2.2.2.2,()),()),(a0.2.2.1,a0.2.2.2.2.2.2.2.2.1,()))) (fun y6 =>bnd (yha (y6.2.1.1.1,(y6.2.1.1.2.1,y6.2.1.1.2.2.1),y6.2.2.1,y6.2.1.1.2.2.2.2.1,y6.2.1.1.2.2.2.2.2.1,y6.2.1.1.2.2.2.2.2.2.1,y6.2.1.1.2.2.2.2.2.2.2.1,y6.2.1.1.2.2.2.2.2.2.2.2.1,y6.2.2.2.1,y6.2.1.1.2.2.2.2.2.2.2.2.2.2.1,y6.2.1.1.2.2.2.2.2.2.2.2.2.2.2.1,y6.2.1.1.2.2.2.2.2.2.2.2.2.2.2.2.1)) fun r8 =>some ((r8.1.1,()),(r8.2.1,()))) (fun y6 =>some ((y6.1.1.1,()),((y6.2.1.1.1,(y6.2.1.1.2.1,y6.2.1.1.2.2.1),y6.2.2.1,y6.2.1.1.2.2.2.2.1,y6.2.1.1.2.2.2.2.2.1,y6.2.1.1.2.2.2.2.2.2.1,y6.2.1.1.2.2.2.2.2.2.2.1,y6.2.1.1.2.2.2.2.2.2.2.2.1,y6.2.2.2.1,y6.2.1.1.2.2.2.2.2.2.2.2.2.2.1,y6.2.1.1.2.2.2.2.2.2.2.2.2.2.2.1,y6.2.1.1.2.2.2.2.2.2.2.2.2.2.2.2.1),())))
theorem yHt:ConOk prog 107 ⟨yf5,ykl,fun x=>ymU x.1⟩:=zkI (yEJ) func107 ntmps107.symm fun x=>by kernel_rfl
def ykE (a0:dA):Bool×dA:=(!(ya (yj a0)),yj a0)
def ybI (a0:dA):Bool:= !(ya a0)
theorem yUw {a:dA} (i:Nat) (h:ya a=true):yW a i=a:=ylq h _ _ _
theorem yJ7 (a0:dA) (hk:zjx yf5 (a0,())) (hq:ybI a0=true):ymU a0=(fun n=>some ((n.1,()),(n.2,()))) (ykE a0):=by
 have hb:a0.2.2.1.length*80≤2^47:=hk.1.2.2.1.1;have hd0:ya a0=false:=by simpa [ybI]using hq
 have h1:ykO (yD3 a0.2.2.1.length (yE a0))=some (bif ya ((List.range a0.2.2.1.length).foldl yW (yE a0))then .inr (yjL false ((List.range a0.2.2.1.length).foldl yW (yE a0)))else .inl (yjJ ((List.range a0.2.2.1.length).foldl yW (yE a0)))):=by
  have:=zkC (step:=ybl) a0.2.2.1.length (fun i s=>yjE a0.2.2.1.length i s) (fun i s=>bif ya (yW s i)then(.inr (yW s i):dA ⊕ dA)else .inl (yW s i)) (fun _ s=>s.2.2.1.length=a0.2.2.1.length∧ya s=false) id
   (fun b=>bif ya b then .inr (yjL false b)else .inl (yjJ b)) (fun i s hi hs=>by
    constructor
    ·simp only[ybl,yjE,yjN,zky (show(i:Int)<a0.2.2.1.length by omega),cond_true,wq ((i:Int)+1) (by omega) (by omega),Int.natCast_add,Int.natCast_one,Int.toNat_natCast,zkX,yU0,ymf]
     rw[ywZ s i (s.2.2.2.2.2.2.2.1.tmod 2) (yk (s.1,s.2.2.2.2.2.2.2.1,(i:Int),s.2.1.1,s.2.1.2,s.2.2.2.2.2.2.1,s.2.2.2.1,s.2.2.2.2.1)) (by unfold ydv; rw[zkR (by rw[hs.1]; exact hi),hs.2]; rfl)];simp only[zkH,ydt];rw[show ybk s i (s.2.2.2.2.2.2.2.1.tmod 2) (yk (s.1,s.2.2.2.2.2.2.2.1,(i:Int),s.2.1.1,s.2.1.2,s.2.2.2.2.2.2.1,s.2.2.2.1,s.2.2.2.2.1))=yW s i from rfl];cases hd:ya (yW s i)
     ·rfl
     ·simp only[hd,Bool.not_true,Bool.not_false,cond_true,yjL]
    ·intro s' h
     cases hd:ya (yW s i)
     ·rw[hd]at h
      cases h;exact⟨(yIb s i).trans hs.1,hd⟩
     ·rw[hd]at h; cases h) (fun s hs=>by simp only[ybl,yjE,yjN,hs.2,zk3 (Int.le_refl _),cond_false,id,yjJ]) (yE a0) ⟨rfl,hd0⟩ 18446744073709551616 (by omega)
  rw[yJy (fun a i h=>yUw i h),← List.range_eq_range']at this;exact this
 unfold ymU ykE yj;refine(congrArg (fun z=>zkt z _ _) h1).trans ?_;cases hd:ya ((List.range a0.2.2.1.length).foldl yW (yE a0))
 ·simp only[cond_false,zkN,zkX]
  rw[yzI _ (by unfold yhb; rw[hd]; rfl)]; rfl
 ·rw[yuN hd]
  simp only[cond_true,zkO,zkX];rw[hd]; rfl
def yV (a0:dA):Option (zaY ykl×zak yf5):=bif ybI a0 then(fun n=>some ((n.1,()),(n.2,()))) (ykE a0)else none
theorem yiU (a0:dA) (h:ybI a0=true):yV a0=(fun n=>some ((n.1,()),(n.2,()))) (ykE a0):=by unfold yV; rw[h]; rfl
def yeP:Con:=⟨yf5,ykl,fun x=>yV x.1⟩
theorem yiT:ConOk prog 107 yeP:=(yHt).mono (fun x r hk h=>zkY h (fun hq=>yJ7 x.1 hk hq))
def yLl:Code:=(f39.body).getD .skip
def yLI:Env:=zkw TT [(55,ycj),(61,yyA),(95,yft),(106,yyH),(107,yeP)] []
theorem yEQ:FrOk prog ⟨yLI,64,fun _=>none⟩ yLl:=zkA mixed ye ⟨yer,yOe,ykH,yOl,yiT,trivial⟩
abbrev yj6:List Par:= [.rd tA,.rd tI]
abbrev yqd:List OT:= [⟨false,tA,(.pr .fz (.pr (.pr .fz .fz) (.pr (.ow (.pr (.ow (.ow .fz)) (.pr (.ow (.pr .fz (.ow .fz))) (.pr .fz (.ow .fz))))) (.pr .fz (.pr .fz (.pr .fz (.pr .fz (.pr .fz (.pr (.ow (.pr .fz (.ow .fz))) (.pr .fz (.pr .fz .fz)))))))))))⟩]
def ymY (a0:dA) (a1:Int):Option (zaY yqd×zak yj6) :=let r1:=yaD a0;let r2:=yT a0;bif(!(!r2))then let r3:=yme a0 a1;bif(!(!r3))then bif(inb a1 a0.2.2.1.length)then bif(((nth a0.2.2.1 a1 ([],[],false,[])).2).2).1 then some ((r1,()),()) else bif(inb a1 a0.2.2.1.length)then let r4:=ymc ((nth a0.2.2.1 a1 ([],[],false,[])).1,((nth a0.2.2.1 a1 ([],[],false,[])).2).1,(((nth a0.2.2.1 a1 ([],[],false,[])).2).2));bif(inb a1 r1.2.2.1.length)then bif(!(a0.2.2.2.1==(-1)))then bif(a0.2.2.2.1==a1)then bif(!r1.2.2.2.2.2.2.2.2.2.2.1)then bif(!r1.2.2.2.2.2.2.2.2.2.2.2)then bif(ltb r1.2.2.2.2.2.2.2.1 60000)then bnd (yV (r1.1,r1.2.1,(r1.2.2.1.set (a1).toNat r4),a1,0,r1.2.2.2.2.2)) fun r5 =>some ((r5.2.1,()),()) else some (((r1.1,r1.2.1,(r1.2.2.1.set (a1).toNat r4),a1,0,r1.2.2.2.2.2),()),()) else some (((r1.1,r1.2.1,(r1.2.2.1.set (a1).toNat r4),a1,0,r1.2.2.2.2.2),()),()) else some (((r1.1,r1.2.1,(r1.2.2.1.set (a1).toNat r4),a1,0,r1.2.2.2.2.2),()),()) else bif(!r1.2.2.2.2.2.2.2.2.2.2.1)then some (((r1.1,r1.2.1,(r1.2.2.1.set (a1).toNat r4),r1.2.2.2.1,r1.2.2.2.2.1,r1.2.2.2.2.2.1,r1.2.2.2.2.2.2.1,r1.2.2.2.2.2.2.2.1,r1.2.2.2.2.2.2.2.2.1,r1.2.2.2.2.2.2.2.2.2.1,r1.2.2.2.2.2.2.2.2.2.2.1,true),()),()) else some (((r1.1,r1.2.1,(r1.2.2.1.set (a1).toNat r4),r1.2.2.2.1,r1.2.2.2.2.1,r1.2.2.2.2.2.1,r1.2.2.2.2.2.2.1,r1.2.2.2.2.2.2.2.1,r1.2.2.2.2.2.2.2.2.1,r1.2.2.2.2.2.2.2.2.2.1,r1.2.2.2.2.2.2.2.2.2.2.1,true),()),()) else bif(!r1.2.2.2.2.2.2.2.2.2.2.1)then bif(!r1.2.2.2.2.2.2.2.2.2.2.2)then bif(ltb r1.2.2.2.2.2.2.2.1 60000)then bnd (yV (r1.1,r1.2.1,(r1.2.2.1.set (a1).toNat r4),a1,0,r1.2.2.2.2.2)) fun r6 =>some ((r6.2.1,()),()) else some (((r1.1,r1.2.1,(r1.2.2.1.set (a1).toNat r4),a1,0,r1.2.2.2.2.2),()),()) else some (((r1.1,r1.2.1,(r1.2.2.1.set (a1).toNat r4),a1,0,r1.2.2.2.2.2),()),()) else some (((r1.1,r1.2.1,(r1.2.2.1.set (a1).toNat r4),a1,0,r1.2.2.2.2.2),()),()) else none else none else none else some ((r1,()),()) else some ((r1,()),())
theorem yHx:ConOk prog 39 ⟨yj6,yqd,fun x=>ymY x.1 x.2.1⟩:=zkI (yEQ) func39 ntmps39.symm fun x=>by kernel_rfl
def ygY (a0:dA) (a1:Int):dA:=yDh a0 a1
theorem yKb (a0:dA) (a1:Int) (hk:zjx yj6 (a0,a1,())):ymY a0 a1=(fun n=>some ((n,()),())) (ygY a0 a1):=by
 have hb:a0.2.2.1.length*80≤2^47:=hk.1.2.2.1.1;unfold ymY ygY yDh;simp only[yaD,yT,yme,yan,yje (show a0.2.2.1.length≤1152921504606846976 by omega),ymc,yat,zkX];cases yR a0
 ·rfl
 cases hi:inb a1 a0.2.2.1.length
 ·rfl
 have hm:ya a0=false→yV (a0.1,a0.2.1,a0.2.2.1.set a1.toNat ((nth a0.2.2.1 a1 yf).1,[],true,(nth a0.2.2.1 a1 yf).2.2.2),a1,0,a0.2.2.2.2.2)=some ((!(ya (yj (yA a0 a1))),()),(yj (yA a0 a1),())):=fun h=>yiU (yA a0 a1) (by unfold ybI; rw[show ya (yA a0 a1)=ya a0 from rfl,h]; rfl)
 cases(nth a0.2.2.1 a1 yf).2.2.1
 ·unfold yap
  revert hm;unfold yA yDg ydr ya;intro hm;cases hd:a0.2.2.2.2.2.2.2.2.2.2.1
  ·rw[hm hd]
   cases(a0.2.2.2.1== -1)<;>cases(a0.2.2.2.1==a1)<;>cases a0.2.2.2.2.2.2.2.2.2.2.2<;>cases ltb a0.2.2.2.2.2.2.2.1 60000<;>first | rfl | simp only[hd,Bool.not_false,Bool.not_true,cond_true,cond_false,Bool.true_and,Bool.or_true,Bool.or_false,Bool.true_or,zkH]
  ·cases(a0.2.2.2.1== -1)<;>cases(a0.2.2.2.1==a1)<;>simp only[hd,Bool.not_false,Bool.not_true,cond_true,cond_false,Bool.false_and,Bool.or_true,Bool.or_false,Bool.true_or]<;>rfl
 ·rfl
def ywn:Con:=⟨yj6,yqd,fun x=>(fun n=>some ((n,()),())) (ygY x.1 x.2.1)⟩
theorem yKV:ConOk prog 39 ywn:=(yHx).mono (fun x r hk h=>(yKb x.1 x.2.1 hk).trans h)
def ypk:Code:=(f69.body).getD .skip
def yxO:Env:=zkw TT [] []
theorem yMH:FrOk prog ⟨yxO,32,fun _=>none⟩ ypk:=zkA mixed ye trivial
def yCb:Nat→Option Seg:=fun _=>none
def yec:Shape:=⟨[(0,false,[.fz tY]),(3,false,[.int .i64]),(4,false,[.int .i64])],[],[]⟩
def ykk:Shape:=⟨[(0,false,[.fz tY]),(3,false,[.int .i64]),(4,false,[.ci .i64 0])],[],[]⟩
def ykj:Shape:=⟨[(0,false,[.fz tY]),(3,false,[.int .i64])],[],[]⟩
def ykq:Shape:=⟨[],[],[]⟩
def yAa (v0:List Int) (v1 v2:Int):Option ((yec).X ⊕ ((ykj).X ⊕ (ykq).X)) :=bif(ltb v2 (v0.length:Int))then bif(ltb v2 4000)then bif(inb v2 v0.length)then some (.inl (((v0,()),((i64.wrap ((BitVec.ofInt IntKind.i64.bits (i64.wrap ((i64.wrap ((i64.wrap (v1*137))+(i64.wrap (nth v0 v2 0))))+11)) &&& BitVec.ofInt IntKind.i64.bits 1073741823).toNat:Int)),()),((i64.wrap (v2+1)),()),()),(),())) else none else some (.inr (.inl (((v0,()),(v1,()),()),(),()))) else some (.inr (.inl (((v0,()),(v1,()),()),(),())))
def yeS (x:(yec).X):=yAa x.1.1.1 x.1.2.1.1 x.1.2.2.1.1
def yy4 (x:(ykk).X):(yec).X:=(((x.1.1.1,()),(x.1.2.1.1,()),(0,()),()),(),())
def yAD:Code:=(zd7 ypk 64 116).getD .skip
theorem yL5:zd7 ypk 64 29=some (.block 0 (.loop yAD)):=by kernel_rfl
theorem yON (x:(yec).X):zhu ⟨yxO,32,yCb⟩ 0 yAD 116 yec ykj ykq x=yeS x:=by kernel_rfl
def yzk (x:(ykk).X):Nat:=18446744073709551616
def ypL (x:(ykk).X):Option ((ykj).X ⊕ (ykq).X):=zF yeS (yzk x) (yy4 x)
def yz4:Seg:=⟨ykk,ykj,ykq,ypL⟩
def yPk:Nat→Option Seg:=fun q=>bif Nat.beq q 29 then some yz4 else yCb q
theorem yMI:FrOk prog ⟨yxO,32,yPk⟩ ypk:=(yMH).loop (sg:=yz4) yec yy4 (by decide) yL5 yeS yzk (by decide) (fun _=>rfl) (fun x r _ h=>h) yON
abbrev yp6:List Par:= [.kp tYs .fz]
abbrev yyh:List OT:= [⟨true,tU,.fz⟩]
def yin (a0:List Int):Option (zaY yyh×zak yp6) :=zkt (ypL (((a0,()),((i64.wrap (770770+(a0.length:Int))),()),((),()),()),(),())) (fun y0 =>some (((y0.1.1.1,0,y0.1.2.1.1),()),())) (fun y0 =>none)
theorem yQQ:ConOk prog 69 ⟨yp6,yyh,fun x=>yin x.1⟩:=zkI (yMI) func69 ntmps69.symm fun x=>by kernel_rfl
def yie (a0:List Int):List Int×Int×Int:=(((yin a0).getD (((([]:List Int),(0:Int),(0:Int)),()),())).1).1
def yr7 (u:List Int×Int×Int):Prop:=0≤u.2.1∧(u.1.length:Int)≤140737488355328
theorem yUr (a0:List Int) (hb:a0.length≤140737488355328): ∃s:Int,yin a0=some (((a0,0,s),()),()):=by
 have hl: ∃b,ypL (((a0,()),((i64.wrap (770770+(a0.length:Int))),()),((),()),()),(),())=some b∧(∃s:Int,b= .inl (((a0,()),(s,()),()),(),())):=by
  refine zjj (step:=yeS) (fun x=>(a0.length-(x.1.2.2.1.1:Int).toNat)) (fun x=>(x.1.1.1:List Int)=a0∧(0:Int)≤(x.1.2.2.1.1:Int)) _ ?_ _ _ ⟨rfl,Int.le_refl _⟩ (by show a0.length-_<18446744073709551616; omega)
  rintro⟨⟨⟨(l:List Int),_⟩,⟨(s:Int),_⟩,⟨(i:Int),_⟩,_⟩,_,_⟩ ⟨h0,hi⟩
  simp only at h0 hi;subst h0;simp only[yeS,yAa];by_cases h1:i<(l.length:Int)
  ·rw[zky h1]
   by_cases h2:i<4000
   ·rw[zky h2,zj6.2 ⟨hi,h1⟩]
    refine .inl ⟨_,rfl,⟨rfl,?_⟩,?_⟩
    ·show 0≤i64.wrap (i+1); rw[wr (by omega) (by omega)]; omega
    ·show l.length-(i64.wrap (i+1)).toNat<l.length-i.toNat; rw[wr (by omega) (by omega)]; omega
   ·rw[zk3 (Int.not_lt.1 h2)]
    exact .inr ⟨_,rfl,_,rfl⟩
  ·rw[zk3 (Int.not_lt.1 h1)]
   exact .inr ⟨_,rfl,_,rfl⟩
 obtain⟨b,e,s,rfl⟩:=hl;refine⟨s,?_⟩;unfold yin;rw[e]; rfl
theorem yTd (a0:List Int) (hk:zjx yp6 (a0,())):yin a0=(fun n=>some ((n,()),())) (yie a0):=by
 obtain⟨s,e⟩:=yUr a0 (by have:a0.length*1≤2^47:=hk.1.1; omega);unfold yie;rw[e]; rfl
theorem yXD (a0:List Int) (hb:a0.length≤140737488355328):yr7 (yie a0):=by
 obtain⟨s,e⟩:=yUr a0 hb;unfold yie;rw[e];exact⟨Int.le_refl _,by show(a0.length:Int)≤_; omega⟩
def yCv:Con:=⟨yp6,yyh,fun x=>(fun n=>some ((n,()),())) (yie x.1)⟩
theorem yTw:ConOk prog 69 yCv:=(yQQ).mono (fun x r hk h=>(yTd x.1 hk).trans h)
def ySm:Code:=(f71.body).getD .skip
def ySP:Env:=zkw TT [] []
theorem yJg:FrOk prog ⟨ySP,15,fun _=>none⟩ ySm:=zkA mixed ye trivial
abbrev yva:List Par:= [.rd tYs,.rd tI]
abbrev yvB:List OT:= [⟨false,tI,.fz⟩]
def yBu (a0:List Int) (a1:Int):Option (zaY yvB×zak yva) :=bif(ltb a1 (i64.wrap (3+(i64.wrap ((a0.length:Int).tdiv 12)))))then some ((a1,()),()) else some (((i64.wrap (3+(i64.wrap ((a0.length:Int).tdiv 12)))),()),())
theorem yN3:ConOk prog 71 ⟨yva,yvB,fun x=>yBu x.1 x.2.1⟩:=zkI (yJg) func71 ntmps71.symm fun x=>by kernel_rfl
def ydb (a0:List Int) (a1:Int):Int :=bif(ltb a1 (i64.wrap (3+(i64.wrap ((a0.length:Int).tdiv 12)))))then a1 else (i64.wrap (3+(i64.wrap ((a0.length:Int).tdiv 12))))
def yAW:Con:=⟨yva,yvB,fun x=>(fun n=>some ((n,()),())) (ydb x.1 x.2.1)⟩
theorem yQn (a0:List Int) (a1:Int):yBu a0 a1=(fun n=>some ((n,()),())) (ydb a0 a1):=zkV (p:=fun(n:Int)=>((n,()),())) (zkG (p:=fun(n:Int)=>((n,()),())) rfl rfl)
theorem yRb:ConOk prog 71 yAW:=(yN3).mono (fun x r _ h=>(yQn x.1 x.2.1).trans h)
theorem yXg (l:List Int) (n:Int) (hn:0≤n) (hl:l.length≤140737488355328):0≤ydb l n∧ydb l n≤n:=by
 unfold ydb;have h1:0≤(l.length:Int).tdiv 12:=Int.tdiv_nonneg (by omega) (by omega)
 have h2:(l.length:Int).tdiv 12≤(l.length:Int):=by
  rw[Int.tdiv_eq_ediv_of_nonneg (by omega)];exact Int.ediv_le_self _ (by omega)
 rw[wq ((l.length:Int).tdiv 12) (by omega) (by omega),wq (3+(l.length:Int).tdiv 12) (by omega) (by omega)];by_cases h:n<3+(l.length:Int).tdiv 12
 ·rw[zky h]; exact⟨hn,Int.le_refl _⟩
 ·rw[zk3 (by omega),cond_false]; omega
def ySk:Code:=(f147.body).getD .skip
def ySN:Env:=zkw TT [] []
theorem yJe:FrOk prog ⟨ySN,58,fun _=>none⟩ ySk:=zkA mixed ye trivial
abbrev yu8:List Par:= [.pt tU .fz]
abbrev yvz:List OT:= [⟨false,tI,.fz⟩]
def ybJ (a0:dU):Option (zaY yvz×zak yu8) :=bif(ltb a0.2.1 (a0.1.length:Int))then bif(inb a0.2.1 a0.1.length)then some (((i64.wrap ((BitVec.ofInt IntKind.i64.bits (i64.wrap ((i64.wrap ((BitVec.ofInt IntKind.i64.bits (i64.wrap ((BitVec.ofInt IntKind.i64.bits ((i64.wrap ((i64.wrap (a0.2.2*6364136223846793005))+1442695040888963407)).fdiv (2^(min (33:Int).toNat IntKind.i64.bits))) ^^^ BitVec.ofInt IntKind.i64.bits ((i64.wrap ((i64.wrap (a0.2.2*6364136223846793005))+1442695040888963407)).fdiv (2^(min (47:Int).toNat IntKind.i64.bits)))).toNat:Int)) &&& BitVec.ofInt IntKind.i64.bits 255).toNat:Int))+(i64.wrap (nth a0.1 a0.2.1 0)))) &&& BitVec.ofInt IntKind.i64.bits 255).toNat:Int)),()),((a0.1,(i64.wrap (a0.2.1+1)),(i64.wrap ((i64.wrap (a0.2.2*6364136223846793005))+1442695040888963407))),())) else none else some (((i64.wrap ((BitVec.ofInt IntKind.i64.bits (i64.wrap ((BitVec.ofInt IntKind.i64.bits ((i64.wrap ((i64.wrap (a0.2.2*6364136223846793005))+1442695040888963407)).fdiv (2^(min (33:Int).toNat IntKind.i64.bits))) ^^^ BitVec.ofInt IntKind.i64.bits ((i64.wrap ((i64.wrap (a0.2.2*6364136223846793005))+1442695040888963407)).fdiv (2^(min (47:Int).toNat IntKind.i64.bits)))).toNat:Int)) &&& BitVec.ofInt IntKind.i64.bits 255).toNat:Int)),()),((a0.1,a0.2.1,(i64.wrap ((i64.wrap (a0.2.2*6364136223846793005))+1442695040888963407))),()))
theorem yN1:ConOk prog 147 ⟨yu8,yvz,fun x=>ybJ x.1⟩:=zkI (yJe) func147 ntmps147.symm fun x=>by kernel_rfl
def yAU:Con:=⟨yu8,yvz,fun x=>ybJ x.1⟩
theorem yQ9:ConOk prog 147 yAU:=yN1
theorem yVT (x:Int):0≤i64.wrap ((BitVec.ofInt IntKind.i64.bits x &&& BitVec.ofInt IntKind.i64.bits 255).toNat:Int)∧i64.wrap ((BitVec.ofInt IntKind.i64.bits x &&& BitVec.ofInt IntKind.i64.bits 255).toNat:Int)≤255:=by
 have h:(BitVec.ofInt IntKind.i64.bits x &&& BitVec.ofInt IntKind.i64.bits 255).toNat≤255:=by
  rw[BitVec.toNat_and];exact Nat.le_trans Nat.and_le_right (by decide)
 rw[wr (by omega) (by omega)];omega
theorem yF4 (u:List Int×Int×Int) (h:yr7 u): ∃(r:Int) (u':List Int×Int×Int),ybJ u=some ((r,()),(u',()))∧(0≤r∧r≤255)∧yr7 u':=by
 unfold ybJ;by_cases h1:u.2.1<(u.1.length:Int)
 ·rw[zky h1,zj6.2 ⟨h.1,h1⟩]
  refine⟨_,_,rfl,yVT _,?_,h.2⟩;show 0≤i64.wrap (u.2.1+1);have:=h.1; have:=h.2;rw[wr (by omega) (by omega)]; omega
 ·rw[zk3 (Int.not_lt.1 h1)]
  exact⟨_,_,rfl,yVT _,h⟩
def yO9:Code:=(f72.body).getD .skip
def yPC:Env:=zkw TT [(147,yAU)] []
theorem yGY:FrOk prog ⟨yPC,31,fun _=>none⟩ yO9:=zkA mixed ye ⟨yQ9,trivial⟩
abbrev yss:List Par:= [.pt tU .fz,.rd tI]
abbrev ysL:List OT:= [⟨false,tI,.fz⟩]
def yaa (a0:dU) (a1:Int):Option (zaY ysL×zak yss) :=bif(leb a1 0)then some ((0,()),(a0,())) else bif(leb a1 256)then bnd (ybJ a0) fun r1 =>bif(a1 !=0)then some (((r1.1.1.tmod a1),()),(r1.2.1,())) else none else bnd (ybJ a0) fun r2 =>bnd (ybJ r2.2.1) fun r3 =>bnd (ybJ r3.2.1) fun r4 =>bif(a1 !=0)then some ((((i64.wrap ((i64.wrap ((i64.wrap (r2.1.1*65536))+(i64.wrap (r3.1.1*256))))+r4.1.1)).tmod a1),()),(r4.2.1,())) else none
theorem yKM:ConOk prog 72 ⟨yss,ysL,fun x=>yaa x.1 x.2.1⟩:=zkI (yGY) func72 ntmps72.symm fun x=>by kernel_rfl
def yiJ:Con:=⟨yss,ysL,fun x=>yaa x.1 x.2.1⟩
theorem yq3:ConOk prog 72 yiJ:=yKM
theorem yk7 (u:List Int×Int×Int) (n:Int) (h:yr7 u): ∃(r:Int) (u':List Int×Int×Int),yaa u n=some ((r,()),(u',()))∧(0≤r∧(0<n→r<n)∧(n≤0→r=0))∧yr7 u':=by
 unfold yaa;by_cases h0:n≤0
 ·rw[zk2 h0]
  exact⟨_,_,rfl,⟨Int.le_refl _,fun h=>absurd h0 (by omega),fun _=>rfl⟩,h⟩
 ·have hn:(n !=0)=true:=bne_iff_ne.2 (by omega)
  have key: ∀x:Int,0≤x→0≤x.tmod n∧(0<n→x.tmod n<n)∧(n≤0→x.tmod n=0):=fun x hx =>
   ⟨Int.tmod_nonneg n hx,fun hp=>Int.tmod_lt_of_pos x hp,fun hp=>absurd hp h0⟩
  rw[zk1 (by omega)];by_cases h1:n≤256
  ·rw[zk2 h1]
   obtain⟨r1,u1,e1,q1,d1⟩:=yF4 u h;rw[e1,zkZ,zk0,zkH,hn];exact⟨_,_,rfl,key r1 q1.1,d1⟩
  ·rw[zk1 (by omega)]
   obtain⟨r1,u1,e1,q1,d1⟩:=yF4 u h;obtain⟨r2,u2,e2,q2,d2⟩:=yF4 u1 d1;obtain⟨r3,u3,e3,q3,d3⟩:=yF4 u2 d2;simp only[e1,e2,e3,zkZ,zkH,hn,zk0];refine⟨_,_,rfl,key _ ?_,d3⟩;rw[wq (r1*65536) (by omega) (by omega),wq (r2*256) (by omega) (by omega),wq (r1*65536+r2*256) (by omega) (by omega),wr (by omega) (by omega)];omega
def ySo:Code:=(f178.body).getD .skip
def ySR:Env:=zkw TT [] []
theorem yJp:FrOk prog ⟨ySR,6,fun _=>none⟩ ySo:=zkA mixed ye trivial
abbrev yvc:List Par:= [.rd tG]
abbrev yvE:List OT:= [⟨false,tI,.fz⟩]
def yBw (a0:dG):Option (zaY yvE×zak yvc) :=some (((i64.wrap (6+a0.2)),()),())
theorem yN8:ConOk prog 178 ⟨yvc,yvE,fun x=>yBw x.1⟩:=zkI (yJp) func178 ntmps178.symm fun x=>by kernel_rfl
def yeq (a0:dG):Int :=(i64.wrap (6+a0.2))
def yqI:Con:=⟨yvc,yvE,fun x=>(fun n=>some ((n,()),())) (yeq x.1)⟩
theorem yQs (a0:dG):yBw a0=(fun n=>some ((n,()),())) (yeq a0):=zkV (p:=fun(n:Int)=>((n,()),())) rfl
theorem yCU:ConOk prog 178 yqI:=(yN8).mono (fun x r _ h=>(yQs x.1).trans h)
end
end Go.Tf
