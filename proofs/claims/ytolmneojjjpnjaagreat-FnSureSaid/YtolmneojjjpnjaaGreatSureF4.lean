/- Functions of the program, and what they come to. -/
import Derived.Test.YtolmneojjjpnjaaGreatSureF3
namespace Go.Tf
noncomputable section
open Go.Proofs Go.Proofs.Tryz IntKind
set_option synthInstance.maxHeartbeats 400000
set_option synthInstance.maxSize 10000
set_option linter.unusedVariables false
set_option linter.unusedSimpArgs false
set_option maxRecDepth 100000
def yXK:Code:=(f83.body).getD .skip
def yYg:Env:=zku TT [(72,yaU)] []
theorem yOh:FrOk prog ⟨yYg,9,fun _=>none⟩ yXK:=zky yg yh ⟨yb4,trivial⟩
abbrev yyx:List Par:= [.pt tU .fz,.rd tI]
abbrev yy2:List OT:= [⟨false,tB,.fz⟩]
def yb6 (a0:dU) (a1:Int):Option (zaY yy2×zak yyx) :=bnd (ym a0 a1) fun r1 =>some (((r1.1.1==0),()),(r1.2.1,()))
theorem yTo:ConOk prog 83 ⟨yyx,yy2,fun x=>yb6 x.1 x.2.1⟩:=zkG (yOh) func83 ntmps83.symm fun x=>by kernel_rfl
def yEs:Con:=⟨yyx,yy2,fun x=>yb6 x.1 x.2.1⟩
theorem yWu:ConOk prog 83 yEs:=yTo
theorem y0G (u:dU) (n:Int) (h:yco u): ∃(r:Bool) (u':dU),yb6 u n=some ((r,()),(u',()))∧yco u':=by
 unfold yb6;obtain⟨r,u1,e1,_,d1⟩:=ycL u n h;simp only[e1,zkF];exact⟨_,_,rfl,d1⟩
def yUp:Code:=(f143.body).getD .skip
def yUP:Env:=zku TT [(76,yif)] [(12288,(.pr .fz .fz))]
theorem yLx:FrOk prog ⟨yUP,10,fun _=>none⟩ yUp:=zky yg yh ⟨yot,trivial⟩
abbrev yvK:List Par:= [.rd tM]
abbrev yv1:List OT:= [⟨false,tM,(.pr (.ow .fz) (.pr (.ow (.pr .fz .fz)) (.pr .fz (.ow .fz))))⟩]
def yDo (a0:dM):Option (zaY yv1×zak yvK) :=let r1:=yaG a0;some (((r1.1,([]:List dW),true,r1.2.2.2),()),())
theorem yPK:ConOk prog 143 ⟨yvK,yv1,fun x=>yDo x.1⟩:=zkG (yLx) func143 ntmps143.symm fun x=>by kernel_rfl
def yok (a0:dM):dM :=let r1:=yaG a0;(r1.1,([]:List dW),true,r1.2.2.2)
def yCn:Con:=⟨yvK,yv1,fun x=>(fun n=>some ((n,()),())) (yok x.1)⟩
theorem ySM (a0:dM):yDo a0=(fun n=>some ((n,()),())) (yok a0):=zkT (p:=fun(n:dM)=>((n,()),())) rfl
theorem yTK:ConOk prog 143 yCn:=(yPK).mono (fun x r _ h=>(ySM x.1).trans h)
def yUs:Code:=(f108.body).getD .skip
def yUS:Env:=zku TT [(143,yCn),(174,ymr)] []
theorem yLC:FrOk prog ⟨yUS,62,fun _=>none⟩ yUs:=zky yg yh ⟨yTK,ywn,trivial⟩
abbrev yi9:List Par:= [.pt tA (.pr .fz (.pr (.pr .fz .fz) (.pr (.ow (.pr (.ow .fz) (.pr (.ow (.pr .fz .fz)) (.pr .fz (.ow .fz))))) (.pr .fz (.pr .fz (.pr .fz (.pr .fz (.pr .fz (.pr (.ow (.pr .fz .fz)) (.pr .fz (.pr .fz .fz))))))))))),.rd tI]
abbrev yn4:List OT:= []
def yro (a0:dA) (a1:Int):Option (zaY yn4×zak yi9) :=bif(inb a1 a0.2.2.1.length)then let r1:=yok ((nth a0.2.2.1 a1 ([],[],false,[])).1,((nth a0.2.2.1 a1 ([],[],false,[])).2).1,(((nth a0.2.2.1 a1 ([],[],false,[])).2).2));bif(inb a1 a0.2.2.1.length)then bif(!(a0.2.2.2.1==(-1)))then bif(a0.2.2.2.1==a1)then bif(!a0.2.2.2.2.2.2.2.2.2.2.1)then bif(!a0.2.2.2.2.2.2.2.2.2.2.2)then bif(ltb a0.2.2.2.2.2.2.2.1 60000)then let r2:=ya0 (a0.1,a0.2.1,(a0.2.2.1.set (a1).toNat r1),a1,0,a0.2.2.2.2.2);some ((),(r2,())) else some ((),((a0.1,a0.2.1,(a0.2.2.1.set (a1).toNat r1),a1,0,a0.2.2.2.2.2),())) else some ((),((a0.1,a0.2.1,(a0.2.2.1.set (a1).toNat r1),a1,0,a0.2.2.2.2.2),())) else some ((),((a0.1,a0.2.1,(a0.2.2.1.set (a1).toNat r1),a1,0,a0.2.2.2.2.2),())) else bif(!a0.2.2.2.2.2.2.2.2.2.2.1)then some ((),((a0.1,a0.2.1,(a0.2.2.1.set (a1).toNat r1),a0.2.2.2.1,a0.2.2.2.2.1,a0.2.2.2.2.2.1,a0.2.2.2.2.2.2.1,a0.2.2.2.2.2.2.2.1,a0.2.2.2.2.2.2.2.2.1,a0.2.2.2.2.2.2.2.2.2.1,a0.2.2.2.2.2.2.2.2.2.2.1,true),())) else some ((),((a0.1,a0.2.1,(a0.2.2.1.set (a1).toNat r1),a0.2.2.2.1,a0.2.2.2.2.1,a0.2.2.2.2.2.1,a0.2.2.2.2.2.2.1,a0.2.2.2.2.2.2.2.1,a0.2.2.2.2.2.2.2.2.1,a0.2.2.2.2.2.2.2.2.2.1,a0.2.2.2.2.2.2.2.2.2.2.1,true),())) else bif(!a0.2.2.2.2.2.2.2.2.2.2.1)then bif(!a0.2.2.2.2.2.2.2.2.2.2.2)then bif(ltb a0.2.2.2.2.2.2.2.1 60000)then let r3:=ya0 (a0.1,a0.2.1,(a0.2.2.1.set (a1).toNat r1),a1,0,a0.2.2.2.2.2);some ((),(r3,())) else some ((),((a0.1,a0.2.1,(a0.2.2.1.set (a1).toNat r1),a1,0,a0.2.2.2.2.2),())) else some ((),((a0.1,a0.2.1,(a0.2.2.1.set (a1).toNat r1),a1,0,a0.2.2.2.2.2),())) else some ((),((a0.1,a0.2.1,(a0.2.2.1.set (a1).toNat r1),a1,0,a0.2.2.2.2.2),())) else none else none
theorem yPO:ConOk prog 108 ⟨yi9,yn4,fun x=>yro x.1 x.2.1⟩:=zkG (yLC) func108 ntmps108.symm fun x=>by kernel_rfl
def yol (a0:dA) (a1:Int):dA:=yhe a0 a1
def ywq (a0:dA) (a1:Int):Bool:=inb a1 a0.2.2.1.length
theorem ySQ (a0:dA) (a1:Int) (hk:zjw yi9 (a0,a1,())) (hq:ywq a0 a1=true):yro a0 a1=(fun n=>some ((),(n,()))) (yol a0 a1):=by
 have hq:inb a1 a0.2.2.1.length=true:=hq;unfold yro yol yhe yas yRC ye7 ya;simp only[hq,zkV,yok,yaG,ya0];cases(a0.2.2.2.1== -1)<;>cases(a0.2.2.2.1==a1)<;>cases a0.2.2.2.2.2.2.2.2.2.2.1<;>cases a0.2.2.2.2.2.2.2.2.2.2.2<;>cases ltb a0.2.2.2.2.2.2.2.1 60000<;>rfl
def yjM (a0:dA) (a1:Int):Option (zaY yn4×zak yi9):=bif ywq a0 a1 then(fun n=>some ((),(n,()))) (yol a0 a1)else none
theorem yTV (a0:dA) (a1:Int) (h:ywq a0 a1=true):yjM a0 a1=(fun n=>some ((),(n,()))) (yol a0 a1):=by unfold yjM; rw[h]; rfl
def yCr:Con:=⟨yi9,yn4,fun x=>yjM x.1 x.2.1⟩
theorem yTO:ConOk prog 108 yCr:=(yPO).mono (fun x r hk h=>zkW h (fun hq=>ySQ x.1 x.2.1 hk hq))
def ylQ:Code:=(f112.body).getD .skip
def yso:Env:=zku TT [(76,yif),(82,yL),(160,yf8),(161,ywe)] []
theorem yJe:FrOk prog ⟨yso,68,fun _=>none⟩ ylQ:=zky yg yh ⟨yot,yS,yld,yHF,trivial⟩
def yzC:Nat→Option Seg:=fun _=>none
def yba:Shape:=⟨[(1,false,[.int .i64]),(4,false,[.ptr 64 0]),(5,false,[.ptr 4224 0]),(6,false,[.int .i64])],[(64,[.nil,.nil,.bool,.nil]),(4224,[.at 800000000,.at 800000001,.bool,.at 800000002])],[(800000000,tL,.fz),(800000001,tW,(.pr .fz .fz)),(800000002,tI,.fz)]⟩
def yeb:Shape:=⟨[(1,false,[.int .i64]),(4,false,[.ptr 64 0]),(5,false,[.ptr 4224 0]),(6,false,[.int .i64])],[(64,[.nil,.nil,.bool,.nil]),(4224,[.at 800000000,.at 800000001,.bool,.at 800000002])],[(800000000,tL,.fz),(800000001,tW,(.pr .fz .fz)),(800000002,tI,.fz)]⟩
def yd5:Shape:=⟨[(1,false,[.int .i64]),(4,false,[.ptr 64 0]),(5,false,[.ptr 4224 0]),(6,false,[.int .i64])],[(64,[.nil,.nil,.bool,.nil]),(4224,[.at 800000000,.at 800000001,.bool,.at 800000002])],[(800000000,tL,.fz),(800000001,tW,(.pr .fz .fz)),(800000002,tI,.fz)]⟩
def yg5:Shape:=⟨[],[],[]⟩
abbrev ykv (v0 v1:Int) (v2 v3:dM):(yba).X:=(((v0,()),((),()),((),()),(v1,()),()),(((),(),v2.2.2.1,(),()),((),(),v3.2.2.1,(),()),()),(v3.1,v3.2.1,v3.2.2.2,()))
abbrev yHa (v0 v1:Int) (v2 v3:dM):(yeb).X:=(((v0,()),((),()),((),()),(v1,()),()),(((),(),v2.2.2.1,(),()),((),(),v3.2.2.1,(),()),()),(v3.1,v3.2.1,v3.2.2.2,()))
abbrev yG4 (v0 v1:Int) (v2 v3:dM):(yd5).X:=(((v0,()),((),()),((),()),(v1,()),()),(((),(),v2.2.2.1,(),()),((),(),v3.2.2.1,(),()),()),(v3.1,v3.2.1,v3.2.2.2,()))
def ykK (v0 v1:Int) (v2 v3:Bool) (v4:List (List Int)) (v5:List dW) (v6:List Int):Option ((yba).X ⊕ ((yd5).X ⊕ (yg5).X)) :=bif(ltb 0 v1)then bif(inb (i64.wrap (v1-1)) v6.length)then bif(ltb v0 (nth v6 (i64.wrap (v1-1)) 0))then bif(inb (i64.wrap (v1-1)) v6.length)then bif(inb v1 v6.length)then some (.inl (((v0,()),((),()),((),()),((i64.wrap (v1-1)),()),()),(((),(),v2,(),()),((),(),v3,(),()),()),(v4,v5,(v6.set (v1).toNat (nth v6 (i64.wrap (v1-1)) 0)),()))) else none else none else some (.inr (.inl (((v0,()),((),()),((),()),(v1,()),()),(((),(),v2,(),()),((),(),v3,(),()),()),(v4,v5,v6,())))) else none else some (.inr (.inl (((v0,()),((),()),((),()),(v1,()),()),(((),(),v2,(),()),((),(),v3,(),()),()),(v4,v5,v6,()))))
def ybp (x:(yba).X):=ykK x.1.1.1 x.1.2.2.2.1.1 x.2.1.1.2.2.1 x.2.1.2.1.2.2.1 x.2.2.1 x.2.2.2.1 x.2.2.2.2.1
def ytH (x:(yeb).X):(yba).X:=(((x.1.1.1,()),((),()),((),()),(x.1.2.2.2.1.1,()),()),(((),(),x.2.1.1.2.2.1,(),()),((),(),x.2.1.2.1.2.2.1,(),()),()),(x.2.2.1,x.2.2.2.1,x.2.2.2.2.1,()))
def yuJ:Code:=(zeJ ylQ 64 504).getD .skip
theorem yHP:zeJ ylQ 64 126=some (.block 0 (.loop yuJ)):=by kernel_rfl
theorem yIp (x:(yba).X):zhu ⟨yso,68,yzC⟩ 0 yuJ 504 yba yd5 yg5 x=ybp x:=by kernel_rfl
def ytP (x:(yeb).X):Nat:=18446744073709551616
def yln (x:(yeb).X):Option ((yd5).X ⊕ (yg5).X):=zF ybp (ytP x) (ytH x)
def yuy:Seg:=⟨yeb,yd5,yg5,yln⟩
def yKS:Nat→Option Seg:=fun q=>bif Nat.beq q 126 then some yuy else yzC q
theorem yJf:FrOk prog ⟨yso,68,yKS⟩ ylQ:=(yJe).loop (sg:=yuy) yba ytH (by decide) yHP ybp ytP (by decide) (fun _=>rfl) (fun x r _ h=>h) yIp
abbrev yl5:List Par:= [.rd tM,.rd tI]
abbrev ytc:List OT:= [⟨false,tM,(.pr (.ow .fz) (.pr (.ow (.pr .fz .fz)) (.pr .fz (.ow .fz))))⟩]
def ypp (a0:dM) (a1:Int):Option (zaY ytc×zak yl5) :=let r1:=yaG a0;let r2:=yaK a0;bif(!(!r2))then let r3:=yb a1 0 (i64.wrap ((a0.1.length:Int)-1));bif(!(!r3))then let r4:=ygS a0.2.2.2 a1;bif r4 then some ((r1,()),()) else bif(zkj r1.2.2.2.length ([a1]:List Int).length 8)then zkr (yln (((a1,()),((),()),((),()),((i64.wrap (((r1.2.2.2++([a1]:List Int)).length:Int)-1)),()),()),(((),(),false,(),()),((),(),r1.2.2.1,(),()),()),(r1.1,r1.2.1,(r1.2.2.2++([a1]:List Int)),()))) (fun y4 =>bif(inb y4.1.2.2.2.1.1 y4.2.2.2.2.1.length)then some (((y4.2.2.1,y4.2.2.2.1,y4.2.1.2.1.2.2.1,(y4.2.2.2.2.1.set (y4.1.2.2.2.1.1).toNat y4.1.1.1)),()),()) else none) (fun y4 =>none) else none else some ((r1,()),()) else some ((r1,()),())
theorem yMx:ConOk prog 112 ⟨yl5,ytc,fun x=>ypp x.1 x.2.1⟩:=zkG (yJf) func112 ntmps112.symm fun x=>by kernel_rfl
def ymv (a0:dM) (a1:Int):dM:=spoil a0 a1
theorem yUh (n:Int) (m:dM) (p:List Int) (hp: ∀x∈p,x<n): ∀(j:Nat) (q1 q2:List Int) (x:Int) (fuel:Nat),q1.length=j→j<fuel→(∀y∈q1,n<y)→p.length+q1.length≤1000 →
  ∃(x':Int) (q':List Int),q1++q2=q'∧zF ybp fuel (ykv n ((p.length+q1.length:Nat):Int) yc (m.1,m.2.1,m.2.2.1,(p++q1)++x::q2))=some (.inl (yG4 n (p.length:Nat) yc (m.1,m.2.1,m.2.2.1,p++x'::q')))
 | 0,q1,q2,x,fuel+1,hj,hf,hq,hb=>by
  have:q1= []:=List.length_eq_zero_iff.1 hj;subst this;refine⟨x,q2,rfl,?_⟩;simp only[zF,ybp,ykv,ykK,List.length_nil,Nat.add_zero,List.append_nil];rcases List.eq_nil_or_concat p with rfl | ⟨P,y,rfl⟩
  ·rfl
  ·have hy:=hp y (by simp)
   simp only[List.concat_eq_append,List.length_append,List.length_cons,List.length_nil,List.append_assoc,List.cons_append,List.nil_append]at hb ⊢
   rw[zkw (show(0:Int)<((P.length+(0+1):Nat):Int)by omega),wq (((P.length+(0+1):Nat):Int)-1) (by omega) (by omega),show((P.length+(0+1):Nat):Int)-1=(P.length:Nat)by omega,
    zkP (by simp),zkQ,y0S,zk1 (show y≤n by omega)]
   rfl
 | j+1,q1,q2,x,fuel+1,hj,hf,hq,hb=>by
  rcases List.eq_nil_or_concat q1 with rfl | ⟨Q,y,rfl⟩
  ·cases hj
  ·rw[List.concat_eq_append]at hj hq hb ⊢
   have hQ:Q.length=j:=by simpa using hj
   have hy:=hq y (by simp);obtain⟨x',q',e1,e2⟩:=yUh n m p hp j Q (y::q2) y fuel hQ (by omega) (fun z hz=>hq z (by simp[hz])) (by simp at hb; omega);refine⟨x',q',by rw[← e1]; simp,?_⟩;rw[← e2];have ea:((p++(Q++ [y]))++x::q2)=(p++Q)++y::x::q2:=by simp
   have el:p.length+(Q++ [y]).length=(p++Q).length+1:=by simp; omega
   have el2:p.length+Q.length=(p++Q).length:=by simp
   have hb2:(p++Q).length≤1000:=by simp at hb ⊢; omega
   rw[ea,el,el2];generalize p++Q=A at hb2;rw[zF];simp only[ybp,ykv,ykK]
   have es:(A++y::x::q2).set (A.length+1) y=A++y::y::q2:=by
    have:=y0Y (A++ [y]) x y q2;simp at this ⊢
   rw[zkw (show(0:Int)<((A.length+1:Nat):Int)by omega),wq (((A.length+1:Nat):Int)-1) (by omega) (by omega),show((A.length+1:Nat):Int)-1=(A.length:Nat)by omega,zkP (show A.length<(A++y::x::q2).length by simp),zkQ,y0S,zkw hy,
    zkP (show A.length+1<(A++y::x::q2).length by simp),Int.toNat_natCast,es]
   rfl
theorem yPr (a0:dM) (a1:Int) (hk:zjw yl5 (a0,a1,())):ypp a0 a1=(fun n=>some ((n,()),())) (ymv a0 a1):=by
 unfold ypp ymv spoil;simp only[yaG,yaK,ycx,ygS];cases hm:yu a0
 ·rfl
 obtain⟨h1,h2,h3,h4,h5,h6⟩:=ycr hm;rw[yrL]at h3;have hlen:=yU2 h3.2 (lo:=0) (n:=a0.1.length) h3.1 (by omega);rw[wq ((a0.1.length:Int)-1) (by omega) (by omega)]
 have hi:(leb 0 a1&&leb a1 ((a0.1.length:Int)-1))=inb a1 a0.1.length:=by
  rw[Bool.eq_iff_iff,Bool.and_eq_true,zj5,zj5,zj4]; omega
 rw[hi];cases hin:inb a1 a0.1.length
 ·rfl
 cases hh:a0.2.2.2.any (· ==a1)
 ·have hn:a1∉a0.2.2.2:=fun h=>by
   have:=List.any_eq_false.1 hh a1 h;simp at this
  have hsp:=yZ8 h3.2 hn;have hp: ∀x∈a0.2.2.2.filter (fun x=>ltb x a1),x<a1:=fun x hx=>zj8.1 (List.mem_filter.1 hx).2
  have hq: ∀x∈a0.2.2.2.filter (fun x=>ltb a1 x),a1<x:=fun x hx=>zj8.1 (List.mem_filter.1 hx).2
  unfold ytS;generalize a0.2.2.2.filter (fun x=>ltb x a1)=P at hsp hp;generalize a0.2.2.2.filter (fun x=>ltb a1 x)=Q at hsp hq;have hPQ:P.length+Q.length=a0.2.2.2.length:=by rw[hsp,List.length_append]
  obtain⟨x',q',e1,e2⟩:=yUh a1 a0 P hp Q.length Q [] a1 18446744073709551616 rfl (by omega) hq (by omega);rw[List.append_nil]at e1;subst e1;simp only[cond_true,cond_false,Bool.not_true,Bool.not_false,Bool.and_self]
  rw[zkD.2 (show(a0.2.2.2.length+ [a1].length)*8≤140737488355328 by simp only[List.length_cons,List.length_nil]; omega),wr (show -9223372036854775808≤((a0.2.2.2++ [a1]).length:Int)-1 by omega) (by simp only[List.length_append,List.length_cons,List.length_nil]; omega),
   show((a0.2.2.2++ [a1]).length:Int)-1=((P.length+Q.length:Nat):Int)by simp only[List.length_append,List.length_cons,List.length_nil]; omega,hsp,cond_true]
  refine(congrArg (fun z=>zkr z _ _) (show yln (yHa a1 ((P.length+Q.length:Nat):Int) yc (a0.1,a0.2.1,a0.2.2.1,(P++Q)++ [a1]))=_ from e2)).trans ?_;simp only[zkL];show(bif inb (P.length:Int) (P++x'::Q).length then some (((a0.1,a0.2.1,a0.2.2.1,(P++x'::Q).set (P.length:Int).toNat a1),()),())else none)=_;rw[zkP (by simp),Int.toNat_natCast,y0Y]; rfl
 ·rfl
def yz4:Con:=⟨yl5,ytc,fun x=>(fun n=>some ((n,()),())) (ymv x.1 x.2.1)⟩
theorem yQa:ConOk prog 112 yz4:=(yMx).mono (fun x r hk h=>(yPr x.1 x.2.1 hk).trans h)
section
def yXQ:Code:=(f216.body).getD .skip
def yYm:Env:=zku TT [(78,yF2),(82,yL),(200,ygM)] []
theorem yOw:FrOk prog ⟨yYm,48,fun _=>none⟩ yXQ:=zky yg yh ⟨yYU,yS,ymz,trivial⟩
abbrev yyC:List Par:= [.rd tA,.rd tI,.rd tL]
abbrev yy9:List OT:= [⟨false,tI,.fz⟩]
def yFa (a0:dA) (a1:Int) (a2:List Int):Option (zaY yy9×zak yyC) :=let r1:=yjE a0;bif(!(!r1))then bif(!((a2.length:Int) !=(i64.wrap (a0.2.1.1-1))))then let r2:=yao a2;bif(!r2)then some ((1,()),()) else bif a0.2.2.2.2.2.2.2.2.2.2.1 then some ((6,()),()) else let r3:=yb a1 0 (i64.wrap (a0.2.1.2-1));bif(!r3)then some ((2,()),()) else bif a0.2.2.2.2.2.2.2.2.2.2.2 then some ((5,()),()) else bif(!(leb 60000 a0.2.2.2.2.2.1))then bif(leb 59990 a0.2.2.2.2.2.2.2.1)then some ((7,()),()) else some ((0,()),()) else some ((7,()),()) else some ((1,()),()) else some ((1,()),())
theorem yTy:ConOk prog 216 ⟨yyC,yy9,fun x=>yFa x.1 x.2.1 x.2.2.1⟩:=zkG (yOw) func216 ntmps216.symm fun x=>by kernel_rfl
def yar (a0:dA) (a1:Int) (a2:List Int):Int :=let r1:=yjE a0;bif(!(!r1))then bif(!((a2.length:Int) !=(i64.wrap (a0.2.1.1-1))))then let r2:=yao a2;bif(!r2)then 1 else bif a0.2.2.2.2.2.2.2.2.2.2.1 then 6 else let r3:=yb a1 0 (i64.wrap (a0.2.1.2-1));bif(!r3)then 2 else bif a0.2.2.2.2.2.2.2.2.2.2.2 then 5 else bif(!(leb 60000 a0.2.2.2.2.2.1))then bif(leb 59990 a0.2.2.2.2.2.2.2.1)then 7 else 0 else 7 else 1 else 1
def yEx:Con:=⟨yyC,yy9,fun x=>(fun n=>some ((n,()),())) (yar x.1 x.2.1 x.2.2.1)⟩
theorem yVO (a0:dA) (a1:Int) (a2:List Int):yFa a0 a1 a2=(fun n=>some ((n,()),())) (yar a0 a1 a2):=zkT (p:=fun(n:Int)=>((n,()),())) (zkE (p:=fun(n:Int)=>((n,()),())) (zkE (p:=fun(n:Int)=>((n,()),())) (zkE (p:=fun(n:Int)=>((n,()),())) rfl (zkE (p:=fun(n:Int)=>((n,()),())) rfl (zkE (p:=fun(n:Int)=>((n,()),())) rfl (zkE (p:=fun(n:Int)=>((n,()),())) rfl (zkE (p:=fun(n:Int)=>((n,()),())) (zkE (p:=fun(n:Int)=>((n,()),())) rfl rfl) rfl))))) rfl) rfl)
theorem yWz:ConOk prog 216 yEx:=(yTy).mono (fun x r _ h=>(yVO x.1 x.2.1 x.2.2.1).trans h)
def yKx (l:List dW) (k:Nat):List dW:=l.take k++l.drop (k+1)
def yaM (a:dA) (s:Int):Int×dA :=bif ltb (yai a.2.2.2.2.2.2.2.2.1 s) 0 then(0,a)else bif yar a s (nth a.2.2.2.2.2.2.2.2.1 (yai a.2.2.2.2.2.2.2.2.1 s) (0,[])).2 !=0 then(yar a s (nth a.2.2.2.2.2.2.2.2.1 (yai a.2.2.2.2.2.2.2.2.1 s) (0,[])).2,a)else bif(yK a s (nth a.2.2.2.2.2.2.2.2.1 (yai a.2.2.2.2.2.2.2.2.1 s) (0,[])).2).1==0 then (0,ywK (yK a s (nth a.2.2.2.2.2.2.2.2.1 (yai a.2.2.2.2.2.2.2.2.1 s) (0,[])).2).2 (yKx a.2.2.2.2.2.2.2.2.1 (yai a.2.2.2.2.2.2.2.2.1 s).toNat)) else yK a s (nth a.2.2.2.2.2.2.2.2.1 (yai a.2.2.2.2.2.2.2.2.1 s) (0,[])).2
theorem yEf {a:dA} {s:Int} {d:List Int} (h:yar a s d=0):yal a=true∧(d.length:Int)=a.2.1.1-1∧d.all isW=true∧ya a=false∧yac a.2.1 s=true∧a.2.2.2.2.2.2.2.2.2.2.2=false∧a.2.2.2.2.2.1<60000∧a.2.2.2.2.2.2.2.1<59990:=by
 unfold yar at h;simp only[yjE,yqw,ycx]at h;cases ha:yal a
 ·rw[ha]at h; exact absurd (show(1:Int)=0 from h) (by decide)
 have hg:=yn.1 (yrK ha);rw[ha,wq (a.2.1.1-1) (by omega) (by omega),wq (a.2.1.2-1) (by omega) (by omega)]at h;cases hl:((d.length:Int) !=a.2.1.1-1)
 ·cases hw:d.all isW
  ·rw[hl,hw]at h; exact absurd (show(1:Int)=0 from h) (by decide)
  cases hd:a.2.2.2.2.2.2.2.2.2.2.1
  ·cases hs:(leb 0 s&&leb s (a.2.1.2-1))
   ·rw[hl,hw,hd,hs]at h; exact absurd (show(2:Int)=0 from h) (by decide)
   cases hb:a.2.2.2.2.2.2.2.2.2.2.2
   ·cases h6:leb 60000 a.2.2.2.2.2.1
    ·cases h7:leb 59990 a.2.2.2.2.2.2.2.1
     ·have e6: ¬(60000≤a.2.2.2.2.2.1):=fun g=>by rw[zk0 g]at h6; cases h6
      have e7: ¬(59990≤a.2.2.2.2.2.2.2.1):=fun g=>by rw[zk0 g]at h7; cases h7
      exact⟨rfl,bne_eq_false_iff_eq.1 hl,rfl,hd,by unfold yac; rw[yrK ha,hs]; rfl,rfl,by omega,by omega⟩
     ·rw[hl,hw,hd,hs,hb,h6,h7]at h; exact absurd (show(7:Int)=0 from h) (by decide)
    ·rw[hl,hw,hd,hs,hb,h6]at h; exact absurd (show(7:Int)=0 from h) (by decide)
   ·rw[hl,hw,hd,hs,hb]at h; exact absurd (show(5:Int)=0 from h) (by decide)
  ·rw[hl,hw,hd]at h; exact absurd (show(6:Int)=0 from h) (by decide)
 ·rw[hl]at h; exact absurd (show(1:Int)=0 from h) (by decide)
theorem yWU (a:dA):(yv a).2.2.2.2.2.2.2.2.1=a.2.2.2.2.2.2.2.2.1:=by
 unfold yv;cases leb 4 (i64.wrap (a.2.2.2.2.2.1-a.2.2.2.2.2.2.1))
 ·rfl
 ·exact yMY a
theorem y0A (a:dA):(yJ a).2.2.2.2.2.2.2.2.1=a.2.2.2.2.2.2.2.2.1:=rfl
theorem y0E (a:dA) (s:Int) (d:List Int):(yK a s d).2.2.2.2.2.2.2.2.2.1=a.2.2.2.2.2.2.2.2.1:=by
 unfold yK;have h2:=(yRA (ybe (yv a) ((yv a).2.2.2.2.2.1,s,d))).trans (yWU a);generalize yp (yv a) ((yv a).2.2.2.2.2.1,s,d)=R at h2 ⊢;have h3:=(yRA (ydU (yJ R) s d)).trans ((y0A R).trans h2);generalize yF (yJ R) s d=Q at h3 ⊢;cases ya (yv a)
 ·cases ya R
  ·exact h3
  ·exact h2
 ·exact yWU a
theorem y1I {l:List dW} {k:Int} (h0:0≤k) (h1:k<(l.length:Int)):(([]:List dW)++((l.drop (0:Int).toNat).take (k-0).toNat))++((l.drop (k+1).toNat).take ((l.length:Int)-(k+1)).toNat)=yKx l k.toNat:=by
 unfold yKx;rw[List.nil_append,show(0:Int).toNat=0 from rfl,List.drop_zero,Int.sub_zero,show(k+1).toNat=k.toNat+1 by omega,List.take_of_length_le (l:=l.drop (k.toNat+1)) (by rw[List.length_drop]; omega)]
def ylp (_:Nat) (a:dA):dA ⊕ (Int×dA):=bif(yaM a (nth a.2.2.2.2.2.2.2.2.1 0 (0,[])).1).1 !=0 then .inr (yaM a (nth a.2.2.2.2.2.2.2.2.1 0 (0,[])).1)else .inl (yaM a (nth a.2.2.2.2.2.2.2.2.1 0 (0,[])).1).2
def yIF (a:dA):Int×dA:=goE ylp (fun b=>(0,b)) a.2.2.2.2.2.2.2.2.1.length 0 a
theorem y1c {e:dW} {l:List dW}:yai (e::l) e.1=0:=by
 unfold yai;rw[yAX,show(e.1==e.1)=true from beq_self_eq_true _]; rfl
theorem y1d {a:dA} (h:0<a.2.2.2.2.2.2.2.2.1.length) (h0:(yaM a (nth a.2.2.2.2.2.2.2.2.1 0 (0,[])).1).1=0):(yaM a (nth a.2.2.2.2.2.2.2.2.1 0 (0,[])).1).2.2.2.2.2.2.2.2.2.1=a.2.2.2.2.2.2.2.2.1.drop 1:=by
 unfold yaM at h0 ⊢
 have hk:yai a.2.2.2.2.2.2.2.2.1 (nth a.2.2.2.2.2.2.2.2.1 0 (0,[])).1=0:=by
  cases hl:a.2.2.2.2.2.2.2.2.1 with
  | nil=>rw[hl]at h; exact absurd h (Nat.lt_irrefl 0)
  | cons e l=>exact y1c
 rw[hk]at h0 ⊢;generalize (nth a.2.2.2.2.2.2.2.2.1 0 (0,[])).2=D at h0 ⊢;generalize (nth a.2.2.2.2.2.2.2.2.1 0 (0,[])).1=s at h0 ⊢;cases hc:(yar a s D !=0)
 ·rw[hc]at h0
  cases hr:((yK a s D).1==0)
  ·rw[hr]at h0
   exact absurd (show(yK a s D).1=0 from h0) (beq_eq_false_iff_ne.1 hr)
  ·rfl
 ·rw[hc]at h0
  exact absurd (show yar a s D=0 from h0) (bne_iff_ne.1 hc)
inductive Turned (a:dA):dA→Prop where
 | same:Turned a a
 | put (b x:Int):ykn a.2.1 b=true→isW x=true→Turned a (ypS a b x).2
 | flush (s:Int):Turned a (yaM a s).2
 | all:Turned a (yIF a).2
 | fail (m:Int):a.2.2.2.1= -1→inb m a.2.2.1.length=true→Turned a (yhe a m)
 | spare:inb a.2.2.2.1 a.2.2.1.length=true→(nth a.2.2.1 a.2.2.2.1 yc).2.2.1=true→Turned a (yy (yV a))
 | step:inb a.2.2.2.1 a.2.2.1.length=true→(nth a.2.2.1 a.2.2.2.1 yc).2.2.1=false→a.2.2.2.2.1<a.2.1.2→Turned a (yfg a).2
 | check:Turned a (yo a)
 | spoil (m s:Int):a.2.2.2.1= -1→inb m a.2.2.1.length=true→0≤s→s<a.2.1.2→Turned a (ybj a m (spoil (nth a.2.2.1 m yc) (yx s)))
def yY7 (g:dG) (e:dW):Prop:=(0≤e.1∧e.1≤g.2-1)∧(e.2.length:Int)=g.1-1∧e.2.all isW=true
theorem yxf {g:dG} {l:List dW}:yaO g l=true↔(∀e∈l,yY7 g e)∧l.Pairwise (fun x y=>x.1<y.1):=by
 have bad: ∀i,yhd g l i=false↔yY7 g (nth l i (0,[]))∧(0<i→(nth l ((i-1:Nat):Int) (0,[])).1<(nth l i (0,[])).1):=by
  intro i;unfold yhd yY7;simp only[Bool.or_eq_false_iff,Bool.not_eq_false',bne_eq_false_iff_eq,Bool.and_eq_true,Bool.and_eq_false_iff,decide_eq_false_iff_not,zj5];constructor
  ·rintro⟨h1,h2,h3,h4⟩
   refine⟨⟨h1,h2,h3⟩,fun h0=> ?_⟩;rcases h4 with h4 | h4
   ·exact absurd h0 h4
   ·have:=mt zk0 (by rw[h4]; simp: ¬leb (nth l i (0,[])).1 (nth l ((i-1:Nat):Int) (0,[])).1=true)
    omega
  ·rintro⟨⟨h1,h2,h3⟩,h4⟩
   refine⟨h1,h2,h3,?_⟩;by_cases h0:0<i
   ·exact .inr (zkZ (by have:=h4 h0; omega))
   ·exact .inl h0
 unfold yaO;simp only[Bool.not_eq_true',List.any_eq_false,List.mem_range,Bool.not_eq_true,bad];constructor
 ·intro h
  refine⟨fun e he=> ?_,?_⟩
  ·obtain⟨i,hi,rfl⟩:=List.getElem_of_mem he
   have:=(h i hi).1;rwa[zkQ,zkH hi]at this
  ·rw[List.pairwise_iff_getElem]
   have step: ∀(d i:Nat) (hi:i<l.length) (hj:i+d+1<l.length),l[i].1<l[i+d+1].1:=by
    intro d
    induction d with
    | zero =>
     intro i hi hj;have:=(h (i+1) hj).2 (by omega);rwa[Nat.add_sub_cancel,zkQ,zkQ,zkH hi,zkH hj]at this
    | succ d ih =>
     intro i hi hj;have h1:=ih i hi (by omega);have:=(h (i+d+1+1) hj).2 (by omega);rw[Nat.add_sub_cancel,zkQ,zkQ,zkH (show i+d+1<l.length by omega),zkH (show i+d+1+1<l.length from hj)]at this;exact Int.lt_trans h1 this
   intro i j hi hj hij;have:=step (j-i-1) i hi (by omega);have e:i+(j-i-1)+1=j:=by omega
   simp only[e]at this;exact this
 ·rintro⟨h1,h2⟩ i hi
  rw[List.pairwise_iff_getElem]at h2;refine⟨by rw[zkQ,zkH hi]; exact h1 _ (List.getElem_mem hi),fun h0=> ?_⟩;rw[zkQ,zkQ,zkH hi,zkH (show i-1<l.length by omega)];exact h2 (i-1) i (by omega) hi (by omega)
theorem yWY {g:dG} {l:List dW} (k:Nat) (h:yaO g l=true):yaO g (yKx l k)=true:=by
 rw[yxf]at h ⊢
 have hs:(yKx l k).Sublist l:=by
  unfold yKx;have:(l.take k++l.drop (k+1)).Sublist (l.take k++l.drop k):=List.Sublist.append_left (by rw[← List.drop_drop]; exact List.drop_sublist _ _) _;rwa[List.take_append_drop]at this
 exact⟨fun e he=>h.1 e (hs.subset he),h.2.sublist hs⟩
theorem yZ2 (e:dW): ∀(l acc:List dW),l.foldl (ycu e) (true,acc)=(true,acc++l.filter (fun x=>x.1 !=e.1))
 | [],acc=>by simp
 | x::t,acc=>by
  rw[List.foldl_cons];have:ycu e (true,acc) x=(true,acc++(bif x.1 !=e.1 then[x]else[])):=rfl;rw[this,yZ2 e t,List.filter_cons];cases x.1 !=e.1<;>simp
theorem y1Z {e:dW} {l:List dW} (h:l.Pairwise (fun x y=>x.1<y.1)):yJ9 l e=l.filter (fun x=>ltb x.1 e.1)++e::l.filter (fun x=>ltb e.1 x.1):=by
 have: ∀(l acc:List dW),l.Pairwise (fun x y=>x.1<y.1)→(bif(l.foldl (ycu e) (false,acc)).1 then(l.foldl (ycu e) (false,acc)).2 else(l.foldl (ycu e) (false,acc)).2++ [e])=acc++(l.filter (fun x=>ltb x.1 e.1)++e::l.filter (fun x=>ltb e.1 x.1)):=by
  intro l
  induction l with
  | nil=>intro acc _; simp
  | cons x t ih =>
   intro acc h;obtain⟨hx,ht⟩:=List.pairwise_cons.1 h;rw[List.foldl_cons];by_cases hle:e.1≤x.1
   ·have h1:ycu e (false,acc) x=(true,(acc++ [e])++(bif x.1 !=e.1 then[x]else[])):=by
     unfold ycu; rw[zk0 hle]; rfl
    have h2:t.filter (fun x=>x.1 !=e.1)=t:=List.filter_eq_self.2 (fun y hy=>bne_iff_ne.2 (by have:=hx y hy; omega));have h3:t.filter (fun x=>ltb x.1 e.1)= []:=List.filter_eq_nil_iff.2 (fun y hy=>by rw[zk1 (by have:=hx y hy; omega)]; simp);have h4:t.filter (fun x=>ltb e.1 x.1)=t:=List.filter_eq_self.2 (fun y hy=>zkw (by have:=hx y hy; omega));rw[h1,yZ2,h2,List.filter_cons,List.filter_cons,h3,h4,zk1 (show e.1≤x.1 by omega)];by_cases he:x.1=e.1
    ·rw[show(x.1 !=e.1)=false from bne_eq_false_iff_eq.2 he,zk1 (show x.1≤e.1 by omega)]; simp
    ·rw[show(x.1 !=e.1)=true from bne_iff_ne.2 he,zkw (show e.1<x.1 by omega)]; simp
   ·have h1:ycu e (false,acc) x=(false,acc++ [x]):=by
     unfold ycu; rw[zkZ (show x.1<e.1 by omega),show(x.1 !=e.1)=true from bne_iff_ne.2 (by omega)]; rfl
    rw[h1,ih _ ht,List.filter_cons,List.filter_cons,zkw (show x.1<e.1 by omega),zk1 (show x.1≤e.1 by omega)];simp
 have:=this l [] h;rw[List.nil_append]at this;exact this
theorem yWZ {g:dG} {l:List dW} {e:dW} (h:yaO g l=true) (he:yY7 g e):yaO g (yJ9 l e)=true:=by
 rw[yxf]at h ⊢;rw[y1Z h.2];refine⟨fun x hx=> ?_,?_⟩
 ·rcases List.mem_append.1 hx with h1 | h1
  ·exact h.1 x (List.mem_filter.1 h1).1
  ·rcases List.mem_cons.1 h1 with rfl | h1
   ·exact he
   ·exact h.1 x (List.mem_filter.1 h1).1
 ·rw[List.pairwise_append,List.pairwise_cons]
  refine⟨h.2.filter _,⟨fun y hy=>zj8.1 (List.mem_filter.1 hy).2,h.2.filter _⟩,fun x hx y hy=> ?_⟩;have h1:=zj8.1 (List.mem_filter.1 hx).2;rcases List.mem_cons.1 hy with rfl | hy
  ·exact h1
  ·exact Int.lt_trans h1 (zj8.1 (List.mem_filter.1 hy).2)
theorem yxg {g:dG} {l:List dW} (h:yaO g l=true) (hg:ye g=true):l.length≤8:=by
 rw[yxf]at h;have hg:=yn.1 hg
 have:=yU2 (l:=l.map (fun e=>e.1)) (lo:=0) (n:=g.2) (by rw[List.pairwise_map]; exact h.2) (fun x hx=>by
  obtain⟨e,he,rfl⟩:=List.mem_map.1 hx
  have:=(h.1 e he).1; omega) (by omega)
 rw[List.length_map]at this;omega
theorem ywj {a:dA} (r:dN) (h:yE a):yE (yp a r) :=yj2 (ykq (P:=yE) (one:=ya1 r) (ykE r) (fun _ _ h hi=>ywi h (zkP hi)) _ a (Nat.le_refl _) h)
theorem yZG {a:dA} (r:dN) (h:ycp a):ycp (yp a r) :=yxv (ykq (P:=ycp) (one:=ya1 r) (ykE r) (fun _ _ h _=>yG1 h _ _ _) _ a (Nat.le_refl _) h)
theorem yEJ {a:dA} (s:Int) (d:List Int) (h:yE a):yE (yF a s d) :=
 ykq (P:=yE) (one:=ya2 (yk a.2.1 s) a.2.1.1 s d) (ypH _ _ _ _) (fun b i h hi=>by
  unfold ya2;cases ycq b i s
  ·exact h
  ·exact ywi h (zkP hi)) _ a (Nat.le_refl _) h
theorem yW4 {a:dA} (s:Int) (d:List Int) (h:ycp a):ycp (yF a s d) :=
 ykq (P:=ycp) (one:=ya2 (yk a.2.1 s) a.2.1.1 s d) (ypH _ _ _ _) (fun b i h hi=>by
  unfold ya2;cases ycq b i s
  ·exact h
  ·exact yG1 h _ _ _) _ a (Nat.le_refl _) h
theorem y3S {k:Int} {a:dA} (r:dN) (h:Wk k a):Wk k (yp a r):=yA5 (ybe _ _) (ywj r h.2.1) (yZG r h.2.2.1) h
theorem y3r {k:Int} {a:dA} (s:Int) (d:List Int) (h:Wk k a):Wk k (yF a s d):=yA5 (ydU _ _ _) (yEJ s d h.2.1) (yW4 s d h.2.2.1) h
theorem y2X {k:Int} {a:dA} (h:Wk k a) (h1:a.2.2.2.2.2.1<60000) (h2:a.2.2.2.2.2.1-a.2.2.2.2.2.2.1≤3):Wk k (yJ a):=by
 obtain⟨⟨c1,c2,c3,c4,c5,c6,c7,c8,c9,c10,c11⟩,g2,g3,g4,g5⟩:=h;have e:i64.wrap (a.2.2.2.2.2.1+1)=a.2.2.2.2.2.1+1:=wr (by omega) (by omega);refine⟨⟨c1,c2,c3,c4,c5,c6,c7,⟨?_,?_⟩,?_,c10,c11⟩,g2,g3,g4,g5⟩
 ·show a.2.2.2.2.2.2.1≤i64.wrap (a.2.2.2.2.2.1+1); omega
 ·show i64.wrap (a.2.2.2.2.2.1+1)≤60000; omega
 ·show i64.wrap (a.2.2.2.2.2.1+1)≤a.2.2.2.2.2.2.1+4; omega
theorem yfm {a b:dA} (h:yw a=yw b):a.2.2.2.2.2.1=b.2.2.2.2.2.1:=congrArg (fun x=>x.2.2.2.2.1) h
theorem yWW {a b:dA} (h:yw a=yw b):a.2.2.2.2.2.2.1=b.2.2.2.2.2.2.1:=congrArg (fun x=>x.2.2.2.2.2.1) h
theorem yRx {a:dA} (h:ycp a):yw (yo a)=yw (yaq (yQ a)):=by
 rw[yGT h,yij];have:=yaD a;unfold yw at this ⊢;simp only[Prod.mk.injEq]at this;obtain⟨h1,h2,h3,h4,h5,h6,h7,h8,h9⟩:=this;unfold yaq yQ;simp only[h1,h2,h3,h4,h5,h7,h8,h9]
theorem y3Q {k:Int} {a:dA} (h:Wk k a) (hk:k+1≤60000):Wk (k+1) (yv a)∧(yv a).2.2.2.2.2.1=a.2.2.2.2.2.1∧(yv a).2.2.2.2.2.1-(yv a).2.2.2.2.2.2.1≤3:=by
 have c:=h.1;unfold yU at c;unfold yv;rw[wr (by omega) (by omega)];cases h4:leb 4 (a.2.2.2.2.2.1-a.2.2.2.2.2.2.1)
 ·refine⟨yc7 h (by omega),rfl,?_⟩
  have: ¬(4≤a.2.2.2.2.2.1-a.2.2.2.2.2.2.1):=fun g=>by rw[zk0 g]at h4; cases h4
  show a.2.2.2.2.2.1-a.2.2.2.2.2.2.1≤3; omega
 ·have e1:(yo a).2.2.2.2.2.1=a.2.2.2.2.2.1:=(yfm (yRx h.2.2.1)).trans rfl
  have e2:(yo a).2.2.2.2.2.2.1=a.2.2.2.2.2.1:=(yWW (yRx h.2.2.1)).trans rfl;rw[cond_true];exact⟨y0d h hk,e1,by omega⟩
theorem y20 {k:Int} {a:dA} (s:Int) (d:List Int) (h:Wk k a) (hs:a.2.2.2.2.2.1<60000) (hk:k+1≤60000):Wk (k+1) (yK a s d).2∧(yK a s d).1=0:=by
 obtain⟨h1,h2,h3⟩:=y3Q h hk;have h4:=y3S ((yv a).2.2.2.2.2.1,s,d) h1;have e1:=yfm (ybe (yv a) ((yv a).2.2.2.2.2.1,s,d));have e2:=yWW (ybe (yv a) ((yv a).2.2.2.2.2.1,s,d));unfold yK;generalize yp (yv a) ((yv a).2.2.2.2.2.1,s,d)=R at h4 e1 e2 ⊢;have h5:=y3r s d (y2X h4 (by omega) (by omega));generalize yF (yJ R) s d=Q at h5 ⊢;rw[h1.2.2.1.1,h4.2.2.1.1,h5.2.2.1.1];exact⟨h5,rfl⟩
theorem yNb {k:Int} {a:dA} {l:List dW} (h:Wk k a) (hd:yaO a.2.1 l=true):Wk k (ywK a l):=by
 obtain⟨⟨c1,c2,c3,c4,c5,c6,c7,c8,c9,c10,c11⟩,g2,g3,g4,g5⟩:=h;exact⟨⟨c1,c2,hd,c4,c5,c6,c7,c8,c9,c10,c11⟩,g2,g3,g4,g5⟩
theorem yXl (a:dA) (s:Int) (d:List Int):(yK a s d).2.2.1=a.2.1:=by
 unfold yK;have h2:=(yah (ybe (yv a) ((yv a).2.2.2.2.2.1,s,d))).trans (yU4 a);generalize yp (yv a) ((yv a).2.2.2.2.2.1,s,d)=R at h2 ⊢;have h3:=(yah (ydU (yJ R) s d)).trans (show(yJ R).2.1=a.2.1 from h2);generalize yF (yJ R) s d=Q at h3 ⊢;cases ya (yv a)
 ·cases ya R
  ·exact h3
  ·exact h2
 ·exact yU4 a
theorem y0e {k:Int} {a:dA} (s:Int) (h:Wk k a) (hk:k+1≤60000):Wk (k+1) (yaM a s).2:=by
 unfold yaM;cases ltb (yai a.2.2.2.2.2.2.2.2.1 s) 0
 ·generalize hD:(nth a.2.2.2.2.2.2.2.2.1 (yai a.2.2.2.2.2.2.2.2.1 s) (0,[])).2=D
  cases hc:(yar a s D !=0)
  ·have hz:=yEf (bne_eq_false_iff_eq.1 hc)
   obtain⟨h1,h2⟩:=y20 s D h hz.2.2.2.2.2.2.1 hk;rw[show((yK a s D).1==0)=true from beq_iff_eq.2 h2];exact yNb h1 (by rw[yXl]; exact yWY _ h.1.2.2.1)
  ·exact yc7 h (by omega)
 ·exact yc7 h (by omega)
theorem y0f {k:Int}: ∀(n i:Nat) (j:Int) (a:dA),Wk j a→j+n≤k→k≤60000→Wk k (goE ylp (fun b=>((0:Int),b)) n i a).2
 | 0,_,j,a,h,h1,_=>yc7 h (by omega)
 | n+1,i,j,a,h,h1,h2=>by
  have h3:=y0e (nth a.2.2.2.2.2.2.2.2.1 0 (0,[])).1 h (by omega);unfold goE ylp;cases((yaM a (nth a.2.2.2.2.2.2.2.2.1 0 (0,[])).1).1 !=0)
  ·exact y0f n (i+1) (j+1) _ h3 (by omega) h2
  ·exact yc7 h3 (by omega)
theorem y3O {k:Int} {a:dA} (h:Wk k a) (hk:k+8≤60000):Wk (k+8) (yIF a).2:=by
 have:=yxg h.1.2.2.1 h.1.1;exact y0f _ 0 k a h (by omega) hk
theorem y3T {k:Int} {a:dA} {b n:Int} (h:Wk k a) (hb:ykn a.2.1 b=true) (hn:isW n=true):Wk k (ypS a b n).2:=by
 unfold ypS;cases hs:(ybB a (yb2 a.2.1 b)).2
 ·exact h
 ·have hstr:=yFB hb
  have hl:=yzu (y3P h) hstr hs;refine yNb h (yWZ h.1.2.2.1 ⟨(yY.1 hstr).2,by rw[List.length_set]; exact hl,yWK ?_ hn⟩);unfold ybB;cases hk:leb 0 (yai a.2.2.2.2.2.2.2.2.1 (yb2 a.2.1 b))
  ·rw[h.2.2.2.1]; exact yWX _ _
  ·have:=(ymY (d:=((0:Int),([]:List Int))) hk).1
   exact yGk (P:=fun e:dW=>e.2.all isW=true) this (fun e he=>((yxf.1 h.1.2.2.1).1 e he).2.2)
theorem yXk {k:Int} {a b:dA} (h:Wk k a) (ht:Turned a b) (hk:k+8≤60000):Wk (k+8) b:=by
 cases ht with
 | same=>exact yc7 h (by omega)
 | put b x hb hx=>exact yc7 (y3T h hb hx) (by omega)
 | flush s=>exact yc7 (y0e s h (by omega)) (by omega)
 | all=>exact y3O h hk
 | fail m hl hm=>exact yc7 (y3s h hl hm (by omega)) (by omega)
 | spare hl _=>exact yc7 (y2Y h hl (by omega)) (by omega)
 | step hl _ hb=>exact yc7 (y3t h hl hb) (by omega)
 | check=>exact yc7 (y0d h (by omega)) (by omega)
 | spoil m s _ hm _ _=>exact yc7 (y2Z h hm) (by omega)
structure Ix (k:Int) (V:Int→Int→Int) (a:dA):Prop where
 xc:yU a
 xk:yE a
 xu:ya a=false
 xb:a.2.2.2.2.2.2.2.2.2.2.2=false
 xg:a.2.2.2.2.2.2.2.1≤k
 xs:a.2.2.2.2.2.1≤k
 xe:EvV a.2.1 V
 xv:yGQ V a
 xn: ∀i,0≤i→i<a.2.1.1→((yi a i).2.1.length:Int)≤1+(bif i==a.2.2.2.1 then a.2.2.2.2.1 else 0)
theorem ySj {k:Int} {V:Int→Int→Int} {a:dA} (h:Ix k V a):yal a=true:=yFT.2 ⟨h.xc,h.xk⟩
theorem yVi {k j:Int} {V:Int→Int→Int} {a:dA} (h:Ix k V a) (hj:k≤j):Ix j V a:=⟨h.xc,h.xk,h.xu,h.xb,Int.le_trans h.xg hj,Int.le_trans h.xs hj,h.xe,h.xv,h.xn⟩
def yBD (S:Int) (m x:dM):Prop:=(x.2.2.1=false→m.2.2.1=false∧ ∀k,6≤k→k<6+S→yaT x k=false→yaT m k=false∧yb1 x k=yb1 m k)
theorem yEL (S:Int) (m:dM):yBD S m m:=fun h=>⟨h,fun _ _ _ hb=>⟨hb,rfl⟩⟩
theorem yG2 {S:Int} {m x y:dM} (h:yBD S m x) (g:yBD S x y):yBD S m y:=fun hy=>by
 obtain⟨h1,h2⟩:=g hy;obtain⟨h3,h4⟩:=h h1;exact⟨h3,fun k k0 k1 hb=>⟨(h4 k k0 k1 (h2 k k0 k1 hb).1).1,(h2 k k0 k1 hb).2.trans (h4 k k0 k1 (h2 k k0 k1 hb).1).2⟩⟩
theorem yA0 {S:Int} {m:dM} (h:yu m=true):yBD S m (yz m):=fun hf=>by
 rw[(yrS m).2]at hf;exact⟨hf,fun k k0 k1 hb=>⟨by rw[yIM]at hb; exact hb,y1M h hf (by omega)⟩⟩
theorem yOE {S n:Int} {s:List Int} {m:dM} (hn:n<6):yBD S m (ydY n s m):=fun hf=>by
 unfold ydY at hf ⊢;cases hm:m.2.2.1
 ·refine⟨rfl,fun k k0 k1 hb=> ?_⟩
  rw[cond_false]at hb ⊢;cases hc:ybc m n s
  ·unfold yT at hb ⊢
   rw[hc]at hb ⊢; exact⟨hb,rfl⟩
  ·rw[yw0 hc,show(k !=n)=true from bne_iff_ne.2 (by omega),Bool.and_true]at hb
   rw[ymW hc,show(n==k)=false from beq_eq_false_iff_ne.2 (by omega)];exact⟨hb,rfl⟩
 ·rw[hm]at hf
  rw[cond_true,hm]at hf; cases hf
theorem yEH (n:Int) (s:List Int) (m:dM):(ydY n s m).2.2.1=m.2.2.1:=by
 unfold ydY;cases hm:m.2.2.1
 ·show(yT m n s).1.2.2.1=false
  rw[(yya m n s).2]; exact hm
 ·exact hm
theorem yKq {V:Int→Int→Int} {a b:dA} (hg:b.2.1=a.2.1) (hl: ∀i s,0≤i→i<a.2.1.1→0≤s→yab b.2.2.2.1 b.2.2.2.2.1 i s (yi b i)=true→(i !=a.2.2.2.1||ltb s a.2.2.2.2.1)=true∧yBD a.2.1.2 (yi a i) (yi b i)) (h:yGQ V a):yGQ V b:=fun i s i0 i1 s0 s1 hh=>by
 rw[hg]at i1 s1;unfold yZ at hh;rw[Bool.and_eq_true,Bool.not_eq_true']at hh;obtain⟨h1,h2⟩:=hl i s i0 i1 s0 hh.1
 have hf:(yi b i).2.2.1=false:=by
  have:=hh.1;simp only[yab,Bool.and_eq_true,Bool.not_eq_true']at this; exact this.1
 obtain⟨h3,h4⟩:=h2 hf;obtain⟨h5,h6⟩:=h4 (s+6) (by omega) (by omega) hh.2;rw[h6];exact h i s i0 i1 s0 s1 (by unfold yZ yab; rw[h3,h1,h5]; rfl)
theorem y2c {V:Int→Int→Int} {a b:dA} (hc:yw b=yw a) (hl: ∀i,0≤i→i<a.2.1.1→yBD a.2.1.2 (yi a i) (yi b i)) (h:yGQ V a):yGQ V b :=
 yKq (yah hc) (fun i s i0 i1 s0 hh=>⟨by
  rw[ymV hc,yig hc]at hh
  simp only[yab,Bool.and_eq_true]at hh; exact hh.2,hl i i0 i1⟩) h
theorem yKA {k:Int} {V:Int→Int→Int} {a b:dA} (hc:yw b=yw a) (hk:yE b) (hu:ya b=false) (hl: ∀i,0≤i→i<a.2.1.1→yBD a.2.1.2 (yi a i) (yi b i)∧(yi b i).2.1.length≤(yi a i).2.1.length) (h:Ix k V a):Ix k V b:=by
 refine⟨yA3 hc h.xc,hk,hu,(yqU hc).trans h.xb,by rw[yqV hc]; exact h.xg,by rw[yfm hc]; exact h.xs,by rw[yah hc]; exact h.xe,y2c hc (fun i i0 i1=>(hl i i0 i1).1) h.xv,fun i i0 i1=> ?_⟩;rw[yah hc]at i1;rw[ymV hc,yig hc];have:=h.xn i i0 i1;have:=(hl i i0 i1).2;omega
theorem yBZ {g:Int→dM→dM} {a r:dA} (h:Adv g a r a.2.2.1.length) (hu:ya r=false) {i:Int} (i0:0≤i) (i1:i<(a.2.2.1.length:Int)):yi r i=g i (yi a i):=by
 obtain⟨_,_,k,h1,h2,h3⟩:=h;rw[h2 i i0,h3 hu,zkw i1]; rfl
theorem yHm {a:dA} (hu:ya (yd a)=false) {i:Int} (i0:0≤i) (i1:i<(a.2.2.1.length:Int)):yi (yd a) i=yz (yi a i):=by
 cases hd:ya a
 ·exact yBZ (yQx hd) hu i0 i1
 ·rw[yr2 hd]at hu; rw[hd]at hu; cases hu
theorem y0Z {a:dA} (hu:ya (yd a)=false):ya a=false:=by
 cases hd:ya a
 ·rfl
 ·rw[yr2 hd]at hu; rw[hd]at hu; cases hu
theorem yM1 {m:dM} (h:yu m=true):(yz m).2.1.length≤m.2.1.length:=by
 unfold yz;rw[h];cases m.2.2.1
 ·exact Nat.zero_le _
 ·exact Nat.le_refl _
theorem y0M {k:Int} {V:Int→Int→Int} {a:dA} (h:Ix k V a) (hu:ya (yd a)=false):Ix k V (yd a) :=
 yKA (yaD a) (yj2 h.xk) hu (fun i i0 i1=>by
  obtain⟨d1,_,_⟩:=ydD h.xk i0 i1;rw[yHm hu i0 (by have:=h.xk.1.2; omega)]
  exact⟨yA0 d1,yM1 d1⟩) h
theorem y3n {a:dA} (hu:ya (yy a)=false):ya ((List.range a.2.2.1.length).foldl y9 (yaq a))=false∧ya a=false:=by
 have h1:=y0Z hu;refine⟨h1,?_⟩;cases hd:ya a
 ·rfl
 ·rw[yj0 (one:=y9) (fun _ _ h=>yni h _ _ _) _ (yaq a) hd]at h1
  exact(hd.symm.trans h1)
theorem yZR {a:dA} (hu:ya (yy a)=false) {i:Int} (i0:0≤i) (i1:i<(a.2.2.1.length:Int)):yi (yy a) i=yz (yY9 (yaq a) i (yi a i)):=by
 obtain⟨h1,h2⟩:=y3n hu;have hl:((List.range a.2.2.1.length).foldl y9 (yaq a)).2.2.1.length=a.2.2.1.length:=yiB (one:=y9) (fun _ _=>you _ _ _ _) _ (yaq a);unfold yy at hu ⊢;rw[yHm hu i0 (by omega)];exact congrArg yz (yBZ (a:=yaq a) (yZQ (a:=yaq a) h2) h1 i0 i1)
theorem yog {n:Int} {s:List Int} {m:dM} (h:yu m=true):yu (ydY n s m)=true:=by
 unfold ydY;cases m.2.2.1
 ·exact y0h _ _ h
 ·exact h
theorem ytK {n:Int} {s:List Int} {m:dM} (h:yu m=true):(yz (ydY n s m)).2.1.length≤m.2.1.length:=by
 cases hf:m.2.2.1
 ·rw[(yAT (yog h) ((yEH n s m).trans hf)).1]; exact Nat.zero_le _
 ·have e:ydY n s m=m:=by unfold ydY; rw[hf]; rfl
  rw[e]; exact yM1 h
theorem yjW {q:Int} (h:0≤q):2≤yf q∧yf q<6∧yf q=2+q % 4:=by
 unfold yf;rw[zk1 h,cond_false,Int.tmod_eq_emod_of_nonneg h];have:=Int.emod_nonneg q (show(4:Int)≠0 by omega);have:=Int.emod_lt_of_pos q (show(0:Int)<4 by omega);rw[wr (by omega) (by omega)]; omega
theorem yHo {g:Int} (h:0≤g):0≤g.tmod 2∧g.tmod 2<2:=by
 rw[Int.tmod_eq_emod_of_nonneg h]; omega
theorem yU5 {a b:dA} (h:yw a=yw b):a.2.2.2.2.2.2.1=b.2.2.2.2.2.2.1:=congrArg (fun x=>x.2.2.2.2.2.1) h
theorem y0L {k:Int} {V:Int→Int→Int} {a:dA} (h:Ix k V a) (hk:k+1≤60000) (hu:ya (yy a)=false):Ix (k+1) V (yy a):=by
 have c:=h.xc;unfold yU at c;have hgk:=h.xg;have hsk:=h.xs;have e:i64.wrap (a.2.2.2.2.2.2.2.1+1)=a.2.2.2.2.2.2.2.1+1:=wr (by omega) (by omega)
 have hG:Ix (k+1) V (yaq a):=by
  obtain⟨⟨c1,c2,c3,c4,c5,c6,c7,c8,c9,c10,c11⟩,g2,g3,g4,g5,g6,g7,g8,g9⟩:=h;refine⟨⟨c1,c2,c3,c4,c5,c6,c7,c8,c9,?_,?_⟩,g2,g3,g4,?_,?_,g7,g8,g9⟩
  ·show 0≤i64.wrap (a.2.2.2.2.2.2.2.1+1); omega
  ·show i64.wrap (a.2.2.2.2.2.2.2.1+1)≤_; omega
  ·show i64.wrap (a.2.2.2.2.2.2.2.1+1)≤_; omega
  ·show a.2.2.2.2.2.1≤k+1; omega
 refine yKA (a:=yaq a) (yij a) (yxK h.xk) hu (fun i i0 i1=> ?_) hG;have i1':i<a.2.1.1:=i1;obtain⟨d1,_,_⟩:=ydD h.xk i0 i1';rw[yZR hu i0 (by have:=h.xk.1.2; omega)]
 have hn:(yaq a).2.2.2.2.2.2.2.1.tmod 2<6:=by
  show(i64.wrap (a.2.2.2.2.2.2.2.1+1)).tmod 2<6;have:=yHo (g:=i64.wrap (a.2.2.2.2.2.2.2.1+1)) (by omega);omega
 exact⟨yG2 (yOE hn) (yA0 (yog d1)),ytK d1⟩
theorem yW8 {k:Int} {V:Int→Int→Int} {a:dA} (h:Ix k V a):Ix k V (yQ a):=by
 obtain⟨⟨c1,c2,c3,c4,c5,c6,c7,c8,c9,c10,c11⟩,g2,g3,g4,g5,g6,g7,g8,g9⟩:=h;refine⟨⟨c1,c2,c3,c4,c5,c6,⟨?_,?_⟩,⟨Int.le_refl _,c8.2⟩,?_,c10,c11⟩,g2,g3,g4,g5,g6,g7,g8,g9⟩
 ·show 0≤a.2.2.2.2.2.1; omega
 ·show a.2.2.2.2.2.1≤60000; omega
 ·show a.2.2.2.2.2.1≤a.2.2.2.2.2.1+4; omega
theorem yGU {a:dA} (hu:ya (yo a)=false):ya (yd a)=false∧yo a=yy (yQ (yd a)):=by
 unfold yo at hu ⊢;cases hd:ya (yd a)
 ·exact⟨rfl,rfl⟩
 ·rw[hd]at hu; exact absurd (hd.symm.trans hu) (by simp)
theorem yOD {k:Int} {V:Int→Int→Int} {a:dA} (h:Ix k V a) (hk:k+1≤60000) (hu:ya (yo a)=false):Ix (k+1) V (yo a):=by
 obtain⟨h1,h2⟩:=yGU hu;rw[h2]at hu ⊢;exact y0L (yW8 (y0M h h1)) hk hu
theorem y3J {a:dA} {r:dN} (hu:ya (yp a r)=false):ya ((List.range a.2.2.1.length).foldl (ya1 r) a)=false∧ya a=false:=by
 have h1:=y0Z hu;refine⟨h1,?_⟩;cases hd:ya a
 ·rfl
 ·rw[yj0 (one:=ya1 r) (fun _ _ h=>yni h _ _ _) _ a hd]at h1
  exact(hd.symm.trans h1)
theorem yKD {a:dA} {r:dN} (hu:ya (yp a r)=false) {i:Int} (i0:0≤i) (i1:i<(a.2.2.1.length:Int)):yi (yp a r) i=yz (ydY (yf r.1) (yX r) (yi a i)):=by
 obtain⟨h1,h2⟩:=y3J hu;have hl:((List.range a.2.2.1.length).foldl (ya1 r) a).2.2.1.length=a.2.2.1.length:=yiB (ykE r) _ a;unfold yp at hu ⊢;rw[yHm hu i0 (by omega)];exact congrArg yz (yBZ (y0V r h2) h1 i0 i1)
theorem y3D {k:Int} {V:Int→Int→Int} {a:dA} {r:dN} (h:Ix k V a) (hr:0≤r.1) (hu:ya (yp a r)=false):Ix k V (yp a r)∧ ∀i,0≤i→i<a.2.1.1→(yi (yp a r) i).2.2.1=false→(yi (yp a r) i).2.1= []:=by
 refine⟨yKA (ybe a r) (ywj r h.xk) hu (fun i i0 i1=> ?_) h,fun i i0 i1 hf=> ?_⟩
 ·obtain⟨d1,_,_⟩:=ydD h.xk i0 i1
  rw[yKD hu i0 (by have:=h.xk.1.2; omega)];exact⟨yG2 (yOE (yjW hr).2.1) (yA0 (yog d1)),ytK d1⟩
 ·obtain⟨d1,_,_⟩:=ydD h.xk i0 i1
  rw[yKD hu i0 (by have:=h.xk.1.2; omega)]at hf ⊢;rw[(yrS _).2]at hf;exact(yAT (yog d1) hf).1
theorem y2y {k:Int} {V:Int→Int→Int} {a:dA} (h:Ix k V a) (h1:a.2.2.2.2.2.1<60000) (h2:a.2.2.2.2.2.1-a.2.2.2.2.2.2.1≤3):Ix (k+1) V (yJ a):=by
 obtain⟨⟨c1,c2,c3,c4,c5,c6,c7,c8,c9,c10,c11⟩,g2,g3,g4,g5,g6,g7,g8,g9⟩:=h;have e:i64.wrap (a.2.2.2.2.2.1+1)=a.2.2.2.2.2.1+1:=wr (by omega) (by omega);refine⟨⟨c1,c2,c3,c4,c5,c6,c7,⟨?_,?_⟩,?_,c10,c11⟩,g2,g3,g4,?_,?_,g7,g8,g9⟩
 ·show a.2.2.2.2.2.2.1≤i64.wrap (a.2.2.2.2.2.1+1); omega
 ·show i64.wrap (a.2.2.2.2.2.1+1)≤60000; omega
 ·show i64.wrap (a.2.2.2.2.2.1+1)≤a.2.2.2.2.2.2.1+4; omega
 ·show a.2.2.2.2.2.2.2.1≤k+1; omega
 ·show i64.wrap (a.2.2.2.2.2.1+1)≤k+1; omega
def ykM (V:Int→Int→Int) (g:dG) (s:Int) (d:List Int):Int→Int→Int:=fun t i=>bif t==s then ycw (yk g s) g.1 (yax d) d i else V t i
theorem y1a {N p x:Int} {d:List Int} (h:3≤N∧N≤5) (hp:0≤p∧p≤N-1) (hd:(d.length:Int)=N-1):((List.range N.toNat).map (fun(i:Nat)=>ycw p N x d i)).Perm (x::d):=by
 have:N=3∨N=4∨N=5:=by omega
 rcases this with rfl | rfl | rfl
 ·match d,hd with
  | [a,b],_ =>
   have:p=0∨p=1∨p=2:=by omega
   rcases this with rfl | rfl | rfl<;>simp[ycw,nth,List.range_succ,List.perm_iff_count,List.count_cons]<;>(intro z; omega)
  | [],hd=>simp at hd
  | [_],hd=>simp at hd
  | _::_::_::_,hd=>simp only[List.length_cons]at hd; omega
 ·match d,hd with
  | [a,b,c],_ =>
   have:p=0∨p=1∨p=2∨p=3:=by omega
   rcases this with rfl | rfl | rfl | rfl<;>simp[ycw,nth,List.range_succ,List.perm_iff_count,List.count_cons]<;>(intro z; omega)
  | [],hd=>simp at hd
  | [_],hd=>simp at hd
  | [_,_],hd=>simp at hd
  | _::_::_::_::_,hd=>simp only[List.length_cons]at hd; omega
 ·match d,hd with
  | [a,b,c,e],_ =>
   have:p=0∨p=1∨p=2∨p=3∨p=4:=by omega
   rcases this with rfl | rfl | rfl | rfl | rfl<;>simp[ycw,nth,List.range_succ,List.perm_iff_count,List.count_cons]<;>(intro z; omega)
  | [],hd=>simp at hd
  | [_],hd=>simp at hd
  | [_,_],hd=>simp at hd
  | [_,_,_],hd=>simp at hd
  | _::_::_::_::_::_,hd=>simp only[List.length_cons]at hd; omega
theorem yj5 (x:Int) (l:List Int):ye2 (x::l)=bv x ^^^ ye2 l:=by
 have fo: ∀(l:List Int) (v:BitVec 64),l.foldl (fun v x=>v ^^^ bv x) v=v ^^^ ye2 l:=by
  intro l
  induction l with
  | nil=>intro v; show v=v ^^^ 0#64; rw[BitVec.xor_zero]
  | cons y t ih =>
   intro v;unfold ye2;rw[List.foldl_cons,List.foldl_cons,ih,ih (0#64 ^^^ bv y),BitVec.zero_xor,BitVec.xor_assoc]
 show l.foldl _ (0#64 ^^^ bv x)=_;rw[fo,BitVec.zero_xor]
theorem y2j {l m:List Int} (h:l.Perm m):ye2 l=ye2 m:=by
 induction h with
 | nil=>rfl
 | cons x _ ih=>rw[yj5,yj5,ih]
 | swap x y l=>rw[yj5,yj5,yj5,yj5,← BitVec.xor_assoc,BitVec.xor_comm (bv y),BitVec.xor_assoc]
 | trans _ _ h1 h2=>exact h1.trans h2
theorem y2i (d:List Int):ye2 (yax d::d)=0#64:=by rw[yj5,ynF,yv9,BitVec.xor_self]
theorem y09 {N p:Int} {d:List Int} (h:3≤N∧N≤5) (hp:0≤p∧p≤N-1) (hd:(d.length:Int)=N-1):yax ((List.range N.toNat).map (fun(i:Nat)=>ycw p N (yax d) d i))=0:=by
 rw[ynF,y2j (y1a h hp hd),y2i]; rfl
theorem yIK {N p i:Int} {d:List Int} (hd:d.all isW=true):isW (ycw p N (yax d) d i)=true:=by
 unfold ycw;cases(i==p)
 ·exact yVS hd
 ·exact yXm hd
theorem y0J {V:Int→Int→Int} {g:dG} {s:Int} {d:List Int} (h:EvV g V) (hs:yac g s=true) (hl:(d.length:Int)=g.1-1) (hd:d.all isW=true):EvV g (ykM V g s d):=by
 have h1:=yY.1 hs;have hg:=yn.1 h1.1;refine⟨fun t t0 t1=> ?_,fun t i t0 t1 i0 i1=> ?_⟩
 ·unfold yez ykM
  cases ht:(t==s)
  ·exact h.ev t t0 t1
  ·exact y09 hg.1 (yj3 hs) hl
 ·unfold ykM
  cases ht:(t==s)
  ·exact h.ew t i t0 t1 i0 i1
  ·exact yIK hd
theorem yAW {L B p N s i:Int} {d:List Int} {S:Int} {m:dM} (k:Int) (hk:k≠yx s):(yii L B p N s d i m).2.2.1=m.2.2.1∧yaT (yii L B p N s d i m) k=yaT m k∧yb1 (yii L B p N s d i m) k=yb1 m k:=by
 unfold yii;cases hl:yab L B i s m
 ·exact⟨rfl,rfl,rfl⟩
 ·refine⟨(yya _ _ _).2,?_⟩
  rw[cond_true];cases hc:ybc m (yx s) [ycw p N (yax d) d i]
  ·unfold yT; rw[hc]; exact⟨rfl,rfl⟩
  ·rw[yw0 hc,ymW hc,show(k !=yx s)=true from bne_iff_ne.2 hk,show(yx s==k)=false from beq_eq_false_iff_ne.2 (fun e=>hk e.symm),Bool.and_true]
   exact⟨rfl,rfl⟩
theorem yM2 (L B p N s:Int) (d:List Int) (i:Int) (m:dM):(yii L B p N s d i m).2.1.length≤m.2.1.length+1∧(m.2.2.1=true→yii L B p N s d i m=m):=by
 unfold yii;cases hl:yab L B i s m
 ·exact⟨Nat.le_succ _,fun _=>rfl⟩
 ·simp only[yab,Bool.and_eq_true,Bool.not_eq_true']at hl
  refine⟨?_,fun h=>by rw[hl.1]at h; cases h⟩;rw[cond_true];unfold yT;cases ybc m (yx s) [ycw p N (yax d) d i]
  ·exact Nat.le_succ _
  ·show(m.2.1++ [(yx s,[ycw p N (yax d) d i])]).length≤_; rw[List.length_append]; simp only[List.length_cons,List.length_nil]; omega
theorem y3f {k:Int} {V:Int→Int→Int} {a:dA} {s:Int} {d:List Int} (h:Ix k V a) (hs:yac a.2.1 s=true) (hl:(d.length:Int)=a.2.1.1-1) (hd:d.all isW=true)
  (hz: ∀i,0≤i→i<a.2.1.1→(yi a i).2.2.1=false→(yi a i).2.1= []) (hu:ya (yF a s d)=false):Ix k (ykM V a.2.1 s d) (yF a s d):=by
 have hc:=ydU a s d;have h1:=yY.1 hs;have hg:=yn.1 h1.1;have hlen:=h.xk.1.2;have hdsk: ∀i,0≤i→i<a.2.1.1→yi (yF a s d) i=yii a.2.2.2.1 a.2.2.2.2.1 (yk a.2.1 s) a.2.1.1 s d i (yi a i):=fun i i0 i1=>yBZ (yNJ s d h.xu) hu i0 (by omega)
 refine⟨yA3 hc h.xc,yEJ s d h.xk,hu,(yqU hc).trans h.xb,by rw[yqV hc]; exact h.xg,by rw[yfm hc]; exact h.xs,by rw[yah hc]; exact y0J h.xe hs hl hd,fun i t i0 i1 t0 t1 hh=> ?_,fun i i0 i1=> ?_⟩
 ·rw[yah hc]at i1 t1
  obtain⟨d1,d2,d3⟩:=ydD h.xk i0 i1;unfold yZ at hh;rw[ymV hc,yig hc,hdsk i i0 i1,Bool.and_eq_true,Bool.not_eq_true']at hh;rw[hdsk i i0 i1];have hda:=yih (s:=s) h1.2.1 (by omega);unfold ykM;by_cases ht:t=s
  ·subst ht
   rw[beq_self_eq_true,cond_true]
   have hlv:yab a.2.2.2.1 a.2.2.2.2.1 i t (yi a i)=true:=by
    have:=hh.1;unfold yab at this ⊢;rw[(yAW (S:=0) (-1) (by omega)).1]at this;exact this
   have hf:(yi a i).2.2.1=false:=by
    simp only[yab,Bool.and_eq_true,Bool.not_eq_true']at hlv; exact hlv.1
   unfold yii;rw[hlv,cond_true,ymW (ypF d1 hf (by rw[hda]; exact zj4.2 (by omega)) (yxV.2 ⟨by simp,fun x hx=> ?_⟩) (by rw[hz i i0 i1 hf]; decide)),hda,beq_self_eq_true]; rfl;rw[List.mem_singleton.1 hx];exact yrV.1 (yIK hd)
  ·rw[show(t==s)=false from beq_eq_false_iff_ne.2 ht]
   obtain⟨e1,e2,e3⟩:=yAW (L:=a.2.2.2.1) (B:=a.2.2.2.2.1) (p:=yk a.2.1 s) (N:=a.2.1.1) (s:=s) (i:=i) (d:=d) (S:=0) (m:=yi a i) (t+6) (by omega);rw[e3];refine h.xv i t i0 i1 t0 t1 ?_;unfold yZ;rw[e2]at hh;have h2:=hh.1;unfold yab at h2 ⊢;rw[e1]at h2;rw[h2,hh.2]; rfl
 ·rw[yah hc]at i1
  rw[ymV hc,yig hc,hdsk i i0 i1];obtain⟨g1,g2⟩:=yM2 a.2.2.2.1 a.2.2.2.2.1 (yk a.2.1 s) a.2.1.1 s d i (yi a i);have c:=h.xc;unfold yU at c;cases hf:(yi a i).2.2.1
  ·rw[hz i i0 i1 hf]at g1
   simp only[List.length_nil]at g1;cases(i==a.2.2.2.1)
   ·simp only[cond_false]; omega
   ·simp only[cond_true]; omega
  ·rw[g2 hf]
   exact h.xn i i0 i1
theorem y1S {k:Int} {V:Int→Int→Int} {a:dA} (h:Ix k V a) (hk:k+1≤60000) (hu:ya (yv a)=false):Ix (k+1) V (yv a)∧(yv a).2.2.2.2.2.1=a.2.2.2.2.2.1∧(yv a).2.2.2.2.2.1-(yv a).2.2.2.2.2.2.1≤3:=by
 have c:=h.xc;unfold yU at c
 have e0:yv a=bif leb 4 (a.2.2.2.2.2.1-a.2.2.2.2.2.2.1)then yo a else a:=by
  unfold yv;rw[wr (by omega) (by omega)]
 rw[e0]at hu ⊢;cases h4:leb 4 (a.2.2.2.2.2.1-a.2.2.2.2.2.2.1)
 ·refine⟨yVi h (by omega),rfl,?_⟩
  have: ¬(4≤a.2.2.2.2.2.1-a.2.2.2.2.2.2.1):=fun g=>by rw[zk0 g]at h4; cases h4
  show a.2.2.2.2.2.1-a.2.2.2.2.2.2.1≤3; omega
 ·rw[h4]at hu
  simp only[cond_true]at hu ⊢;have hi:=yOD h hk hu;obtain⟨_,h2⟩:=yGU hu;have e:=yij (yQ (yd a));have e1:(yo a).2.2.2.2.2.1=a.2.2.2.2.2.1:=by rw[h2]; exact(yfm e).trans (show(yaq (yQ (yd a))).2.2.2.2.2.1=_ from yfm (a:=yd a) (b:=a) (yaD a))
  have e2:(yo a).2.2.2.2.2.2.1=a.2.2.2.2.2.1:=by rw[h2]; exact(yU5 e).trans (show(yaq (yQ (yd a))).2.2.2.2.2.2.1=_ from yfm (a:=yd a) (b:=a) (yaD a))
  exact⟨hi,e1,by omega⟩
theorem y2B {k:Int} {V:Int→Int→Int} {a:dA} {s:Int} {d:List Int} (h:Ix k V a) (hs:yac a.2.1 s=true) (hl:(d.length:Int)=a.2.1.1-1) (hd:d.all isW=true) (hq:a.2.2.2.2.2.1<60000) (hk:k+1≤60000)
  (hu:ya (yK a s d).2=false):Ix (k+2) (ykM V a.2.1 s d) (yK a s d).2∧(yK a s d).1=0:=by
 unfold yK at hu ⊢;cases hc:ya (yv a)
 ·obtain⟨h1,h2,h3⟩:=y1S h hk hc
  have eg:(yv a).2.1=a.2.1:=yU4 a;rw[hc]at hu;simp only[cond_false]at hu ⊢;have c:=h.xc;unfold yU at c;cases hr:ya (yp (yv a) ((yv a).2.2.2.2.2.1,s,d))
  ·rw[hr]at hu
   simp only[cond_false]at hu ⊢;obtain⟨h4,h5⟩:=y3D (r:=((yv a).2.2.2.2.2.1,s,d)) h1 (by show 0≤(yv a).2.2.2.2.2.1; omega) hr;have e1:=yfm (ybe (yv a) ((yv a).2.2.2.2.2.1,s,d));have e2:=yU5 (ybe (yv a) ((yv a).2.2.2.2.2.1,s,d));have e3:=(yah (ybe (yv a) ((yv a).2.2.2.2.2.1,s,d))).trans eg;rw[eg]at h5;generalize yp (yv a) ((yv a).2.2.2.2.2.1,s,d)=R at h4 h5 e1 e2 e3 hu ⊢;have h6:=y2y h4 (by omega) (by omega);have e4:(yJ R).2.1=a.2.1:=e3;have h7:=y3f (s:=s) (d:=d) h6 (by rw[e4]; exact hs) (by rw[e4]; exact hl) hd (fun i i0 i1 hf=>h5 i i0 (by rw[e4]at i1; exact i1) hf) hu;rw[hu,e4]at *;exact⟨yVi h7 (by omega),rfl⟩
  ·rw[hr]at hu
   exact absurd (hr.symm.trans hu) (by simp)
 ·rw[hc]at hu
  exact absurd (hc.symm.trans hu) (by simp)
theorem yM4 {k:Int} {V:Int→Int→Int} {a:dA} {l:List dW} (h:Ix k V a) (hd:yaO a.2.1 l=true):Ix k V (ywK a l):=by
 obtain⟨⟨c1,c2,c3,c4,c5,c6,c7,c8,c9,c10,c11⟩,g2,g3,g4,g5,g6,g7,g8,g9⟩:=h;exact⟨⟨c1,c2,hd,c4,c5,c6,c7,c8,c9,c10,c11⟩,g2,g3,g4,g5,g6,g7,g8,g9⟩
theorem y0p {a:dA} (s:Int) (h:ya a=true):(yaM a s).2=a:=by
 unfold yaM;cases ltb (yai a.2.2.2.2.2.2.2.2.1 s) 0
 ·cases hc:(yar a s (nth a.2.2.2.2.2.2.2.2.1 (yai a.2.2.2.2.2.2.2.2.1 s) (0,[])).2 !=0)
  ·have:=(yEf (bne_eq_false_iff_eq.1 hc)).2.2.2.1
   rw[h]at this; cases this
  ·rfl
 ·rfl
theorem yWO: ∀(n i:Nat) {a:dA},ya a=true→(goE ylp (fun b=>((0:Int),b)) n i a).2=a
 | 0,_,_,_=>rfl
 | n+1,i,a,h=>by
  unfold goE ylp;have e:=y0p (nth a.2.2.2.2.2.2.2.2.1 0 (0,[])).1 h;cases((yaM a (nth a.2.2.2.2.2.2.2.2.1 0 (0,[])).1).1 !=0)
  ·simp only[cond_false,e]
   exact yWO n (i+1) h
  ·exact e
theorem y3E {k:Int} {V:Int→Int→Int} {a:dA} {b n:Int} (h:Ix k V a) (hb:ykn a.2.1 b=true) (hn:isW n=true):Ix k V (ypS a b n).2:=by
 unfold ypS;cases hs:(ybB a (yb2 a.2.1 b)).2
 ·exact h
 ·have hstr:=yFB hb
  have hl:=yzu (ySj h) hstr hs;refine yM4 h (yWZ h.xc.2.2.1 ⟨(yY.1 hstr).2,by rw[List.length_set]; exact hl,yWK ?_ hn⟩);unfold ybB;cases hk:leb 0 (yai a.2.2.2.2.2.2.2.2.1 (yb2 a.2.1 b))
  ·rw[h.xb]; exact yWX _ _
  ·have:=(ymY (d:=((0:Int),([]:List Int))) hk).1
   exact yGk (P:=fun e:dW=>e.2.all isW=true) this (fun e he=>((yxf.1 h.xc.2.2.1).1 e he).2.2)
theorem yIL {a:dA} {m i:Int} {x:dM} (l:Int) (t:Int×Int×Int×Int×List dW×Int×Bool×Bool) (hm:inb m a.2.2.1.length=true) (hi:0≤i):yi (a.1,a.2.1,a.2.2.1.set m.toNat x,l,t) i=bif m==i then x else yi a i:=yDa hm hi
theorem y1K {a:dA} {m:Int} (hl:a.2.2.2.1= -1∨a.2.2.2.1=m) (hm:inb m a.2.2.1.length=true) (i s:Int) (i0:0≤i) (s0:0≤s) (hh:yab m 0 i s (yi (yas a m) i)=true):(i !=a.2.2.2.1||ltb s a.2.2.2.2.1)=true∧i≠m∧yi (yas a m) i=yi a i:=by
 have e:yi (yas a m) i=bif m==i then ye7 (yi a m)else yi a i:=yIL m _ hm i0;by_cases hi:m=i
 ·subst hi
  rw[e,beq_self_eq_true]at hh;simp only[yab,Bool.and_eq_true,Bool.not_eq_true',cond_true]at hh;have:=hh.1;cases this
 ·rw[show(m==i)=false from beq_eq_false_iff_ne.2 hi]at e
  refine⟨?_,fun e=>hi e.symm,e⟩;rw[show(i !=a.2.2.2.1)=true from bne_iff_ne.2 (by omega)]; rfl
theorem y0s {k m:Int} {V:Int→Int→Int} {a:dA} (h:Ix k V a) (hl:a.2.2.2.1= -1∨a.2.2.2.1=m) (hm:inb m a.2.2.1.length=true):Ix k V (yas a m):=by
 have hmi:=zj4.1 hm
 have hv:yGQ V (yas a m):=yKq (a:=a) (b:=yas a m) rfl (fun i s i0 i1 s0 hh=>by
  obtain⟨h1,h2,h3⟩:=y1K hl hm i s i0 s0 hh;rw[h3]
  exact⟨h1,yEL _ _⟩) h.xv
 have hn: ∀i,0≤i→i<a.2.1.1→((yi (yas a m) i).2.1.length:Int)≤1+(bif i==m then 0 else 0):=fun i i0 i1=>by
  have e:yi (yas a m) i=bif m==i then ye7 (yi a m)else yi a i:=yIL m _ hm i0;rw[e];by_cases hi:m=i
  ·rw[show(m==i)=true from beq_iff_eq.2 hi]
   show(([]:List dW).length:Int)≤_;rw[List.length_nil];cases(i==m)<;>decide
  ·rw[show(m==i)=false from beq_eq_false_iff_ne.2 hi,cond_false]
   have:=h.xn i i0 i1;rw[show(i==a.2.2.2.1)=false from beq_eq_false_iff_ne.2 (by omega)]at this;simp only[cond_false]at this;cases(i==m)<;>simp only[cond_true,cond_false]<;>omega
 obtain⟨⟨c1,c2,c3,c4,c5,c6,c7,c8,c9,c10,c11⟩,⟨⟨g1,g2⟩,g3⟩,f,b,t,t2,t3,_,_⟩:=h;refine⟨⟨c1,c2,c3,⟨?_,?_⟩,⟨Int.le_refl _,by show(0:Int)≤a.2.1.2; omega⟩,fun e=>rfl,c7,c8,c9,c10,c11⟩,⟨⟨?_,?_⟩,g3⟩,f,b,t,t2,t3,hv,hn⟩
 ·show -1≤m; omega
 ·show m≤a.2.1.1-1; omega
 ·show yEM m a.2.2.2.2.2.2.2.2.2.2.2 a.2.1.2 (a.2.2.1.set m.toNat (ye7 (nth a.2.2.1 m yc)))
  refine ym0 (fun i hi=> ?_) (fun hi=> ?_)
  ·obtain⟨e1,e2,e3⟩:=g1 i hi
   refine⟨e1,e2,fun e=> ?_⟩;rcases e3 e with e | e
   ·exact .inl (by omega)
   ·exact .inr e
  ·have:=g1 m.toNat hi
   rw[Int.toNat_of_nonneg hmi.1]at this;exact⟨yU7 this.1,this.2.1,fun _=> .inl (Int.toNat_of_nonneg hmi.1)⟩
 ·show((a.2.2.1.set m.toNat (ye7 (nth a.2.2.1 m yc))).length:Int)=a.2.1.1
  rw[List.length_set]; exact g2
theorem y3b {k m:Int} {V:Int→Int→Int} {a:dA} (h:Ix k V a) (hl:a.2.2.2.1= -1∨a.2.2.2.1=m) (hk:k+1≤60000):yhe a m=yy (yas a m):=by
 have:=h.xg;unfold yhe;rw[h.xu,h.xb,zkw (show a.2.2.2.2.2.2.2.1<60000 by omega)];rcases hl with e | e
 ·rw[show(a.2.2.2.1== -1)=true from beq_iff_eq.2 e]; rfl
 ·rw[show(a.2.2.2.1==m)=true from beq_iff_eq.2 e,Bool.or_true]; rfl
theorem yrX {S:Int} (h:1≤S∧S≤8):yaY (6+S)=(List.replicate (6+S).toNat [],[],false,[]):=by
 unfold yaY;rw[zk0 (show 1≤6+S by omega),zk0 (show 6+S≤20 by omega)]; rfl
theorem y0t {k:Int} {V:Int→Int→Int} {a:dA} (h:Ix k V a) (hm:inb a.2.2.2.1 a.2.2.1.length=true):Ix k V (yV a):=by
 have hg:=yn.1 h.xc.1;have e: ∀i,0≤i→yi (yV a) i=bif a.2.2.2.1==i then yaY (6+a.2.1.2)else yi a i:=fun i i0=>yIL _ _ hm i0
 have hv:yGQ V (yV a):=yKq (a:=a) (b:=yV a) rfl (fun i s i0 i1 s0 hh=>by
  have hh:yab a.2.2.2.1 0 i s (yi (yV a) i)=true:=hh;rw[e i i0]at hh ⊢;simp only[yab,Bool.and_eq_true,Bool.or_eq_true,bne_iff_ne,ne_eq,zj8]at hh;have hne:i≠a.2.2.2.1:=hh.2.resolve_right (by omega);rw[show(a.2.2.2.1==i)=false from beq_eq_false_iff_ne.2 (fun e=>hne e.symm),show(i !=a.2.2.2.1)=true from bne_iff_ne.2 hne]
  exact⟨rfl,yEL _ _⟩) h.xv
 have hn: ∀i,0≤i→i<a.2.1.1→((yi (yV a) i).2.1.length:Int)≤1+(bif i==a.2.2.2.1 then 0 else 0):=fun i i0 i1=>by
  rw[e i i0];by_cases hi:a.2.2.2.1=i
  ·rw[show(a.2.2.2.1==i)=true from beq_iff_eq.2 hi,cond_true,yrX hg.2]
   show(([]:List dW).length:Int)≤_;rw[List.length_nil];cases(i==a.2.2.2.1)<;>decide
  ·rw[show(a.2.2.2.1==i)=false from beq_eq_false_iff_ne.2 hi,cond_false]
   have:=h.xn i i0 i1;rw[show(i==a.2.2.2.1)=false from beq_eq_false_iff_ne.2 (fun e=>hi e.symm)]at this ⊢;exact this
 have hmi:=zj4.1 hm;obtain⟨⟨c1,c2,c3,c4,c5,c6,c7,c8,c9,c10,c11⟩,⟨⟨g1,g2⟩,g3⟩,f,b,t,t2,t3,_,_⟩:=h;refine⟨⟨c1,c2,c3,c4,⟨Int.le_refl _,by show(0:Int)≤a.2.1.2; omega⟩,fun e=>rfl,c7,c8,c9,c10,c11⟩,⟨⟨ym0 g1 (fun hi=>⟨yJu (by omega) (by omega),?_,fun e=> ?_⟩),?_⟩,g3⟩,f,b,t,t2,t3,hv,hn⟩
 ·rw[yrX hg.2]
  show((List.replicate (6+a.2.1.2).toNat ([]:List Int)).length:Int)=6+a.2.1.2;rw[List.length_replicate]; omega
 ·rw[yrX hg.2]at e
  cases e
 ·show((a.2.2.1.set a.2.2.2.1.toNat (yaY (6+a.2.1.2))).length:Int)=a.2.1.1
  rw[List.length_set]; exact g2
theorem y1u (S:Int) (m:dM) (n:Int):yBD S m (spoil m n):=by
 unfold spoil;cases(yu m&&(inb n m.1.length&& !(m.2.2.2.any (· ==n))))
 ·exact yEL _ _
 ·refine fun h=>⟨h,fun k k0 k1 hb=>⟨?_,rfl⟩⟩
  have hb:(ytS m.2.2.2 n).any (· ==k)=false:=hb;show m.2.2.2.any (· ==k)=false;rw[List.any_eq_false]at hb ⊢;intro x hx hxk;have hxk':=beq_iff_eq.1 hxk;refine hb x ?_ hxk;unfold ytS;rw[List.mem_append,List.mem_cons,List.mem_filter,List.mem_filter];rcases Int.lt_trichotomy x n with h1 | h1 | h1
  ·exact .inl ⟨hx,zkw h1⟩
  ·exact .inr (.inl h1)
  ·exact .inr (.inr ⟨hx,zkw h1⟩)
theorem y0B (m:dM) (n:Int):(spoil m n).2.1=m.2.1:=by
 unfold spoil;cases(yu m&&(inb n m.1.length&& !(m.2.2.2.any (· ==n))))<;>rfl
theorem y2z {k m n:Int} {V:Int→Int→Int} {a:dA} (h:Ix k V a) (hm:inb m a.2.2.1.length=true):Ix k V (ybj a m (spoil (nth a.2.2.1 m yc) n)) :=
 yKA (a:=a) (b:=ybj a m (spoil (nth a.2.2.1 m yc) n)) rfl (ypM h.xk hm (fun g=>⟨yQw n g.1,by rw[(ynq _ _).1]; exact g.2.1,by rw[(ynq _ _).2]; exact g.2.2⟩)) h.xu (fun i i0 i1=>by
  rw[yKz hm i0];by_cases hi:m=i
  ·subst hi
   rw[beq_self_eq_true,cond_true];exact⟨y1u _ _ _,by rw[y0B]; exact Nat.le_refl _⟩
  ·rw[show(m==i)=false from beq_eq_false_iff_ne.2 hi]
   exact⟨yEL _ _,Nat.le_refl _⟩) h
theorem y3h {k:Int} {V:Int→Int→Int} {a:dA} (h:Ix k V a) (hl:inb a.2.2.2.1 a.2.2.1.length=true) (hf:(nth a.2.2.1 a.2.2.2.1 yc).2.2.1=false) (hb:a.2.2.2.2.1<a.2.1.2) (hu:ya (yfg a).2=false):Ix k V (yfg a).2:=by
 have hmi:=zj4.1 hl;have hlen:=h.xk.1.2;have hg:=yn.1 h.xc.1;have c:=h.xc;unfold yU at c;have hb0:0≤a.2.2.2.2.1:=by omega
 have hda:=yih hb0 (by omega);have e:=ygW a a.2.2.2.1 (yx a.2.2.2.2.1) [nth (yP a a.2.2.2.2.1).1 a.2.2.2.1 0];have hkp:yE (yaC a):=ywi h.xk hl;have hd:=yA4 (yx a.2.2.2.2.1) [nth (yP a a.2.2.2.2.1).1 a.2.2.2.1 0] h.xu hl;have e1:(yaC a).2.2.2.2.1=a.2.2.2.2.1:=yig e;have e2:(yaC a).2.1=a.2.1:=yah e;have e3:(yaC a).2.2.2.1=a.2.2.2.1:=ymV e;unfold yfg at hu ⊢;cases hw:(yP a a.2.2.2.2.1).2
 ·exact h
 ·rw[hw]at hu
  have hwv:=yUj h.xc.1 h.xk h.xe h.xv hb0 hb
  have hw1:(yP a a.2.2.2.2.1).1=yez V a.2.1.1 a.2.2.2.2.1:=by
   rw[hwv]at hw ⊢;cases hm:yey (fun(i:Nat)=>yZ a a.2.2.2.2.1 i) a.2.1.1.toNat
   ·rfl
   ·rw[hm]at hw; cases hw
  have hx:nth (yP a a.2.2.2.2.1).1 a.2.2.2.1 0=V a.2.2.2.2.1 a.2.2.2.1:=by rw[hw1]; exact y0c V (by omega) (by omega)
  rw[hx]at hd e;have hst:yaC a=ybk a a.2.2.2.1 (yx a.2.2.2.2.1) [V a.2.2.2.2.1 a.2.2.2.1]:=by unfold yaC; rw[hx]
  have hcc:yw (yaC a)=yw a:=by rw[hst]; exact e
  rw[← hst]at hd;generalize yaC a=R at *;simp only[cond_true]at hu ⊢;cases hr:ya R
  ·rw[hr]at hu
   obtain⟨_,_,⟨_,hdd⟩ | ⟨hdd,_⟩⟩:=hd
   ·obtain⟨d1,d2,d3⟩:=ydD h.xk (i:=a.2.2.2.1) (by omega) (by omega)
    have hf':(yi a a.2.2.2.1).2.2.1=false:=hf;have hxw:=h.xe.ew a.2.2.2.2.1 a.2.2.2.1 hb0 hb (by omega) (by omega);have hcn:=h.xn a.2.2.2.1 (by omega) (by omega);rw[beq_self_eq_true,cond_true]at hcn;have hcw:ybc (yi a a.2.2.2.1) (a.2.2.2.2.1+6) [V a.2.2.2.2.1 a.2.2.2.1]=true:=ypF d1 hf' (zj4.2 (by omega)) (yxV.2 ⟨by simp,fun x hx=>by rw[List.mem_singleton.1 hx]; exact yrV.1 hxw⟩) (by omega);have e4:i64.wrap (R.2.2.2.2.1+1)=a.2.2.2.2.1+1:=by rw[e1]; exact wr (by omega) (by omega)
    have hRL:yi R a.2.2.2.1=(yT (yi a a.2.2.2.1) (a.2.2.2.2.1+6) [V a.2.2.2.2.1 a.2.2.2.1]).1:=by
     rw[hdd _ (by omega),beq_self_eq_true,cond_true,hda];unfold ydY;rw[hf']; rfl
    have hRo: ∀i,0≤i→i≠a.2.2.2.1→yi R i=yi a i:=fun i i0 hi=>by rw[hdd i i0,show(a.2.2.2.1==i)=false from beq_eq_false_iff_ne.2 (fun e=>hi e.symm)]; rfl
    have hco:=yA3 hcc h.xc;refine⟨?_,hkp,hr,(yqU hcc).trans h.xb,by show R.2.2.2.2.2.2.2.1≤k; rw[yqV hcc]; exact h.xg,by show R.2.2.2.2.2.1≤k; rw[yfm hcc]; exact h.xs,by show EvV R.2.1 V; rw[e2]; exact h.xe,?_,?_⟩
    ·obtain⟨c1,c2,c3,c4,c5,c6,c7,c8,c9,c10,c11⟩:=hco
     refine⟨c1,c2,c3,c4,⟨?_,?_⟩,fun e=> ?_,c7,c8,c9,c10,c11⟩
     ·show 0≤i64.wrap (R.2.2.2.2.1+1); omega
     ·show i64.wrap (R.2.2.2.2.1+1)≤R.2.1.2; rw[e4,e2]; omega
     ·have:R.2.2.2.1= -1:=e
      omega
    ·intro i t i0 i1 t0 t1 hh
     have i1:i<R.2.1.1:=i1;have t1:t<R.2.1.2:=t1;rw[e2]at i1 t1;unfold yZ at hh;have hh:(yab R.2.2.2.1 (i64.wrap (R.2.2.2.2.1+1)) i t (yi R i)&& !(yaT (yi R i) (t+6)))=true:=hh;show yb1 (yi R i) (t+6)= [V t i];rw[e3,e4]at hh;by_cases hi:i=a.2.2.2.1
     ·subst hi
      rw[hRL]at hh ⊢;rw[ymW hcw];by_cases ht:a.2.2.2.2.1+6=t+6
      ·rw[show(a.2.2.2.2.1+6==t+6)=true from beq_iff_eq.2 ht,show a.2.2.2.2.1=t by omega]; rfl
      ·rw[show(a.2.2.2.2.1+6==t+6)=false from beq_eq_false_iff_ne.2 ht,cond_false]
       refine h.xv _ t i0 i1 t0 t1 ?_;rw[yw0 hcw,show(t+6 !=a.2.2.2.2.1+6)=true from bne_iff_ne.2 (fun e=>ht e.symm),Bool.and_true,Bool.and_eq_true]at hh;have h2:=hh.1;simp only[yab,Bool.and_eq_true,Bool.or_eq_true,bne_self_eq_false,Bool.false_eq_true,false_or,zj8]at h2;unfold yZ yab;rw[hf',hh.2,zkw (show t<a.2.2.2.2.1 by omega),Bool.or_true]; rfl
     ·rw[hRo i i0 hi]at hh ⊢
      refine h.xv i t i0 i1 t0 t1 ?_;rw[Bool.and_eq_true]at hh;have h2:=hh.1;simp only[yab,Bool.and_eq_true]at h2;unfold yZ yab;rw[h2.1,hh.2,show(i !=a.2.2.2.1)=true from bne_iff_ne.2 hi]; rfl
    ·intro i i0 i1
     have i1:i<R.2.1.1:=i1;rw[e2]at i1;show((yi R i).2.1.length:Int)≤1+(bif i==R.2.2.2.1 then i64.wrap (R.2.2.2.2.1+1)else 0);rw[e3,e4];by_cases hi:i=a.2.2.2.1
     ·subst hi
      rw[hRL,yHt hcw,beq_self_eq_true,cond_true];show(((yi a a.2.2.2.1).2.1++ [(a.2.2.2.2.1+6,[V a.2.2.2.2.1 a.2.2.2.1])]).length:Int)≤_;rw[List.length_append];simp only[List.length_cons,List.length_nil];omega
     ·rw[hRo i i0 hi,show(i==a.2.2.2.1)=false from beq_eq_false_iff_ne.2 hi]
      have:=h.xn i i0 i1;rw[show(i==a.2.2.2.1)=false from beq_eq_false_iff_ne.2 hi]at this;exact this
   ·rw[hr]at hdd; cases hdd
  ·rw[hr]at hu
   exact absurd (hr.symm.trans hu) (by simp)
theorem yM7 {id i:Int} {g:dG} (hg:ye g=true): ∀n:Nat,n≤g.2.toNat→ ∀k:Int,0≤k→nth ((List.range n).foldl yon (yiu id g i)).1 k []=bif leb 6 k&&ltb k (6+n)then[0]else bif k==0 then yl (yZT id g i)else[]:=by
 have hge:=yn.1 hg;intro n
 induction n with
 | zero =>
  intro _ k hk;show nth (yiu id g i).1 k []=_;unfold yiu;rw[yrX hge.2];have h0:inb 0 (List.replicate (6+g.2).toNat ([]:List Int)).length=true:=by rw[List.length_replicate]; exact zj4.2 (by omega)
  have:=yDa (x:=yl (yZT id g i)) (d:=([]:List Int)) h0 hk;rw[show(0:Int).toNat=0 from rfl]at this;rw[this]
  have e1:(leb 6 k&&ltb k (6+((0:Nat):Int)))=false:=by
   cases h:(leb 6 k&&ltb k (6+((0:Nat):Int)))
   ·rfl
   ·rw[Bool.and_eq_true,zj5,zj8]at h; omega
  rw[e1,cond_false];by_cases h:k=0
  ·rw[show((0:Int)==k)=true from beq_iff_eq.2 h.symm,show(k==0)=true from beq_iff_eq.2 h]; rfl
  ·rw[show((0:Int)==k)=false from beq_eq_false_iff_ne.2 (fun e=>h e.symm),show(k==0)=false from beq_eq_false_iff_ne.2 h,cond_false,cond_false]
   unfold nth;rw[List.getD_eq_getElem?_getD,List.getElem?_replicate];split<;>rfl
 | succ n ih =>
  intro hn k hk;rw[List.range_succ,List.foldl_append,List.foldl_cons,List.foldl_nil]
  have hlen:((List.range n).foldl yon (yiu id g i)).1.length=(6+g.2).toNat:=by
   rw[yM6];show((yaY (6+g.2)).1.set 0 _).length=_;rw[List.length_set,yrX hge.2];show(List.replicate (6+g.2).toNat ([]:List Int)).length=_;rw[List.length_replicate]
  have h1:=ih (by omega) k hk;generalize (List.range n).foldl yon (yiu id g i)=M at h1 hlen ⊢;show nth (M.1.set (n+6) [0]) k []=_;have:=yDa (l:=M.1) (i:=((n+6:Nat):Int)) (x:= [0]) (d:=([]:List Int)) (zkP (by omega)) hk;rw[Int.toNat_natCast]at this;rw[this,h1];by_cases h:((n+6:Nat):Int)=k
  ·rw[show(((n+6:Nat):Int)==k)=true from beq_iff_eq.2 h,zk0 (show 6≤k by omega),zkw (show k<6+((n+1:Nat):Int)by omega)]; rfl
  ·rw[show(((n+6:Nat):Int)==k)=false from beq_eq_false_iff_ne.2 h,cond_false,show ltb k (6+((n+1:Nat):Int))=ltb k (6+(n:Int))by rw[Bool.eq_iff_iff,zj8,zj8]; omega]
theorem yZF (g:dG):EvV g (fun _ _=>0):=by
 refine⟨fun s _ _=> ?_,fun _ _ _ _ _ _=>rfl⟩;unfold yez;rw[ynF]
 have: ∀l:List Nat,ye2 (l.map (fun(_:Nat)=>(0:Int)))=0#64:=by
  intro l
  induction l with
  | nil=>rfl
  | cons x t ih=>rw[List.map_cons,yj5,ih]; decide
 rw[this]; rfl
theorem y1X {id:Int} {g:dG} (hg:ye g=true) (h1:1≤id) (h2:id≤60000) {i:Int} (i0:0≤i) (i1:i<g.1):yi (yed id g) i=yM id g i:=by
 rw[yDX hg h1 h2];show nth ((List.range g.1.toNat).map (fun(i:Nat)=>yM id g i)) i yc=_;unfold nth;rw[zkH (by rw[List.length_map,List.length_range]; omega),List.getElem_map,List.getElem_range,Int.toNat_of_nonneg i0]
theorem y3C {id:Int} {g:dG} (hg:ye g=true) (h1:1≤id) (h2:id≤60000):Ix 0 (fun _ _=>0) (yed id g):=by
 have hw:=y0g hg h1 h2;have hge:=yn.1 hg;have e:=yDX hg h1 h2;have eg:(yed id g).2.1=g:=by rw[e]
 have ed: ∀i,0≤i→i<g.1→yi (yed id g) i=yM id g i:=fun i i0 i1=>y1X hg h1 h2 i0 i1
 refine⟨hw.1,hw.2.1,hw.2.2.1.1,hw.2.2.2.1,hw.2.2.2.2,by rw[e]; exact Int.le_refl _,yZF _,fun i s i0 i1 s0 s1 _=> ?_,fun i i0 i1=> ?_⟩
 ·rw[eg]at i1 s1
  rw[ed i i0 i1];obtain⟨_,_,n3⟩:=yoo id i hg;unfold yb1;rw[n3];show nth (yM id g i).1 (s+6) []=_;unfold yM;rw[yM7 hg g.2.toNat (Nat.le_refl _) (s+6) (by omega),zk0 (show 6≤s+6 by omega),zkw (show s+6<6+(g.2.toNat:Int)by omega)]; rfl
 ·rw[eg]at i1
  rw[ed i i0 i1,(yoo id i hg).2.2,e];show((([]:List dW).length:Nat):Int)≤1+(bif i== -1 then 0 else 0);rw[List.length_nil];cases(i== -1)<;>decide
def ybr (a:dA) (s:Int):Nat:=ymt (fun(i:Nat)=>yZ a s i) a.2.1.1.toNat
theorem yZI {k:Int} {V:Int→Int→Int} {a:dA} {s:Int} (h:Ix k V a) (s0:0≤s) (s1:s<a.2.1.2):yP a s=bif decide (ybr a s<2)then(yez V a.2.1.1 s,true)else([],false):=by
 rw[yUj h.xc.1 h.xk h.xe h.xv s0 s1,(ySo _ _).2];show(bif decide (2≤ybr a s)then([],false)else(yez V a.2.1.1 s,true))=_;by_cases h2:ybr a s<2
 ·rw[decide_eq_true h2,decide_eq_false (by omega)]; rfl
 ·rw[decide_eq_false h2,decide_eq_true (by omega)]; rfl
def yKv (V:Int→Int→Int) (g:dG) (s:Int):List Int:=(List.range (g.1-1).toNat).map (fun(i:Nat)=>nth (yez V g.1 s) (ybA g s i) 0)
theorem y2A {k:Int} {V:Int→Int→Int} {a:dA} {s:Int} (h:Ix k V a) (s0:0≤s) (s1:s<a.2.1.2):yac a.2.1 s=true:=yY.2 ⟨h.xc.1,s0,by omega⟩
theorem y1f {k:Int} {V:Int→Int→Int} {a:dA} {s:Int} (h:Ix k V a) (s0:0≤s) (s1:s<a.2.1.2):ydv a s=bif decide (ybr a s<2)then(yKv V a.2.1 s,true)else([],false):=by
 unfold ydv yqo;rw[ySj h,h.xb,y2A h s0 s1,yZI h s0 s1];cases decide (ybr a s<2)<;>rfl
def yev (id:Int) (g:dG) (G T L B i:Int):dS:=(id,G,i,g.1,g.2,T,L,B)
def yvP (id n:Int) (v:List Int) (s:dS):Prop:=yel v=(s,true)∧s.1=id∧s.2.1.tmod 2=n
def yfk (id:Int) (f:Int→List Int):Prop:= ∃n s,(n=0∨n=1)∧yvP id n (f n) s
structure Wsup (id:Int) (g:dG) (G T L B Lf Bf:Int) (f:Int→Int→List Int) (fl:Int→Bool):Prop where
 u0: ∀i,0≤i→i<g.1→yD (yev id g G T L B i)=true
 u1: ∀i n s,0≤i→i<g.1→fl i=false→(n=0∨n=1)→yvP id n (f i n) s→s.2.2.1=i∧(s.2.1<G∨s=yev id g G T L B i)
 u2: ∀i,0≤i→i<g.1→i≠Lf→fl i=false∧yfk id (f i)
 u3: ∃i,0≤i∧i<g.1∧fl i=false∧f i (G.tmod 2)=yl (yev id g G T L B i)
 u4:(Lf=L∧Bf=B∧(Lf= -1∨(fl Lf=false∧yfk id (f Lf))))∨(0≤Lf∧Lf<g.1∧ ¬(fl Lf=false∧yfk id (f Lf))∧(L= -1∨L=Lf)∧Bf=0)
structure Wdat (g:dG) (T Q:Int) (R:Int→Int×List Int) (V:Int→Int→Int) (Lf Bf:Int) (f:Int→Int→List Int) (fl:Int→Bool) (bd:Int→Int→Bool):Prop where
 e:EvV g V
 q:0≤T∧T≤Q∧Q≤T+4∧Q≤60000
 d: ∀i s,0≤i→i<g.1→0≤s→s<g.2→fl i=false→(i≠Lf∨s<Bf)→bd i (s+6)=false→(∀q,T≤q→q<Q→(R q).1≠s)→f i (s+6)= [V s i]
 r: ∀q,T≤q→q<Q→ ∃i,0≤i∧i<g.1∧fl i=false∧f i (yf q)=yX (q,R q)
 h: ∀i n r,0≤i→i<g.1→fl i=false→2≤n→n<6→yaA (f i n)=(r,true)→r.1<Q∧(T≤r.1→r.2=R r.1)
 v: ∀q,T≤q→q<Q→yac g (R q).1=true∧((R q).2.length:Int)=g.1-1∧(R q).2.all isW=true
 l: ∀q,T≤q→q<Q→(∀p,q<p→p<Q→(R p).1≠(R q).1)→ ∀i,0≤i→i<g.1→V (R q).1 i=ycw (yk g (R q).1) g.1 (yax (R q).2) (R q).2 i
 b: ∀i n,0≤i→i<g.1→fl i=false→bd i n=true→6≤n
theorem ywL {id:Int} {g:dG} {G T L B i:Int} (h:yD (yev id g G T L B i)=true):yvP id (G.tmod 2) (yl (yev id g G T L B i)) (yev id g G T L B i):=⟨yHz h,rfl,rfl⟩
theorem yUf {G:Int} (h:0≤G):G.tmod 2=0∨G.tmod 2=1:=by have:=yHo h; omega
theorem ye0 {id:Int} {g:dG} {G T L B i:Int} (h:yD (yev id g G T L B i)=true):(0≤G∧G≤60000)∧ye g=true∧(1≤id∧id≤60000)∧(0≤T∧T≤60000)∧(-1≤L∧L≤g.1-1)∧(0≤B∧B≤g.2)∧(0≤L∨B=0):=by
 obtain⟨h1,h2,h3,h4,h5,h6,h7,h8⟩:=ywV.1 h;exact⟨h3,h1,h2,h5,h6,h7,h8⟩
theorem yZ9 {id:Int} {g:dG} {G T L B i:Int} (h1:0≤G∧G≤60000) (h2:ye g=true) (h3:1≤id∧id≤60000) (h4:0≤T∧T≤60000) (h5: -1≤L∧L≤g.1-1) (h6:0≤B∧B≤g.2) (h7:0≤L∨B=0) (i0:0≤i) (i1:i<g.1):yD (yev id g G T L B i)=true :=
 ywV.2 ⟨h2,h3,h1,⟨i0,by show i≤g.1-1; omega⟩,h4,h5,h6,h7⟩
theorem yFr {r:dN} (h:yR r=true):yaA (yX r)=(r,true):=by
 have hr:=yrY.1 h;have ha:yHj (yX r)=r:=by unfold yX; rw[h]; rfl
 unfold yaA;rw[ha,h];unfold yX;rw[h];show(bif leb 4 ((21322::r.1::r.2.1::(r.2.2.length:Int)::r.2.2).length:Int)&&((21322:Int)==21322&&((r.2.2.length:Int)==((21322::r.1::r.2.1::(r.2.2.length:Int)::r.2.2).length:Int)-4&&true))then(r,true)else(yKC,false))=(r,true);have e:((21322::r.1::r.2.1::(r.2.2.length:Int)::r.2.2).length:Int)=r.2.2.length+4:=by simp only[List.length_cons]; omega
 rw[e,zk0 (show(4:Int)≤r.2.2.length+4 by omega),show((r.2.2.length:Int)==(r.2.2.length:Int)+4-4)=true from beq_iff_eq.2 (by omega)]; rfl
theorem yKl {g:dG} {q s:Int} {d:List Int} (h0:0≤q) (h1:q≤60000) (hs:yac g s=true) (hl:(d.length:Int)=g.1-1) (hd:d.all isW=true):yR (q,s,d)=true:=by
 have h:=yY.1 hs;have hg:=yn.1 h.1;exact yrY.2 ⟨⟨h0,h1⟩,⟨h.2.1,by show s≤7; omega⟩,⟨by show 2≤(d.length:Int); omega,by show(d.length:Int)≤4; omega⟩,hd⟩
theorem yf5 {id:Int} {g:dG} {G T L B Lf Bf:Int} {f f':Int→Int→List Int} {fl:Int→Bool} (h:Wsup id g G T L B Lf Bf f fl) (hf: ∀i n,0≤i→i<g.1→fl i=false→(n=0∨n=1)→f' i n=f i n):Wsup id g G T L B Lf Bf f' fl:=by
 have ow: ∀i,0≤i→i<g.1→fl i=false→(yfk id (f' i)↔yfk id (f i)):=fun i i0 i1 hi =>
  ⟨fun⟨n,s,hn,hs⟩=>⟨n,s,hn,by rw[hf i n i0 i1 hi hn]at hs; exact hs⟩,fun⟨n,s,hn,hs⟩=>⟨n,s,hn,by rw[hf i n i0 i1 hi hn]; exact hs⟩⟩
 refine⟨h.u0,fun i n s i0 i1 hi hn hs=>h.u1 i n s i0 i1 hi hn (by rw[hf i n i0 i1 hi hn]at hs; exact hs),fun i i0 i1 hne=> ?_,?_,?_⟩
 ·obtain⟨h1,h2⟩:=h.u2 i i0 i1 hne
  exact⟨h1,(ow i i0 i1 h1).2 h2⟩
 ·obtain⟨i,i0,i1,hi,h2⟩:=h.u3
  exact⟨i,i0,i1,hi,by rw[hf i _ i0 i1 hi (yUf (ye0 (h.u0 i i0 i1)).1.1)]; exact h2⟩
 ·rcases h.u4 with⟨h1,h2,h3⟩ | ⟨h1,h2,h3,h4⟩
  ·refine .inl ⟨h1,h2,?_⟩
   rcases h3 with h3 | ⟨h3,h4⟩
   ·exact .inl h3
   ·obtain⟨i,i0,i1,_⟩:=h.u3
    have:=(ye0 (h.u0 i i0 i1)).2.2.2.2.1;by_cases hm:Lf= -1
    ·exact .inl hm
    ·exact .inr ⟨h3,(ow Lf (by omega) (by omega) h3).2 h4⟩
  ·exact .inr ⟨h1,h2,fun⟨h5,h6⟩=>h3 ⟨h5,(ow Lf h1 h2 h5).1 h6⟩,h4⟩
theorem yWM {g:dG} {T Q:Int} {R:Int→Int×List Int} {V:Int→Int→Int} {Lf Bf B2:Int} {f:Int→Int→List Int} {fl:Int→Bool} {bd:Int→Int→Bool} (h:Wdat g T Q R V Lf Bf f fl bd) (hb:B2≤Bf):Wdat g T Q R V Lf B2 f fl bd :=
 ⟨h.e,h.q,fun i s i0 i1 s0 s1 hi hl hb2 hj=>h.d i s i0 i1 s0 s1 hi (hl.imp id (fun h=>by omega)) hb2 hj,h.r,h.h,h.v,h.l,h.b⟩
theorem yf4 {g:dG} {T Q:Int} {R:Int→Int×List Int} {V:Int→Int→Int} {Lf Bf:Int} {f f':Int→Int→List Int} {fl:Int→Bool} {bd bd':Int→Int→Bool} (h:Wdat g T Q R V Lf Bf f fl bd)
  (hf: ∀i n,0≤i→i<g.1→fl i=false→2≤n→(f' i n=f i n∧bd' i n=bd i n)∨(∃q,T≤q∧q<Q∧n=(R q).1+6)∨(i=Lf∧Bf+6≤n∧6≤n)) (hb: ∀i n,0≤i→i<g.1→bd' i n=true→bd i n=true):Wdat g T Q R V Lf Bf f' fl bd':=by
 have sl: ∀i n,0≤i→i<g.1→fl i=false→2≤n→n<6→f' i n=f i n:=fun i n i0 i1 hi h2 h6=>by
  rcases hf i n i0 i1 hi h2 with h1 | ⟨q,q0,q1,e⟩ | h1
  ·exact h1.1
  ·have:=yY.1 (h.v q q0 q1).1; omega
  ·omega
 have hq:=h.q;refine⟨h.e,h.q,fun i s i0 i1 s0 s1 hi hl hb2 hj=> ?_,fun q q0 q1=> ?_,fun i n r i0 i1 hi h2 h6 hr=>h.h i n r i0 i1 hi h2 h6 (by rw[sl i n i0 i1 hi h2 h6]at hr; exact hr),h.v,h.l,fun i n i0 i1 hi hn=>h.b i n i0 i1 hi (hb i n i0 i1 hn)⟩
 ·rcases hf i (s+6) i0 i1 hi (by omega)with⟨h1,h2⟩ | ⟨q,q0,q1,e⟩ | h1
  ·rw[h1]; rw[h2]at hb2; exact h.d i s i0 i1 s0 s1 hi hl hb2 hj
  ·exact absurd (by omega) (hj q q0 q1)
  ·omega
 ·obtain⟨i,i0,i1,hi,e⟩:=h.r q q0 q1
  have:=yjW (q:=q) (by omega);exact⟨i,i0,i1,hi,by rw[sl i _ i0 i1 hi this.1 this.2.1]; exact e⟩
theorem y2V {g:dG} {T Q:Int} {R:Int→Int×List Int} {V:Int→Int→Int} {Lf Bf q:Int} {f f':Int→Int→List Int} {fl:Int→Bool} {bd bd':Int→Int→Bool} (h:Wdat g T Q R V Lf Bf f fl bd) (q0:T≤q) (q1:q<Q)
  (hf: ∀i n,0≤i→i<g.1→fl i=false→2≤n→f' i n=f i n∨(n=yf q∧f' i n=yX (q,R q))) (hb: ∀i n,0≤i→i<g.1→6≤n→bd' i n=bd i n) (hb2: ∀i n,0≤i→i<g.1→bd' i n=true→bd i n=true):Wdat g T Q R V Lf Bf f' fl bd':=by
 have hq:=h.q;have hv:=h.v q q0 q1;have ho:=yKl (q:=q) (by omega) (by omega) hv.1 hv.2.1 hv.2.2;have hsl:=yjW (q:=q) (by omega);refine⟨h.e,h.q,fun i s i0 i1 s0 s1 hi hl hb3 hj=> ?_,fun p p0 p1=> ?_,fun i n r i0 i1 hi h2 h6 hr=> ?_,h.v,h.l,fun i n i0 i1 hi hn=>h.b i n i0 i1 hi (hb2 i n i0 i1 hn)⟩
 ·rcases hf i (s+6) i0 i1 hi (by omega)with h1 | ⟨h1,_⟩
  ·rw[h1]; rw[hb i (s+6) i0 i1 (by omega)]at hb3; exact h.d i s i0 i1 s0 s1 hi hl hb3 hj
  ·omega
 ·obtain⟨i,i0,i1,hi,e⟩:=h.r p p0 p1
  have hsp:=yjW (q:=p) (by omega);refine⟨i,i0,i1,hi,?_⟩;rcases hf i _ i0 i1 hi hsp.1 with h1 | ⟨h1,h2⟩
  ·rw[h1]; exact e
  ·have:p=q:=by omega
   subst this; exact h2
 ·rcases hf i n i0 i1 hi h2 with h1 | ⟨_,h1⟩
  ·rw[h1]at hr; exact h.h i n r i0 i1 hi h2 h6 hr
  ·rw[h1,yFr ho]at hr
   have:=congrArg (fun x=>x.1) hr;simp only at this;subst this;exact⟨q1,fun _=>rfl⟩
def yWJ (R:Int→Int×List Int) (Q s:Int) (d:List Int):Int→Int×List Int:=fun q=>bif q==Q then(s,d)else R q
theorem ywI (R:Int→Int×List Int) (Q s:Int) (d:List Int):yWJ R Q s d Q=(s,d):=by unfold yWJ; rw[beq_self_eq_true]; rfl
theorem yrZ {R:Int→Int×List Int} {Q s q:Int} {d:List Int} (h:q<Q):yWJ R Q s d q=R q:=by unfold yWJ; rw[show(q==Q)=false from beq_eq_false_iff_ne.2 (by omega)]; rfl
theorem yXj {g:dG} {T Q:Int} {R:Int→Int×List Int} {V:Int→Int→Int} {Lf Bf s:Int} {d:List Int} {f f':Int→Int→List Int} {fl:Int→Bool} {bd bd':Int→Int→Bool} (h:Wdat g T Q R V Lf Bf f fl bd) (h3:Q≤T+3) (hQ:Q<60000) (hs:yac g s=true) (hl:(d.length:Int)=g.1-1) (hd:d.all isW=true)
  (hf: ∀i n,0≤i→i<g.1→fl i=false→2≤n→f' i n=f i n∨(n=yf Q∧f' i n=yX (Q,s,d))) (hb: ∀i n,0≤i→i<g.1→6≤n→bd' i n=bd i n) (hb2: ∀i n,0≤i→i<g.1→bd' i n=true→bd i n=true)
  (hx: ∃i,0≤i∧i<g.1∧fl i=false∧f' i (yf Q)=yX (Q,s,d)):Wdat g T (Q+1) (yWJ R Q s d) (ykM V g s d) Lf Bf f' fl bd':=by
 have hq:=h.q;have ho:=yKl (q:=Q) (by omega) (by omega) hs hl hd;have hsl:=yjW (q:=Q) (by omega);refine⟨y0J h.e hs hl hd,by omega,fun i t i0 i1 s0 s1 hi hlv hb3 hj=> ?_,fun p p0 p1=> ?_,fun i n r i0 i1 hi h2 h6 hr=> ?_,fun p p0 p1=> ?_,fun p p0 p1 hp i i0 i1=> ?_,fun i n i0 i1 hi hn=>h.b i n i0 i1 hi (hb2 i n i0 i1 hn)⟩
 ·have hts:t≠s:=fun e=>hj Q (by omega) (by omega) (by rw[ywI]; exact e.symm)
  unfold ykM;rw[show(t==s)=false from beq_eq_false_iff_ne.2 hts,cond_false];rcases hf i (t+6) i0 i1 hi (by omega)with h1 | ⟨h1,_⟩
  ·rw[h1]; rw[hb i (t+6) i0 i1 (by omega)]at hb3
   exact h.d i t i0 i1 s0 s1 hi hlv hb3 (fun q q0 q1=>by have:=hj q q0 (by omega); rwa[yrZ q1]at this)
  ·omega
 ·by_cases hpq:p=Q
  ·subst hpq; rw[ywI]; exact hx
  ·obtain⟨i,i0,i1,hi,e⟩:=h.r p p0 (by omega)
   have hsp:=yjW (q:=p) (by omega);refine⟨i,i0,i1,hi,?_⟩;rw[yrZ (show p<Q by omega)];rcases hf i _ i0 i1 hi hsp.1 with h1 | ⟨h1,h2⟩
   ·rw[h1]; exact e
   ·omega
 ·rcases hf i n i0 i1 hi h2 with h1 | ⟨_,h1⟩
  ·rw[h1]at hr
   obtain⟨g1,g2⟩:=h.h i n r i0 i1 hi h2 h6 hr;exact⟨by omega,fun ht=>by rw[yrZ g1]; exact g2 ht⟩
  ·rw[h1,yFr ho]at hr
   have:=congrArg (fun x=>x.1) hr;simp only at this;subst this;exact⟨by show Q<Q+1; omega,fun _=>(ywI R Q s d).symm⟩
 ·by_cases hpq:p=Q
  ·subst hpq; rw[ywI]; exact⟨hs,hl,hd⟩
  ·rw[yrZ (show p<Q by omega)]; exact h.v p p0 (by omega)
 ·by_cases hpq:p=Q
  ·subst hpq; rw[ywI]; unfold ykM; rw[beq_self_eq_true]; rfl
  ·have hne:s≠(R p).1:=fun e=>hp Q (by omega) (by omega) (by rw[ywI,yrZ (show p<Q by omega)]; exact e)
   rw[yrZ (show p<Q by omega)];unfold ykM;rw[show((R p).1==s)=false from beq_eq_false_iff_ne.2 (fun e=>hne e.symm),cond_false];exact h.l p p0 (by omega) (fun p2 h1 h2=>by have:=hp p2 h1 (by omega); rwa[yrZ (show p2<Q by omega),yrZ (show p<Q by omega)]at this) i i0 i1
theorem y3N {id:Int} {g:dG} {G T L B Lf Bf T2 L2 B2 Lf2:Int} {f f':Int→Int→List Int} {fl:Int→Bool} (hs:Wsup id g G T L B Lf Bf f fl) (ho: ∀i,0≤i→i<g.1→yD (yev id g (G+1) T2 L2 B2 i)=true)
  (hf: ∀i n,0≤i→i<g.1→fl i=false→f' i n=f i n∨(n=(G+1).tmod 2∧f' i n=yl (yev id g (G+1) T2 L2 B2 i)))
  (h2: ∀i,0≤i→i<g.1→i≠Lf2→fl i=false∧yfk id (f i)) (h4:Lf2=L2∨(L2= -1∧0≤Lf2∧Lf2<g.1∧fl Lf2=true)) (hB:0≤B2) :
  Wsup id g G T L B Lf Bf f' fl∨ ∃Bg,Bg≤B2∧Wsup id g (G+1) T2 L2 B2 Lf2 Bg f' fl:=by
 obtain⟨j,j0,j1,jf,_⟩:=hs.u3;have hG:=ye0 (hs.u0 j j0 j1);have hL2:=ye0 (ho j j0 j1);have hsl:=yUf (G:=G+1) (by omega);have hmod:(G+1).tmod 2≠G.tmod 2:=by rw[Int.tmod_eq_emod_of_nonneg (by omega),Int.tmod_eq_emod_of_nonneg (by omega)]; omega
 by_cases hx: ∃i,0≤i∧i<g.1∧fl i=false∧f' i ((G+1).tmod 2)=yl (yev id g (G+1) T2 L2 B2 i)
 ·right
  have ow: ∀i,0≤i→i<g.1→fl i=false→yfk id (f i)→yfk id (f' i):=fun i i0 i1 hi ⟨n,s,hn,hsv⟩=>by
   rcases hf i n i0 i1 hi with h | ⟨h,h1⟩
   ·exact⟨n,s,hn,by rw[h]; exact hsv⟩
   ·exact⟨n,_,hn,by rw[h1,h]; exact ywL (ho i i0 i1)⟩
  have a1: ∀i n s,0≤i→i<g.1→fl i=false→(n=0∨n=1)→yvP id n (f' i n) s→s.2.2.1=i∧(s.2.1<G+1∨s=yev id g (G+1) T2 L2 B2 i):=fun i n s i0 i1 hi hn hsv=>by
   rcases hf i n i0 i1 hi with h | ⟨h,h1⟩
   ·rw[h]at hsv
    obtain⟨g1,g2⟩:=hs.u1 i n s i0 i1 hi hn hsv;refine⟨g1,.inl ?_⟩;rcases g2 with g2 | g2
    ·omega
    ·rw[g2]; show G<G+1; omega
   ·rw[h1]at hsv
    have:=(ywL (ho i i0 i1)).1.symm.trans hsv.1;have:=congrArg (fun x=>x.1) this;simp only at this;subst this;exact⟨rfl,.inr rfl⟩
  have a2: ∀i,0≤i→i<g.1→i≠Lf2→fl i=false∧yfk id (f' i):=fun i i0 i1 hne=>by
   obtain⟨k1,k2⟩:=h2 i i0 i1 hne;exact⟨k1,ow i i0 i1 k1 k2⟩
  rcases h4 with h4 | ⟨h4,h5,h6,h7⟩
  ·by_cases hm:Lf2= -1
   ·exact⟨B2,Int.le_refl _,ho,a1,a2,hx,.inl ⟨h4,rfl,.inl hm⟩⟩
   ·by_cases hown:fl Lf2=false∧yfk id (f' Lf2)
    ·exact⟨B2,Int.le_refl _,ho,a1,a2,hx,.inl ⟨h4,rfl,.inr hown⟩⟩
    ·exact⟨0,hB,ho,a1,a2,hx,.inr ⟨by omega,by omega,hown,.inr h4.symm,rfl⟩⟩
  ·exact⟨0,hB,ho,a1,a2,hx,.inr ⟨h5,h6,(fun h=>by have:=h.1; rw[h7]at this; cases this),.inl h4,rfl⟩⟩
 ·left
  refine yf5 hs (fun i n i0 i1 hi hn=> ?_);rcases hf i n i0 i1 hi with h | ⟨h,h1⟩
  ·exact h
  ·exact absurd ⟨i,i0,i1,hi,by rw[← h]; exact h1⟩ hx
def yC (a:dA) (i:Int):Bool:=(yi a i).2.2.1
def yI (a:dA) (i n:Int):Bool:=yaT (yi a i) n
def Ch (a:dA) (f:Int→Int→List Int):Prop:= ∀i n,0≤i→i<a.2.1.1→0≤n→ymQ (yi a i) n (f i n)
def TrD (n:Int) (v:List Int) (m x:dM):Prop:=(∀k w,0≤k→ymQ x k w→ymQ m k w∨(k=n∧w=v))∧x.2.2.1=m.2.2.1∧(∀k,k≠n→yaT x k=yaT m k)∧ ∀k,yaT x k=true→yaT m k=true
theorem ywM (n:Int) (v:List Int) (m:dM):TrD n v m m:=⟨fun _ _ _ h=> .inl h,rfl,fun _ _=>rfl,fun _ h=>h⟩
theorem y19 {n:Int} {v:List Int} {m x y:dM} (h:TrD n v m x) (g:TrD n v x y):TrD n v m y :=⟨fun k w k0 hw=>(g.1 k w k0 hw).elim (h.1 k w k0) .inr,g.2.1.trans h.2.1,fun k hk=>(g.2.2.1 k hk).trans (h.2.2.1 k hk),fun k hk=>h.2.2.2 k (g.2.2.2 k hk)⟩
theorem yXf (n:Int) (v:List Int) (m:dM):TrD n v m (yT m n v).1:=by
 refine⟨fun k w _ hw=>y1q hw,(yya m n v).2,fun k hk=> ?_,fun k hk=> ?_⟩
 ·cases hc:ybc m n v
  ·unfold yT; rw[hc]; rfl
  ·rw[yw0 hc,show(k !=n)=true from bne_iff_ne.2 hk,Bool.and_true]
 ·cases hc:ybc m n v
  ·unfold yT at hk; rw[hc]at hk; exact hk
  ·rw[yw0 hc,Bool.and_eq_true]at hk; exact hk.1
theorem y00 (n:Int) (v:List Int) (m:dM):TrD n v m (ydY n v m):=by
 unfold ydY;cases m.2.2.1
 ·exact yXf n v m
 ·exact ywM n v m
theorem yXe (n:Int) (v:List Int) {m:dM} (h:yu m=true):TrD n v m (yz m):=by
 refine⟨fun k w k0 hw=> .inl ?_,(yrS m).2,fun k _=>yIM m k,fun k hk=>by rw[yIM]at hk; exact hk⟩;cases hf:m.2.2.1
 ·rw[ytJ h hf k0 hw]; exact ywf m k
 ·unfold yz at hw; rw[hf,Bool.not_true,Bool.and_false]at hw; exact hw
structure Trn (n:Int) (v:Int→List Int) (a r:dA):Prop where
 g:r.2.1=a.2.1
 c: ∀f',Ch r f'→ ∃f,Ch a f∧ ∀i m,0≤i→i<a.2.1.1→0≤m→f' i m=f i m∨(m=n∧f' i m=v i)
 f: ∀i,0≤i→i<a.2.1.1→yC r i=yC a i
 b: ∀i m,0≤i→i<a.2.1.1→m≠n→yI r i m=yI a i m
 d: ∀i m,0≤i→i<a.2.1.1→yI r i m=true→yI a i m=true
theorem y2a {n:Int} {v:Int→List Int} {a r:dA} (hg:r.2.1=a.2.1) (h: ∀i,0≤i→i<a.2.1.1→TrD n (v i) (yi a i) (yi r i)):Trn n v a r:=by
 refine⟨hg,fun f' hf'=> ?_,fun i i0 i1=>(h i i0 i1).2.1,fun i m i0 i1 hm=>(h i i0 i1).2.2.1 m hm,fun i m i0 i1 hm=>(h i i0 i1).2.2.2 m hm⟩
 classical
 refine⟨fun i m=>if ymQ (yi a i) m (f' i m)then f' i m else yb1 (yi a i) m,fun i m i0 i1 m0=> ?_,fun i m i0 i1 m0=> ?_⟩
 ·show ymQ (yi a i) m (if ymQ (yi a i) m (f' i m)then f' i m else yb1 (yi a i) m)
  split
  ·assumption
  ·exact ywf _ _
 ·show f' i m=(if ymQ (yi a i) m (f' i m)then f' i m else yb1 (yi a i) m)∨_
  rcases(h i i0 i1).1 m (f' i m) m0 (hf' i m i0 (by rw[hg]; exact i1) m0)with h1 | h1
  ·left; rw[if_pos h1]
  ·exact .inr h1
def ywN (a:dA):Prop:=(a.2.2.1.length:Int)=a.2.1.1∧ ∀i,0≤i→i<a.2.1.1→yu (yi a i)=true
theorem ybE {a:dA} (h:yE a):ywN a:=⟨h.1.2,fun _ i0 i1=>(ydD h i0 i1).1⟩
theorem yQz {n:Int} {v:Int→List Int} {a M:dA} (hg:M.2.1=a.2.1) (hl:M.2.2.1.length=a.2.2.1.length) (ha:ywN a) (h: ∀i,0≤i→i<a.2.1.1→yi M i=yi a i∨yi M i=ydY n (v i) (yi a i)):Trn n v a (yd M):=by
 refine y2a ((yah (yaD M)).trans hg) fun i i0 i1=> ?_
 have hM:TrD n (v i) (yi a i) (yi M i)∧yu (yi M i)=true:=by
  rcases h i i0 i1 with e | e
  ·rw[e]; exact⟨ywM _ _ _,ha.2 i i0 i1⟩
  ·rw[e]; exact⟨y00 _ _ _,yog (ha.2 i i0 i1)⟩
 cases hd:ya M
 ·obtain⟨_,_,k,_,h3,_⟩:=yQx hd
  rw[h3 i i0];cases ltb i k
  ·exact hM.1
  ·exact y19 hM.1 (yXe _ _ hM.2)
 ·rw[yr2 hd]; exact hM.1
theorem yHq {a:dA} (n:Int) (v:Int→List Int) (h:ywN a):Trn n v a (yd a):=yQz rfl rfl h (fun _ _ _=> .inl rfl)
theorem yRw {g:Int→dM→dM} {a r:dA} {n:Nat} (h:Adv g a r n) {i:Int} (i0:0≤i):yi r i=yi a i∨yi r i=g i (yi a i):=by
 obtain⟨_,_,k,_,h3,_⟩:=h;rw[h3 i i0];cases ltb i k
 ·exact .inl rfl
 ·exact .inr rfl
theorem yHp {a:dA} (h:ywN a):Trn ((i64.wrap (a.2.2.2.2.2.2.2.1+1)).tmod 2) (fun i=>yl (yev a.1 a.2.1 (i64.wrap (a.2.2.2.2.2.2.2.1+1)) a.2.2.2.2.2.2.1 a.2.2.2.1 a.2.2.2.2.1 i)) a (yy a):=by
 unfold yy;have hc:=ymX (one:=y9) (fun _ _=>ygW _ _ _ _) (List.range a.2.2.1.length) (yaq a);have hl:((List.range a.2.2.1.length).foldl y9 (yaq a)).2.2.1.length=a.2.2.1.length:=yiB (one:=y9) (fun _ _=>you _ _ _ _) _ (yaq a);refine yQz (yah (b:=yaq a) hc) hl h fun i i0 i1=> ?_
 cases hd:ya a
 ·exact yRw (a:=yaq a) (yZQ (a:=yaq a) hd) i0
 ·rw[yj0 (one:=y9) (fun _ _ h=>yni h _ _ _) _ (yaq a) hd]; exact .inl rfl
theorem yKG {a:dA} (r:dN) (h:ywN a):Trn (yf r.1) (fun _=>yX r) a (yp a r):=by
 unfold yp;have hc:=ymX (one:=ya1 r) (fun _ _=>ygW _ _ _ _) (List.range a.2.2.1.length) a;refine yQz (yah hc) (yiB (ykE r) _ _) h fun i i0 i1=> ?_
 cases hd:ya a
 ·exact yRw (y0V r hd) i0
 ·rw[yj0 (one:=ya1 r) (fun _ _ h=>yni h _ _ _) _ a hd]; exact .inl rfl
theorem yQy {a:dA} (s:Int) (d:List Int) (h:ywN a):Trn (yx s) (fun i=> [ycw (yk a.2.1 s) a.2.1.1 (yax d) d i]) a (yF a s d):=by
 refine y2a (yah (ydU a s d)) fun i i0 i1=> ?_
 cases hd:ya a
 ·rcases yRw (yNJ s d hd) i0 with e | e
  ·rw[e]; exact ywM _ _ _
  ·rw[e]
   unfold yii;cases yab a.2.2.2.1 a.2.2.2.2.1 i s (yi a i)
   ·exact ywM _ _ _
   ·exact yXf _ _ _
 ·have:yF a s d=a:=yj0 (one:=ya2 (yk a.2.1 s) a.2.1.1 s d) (fun _ _ h=>yCw _ _ _ _ _ h) _ a hd
  rw[this]; exact ywM _ _ _
def Al (L N:Int) (fl0 fl:Int→Bool) (Lf:Int):Prop:=(Lf=L∧ ∀i,0≤i→i<N→fl i=fl0 i)∨(0≤Lf∧Lf<N∧(L= -1∨L=Lf)∧ ∀i,0≤i→i<N→fl i=(fl0 i||i==Lf))
def Eq0 (a:dA) (fl:Int→Bool) (Lf:Int):Prop:=Lf=a.2.2.2.1∧ ∀i,0≤i→i<a.2.1.1→fl i=yC a i
theorem yB1 {L N Lf i:Int} {fl0 fl:Int→Bool} (h:Al L N fl0 fl Lf) (i0:0≤i) (i1:i<N) (hi:fl i=false):fl0 i=false:=by
 rcases h with⟨_,h⟩ | ⟨_,_,_,h⟩
 ·rw[← h i i0 i1]; exact hi
 ·rw[h i i0 i1,Bool.or_eq_false_iff]at hi; exact hi.1
theorem y23 {L N Lf i:Int} {fl0 fl:Int→Bool} (h:Al L N fl0 fl Lf) (hb: ∀i,0≤i→i<N→fl0 i=true→i=L) (i0:0≤i) (i1:i<N) (hi:i≠Lf):fl i=false:=by
 cases hf:fl0 i
 ·rcases h with⟨_,h⟩ | ⟨_,_,_,h⟩
  ·rw[h i i0 i1]; exact hf
  ·rw[h i i0 i1,hf,show(i==Lf)=false from beq_eq_false_iff_ne.2 hi]; rfl
 ·have:=hb i i0 i1 hf
  rcases h with⟨h,_⟩ | ⟨_,_,h,_⟩<;>omega
theorem ywU {L N Lf:Int} {fl0 fl1 fl:Int→Bool} (h:Al L N fl1 fl Lf) (e: ∀i,0≤i→i<N→fl1 i=fl0 i):Al L N fl0 fl Lf :=
 h.imp (fun⟨h1,h2⟩=>⟨h1,fun i i0 i1=>(h2 i i0 i1).trans (e i i0 i1)⟩) (fun⟨h1,h2,h3,h4⟩=>⟨h1,h2,h3,fun i i0 i1=>by rw[h4 i i0 i1,e i i0 i1]⟩)
def WW (K id:Int) (g:dG) (V:Int→Int→Int) (Lf:Int) (f:Int→Int→List Int) (fl:Int→Bool) (bd:Int→Int→Bool):Prop:= ∃(G T L B Q:Int) (R:Int→Int×List Int) (Bf:Int),G≤K∧Q≤K∧Wsup id g G T L B Lf Bf f fl∧Wdat g T Q R V Lf Bf f fl bd
theorem y02 {K J id:Int} {g:dG} {V:Int→Int→Int} {Lf:Int} {f:Int→Int→List Int} {fl:Int→Bool} {bd:Int→Int→Bool} (h:WW K id g V Lf f fl bd) (hj:K≤J):WW J id g V Lf f fl bd:=by
 obtain⟨G,T,L,B,Q,R,Bf,h1,h2,h3⟩:=h;exact⟨G,T,L,B,Q,R,Bf,Int.le_trans h1 hj,Int.le_trans h2 hj,h3⟩
structure Mk (a:dA):Prop where
 k:ywN a
 g:ye a.2.1=true
 i:1≤a.1∧a.1≤60000
 l: -1≤a.2.2.2.1∧a.2.2.2.1≤a.2.1.1-1
 b:0≤a.2.2.2.2.1∧a.2.2.2.2.1≤a.2.1.2
 z:0≤a.2.2.2.1∨a.2.2.2.2.1=0
 t:0≤a.2.2.2.2.2.2.1∧a.2.2.2.2.2.2.1≤60000
 n:0≤a.2.2.2.2.2.2.2.1∧a.2.2.2.2.2.2.2.1<60000
theorem y0Q {a:dA} (h:yU a) (hk:yE a) (hg:a.2.2.2.2.2.2.2.1<60000):Mk a:=by
 obtain⟨c1,c2,c3,c4,c5,c6,c7,c8,c9,c10,c11⟩:=h;refine⟨ybE hk,c1,c2,c4,c5,?_,c7,c10,hg⟩;by_cases e:a.2.2.2.1= -1
 ·exact .inr (c6 e)
 ·exact .inl (by omega)
theorem ySp {a:dA} (h:Mk a) {i:Int} (i0:0≤i) (i1:i<a.2.1.1):yD (yev a.1 a.2.1 (a.2.2.2.2.2.2.2.1+1) a.2.2.2.2.2.2.1 a.2.2.2.1 a.2.2.2.2.1 i)=true:=by
 have:=h.n;exact yZ9 (by omega) h.g h.i h.t h.l h.b h.z i0 i1
theorem yXa {a:dA} {T L B Q Lf Lf2:Int} {R:Int→Int×List Int} {V:Int→Int→Int} {f':Int→Int→List Int} {fl:Int→Bool} (hm:Mk a) (hc:Ch (yy a) f') (hfl: ∀i,0≤i→i<a.2.1.1→fl i=false→yC a i=false)
  (old: ∀f,Ch a f→ ∃Bf,Wsup a.1 a.2.1 a.2.2.2.2.2.2.2.1 T L B Lf Bf f fl∧Wdat a.2.1 T Q R V Lf Bf f fl (yI a))
  (new: ∀f,Ch a f→Wdat a.2.1 a.2.2.2.2.2.2.1 Q R V Lf2 a.2.2.2.2.1 f fl (yI a))
  (h2: ∀f,Ch a f→ ∀i,0≤i→i<a.2.1.1→i≠Lf2→fl i=false∧yfk a.1 (f i)) (h4:Lf2=a.2.2.2.1∨(a.2.2.2.1= -1∧0≤Lf2∧Lf2<a.2.1.1∧fl Lf2=true)) :
  (∃Bf,Wsup a.1 a.2.1 a.2.2.2.2.2.2.2.1 T L B Lf Bf f' fl∧Wdat a.2.1 T Q R V Lf Bf f' fl (yI (yy a))) ∨
   ∃Bf,Wsup a.1 a.2.1 (a.2.2.2.2.2.2.2.1+1) a.2.2.2.2.2.2.1 a.2.2.2.1 a.2.2.2.2.1 Lf2 Bf f' fl∧Wdat a.2.1 a.2.2.2.2.2.2.1 Q R V Lf2 Bf f' fl (yI (yy a)):=by
 have ht:=yHp hm.k;have hn:=hm.n;rw[wq (a.2.2.2.2.2.2.2.1+1) (by omega) (by omega)]at ht;obtain⟨f,hf,hff⟩:=ht.c f' hc;obtain⟨Bf,o1,o2⟩:=old f hf;have hsl:=yHo (g:=a.2.2.2.2.2.2.2.1+1) (by omega)
 have hf0: ∀i n,0≤i→i<a.2.1.1→fl i=false→2≤n→f' i n=f i n∧yI (yy a) i n=yI a i n:=fun i n i0 i1 hi h2=>by
  rcases hff i n i0 i1 (by omega)with h | ⟨h,_⟩
  ·exact⟨h,ht.b i n i0 i1 (by omega)⟩
  ·omega
 have dat: ∀{T Q Lf Bf:Int},Wdat a.2.1 T Q R V Lf Bf f fl (yI a)→Wdat a.2.1 T Q R V Lf Bf f' fl (yI (yy a)):=fun h =>
  yf4 h (fun i n i0 i1 hi h2=> .inl (hf0 i n i0 i1 hi h2)) (fun i n i0 i1 hb=>ht.d i n i0 i1 hb)
 have hff2: ∀i n,0≤i→i<a.2.1.1→fl i=false→0≤n→f' i n=f i n∨(n=(a.2.2.2.2.2.2.2.1+1).tmod 2∧f' i n=yl (yev a.1 a.2.1 (a.2.2.2.2.2.2.2.1+1) a.2.2.2.2.2.2.1 a.2.2.2.1 a.2.2.2.2.1 i)):=fun i n i0 i1 _ n0=>hff i n i0 i1 n0
 obtain⟨F,hF⟩: ∃F:Int→Int→List Int,F=fun i n=>if 0≤n then f' i n else f i n:=⟨_,rfl⟩
 have hFe: ∀i n,0≤n→F i n=f' i n:=fun i n n0=>by rw[hF]; exact if_pos n0
 have hw:=y3N (T2:=a.2.2.2.2.2.2.1) (L2:=a.2.2.2.1) (B2:=a.2.2.2.2.1) (f':=F) o1 (fun i i0 i1=>ySp hm i0 i1) (fun i n i0 i1 hi=>by
  by_cases n0:0≤n
  ·rw[hFe i n n0]; exact hff2 i n i0 i1 hi n0
  ·left; rw[hF]; exact if_neg n0) (h2 f hf) h4 hm.b.1
 have back: ∀{G T L B Lf Bf:Int},Wsup a.1 a.2.1 G T L B Lf Bf F fl→Wsup a.1 a.2.1 G T L B Lf Bf f' fl:=fun h=>yf5 h (fun i n i0 i1 _ hn=>(hFe i n (by omega)).symm)
 rcases hw with hw | ⟨Bg,hg,hw⟩
 ·exact .inl ⟨Bf,back hw,dat o2⟩
 ·exact .inr ⟨Bg,back hw,dat (yWM (new f hf) hg)⟩
theorem yW9 {a:dA} {Q Lf:Int} {R:Int→Int×List Int} {V:Int→Int→Int} {f':Int→Int→List Int} {fl:Int→Bool} (hm:Mk a) (hu:ya (yy a)=false) (hx: ∀i,0≤i→i<a.2.1.1→2≤(yi a i).1.length∧(yi a i).2.1.length<60) (hb: ∀i,0≤i→i<a.2.1.1→yC a i=true→i=a.2.2.2.1)
  (hc:Ch (yy a) f') (hal:Al a.2.2.2.1 a.2.1.1 (yC a) fl Lf)
  (base: ∀f,Ch a f→ ∀i n s,0≤i→i<a.2.1.1→yC a i=false→(n=0∨n=1)→yvP a.1 n (f i n) s→s.2.2.1=i∧s.2.1≤a.2.2.2.2.2.2.2.1)
  (new: ∀f,Ch a f→Wdat a.2.1 a.2.2.2.2.2.2.1 Q R V Lf a.2.2.2.2.1 f fl (yI a)) (hz:a.2.2.2.1≠ -1→yC a a.2.2.2.1=true→a.2.2.2.2.1=0) :
  ∃Bf,((Eq0 a fl Lf→Bf=a.2.2.2.2.1)∧(Eq0 a fl Lf→Lf≠ -1→fl Lf=false→yfk a.1 (f' Lf)))∧Wsup a.1 a.2.1 (a.2.2.2.2.2.2.2.1+1) a.2.2.2.2.2.2.1 a.2.2.2.1 a.2.2.2.2.1 Lf Bf f' fl∧Wdat a.2.1 a.2.2.2.2.2.2.1 Q R V Lf Bf f' fl (yI (yy a)):=by
 have ht:=yHp hm.k;have hn:=hm.n;have hlen:=hm.k.1;have hg3:=yn.1 hm.g;have hw:i64.wrap (a.2.2.2.2.2.2.2.1+1)=a.2.2.2.2.2.2.2.1+1:=wr (by omega) (by omega);have hsl:=yHo (g:=a.2.2.2.2.2.2.2.1+1) (by omega)
 have top: ∀i,0≤i→i<a.2.1.1→yC a i=false→f' i ((a.2.2.2.2.2.2.2.1+1).tmod 2)=yl (yev a.1 a.2.1 (a.2.2.2.2.2.2.2.1+1) a.2.2.2.2.2.2.1 a.2.2.2.1 a.2.2.2.2.1 i):=fun i i0 i1 hi=>by
  have h1:=hc i ((a.2.2.2.2.2.2.2.1+1).tmod 2) i0 (by rw[ht.g]; exact i1) hsl.1;have hmem:=hm.k.2 i i0 i1;obtain⟨x1,x2⟩:=hx i i0 i1;have hi':(yi a i).2.2.1=false:=hi
  have e:yi (yy a) i=yz (ydY ((a.2.2.2.2.2.2.2.1+1).tmod 2) (yl (yev a.1 a.2.1 (a.2.2.2.2.2.2.2.1+1) a.2.2.2.2.2.2.1 a.2.2.2.1 a.2.2.2.2.1 i)) (yi a i)):=by
   rw[yZR hu i0 (by omega)];show yz (ydY ((i64.wrap (a.2.2.2.2.2.2.2.1+1)).tmod 2) (yl (yev a.1 a.2.1 (i64.wrap (a.2.2.2.2.2.2.2.1+1)) a.2.2.2.2.2.2.1 a.2.2.2.1 a.2.2.2.2.1 i)) (yi a i))=_;rw[hw]
  rw[e]at h1;rw[ytJ (yog hmem) ((yEH _ _ _).trans hi') hsl.1 h1];have hcw:=ypF (n:=(a.2.2.2.2.2.2.2.1+1).tmod 2) hmem hi' (zj4.2 (by omega)) (yKa (yev a.1 a.2.1 (a.2.2.2.2.2.2.2.1+1) a.2.2.2.2.2.2.1 a.2.2.2.1 a.2.2.2.2.1 i)) x2;unfold ydY;rw[hi',cond_false,ymW hcw,beq_self_eq_true]; rfl
 rw[hw]at ht;obtain⟨f,hf,hff⟩:=ht.c f' hc
 have own: ∀i,0≤i→i<a.2.1.1→fl i=false→yfk a.1 (f' i):=fun i i0 i1 hi =>
  ⟨(a.2.2.2.2.2.2.2.1+1).tmod 2,_,yUf (by omega),by rw[top i i0 i1 (yB1 hal i0 i1 hi)]; exact ywL (ySp hm i0 i1)⟩
 have nef: ∀i,0≤i→i<a.2.1.1→i≠Lf→fl i=false:=fun i i0 i1 hne=>y23 hal hb i0 i1 hne
 have two: ∃i,0≤i∧i<a.2.1.1∧i≠Lf:=by
  by_cases h:Lf=0
  ·exact⟨1,by omega,by omega,by omega⟩
  ·exact⟨0,by omega,by omega,fun e=>h e.symm⟩
 have dat:Wdat a.2.1 a.2.2.2.2.2.2.1 Q R V Lf a.2.2.2.2.1 f' fl (yI (yy a)) :=
  yf4 (new f hf) (fun i n i0 i1 hi h2=> .inl (by
   rcases hff i n i0 i1 (by omega)with h | ⟨h,_⟩
   ·exact⟨h,ht.b i n i0 i1 (by omega)⟩
   ·omega)) (fun i n i0 i1 hb=>ht.d i n i0 i1 hb)
 have mk: ∀Bf,((Lf=a.2.2.2.1∧Bf=a.2.2.2.2.1∧(Lf= -1∨(fl Lf=false∧yfk a.1 (f' Lf))))∨(0≤Lf∧Lf<a.2.1.1∧ ¬(fl Lf=false∧yfk a.1 (f' Lf))∧(a.2.2.2.1= -1∨a.2.2.2.1=Lf)∧Bf=0))→Wsup a.1 a.2.1 (a.2.2.2.2.2.2.2.1+1) a.2.2.2.2.2.2.1 a.2.2.2.1 a.2.2.2.2.1 Lf Bf f' fl:=fun Bf h4=>by
  refine⟨fun i i0 i1=>ySp hm i0 i1,fun i n s i0 i1 hi hn2 hsv=> ?_,fun i i0 i1 hne=>⟨nef i i0 i1 hne,own i i0 i1 (nef i i0 i1 hne)⟩,?_,h4⟩
  ·have hi':=yB1 hal i0 i1 hi
   by_cases hns:n=(a.2.2.2.2.2.2.2.1+1).tmod 2
   ·subst hns
    rw[top i i0 i1 hi']at hsv;have:=congrArg (fun x=>x.1) ((ywL (ySp hm i0 i1)).1.symm.trans hsv.1);simp only at this;subst this;exact⟨rfl,.inr rfl⟩
   ·rcases hff i n i0 i1 (by omega)with h | ⟨h,_⟩
    ·rw[h]at hsv
     obtain⟨b1,b2⟩:=base f hf i n s i0 i1 hi' hn2 hsv;exact⟨b1,.inl (by omega)⟩
    ·exact absurd h hns
  ·obtain⟨i,i0,i1,hne⟩:=two
   exact⟨i,i0,i1,nef i i0 i1 hne,top i i0 i1 (yB1 hal i0 i1 (nef i i0 i1 hne))⟩
 have hl:=hm.l;have ow2:Eq0 a fl Lf→Lf≠ -1→fl Lf=false→yfk a.1 (f' Lf):=fun h h5 h6=>own Lf (by have:=h.1; omega) (by have:=h.1; omega) h6
 rcases hal with⟨h1,h2⟩ | ⟨h1,h2,h3,h4⟩
 ·by_cases hne:Lf= -1
  ·exact⟨_,⟨fun _=>rfl,ow2⟩,mk _ (.inl ⟨h1,rfl,.inl hne⟩),dat⟩
  ·rcases Bool.eq_false_or_eq_true (fl Lf)with hf0 | hf0
   ·refine⟨0,⟨fun h=> ?_,ow2⟩,mk 0 (.inr ⟨by omega,by omega,(fun h=>by have:=h.1; rw[hf0]at this; cases this),.inr h1.symm,rfl⟩),yWM dat hm.b.1⟩
    rw[h.2 Lf (by omega) (by omega),h1]at hf0;exact(hz (by omega) hf0).symm
   ·exact⟨_,⟨fun _=>rfl,ow2⟩,mk _ (.inl ⟨h1,rfl,.inr ⟨hf0,own Lf (by omega) (by omega) hf0⟩⟩),dat⟩
 ·have ht:fl Lf=true:=by rw[h4 Lf h1 h2,beq_self_eq_true,Bool.or_true]
  refine⟨0,⟨fun h=> ?_,ow2⟩,mk 0 (.inr ⟨h1,h2,fun h=> ?_,h3,rfl⟩),yWM dat hm.b.1⟩
  ·rw[h.2 Lf h1 h2,h.1]at ht
   exact(hz (by have:=h.1; omega) ht).symm
  ·have:=h.1
   rw[ht]at this; cases this
def yNv (R:Int→Int×List Int) (B0:Int) (V:Int→Int→Int) (a:dA):Prop:=B0≤a.2.2.2.2.1∧ ∀f fl Lf,Ch a f→Al a.2.2.2.1 a.2.1.1 (yC a) fl Lf→ ∃Bf,((Eq0 a fl Lf→Bf=B0)∧(Eq0 a fl Lf→Lf≠ -1→fl Lf=false→yfk a.1 (f Lf)))∧Wsup a.1 a.2.1 a.2.2.2.2.2.2.2.1 a.2.2.2.2.2.2.1 a.2.2.2.1 B0 Lf Bf f fl∧Wdat a.2.1 a.2.2.2.2.2.2.1 a.2.2.2.2.2.1 R V Lf Bf f fl (yI a)
def Rob (B0:Int) (V:Int→Int→Int) (a:dA):Prop:= ∃R,yNv R B0 V a
def Dd (K:Int) (VS:(Int→Int→Int)→Prop) (r:dA):Prop:= ∀f fl Lf,Ch r f→Al r.2.2.2.1 r.2.1.1 (yC r) fl Lf→ ∃V,VS V∧WW K r.1 r.2.1 V Lf f fl (yI r)
theorem yrP {K J:Int} {VS WS:(Int→Int→Int)→Prop} {r:dA} (h:Dd K VS r) (hj:K≤J) (hv: ∀V,VS V→WS V):Dd J WS r:=fun f fl Lf hf hal=>by
 obtain⟨V,h1,h2⟩:=h f fl Lf hf hal;exact⟨V,hv V h1,y02 h2 hj⟩
structure Nb (a:dA):Prop where
 n:a.2.2.2.1≠ -1→ ∀i s,0≤i→i<a.2.1.1→i≠a.2.2.2.1→0≤s→s<a.2.2.2.2.1→yI a i (s+6)=false
 z:a.2.2.2.1≠ -1→yC a a.2.2.2.1=true→a.2.2.2.2.1=0
structure Lv (K:Int) (V:Int→Int→Int) (a:dA):Prop where
 x:Ix K V a
 r: ∃B0,Rob B0 V a
 n:Nb a
theorem yrW {K J:Int} {V:Int→Int→Int} {a:dA} (h:Lv K V a) (hj:K≤J):Lv J V a:=⟨yVi h.x hj,h.r,h.n⟩
theorem y1g {K:Int} {V:Int→Int→Int} {a:dA} (h:Ix K V a) {i:Int} (i0:0≤i) (i1:i<a.2.1.1) (hf:yC a i=true):i=a.2.2.2.1:=by
 rcases(ydD h.xk i0 i1).2.2 hf with e | e
 ·exact e
 ·rw[h.xb]at e; cases e
theorem y1h {K:Int} {V:Int→Int→Int} {a:dA} (h:Ix K V a) {i:Int} (i0:0≤i) (i1:i<a.2.1.1):2≤(yi a i).1.length∧(yi a i).2.1.length<60:=by
 have hg:=yn.1 h.xc.1;have h1:=(ydD h.xk i0 i1).2.1;have h2:=h.xn i i0 i1;have c:=h.xc;unfold yU at c;have h3:(bif i==a.2.2.2.1 then a.2.2.2.2.1 else 0)≤8:=by cases(i==a.2.2.2.1)<;>simp only[cond_true,cond_false]<;>omega
 omega
theorem yKw {a:dA} {f:Int→Int→List Int} (h:ywN a) (hf:Ch (yd a) f):Ch a f:=fun i n i0 i1 n0=>by
 have hg:(yd a).2.1=a.2.1:=yah (yaD a);have h1:=hf i n i0 (by rw[hg]; exact i1) n0;cases hd:ya a
 ·rcases yRw (yQx hd) i0 with e | e
  ·rw[e]at h1; exact h1
  ·rw[e]at h1
   rcases(yXe (-1) [] (h.2 i i0 i1)).1 n _ n0 h1 with h2 | h2
   ·exact h2
   ·omega
 ·rw[yr2 hd]at h1; exact h1
theorem yUi {K T Lf Bf:Int} {R:Int→Int×List Int} {V:Int→Int→Int} {b:dA} {f:Int→Int→List Int} {fl:Int→Bool} (hix:Ix K V b) (hu:ya (yd b)=false) (hf:Ch (yd b) f) (hfl: ∀i,0≤i→i<b.2.1.1→fl i=false→yC b i=false) (hL:Lf=b.2.2.2.1∨b.2.2.2.1= -1)
  (old:Wdat b.2.1 T b.2.2.2.2.2.1 R V Lf Bf f fl (yI b)):Wdat b.2.1 b.2.2.2.2.2.1 b.2.2.2.2.2.1 R V Lf b.2.2.2.2.1 f fl (yI (yd b)):=by
 have ok:=ybE hix.xk;have ts:=yHq (-1) (fun _=> []) ok;have hlen:=ok.1;have q:=old.q;refine⟨old.e,by omega,fun i s i0 i1 s0 s1 hi hl hb _=> ?_,fun q q0 q1=>by omega,fun i n r i0 i1 hi h2 h6 hr=> ?_,fun q q0 q1=>by omega,fun q q0 q1=>by omega,fun i n i0 i1 hi hn=>old.b i n i0 i1 hi (ts.d i n i0 i1 hn)⟩
 ·have hfi:(yi b i).2.2.1=false:=hfl i i0 i1 hi
  have hp:=hf i (s+6) i0 (by rw[ts.g]; exact i1) (by omega);rw[yHm hu i0 (by omega)]at hp;rw[ytJ (ok.2 i i0 i1) hfi (by omega) hp];refine hix.xv i s i0 i1 s0 s1 ?_;have hb2:yaT (yi b i) (s+6)=false:=by rw[← hb]; exact(ts.b i (s+6) i0 i1 (by omega)).symm
  unfold yZ yab;rw[hfi,hb2]
  have:(i !=b.2.2.2.1||ltb s b.2.2.2.2.1)=true:=by
   rw[Bool.or_eq_true,bne_iff_ne,zj8];rcases hL with e | e<;>omega
  rw[this]; rfl
 ·obtain⟨h1,h3⟩:=old.h i n r i0 i1 hi h2 h6 hr
  exact⟨h1,fun h=>by omega⟩
theorem y0R {K:Int} {V:Int→Int→Int} {b:dA} (h:Ix K V b) (hk:K<60000):Mk (yQ (yd b)):=by
 have hc:=yaD b;have hk2:=yj2 h.xk;have:=h.xg;have e:=yqV hc
 have hx:yU (yQ (yd b)):=by
  have c:=yA3 hc h.xc;obtain⟨c1,c2,c3,c4,c5,c6,c7,c8,c9,c10,c11⟩:=c;refine⟨c1,c2,c3,c4,c5,c6,⟨?_,?_⟩,⟨Int.le_refl _,c8.2⟩,?_,c10,c11⟩
  ·show 0≤(yd b).2.2.2.2.2.1; omega
  ·show(yd b).2.2.2.2.2.1≤60000; omega
  ·show(yd b).2.2.2.2.2.1≤(yd b).2.2.2.2.2.1+4; omega
 exact y0Q hx hk2 (by show(yd b).2.2.2.2.2.2.2.1<60000; omega)
structure CoreEq (a b:dA):Prop where
 i:a.1=b.1
 g:a.2.1=b.2.1
 l:a.2.2.2.1=b.2.2.2.1
 u:a.2.2.2.2.1=b.2.2.2.2.1
 s:a.2.2.2.2.2.1=b.2.2.2.2.2.1
 t:a.2.2.2.2.2.2.1=b.2.2.2.2.2.2.1
 e:a.2.2.2.2.2.2.2.1=b.2.2.2.2.2.2.2.1
theorem ybd {a b:dA} (h:yw a=yw b):CoreEq a b:=⟨y28 h,yah h,ymV h,yig h,yfm h,yU5 h,yqV h⟩
theorem yRy {K T L B Lf:Int} {R:Int→Int×List Int} {V:Int→Int→Int} {b:dA} {f':Int→Int→List Int} {fl:Int→Bool} (hix:Ix K V b) (hk:K<60000) (hc:Ch (yo b) f') (hfl: ∀i,0≤i→i<b.2.1.1→fl i=false→yC b i=false) (hL:Lf=b.2.2.2.1∨(b.2.2.2.1= -1∧0≤Lf∧Lf<b.2.1.1∧fl Lf=true))
  (old: ∀f,Ch b f→ ∃Bf,Wsup b.1 b.2.1 b.2.2.2.2.2.2.2.1 T L B Lf Bf f fl∧Wdat b.2.1 T b.2.2.2.2.2.1 R V Lf Bf f fl (yI b)):WW (K+1) b.1 b.2.1 V Lf f' fl (yI (yo b)):=by
 have ok:=ybE hix.xk;have hg:=hix.xg;have hs:=hix.xs;have ts:=yHq (-1) (fun _=> []) ok
 have sy: ∀f,Ch (yd b) f→ ∃Bf,Wsup b.1 b.2.1 b.2.2.2.2.2.2.2.1 T L B Lf Bf f fl∧Wdat b.2.1 T b.2.2.2.2.2.1 R V Lf Bf f fl (yI (yd b)):=fun f hf=>by
  obtain⟨Bf,h1,h2⟩:=old f (yKw ok hf);exact⟨Bf,h1,yf4 h2 (fun i n i0 i1 hi hn=> .inl ⟨rfl,ts.b i n i0 i1 (by omega)⟩) (fun i n i0 i1 h=>ts.d i n i0 i1 h)⟩
 have ce:=ybd (yaD b);cases hu:ya (yd b)
 ·have e:yo b=yy (yQ (yd b)):=by unfold yo; rw[hu]; rfl
  rw[e]at hc ⊢;have hm:=y0R hix hk;obtain⟨c1,c2,c3,c4,c5,c6,c7⟩:=ce;have hC: ∀f,Ch (yQ (yd b)) f→Ch (yd b) f:=fun f hf=>hf
  have d0: ∀f,Ch (yd b) f→Wdat b.2.1 b.2.2.2.2.2.1 b.2.2.2.2.2.1 R V Lf b.2.2.2.2.1 f fl (yI (yd b)):=fun f hf=>by
   obtain⟨Bf,h1,h2⟩:=old f (yKw ok hf);exact yUi hix hu hf hfl (hL.imp id (fun h=>h.1)) h2
  have hT:=yXa (a:=yQ (yd b)) (T:=T) (L:=L) (B:=B) (Q:=b.2.2.2.2.2.1) (Lf:=Lf) (Lf2:=Lf) (R:=R) (V:=V) (fl:=fl) hm hc (fun i i0 i1 hi=>by
    have i1':i<b.2.1.1:=by rw[← c2]; exact i1
    exact(ts.f i i0 i1').trans (hfl i i0 i1' hi)) (fun f hf=>by
    show ∃Bf,Wsup (yd b).1 (yd b).2.1 (yd b).2.2.2.2.2.2.2.1 T L B Lf Bf f fl∧Wdat (yd b).2.1 T b.2.2.2.2.2.1 R V Lf Bf f fl (yI (yd b))
    rw[c1,c2,c7]; exact sy f hf) (fun f hf=>by
    show Wdat (yd b).2.1 (yd b).2.2.2.2.2.1 b.2.2.2.2.2.1 R V Lf (yd b).2.2.2.2.1 f fl (yI (yd b))
    rw[c2,c4,c5]; exact d0 f hf) (fun f hf i i0 i1 hne=>by
    obtain⟨Bf,h1,_⟩:=sy f hf;have i1':i<b.2.1.1:=by rw[← c2]; exact i1
    show fl i=false∧yfk (yd b).1 (f i)
    rw[c1]; exact h1.u2 i i0 i1' hne) (by
    show Lf=(yd b).2.2.2.1∨((yd b).2.2.2.1= -1∧0≤Lf∧Lf<(yd b).2.1.1∧fl Lf=true)
    rw[c2,c3]; exact hL)
  have hT:(∃Bf,Wsup (yd b).1 (yd b).2.1 (yd b).2.2.2.2.2.2.2.1 T L B Lf Bf f' fl∧Wdat (yd b).2.1 T b.2.2.2.2.2.1 R V Lf Bf f' fl (yI (yy (yQ (yd b))))) ∨
   ∃Bf,Wsup (yd b).1 (yd b).2.1 ((yd b).2.2.2.2.2.2.2.1+1) (yd b).2.2.2.2.2.1 (yd b).2.2.2.1 (yd b).2.2.2.2.1 Lf Bf f' fl∧Wdat (yd b).2.1 (yd b).2.2.2.2.2.1 b.2.2.2.2.2.1 R V Lf Bf f' fl (yI (yy (yQ (yd b)))):=hT
  rw[c1,c2,c7]at hT;rcases hT with⟨Bf,h1,h2⟩ | ⟨Bf,h1,h2⟩
  ·exact⟨_,_,_,_,_,_,Bf,by omega,by omega,h1,h2⟩
  ·exact⟨_,_,_,_,_,_,Bf,by omega,by omega,h1,h2⟩
 ·have e:yo b=yd b:=by unfold yo; rw[hu]; rfl
  rw[e]at hc ⊢;obtain⟨Bf,h1,h2⟩:=sy f' hc;exact⟨_,_,_,_,_,_,Bf,by omega,by omega,h1,h2⟩
theorem yxa {b:dA} (hk:yE b) {i m:Int} (i0:0≤i) (i1:i<b.2.1.1) (m0:2≤m):yI (yo b) i m=yI b i m∧yC (yo b) i=yC b i:=by
 have ts:=yHq (-1) (fun _=> []) (ybE hk);have hc:=yah (yaD b);have h1:yI (yd b) i m=yI b i m:=ts.b i m i0 i1 (by omega);have h2:=ts.f i i0 i1;unfold yo;cases ya (yd b)
 ·have ok2:ywN (yQ (yd b)):=ybE (a:=yQ (yd b)) (yj2 hk)
  have tm:=yHp ok2;have i1':i<(yQ (yd b)).2.1.1:=by show i<(yd b).2.1.1; rw[hc]; exact i1
  have hg:0≤(i64.wrap ((yQ (yd b)).2.2.2.2.2.2.2.1+1)).tmod 2∨(i64.wrap ((yQ (yd b)).2.2.2.2.2.2.2.1+1)).tmod 2<2:=by omega
  have hlt:(i64.wrap ((yQ (yd b)).2.2.2.2.2.2.2.1+1)).tmod 2<2:=by
   have:=Int.tmod_lt_of_pos (i64.wrap ((yQ (yd b)).2.2.2.2.2.2.2.1+1)) (show(0:Int)<2 by omega);exact this
  exact⟨(tm.b i m i0 i1' (by omega)).trans h1,(tm.f i i0 i1').trans h2⟩
 ·exact⟨h1,h2⟩
theorem y07 {K T L B Lf:Int} {R:Int→Int×List Int} {V:Int→Int→Int} {b:dA} {f':Int→Int→List Int} {fl:Int→Bool} (hix:Ix K V b) (hz:b.2.2.2.1≠ -1→yC b b.2.2.2.1=true→b.2.2.2.2.1=0) (hk:K<60000) (hu:ya (yo b)=false) (hc:Ch (yo b) f') (hal:Al b.2.2.2.1 b.2.1.1 (yC b) fl Lf)
  (old: ∀f,Ch b f→ ∃Bf,Wsup b.1 b.2.1 b.2.2.2.2.2.2.2.1 T L B b.2.2.2.1 Bf f (yC b)∧Wdat b.2.1 T b.2.2.2.2.2.1 R V b.2.2.2.1 Bf f (yC b) (yI b)) :
  ∃Bf,((Eq0 b fl Lf→Bf=b.2.2.2.2.1)∧(Eq0 b fl Lf→Lf≠ -1→fl Lf=false→yfk b.1 (f' Lf)))∧Wsup b.1 b.2.1 (b.2.2.2.2.2.2.2.1+1) b.2.2.2.2.2.1 b.2.2.2.1 b.2.2.2.2.1 Lf Bf f' fl∧Wdat b.2.1 b.2.2.2.2.2.1 b.2.2.2.2.2.1 R V Lf Bf f' fl (yI (yo b)):=by
 have ok:=ybE hix.xk;have ts:=yHq (-1) (fun _=> []) ok;have ce:=ybd (yaD b);obtain⟨hs,e⟩:=yGU hu;rw[e]at hu hc ⊢;have hm:=y0R hix hk;have six:=yW8 (y0M hix hs);obtain⟨c1,c2,c3,c4,c5,c6,c7⟩:=ce;have hfe: ∀i,0≤i→i<b.2.1.1→yC (yd b) i=yC b i:=ts.f
 have d0: ∀f,Ch (yd b) f→Wdat b.2.1 b.2.2.2.2.2.1 b.2.2.2.2.2.1 R V Lf b.2.2.2.2.1 f fl (yI (yd b)):=fun f hf=>by
  obtain⟨Bf,_,h2⟩:=old f (yKw ok hf);have hLf:Lf=b.2.2.2.1∨b.2.2.2.1= -1:=by rcases hal with⟨h,_⟩ | ⟨_,_,h,_⟩<;>omega
  have sub:=fun i i0 i1 hi=>yB1 hal (i:=i) i0 i1 hi
  have w0:=yUi (fl:=yC b) (Lf:=b.2.2.2.1) hix hs hf (fun i _ _ h=>h) (.inl rfl) h2;have q:=w0.q;refine⟨w0.e,w0.q,fun i s i0 i1 s0 s1 hi hl hb hj=> ?_,fun q q0 q1=>by omega,fun i n r i0 i1 hi h2 h6 hr=>w0.h i n r i0 i1 (sub i i0 i1 hi) h2 h6 hr,fun q q0 q1=>by omega,fun q q0 q1=>by omega,fun i n i0 i1 hi hn=>w0.b i n i0 i1 (sub i i0 i1 hi) hn⟩;exact w0.d i s i0 i1 s0 s1 (sub i i0 i1 hi) (by omega) hb hj
 have hD:=yW9 (a:=yQ (yd b)) (Q:=b.2.2.2.2.2.1) (Lf:=Lf) (R:=R) (V:=V) (fl:=fl) hm hu (fun i i0 i1=>y1h six i0 i1) (fun i i0 i1 hf=>y1g six i0 i1 hf) hc (by
   show Al (yd b).2.2.2.1 (yd b).2.1.1 (yC (yd b)) fl Lf
   rw[c2,c3]; exact ywU hal (fun i i0 i1=>(hfe i i0 i1).symm)) (fun f hf i n s i0 i1 hi hn2 hsv=>by
   have i1':i<b.2.1.1:=by rw[← c2]; exact i1
   obtain⟨Bf,h1,_⟩:=old f (yKw ok hf);have hsv:yvP (yd b).1 n (f i n) s:=hsv;rw[c1]at hsv;obtain⟨g1,g2⟩:=h1.u1 i n s i0 i1' ((hfe i i0 i1').symm.trans hi) hn2 hsv;refine⟨g1,?_⟩;show s.2.1≤(yd b).2.2.2.2.2.2.2.1;rw[c7];rcases g2 with g2 | g2
   ·omega
   ·rw[g2]; exact Int.le_refl _) (fun f hf=>by
   show Wdat (yd b).2.1 (yd b).2.2.2.2.2.1 b.2.2.2.2.2.1 R V Lf (yd b).2.2.2.2.1 f fl (yI (yd b))
   rw[c2,c4,c5]; exact d0 f hf) (by
   show(yd b).2.2.2.1≠ -1→yC (yd b) (yd b).2.2.2.1=true→(yd b).2.2.2.2.1=0;rw[c3,c4];intro h1 h2;have hl:=hix.xc.2.2.2.1;rw[hfe _ (by omega) (by omega)]at h2
   exact hz h1 h2)
 have hD: ∃Bf,((Eq0 (yd b) fl Lf→Bf=(yd b).2.2.2.2.1)∧(Eq0 (yd b) fl Lf→Lf≠ -1→fl Lf=false→yfk (yd b).1 (f' Lf)))∧Wsup (yd b).1 (yd b).2.1 ((yd b).2.2.2.2.2.2.2.1+1) (yd b).2.2.2.2.2.1 (yd b).2.2.2.1 (yd b).2.2.2.2.1 Lf Bf f' fl∧Wdat (yd b).2.1 (yd b).2.2.2.2.2.1 b.2.2.2.2.2.1 R V Lf Bf f' fl (yI (yy (yQ (yd b)))):=hD;have he:Eq0 b fl Lf→Eq0 (yd b) fl Lf:=fun h=>⟨by rw[c3]; exact h.1,fun i i0 i1=>by rw[c2]at i1; exact(h.2 i i0 i1).trans (hfe i i0 i1).symm⟩
 rw[c1,c2,c3,c4,c5,c7]at hD;obtain⟨Bf,⟨h1,h2⟩,h3⟩:=hD;exact⟨Bf,⟨fun h=>h1 (he h),fun h=>h2 (he h)⟩,h3⟩
theorem y0W {B0:Int} {V:Int→Int→Int} {a:dA} {R:Int→Int×List Int} (h:yNv R B0 V a) {fl:Int→Bool} {Lf:Int} (hal:Al a.2.2.2.1 a.2.1.1 (yC a) fl Lf) :
  ∀f,Ch a f→ ∃Bf,Wsup a.1 a.2.1 a.2.2.2.2.2.2.2.1 a.2.2.2.2.2.2.1 a.2.2.2.1 B0 Lf Bf f fl∧Wdat a.2.1 a.2.2.2.2.2.2.1 a.2.2.2.2.2.1 R V Lf Bf f fl (yI a):=fun f hf=>by
 obtain⟨Bf,_,h1,h2⟩:=h.2 f fl Lf hf hal;exact⟨Bf,h1,h2⟩
theorem yKt (a:dA):Al a.2.2.2.1 a.2.1.1 (yC a) (yC a) a.2.2.2.1:= .inl ⟨rfl,fun _ _ _=>rfl⟩
theorem y3w {L N Lf:Int} {fl0 fl:Int→Bool} (h:Al L N fl0 fl Lf):Lf=L∨(L= -1∧0≤Lf∧Lf<N∧fl Lf=true):=by
 rcases h with⟨h,_⟩ | ⟨h1,h2,h3,h4⟩
 ·exact .inl h
 ·rcases h3 with h3 | h3
  ·exact .inr ⟨h3,h1,h2,by rw[h4 Lf h1 h2,beq_self_eq_true,Bool.or_true]⟩
  ·exact .inl h3.symm
theorem yAS (b:dA):(yo b).1=b.1∧(yo b).2.1=b.2.1∧(yo b).2.2.2.1=b.2.2.2.1∧(yo b).2.2.2.2.1=b.2.2.2.2.1∧(yo b).2.2.2.2.2.1=b.2.2.2.2.2.1:=by
 obtain⟨c1,c2,c3,c4,c5,_,_⟩:=ybd (yaD b);unfold yo;cases ya (yd b)
 ·obtain⟨d1,d2,d3,d4,d5,_,_⟩:=ybd (yij (yQ (yd b)))
  exact⟨d1.trans c1,d2.trans c2,d3.trans c3,d4.trans c4,d5.trans c5⟩
 ·exact⟨c1,c2,c3,c4,c5⟩
theorem yWT {b:dA} (hg:0≤b.2.2.2.2.2.2.2.1∧b.2.2.2.2.2.2.2.1<60000) (hu:ya (yo b)=false):(yo b).2.2.2.2.2.2.1=b.2.2.2.2.2.1∧(yo b).2.2.2.2.2.2.2.1=b.2.2.2.2.2.2.2.1+1:=by
 obtain⟨c1,c2,c3,c4,c5,c6,c7⟩:=ybd (yaD b);obtain⟨_,e⟩:=yGU hu;obtain⟨d1,d2,d3,d4,d5,d6,d7⟩:=ybd (yij (yQ (yd b)));rw[e];refine⟨d6.trans c5,d7.trans ?_⟩;show i64.wrap ((yd b).2.2.2.2.2.2.2.1+1)=_;rw[c7]; exact wr (by omega) (by omega)
theorem y1o {a r:dA} (h:Nb a) (hg:r.2.1=a.2.1) (hl:r.2.2.2.1=a.2.2.2.1) (hb:r.2.2.2.2.1=a.2.2.2.2.1) (hlr: -1≤a.2.2.2.1∧a.2.2.2.1≤a.2.1.1-1) (hd: ∀i m,0≤i→i<a.2.1.1→6≤m→yI r i m=true→yI a i m=true) (hf: ∀i,0≤i→i<a.2.1.1→yC r i=yC a i):Nb r:=by
 refine⟨fun h1 i s i0 i1 hi s0 s1=> ?_,fun h1 h2=> ?_⟩
 ·rw[hl]at h1 hi
  rw[hg]at i1;rw[hb]at s1;cases hx:yI r i (s+6)
  ·rfl
  ·rw[← h.n h1 i s i0 i1 hi s0 s1]; exact(hd i (s+6) i0 i1 (by omega) hx).symm
 ·rw[hl]at h1 h2
  rw[hb];rw[hf _ (by omega) (by omega)]at h2;exact h.z h1 h2
theorem yWS {K T L B:Int} {R:Int→Int×List Int} {V:Int→Int→Int} {b:dA} (hix:Ix K V b) (hz:b.2.2.2.1≠ -1→yC b b.2.2.2.1=true→b.2.2.2.2.1=0) (hk:K+1≤60000) (hu:ya (yo b)=false)
  (old: ∀f,Ch b f→ ∃Bf,Wsup b.1 b.2.1 b.2.2.2.2.2.2.2.1 T L B b.2.2.2.1 Bf f (yC b)∧Wdat b.2.1 T b.2.2.2.2.2.1 R V b.2.2.2.1 Bf f (yC b) (yI b)):yNv R (yo b).2.2.2.2.1 V (yo b):=by
 have c:=hix.xc;unfold yU at c;obtain⟨s1,s2,s3,s4,s5⟩:=yAS b;have hg:=hix.xg;have hfl: ∀i,0≤i→i<b.2.1.1→yC (yo b) i=yC b i:=fun i i0 i1=>(yxa (m:=2) hix.xk i0 i1 (by omega)).2
 obtain⟨t1,t2⟩:=yWT (b:=b) (by omega) hu;refine⟨Int.le_refl _,fun f fl Lf hf hal=> ?_⟩;rw[s2,s3]at hal;have hal2:=ywU hal hfl;obtain⟨Bf,⟨h1,h2⟩,h3⟩:=y07 hix hz (by omega) hu hf hal2 old;have he:Eq0 (yo b) fl Lf→Eq0 b fl Lf:=fun e=>⟨e.1.trans s3,fun i i0 i1=>(e.2 i i0 (by rw[s2]; exact i1)).trans (hfl i i0 i1)⟩
 rw[s1,s2,s3,s4,s5,t1,t2];exact⟨Bf,⟨fun e=>h1 (he e),fun e=>h2 (he e)⟩,h3⟩
theorem yZM {K:Int} {V:Int→Int→Int} {a:dA} (h:Lv K V a) (hk:K+1≤60000) :
  (ya (yo a)=false→Lv (K+1) V (yo a))∧(ya (yo a)=true→Dd (K+1) (· =V) (yo a)):=by
 obtain⟨B0,R,hr⟩:=h.r;have c:=h.x.xc;unfold yU at c;obtain⟨s1,s2,s3,s4,s5⟩:=yAS a;have hfl: ∀i,0≤i→i<a.2.1.1→yC (yo a) i=yC a i:=fun i i0 i1=>(yxa (m:=2) h.x.xk i0 i1 (by omega)).2
 have hg:=h.x.xg;refine⟨fun hu=>⟨yOD h.x hk hu,⟨_,R,yWS h.x h.n.z hk hu (y0W hr (yKt a))⟩,?_⟩,fun hd f fl Lf hf hal=>⟨V,rfl,?_⟩⟩
 ·exact y1o h.n s2 s3 s4 (by omega) (fun i m i0 i1 m0 hb=>by rw[(yxa h.x.xk i0 i1 (by omega)).1]at hb; exact hb) hfl
 ·rw[s2,s3]at hal
  have hal2:=ywU hal hfl;have:=yRy h.x (by omega) hf (fun i i0 i1 hi=>yB1 hal2 i0 i1 hi) (y3w hal2) (y0W hr hal2);rw[s1,s2]; exact this
theorem y2D {K:Int} {V:Int→Int→Int} {a:dA} {l:List dW} (h:Lv K V a) (hd:yaO a.2.1 l=true):Lv K V (ywK a l):=⟨yM4 h.x hd,h.r,⟨h.n.n,h.n.z⟩⟩
theorem y3H {K:Int} {V:Int→Int→Int} {a:dA} {b n:Int} (h:Lv K V a) (hb:ykn a.2.1 b=true) (hn:isW n=true):Lv K V (ypS a b n).2:=by
 have hi:=y3E h.x hb hn;unfold ypS at hi ⊢;cases hs:(ybB a (yb2 a.2.1 b)).2
 ·exact h
 ·rw[hs]at hi
  exact⟨hi,h.r,⟨h.n.n,h.n.z⟩⟩
theorem y11 (r:dN):yav (yX r)=true:=by
 unfold yX;cases h:yR r
 ·rfl
 ·have hr:=yrY.1 h
  refine yxV.2 ⟨?_,fun x hx=> ?_⟩
  ·show(21322::r.1::r.2.1::(r.2.2.length:Int)::r.2.2).length≤12
   simp only[List.length_cons]; omega
  ·have hx:x∈21322::r.1::r.2.1::(r.2.2.length:Int)::r.2.2:=hx
   simp only[List.mem_cons]at hx;rcases hx with hx | hx | hx | hx | hx
   ·omega
   ·omega
   ·omega
   ·omega
   ·exact yrV.1 (yFS.1 hr.2.2.2 x hx)
def Two (V W X:Int→Int→Int):Prop:=X=V∨X=W
theorem yNI (a:dA):(yv a).1=a.1∧(yv a).2.1=a.2.1∧(yv a).2.2.2.1=a.2.2.2.1∧(yv a).2.2.2.2.1=a.2.2.2.2.1∧(yv a).2.2.2.2.2.1=a.2.2.2.2.2.1:=by
 unfold yv;cases leb 4 (i64.wrap (a.2.2.2.2.2.1-a.2.2.2.2.2.2.1))
 ·exact⟨rfl,rfl,rfl,rfl,rfl⟩
 ·exact yAS a
theorem y3G {K:Int} {V:Int→Int→Int} {a:dA} (h:Lv K V a) (hk:K+1≤60000) :
  (ya (yv a)=false→Lv (K+1) V (yv a))∧(ya (yv a)=true→Dd (K+1) (· =V) (yv a)):=by
 unfold yv;cases leb 4 (i64.wrap (a.2.2.2.2.2.1-a.2.2.2.2.2.2.1))
 ·exact⟨fun _=>yrW h (by omega),fun hd=>by rw[cond_false,h.x.xu]at hd; cases hd⟩
 ·exact yZM h hk
theorem y27 {b:dA} (hk:yE b) {i m:Int} (i0:0≤i) (i1:i<b.2.1.1) (m0:2≤m):yI (yv b) i m=yI b i m∧yC (yv b) i=yC b i:=by
 unfold yv;cases leb 4 (i64.wrap (b.2.2.2.2.2.1-b.2.2.2.2.2.2.1))
 ·exact⟨rfl,rfl⟩
 ·exact yxa hk i0 i1 m0
theorem y2L {K s:Int} {d:List Int} {V:Int→Int→Int} {a:dA} (h:Lv K V a) (h3:a.2.2.2.2.2.1-a.2.2.2.2.2.2.1≤3) (hq:a.2.2.2.2.2.1<60000) (hs:yac a.2.1 s=true) (hl:(d.length:Int)=a.2.1.1-1) (hd:d.all isW=true):Dd (K+1) (Two V (ykM V a.2.1 s d)) (yp a (a.2.2.2.2.2.1,s,d)):=by
 obtain⟨B0,R,hB,hr⟩:=h.r;have ok:=ybE h.x.xk;have hg:=h.x.xg;have hs2:=h.x.xs;have ht:=yKG (a.2.2.2.2.2.1,s,d) ok;have c:=h.x.xc;unfold yU at c;have hsl:=yjW (q:=a.2.2.2.2.2.1) (by omega);obtain⟨c1,c2,c3,c4,c5,c6,c7⟩:=ybd (ybe a (a.2.2.2.2.2.1,s,d));intro f' fl Lf hf hal;rw[c1,c2];rw[c2,c3]at hal;have hal2:=ywU hal ht.f;obtain⟨f,hf0,hff⟩:=ht.c f' hf;obtain⟨Bf,_,h1,h2⟩:=hr f fl Lf hf0 hal2
 have sup:Wsup a.1 a.2.1 a.2.2.2.2.2.2.2.1 a.2.2.2.2.2.2.1 a.2.2.2.1 B0 Lf Bf f' fl:=yf5 h1 (fun i n i0 i1 _ hn=>by
  rcases hff i n i0 i1 (by omega)with e | ⟨e,_⟩
  ·exact e
  ·have:n=yf a.2.2.2.2.2.1:=e
   omega)
 have hb6: ∀i n,0≤i→i<a.2.1.1→6≤n→yI (yp a (a.2.2.2.2.2.1,s,d)) i n=yI a i n:=fun i n i0 i1 h6=>ht.b i n i0 i1 (fun e=>by have:n=yf a.2.2.2.2.2.1:=e; omega)
 have hf2: ∀i n,0≤i→i<a.2.1.1→fl i=false→2≤n→f' i n=f i n∨(n=yf a.2.2.2.2.2.1∧f' i n=yX (a.2.2.2.2.2.1,s,d)):=fun i n i0 i1 _ hn=>hff i n i0 i1 (by omega)
 by_cases hx: ∃i,0≤i∧i<a.2.1.1∧fl i=false∧f' i (yf a.2.2.2.2.2.1)=yX (a.2.2.2.2.2.1,s,d)
 ·exact⟨ykM V a.2.1 s d,.inr rfl,_,_,_,_,_,_,Bf,by omega,by omega,sup,yXj h2 (by omega) hq hs hl hd hf2 hb6 (fun i n i0 i1 hn=>ht.d i n i0 i1 hn) hx⟩
 ·refine⟨V,.inl rfl,_,_,_,_,_,_,Bf,by omega,by omega,sup,yf4 h2 (fun i n i0 i1 hi hn=> .inl ?_) (fun i n i0 i1 hn=>ht.d i n i0 i1 hn)⟩
  have hb: ∀k,0≤k→k<6→yI (yp a (a.2.2.2.2.2.1,s,d)) i k=yI a i k:=fun k k0 k6=>by
   have g2:yI a i k=false:=by
    cases hb:yI a i k
    ·rfl
    ·have:=h2.b i k i0 i1 hi hb; omega
   cases hb:yI (yp a (a.2.2.2.2.2.1,s,d)) i k
   ·exact g2.symm
   ·rw[ht.d i k i0 i1 hb]at g2; cases g2
  refine⟨?_,?_⟩
  ·rcases hf2 i n i0 i1 hi hn with e | ⟨e,e2⟩
   ·exact e
   ·exact absurd ⟨i,i0,i1,hi,by rw[← e]; exact e2⟩ hx
  ·by_cases h6:6≤n
   ·exact hb6 i n i0 i1 h6
   ·exact hb n (by omega) (by omega)
theorem y2K {K B0 s:Int} {d:List Int} {V:Int→Int→Int} {R:Int→Int×List Int} {a:dA} (h:Ix K V a) (hB:yNv R B0 V a) (h3:a.2.2.2.2.2.1-a.2.2.2.2.2.2.1≤3) (hq:a.2.2.2.2.2.1<60000) (hs:yac a.2.1 s=true) (hl:(d.length:Int)=a.2.1.1-1) (hd:d.all isW=true) (hu:ya (yp a (a.2.2.2.2.2.1,s,d))=false):yNv (yWJ R a.2.2.2.2.2.1 s d) B0 (ykM V a.2.1 s d) (yJ (yp a (a.2.2.2.2.2.1,s,d))):=by
 obtain⟨hB,hr⟩:=hB;have ok:=ybE h.xk;have ht:=yKG (a.2.2.2.2.2.1,s,d) ok;have c:=h.xc;unfold yU at c;have hsl:=yjW (q:=a.2.2.2.2.2.1) (by omega);obtain⟨c1,c2,c3,c4,c5,c6,c7⟩:=ybd (ybe a (a.2.2.2.2.2.1,s,d))
 have hsq:(yJ (yp a (a.2.2.2.2.2.1,s,d))).2.2.2.2.2.1=a.2.2.2.2.2.1+1:=by
  show i64.wrap ((yp a (a.2.2.2.2.2.1,s,d)).2.2.2.2.2.1+1)=_;rw[c5]; exact wr (by omega) (by omega)
 refine⟨by show B0≤(yp a (a.2.2.2.2.2.1,s,d)).2.2.2.2.1; rw[c4]; exact hB,fun f' fl Lf hf hal=> ?_⟩;have hf:Ch (yp a (a.2.2.2.2.2.1,s,d)) f':=hf;have hal:Al (yp a (a.2.2.2.2.2.1,s,d)).2.2.2.1 (yp a (a.2.2.2.2.2.1,s,d)).2.1.1 (yC (yp a (a.2.2.2.2.2.1,s,d))) fl Lf:=hal;rw[c2,c3]at hal;have hal2:=ywU hal ht.f;obtain⟨f,hf0,hff⟩:=ht.c f' hf;obtain⟨Bf,⟨p1,p2⟩,h1,h2⟩:=hr f fl Lf hf0 hal2
 have hn01: ∀i n,0≤i→i<a.2.1.1→(n=0∨n=1)→f' i n=f i n:=fun i n i0 i1 hn=>by
  rcases hff i n i0 i1 (by omega)with e | ⟨e,_⟩
  ·exact e
  ·have:n=yf a.2.2.2.2.2.1:=e
   omega
 have sup:Wsup a.1 a.2.1 a.2.2.2.2.2.2.2.1 a.2.2.2.2.2.2.1 a.2.2.2.1 B0 Lf Bf f' fl:=yf5 h1 (fun i n i0 i1 _ hn=>hn01 i n i0 i1 hn)
 have he:Eq0 (yJ (yp a (a.2.2.2.2.2.1,s,d))) fl Lf→Eq0 a fl Lf:=fun e=>by
  have e1:Lf=(yp a (a.2.2.2.2.2.1,s,d)).2.2.2.1:=e.1;refine⟨e1.trans c3,fun i i0 i1=> ?_⟩;have:=e.2 i i0 (by show i<(yp a (a.2.2.2.2.2.1,s,d)).2.1.1; rw[c2]; exact i1);exact this.trans (ht.f i i0 i1)
 have hlen:=h.xk.1.2
 have two: ∃i,0≤i∧i<a.2.1.1∧i≠Lf:=by
  have hg3:=yn.1 h.xc.1;by_cases h:Lf=0
  ·exact⟨1,by omega,by omega,by omega⟩
  ·exact⟨0,by omega,by omega,fun e=>h e.symm⟩
 obtain⟨j,j0,j1,hj⟩:=two;have hjf:=(h1.u2 j j0 j1 hj).1
 have hx:f' j (yf a.2.2.2.2.2.1)=yX (a.2.2.2.2.2.1,s,d):=by
  have hp:=hf j (yf a.2.2.2.2.2.1) j0 (by rw[c2]; exact j1) (by omega);have hjd:(yi a j).2.2.1=false:=yB1 hal2 j0 j1 hjf;rw[yKD hu j0 (by omega)]at hp;obtain⟨x1,x2⟩:=y1h h j0 j1;have dk:=ydD h.xk j0 j1;have hg3:=yn.1 h.xc.1;have hcw:=ypF (n:=yf a.2.2.2.2.2.1) (s:=yX (a.2.2.2.2.2.1,s,d)) dk.1 hjd (zj4.2 (by omega)) (y11 _) x2;rw[ytJ (yog dk.1) ((yEH _ _ _).trans hjd) (by show 0≤yf a.2.2.2.2.2.1; omega) hp];unfold ydY;rw[hjd,cond_false];show yb1 (yT (yi a j) (yf a.2.2.2.2.2.1) (yX (a.2.2.2.2.2.1,s,d))).1 _=_;rw[ymW hcw,beq_self_eq_true]; rfl
 have dat:=yXj h2 (by omega) hq hs hl hd (fun i n i0 i1 _ hn=>hff i n i0 i1 (by omega)) (fun i n i0 i1 h6=>ht.b i n i0 i1 (fun e=>by have:n=yf a.2.2.2.2.2.1:=e; omega)) (fun i n i0 i1 hn=>ht.d i n i0 i1 hn) ⟨j,j0,j1,hjf,hx⟩;refine⟨Bf,⟨fun e=>p1 (he e),fun e e1 e2=> ?_⟩,?_,?_⟩
 ·have hown:=p2 (he e) e1 e2
  show yfk (yp a (a.2.2.2.2.2.1,s,d)).1 (f' Lf);rw[c1];obtain⟨n,s',hn,hsv⟩:=hown;have hr2:0≤Lf∧Lf<a.2.1.1:=by have:=(he e).1; omega
  exact⟨n,s',hn,by rw[hn01 Lf n hr2.1 hr2.2 hn]; exact hsv⟩
 ·show Wsup (yp a (a.2.2.2.2.2.1,s,d)).1 (yp a (a.2.2.2.2.2.1,s,d)).2.1 (yp a (a.2.2.2.2.2.1,s,d)).2.2.2.2.2.2.2.1 (yp a (a.2.2.2.2.2.1,s,d)).2.2.2.2.2.2.1 (yp a (a.2.2.2.2.2.1,s,d)).2.2.2.1 B0 Lf Bf f' fl
  rw[c1,c2,c3,c6,c7]; exact sup
 ·rw[hsq]
  show Wdat (yp a (a.2.2.2.2.2.1,s,d)).2.1 (yp a (a.2.2.2.2.2.1,s,d)).2.2.2.2.2.2.1 _ _ _ _ _ _ _ _;rw[c2,c6]; exact dat
theorem y2M {B0 q s:Int} {d:List Int} {V:Int→Int→Int} {R:Int→Int×List Int} {a:dA} (hk:ywN a) (hs:yac a.2.1 s=true) (h:yNv R B0 V a) (q0:a.2.2.2.2.2.2.1≤q) (q1:q<a.2.2.2.2.2.1) (hq:(R q).1=s):yNv R B0 V (yF a s d):=by
 obtain⟨hB,hr⟩:=h;have ht:=yQy s d hk;have h1:=yY.1 hs;have hg:=yn.1 h1.1;have hda:=yih (s:=s) h1.2.1 (by omega);obtain⟨c1,c2,c3,c4,c5,c6,c7⟩:=ybd (ydU a s d);refine⟨by rw[c4]; exact hB,fun f' fl Lf hf hal=> ?_⟩;rw[c2,c3]at hal;have hal2:=ywU hal ht.f;obtain⟨f,hf0,hff⟩:=ht.c f' hf;obtain⟨Bf,⟨p1,p2⟩,h1,h2⟩:=hr f fl Lf hf0 hal2
 have hn01: ∀i n,0≤i→i<a.2.1.1→(n=0∨n=1)→f' i n=f i n:=fun i n i0 i1 hn=>by
  rcases hff i n i0 i1 (by omega)with e | ⟨e,_⟩
  ·exact e
  ·omega
 have he:Eq0 (yF a s d) fl Lf→Eq0 a fl Lf:=fun e=>⟨e.1.trans c3,fun i i0 i1=>(e.2 i i0 (by rw[c2]; exact i1)).trans (ht.f i i0 i1)⟩
 rw[c1,c2,c3,c5,c6,c7];refine⟨Bf,⟨fun e=>p1 (he e),fun e e1 e2=> ?_⟩,yf5 h1 (fun i n i0 i1 _ hn=>hn01 i n i0 i1 hn),yf4 h2 (fun i n i0 i1 hi hn=> ?_) (fun i n i0 i1 hn=>ht.d i n i0 i1 hn)⟩
 ·obtain⟨j,j0,j1,_⟩:=h1.u3
  have hL:=ye0 (h1.u0 j j0 j1);have:=(he e).1;obtain⟨n,s',hn,hsv⟩:=p2 (he e) e1 e2;exact⟨n,s',hn,by rw[hn01 Lf n (by omega) (by omega) hn]; exact hsv⟩
 ·by_cases hx:n=yx s
  ·exact .inr (.inl ⟨q,q0,q1,by omega⟩)
  ·rcases hff i n i0 i1 (by omega)with e | ⟨e,_⟩
   ·exact .inl ⟨e,ht.b i n i0 i1 hx⟩
   ·exact absurd e hx
theorem yZ5 {K B0:Int} {V:Int→Int→Int} {a:dA} (h:Rob B0 V a) (h1:a.2.2.2.2.2.2.2.1≤K) (h2:a.2.2.2.2.2.1≤K):Dd K (· =V) a:=fun f fl Lf hf hal=>by
 obtain⟨R,_,hr⟩:=h;obtain⟨Bf,_,g1,g2⟩:=hr f fl Lf hf hal;exact⟨V,rfl,_,_,_,_,_,R,Bf,h1,h2,g1,g2⟩
theorem y0D (a:dA) (s:Int) (d:List Int):(yK a s d).2.1=a.1∧(yK a s d).2.2.1=a.2.1∧(yK a s d).2.2.2.2.1=a.2.2.2.1∧(yK a s d).2.2.2.2.2.1=a.2.2.2.2.1:=by
 obtain⟨e1,e2,e3,e4,_⟩:=yNI a;obtain⟨c1,c2,c3,c4,_,_,_⟩:=ybd (ybe (yv a) ((yv a).2.2.2.2.2.1,s,d));unfold yK;generalize yp (yv a) ((yv a).2.2.2.2.2.1,s,d)=R at c1 c2 c3 c4 ⊢;obtain⟨g1,g2,g3,g4,_,_,_⟩:=ybd (ydU (yJ R) s d);generalize yF (yJ R) s d=Q at g1 g2 g3 g4 ⊢;cases ya (yv a)
 ·cases ya R
  ·exact⟨(g1.trans c1).trans e1,(g2.trans c2).trans e2,(g3.trans c3).trans e3,(g4.trans c4).trans e4⟩
  ·exact⟨c1.trans e1,c2.trans e2,c3.trans e3,c4.trans e4⟩
 ·exact⟨e1,e2,e3,e4⟩
theorem y2h {a:dA} {s:Int} {d:List Int} (hk:yE a) (hs:yac a.2.1 s=true) (hq:0≤a.2.2.2.2.2.1) {i m:Int} (i0:0≤i) (i1:i<a.2.1.1) (m0:6≤m):(yI (yK a s d).2 i m=true→yI a i m=true)∧yC (yK a s d).2 i=yC a i:=by
 have hkc:yE (yv a):=by
  unfold yv;cases leb 4 (i64.wrap (a.2.2.2.2.2.1-a.2.2.2.2.2.2.1))
  ·exact hk
  ·exact yAY hk
 obtain⟨e1,e2,e3,e4,e5⟩:=yNI a;have hc:=y27 (m:=m) hk i0 i1 (by omega);have i1c:i<(yv a).2.1.1:=by rw[e2]; exact i1
 have hr:=yKG ((yv a).2.2.2.2.2.1,s,d) (ybE hkc);have hkr:=ywj ((yv a).2.2.2.2.2.1,s,d) hkc;have hrb:=hr.d i m i0 i1c;have hrf:=hr.f i i0 i1c;unfold yK;generalize yp (yv a) ((yv a).2.2.2.2.2.1,s,d)=R at hr hkr hrb hrf ⊢;have hd:=yQy (a:=yJ R) s d (ybE (a:=yJ R) hkr);have i1r:i<(yJ R).2.1.1:=by show i<R.2.1.1; rw[hr.g]; exact i1c
 have hdb:=hd.d i m i0 i1r;have hdf:=hd.f i i0 i1r;generalize yF (yJ R) s d=Q at hdb hdf ⊢;cases ya (yv a)
 ·cases ya R
  ·exact⟨fun h=>by have:=hrb (hdb h); rw[hc.1]at this; exact this,(hdf.trans hrf).trans hc.2⟩
  ·exact⟨fun h=>by have:=hrb h; rw[hc.1]at this; exact this,hrf.trans hc.2⟩
 ·exact⟨fun h=>by have:yI (yv a) i m=true:=h; rw[hc.1]at this; exact this,hc.2⟩
theorem y2N {K s:Int} {d:List Int} {V:Int→Int→Int} {C:dA} (lc:Lv K V C) (h3:C.2.2.2.2.2.1-C.2.2.2.2.2.2.1≤3) (hq:C.2.2.2.2.2.1<60000) (hs:yac C.2.1 s=true) (hl:(d.length:Int)=C.2.1.1-1) (hd:d.all isW=true) (hr:ya (yp C (C.2.2.2.2.2.1,s,d))=false) :
  (∃B0,Rob B0 (ykM V C.2.1 s d) (yF (yJ (yp C (C.2.2.2.2.2.1,s,d))) s d))∧Dd (K+1) (· =ykM V C.2.1 s d) (yF (yJ (yp C (C.2.2.2.2.2.1,s,d))) s d):=by
 obtain⟨B0,R,hR⟩:=lc.r;have rd:=y2K lc.x hR h3 hq hs hl hd hr;have c:=ybd (ybe C (C.2.2.2.2.2.1,s,d));have kp:=ywj (C.2.2.2.2.2.1,s,d) lc.x.xk;have lcx:=lc.x.xc;unfold yU at lcx;have hg:=lc.x.xg;have hx:=lc.x.xs;generalize yp C (C.2.2.2.2.2.1,s,d)=P at rd c kp;have e5:=c.s
 have hsq:(yJ P).2.2.2.2.2.1=C.2.2.2.2.2.1+1:=by
  show i64.wrap (P.2.2.2.2.2.1+1)=_;rw[e5]; exact wr (by omega) (by omega)
 have hsg:(yJ P).2.1=C.2.1:=c.g;have hst:(yJ P).2.2.2.2.2.2.1=C.2.2.2.2.2.2.1:=c.t;have hse:(yJ P).2.2.2.2.2.2.2.1=C.2.2.2.2.2.2.2.1:=c.e;have kp2:yE (yJ P):=kp;generalize yJ P=U at rd hsq hsg hst hse kp2;have rr:=y2M (d:=d) (q:=C.2.2.2.2.2.1) (ybE kp2) (by rw[hsg]; exact hs) rd (by omega) (by omega) (by rw[ywI]);have g:=ybd (ydU U s d);have g5:=g.s;have g7:=g.e;exact⟨⟨B0,_,rr⟩,yZ5 ⟨_,rr⟩ (by omega) (by omega)⟩
theorem y2G {K s:Int} {d:List Int} {V:Int→Int→Int} {a:dA} (h:Lv K V a) (hs:yac a.2.1 s=true) (hl:(d.length:Int)=a.2.1.1-1) (hd:d.all isW=true) (hq:a.2.2.2.2.2.1<60000) (hk:K+1≤60000) :
  (ya (yK a s d).2=false→Lv (K+2) (ykM V a.2.1 s d) (yK a s d).2∧(yK a s d).1=0)∧(ya (yK a s d).2=true→Dd (K+2) (Two V (ykM V a.2.1 s d)) (yK a s d).2∧(yK a s d).1≠0):=by
 have c:=h.x.xc;unfold yU at c;obtain⟨w1,w2,w3,w4⟩:=y0D a s d;have hb:=fun i m i0 i1 m0=>y2h (s:=s) (d:=d) h.x.xk hs (by omega) (i:=i) (m:=m) i0 i1 m0
 have up:=fun hu=>y2B h.x hs hl hd hq hk hu
 have key:(ya (yK a s d).2=false→ ∃B0,Rob B0 (ykM V a.2.1 s d) (yK a s d).2)∧(ya (yK a s d).2=true→Dd (K+2) (Two V (ykM V a.2.1 s d)) (yK a s d).2∧(yK a s d).1≠0):=by
  obtain⟨e1,e2,e3,e4,e5⟩:=yNI a;have l1:=y3G h hk;have l3:=fun hc=>(y1S h.x hk hc).2.2
  unfold yK;generalize yv a=C at e1 e2 e3 e4 e5 l1 l3;cases hc:ya C
  ·have lc:=l1.1 hc
   have h3:=l3 hc;have rr:=y2N (s:=s) (d:=d) lc h3 (by omega) (by rw[e2]; exact hs) (by rw[e2]; exact hl) hd;have rt:=y2L lc h3 (by omega) (by rw[e2]; exact hs) (by rw[e2]; exact hl) hd;rw[e2]at rr rt;generalize yp C (C.2.2.2.2.2.1,s,d)=P at rr rt;cases hr:ya P
   ·obtain⟨r1,r2⟩:=rr hr
    generalize yF (yJ P) s d=Q at r1 r2;refine⟨fun _=>r1,fun hu=>⟨yrP r2 (by omega) (fun X hX=> .inr hX),?_⟩⟩;have hu:ya Q=true:=hu;show(bif ya Q then(6:Int)else 0)≠0;rw[hu]; decide
   ·exact⟨(fun hu=>by have hu:ya P=false:=hu; rw[hr]at hu; cases hu),fun _=>⟨yrP rt (by omega) (fun X hX=>hX),by show(6:Int)≠0; decide⟩⟩
  ·exact⟨(fun hu=>by have hu:ya C=false:=hu; rw[hc]at hu; cases hu),fun _=>⟨yrP (l1.2 hc) (by omega) (fun X hX=> .inl hX),by show(6:Int)≠0; decide⟩⟩
 generalize yK a s d=W at w1 w2 w3 w4 hb up key;refine⟨fun hu=>⟨⟨(up hu).1,key.1 hu,?_⟩,(up hu).2⟩,key.2⟩;exact y1o h.n w2 w3 w4 (by omega) (fun i m i0 i1 m0=>(hb i m i0 i1 m0).1) (fun i i0 i1=>(hb i 6 i0 i1 (by omega)).2)
theorem y0P {K T L B:Int} {R:Int→Int×List Int} {V:Int→Int→Int} {A:dA} (hx:Ix K V A) (hn:Nb A) (hk:K+1≤60000)
  (old: ∀f fl Lf,Ch A f→Al A.2.2.2.1 A.2.1.1 (yC A) fl Lf→ ∃Bf,Wsup A.1 A.2.1 A.2.2.2.2.2.2.2.1 T L B Lf Bf f fl∧Wdat A.2.1 T A.2.2.2.2.2.1 R V Lf Bf f fl (yI A))
  (new: ∀f fl Lf,Ch A f→Al A.2.2.2.1 A.2.1.1 (yC A) fl Lf→Wdat A.2.1 A.2.2.2.2.2.2.1 A.2.2.2.2.2.1 R V Lf A.2.2.2.2.1 f fl (yI A)) :
  (ya (yy A)=false→Lv (K+1) V (yy A))∧(ya (yy A)=true→Dd (K+1) (· =V) (yy A)):=by
 have hxg:=hx.xg;have hxs:=hx.xs;have hm:Mk A:=y0Q hx.xc hx.xk (by omega);have hmn:=hm.n;have hml:=hm.l;have ht:=yHp hm.k;obtain⟨c1,c2,c3,c4,c5,c6,c7⟩:=ybd (yij A);have d1:(yaq A).1=A.1:=rfl;have c7':(yy A).2.2.2.2.2.2.2.1=A.2.2.2.2.2.2.2.1+1:=by rw[c7]; exact wr (by omega) (by omega)
 have c1:(yy A).1=A.1:=c1;have c2:(yy A).2.1=A.2.1:=c2;have c3:(yy A).2.2.2.1=A.2.2.2.1:=c3;have c4:(yy A).2.2.2.2.1=A.2.2.2.2.1:=c4;have c5:(yy A).2.2.2.2.2.1=A.2.2.2.2.2.1:=c5;have c6:(yy A).2.2.2.2.2.2.1=A.2.2.2.2.2.2.1:=c6;have hmod:(i64.wrap (A.2.2.2.2.2.2.2.1+1)).tmod 2<2:=Int.tmod_lt_of_pos _ (by omega);have hb: ∀i m,0≤i→i<A.2.1.1→6≤m→yI (yy A) i m=true→yI A i m=true:=fun i m i0 i1 _=>ht.d i m i0 i1
 refine⟨fun hu=>⟨y0L hx hk hu,⟨A.2.2.2.2.1,R,by rw[c4]; exact Int.le_refl _,fun f fl Lf hf hal=> ?_⟩,y1o hn c2 c3 c4 hml hb ht.f⟩,fun _ f fl Lf hf hal=>⟨V,rfl,?_⟩⟩
 ·rw[c2,c3]at hal
  have hal2:=ywU hal ht.f
  obtain⟨Bf,⟨h1,h2⟩,h3⟩:=yW9 hm hu (fun i i0 i1=>y1h hx i0 i1) (fun i i0 i1 h=>y1g hx i0 i1 h) hf hal2 (fun f hf i n s i0 i1 hi hn2 hsv=>by
   obtain⟨Bf,g1,_⟩:=old f (yC A) A.2.2.2.1 hf (yKt A);obtain⟨k1,k2⟩:=g1.u1 i n s i0 i1 hi hn2 hsv;refine⟨k1,?_⟩;rcases k2 with k2 | k2
   ·omega
   ·rw[k2]; exact Int.le_refl _) (fun f hf=>new f fl Lf hf hal2) hn.z
  have he:Eq0 (yy A) fl Lf→Eq0 A fl Lf:=fun e=>⟨e.1.trans c3,fun i i0 i1=>(e.2 i i0 (by rw[c2]; exact i1)).trans (ht.f i i0 i1)⟩
  rw[c1,c2,c3,c5,c6,c7'];exact⟨Bf,⟨fun e=>h1 (he e),fun e=>h2 (he e)⟩,h3⟩
 ·rw[c2,c3]at hal
  have hal2:=ywU hal ht.f
  have hT:=yXa (T:=T) (L:=L) (B:=B) (Q:=A.2.2.2.2.2.1) (Lf:=Lf) (Lf2:=Lf) (R:=R) (V:=V) hm hf (fun i i0 i1 hi=>yB1 hal2 i0 i1 hi) (fun f hf=>old f fl Lf hf hal2) (fun f hf=>new f fl Lf hf hal2) (fun f hf i i0 i1 hne=>by
   obtain⟨Bf,g1,_⟩:=old f fl Lf hf hal2
   exact g1.u2 i i0 i1 hne) (y3w hal2)
  rw[c1,c2];rcases hT with⟨Bf,h1,h2⟩ | ⟨Bf,h1,h2⟩
  ·exact⟨_,_,_,_,_,R,Bf,by omega,by omega,h1,h2⟩
  ·exact⟨_,_,_,_,_,R,Bf,by omega,by omega,h1,h2⟩
theorem y1Y {m:dM} {k:Int} {v:List Int} (h:ymQ (ye7 m) k v):ymQ m k v:=by
 rcases h with h | ⟨w,hw,_⟩
 ·exact .inl h
 ·cases hw
theorem y3k {K m:Int} {V:Int→Int→Int} {a:dA} (h:Lv K V a) (hl:a.2.2.2.1= -1) (hm:inb m a.2.2.1.length=true) (hk:K+1≤60000) :
  (ya (yhe a m)=false→Lv (K+1) V (yhe a m))∧(ya (yhe a m)=true→Dd (K+1) (· =V) (yhe a m)):=by
 rw[y3b h.x (.inl hl) hk];have hmi:=zj4.1 hm;have hlen:=h.x.xk.1.2;have hx:=y0s h.x (.inl hl) hm;have hd: ∀i,0≤i→yi (yas a m) i=bif m==i then ye7 (yi a m)else yi a i:=fun i i0=>yIL m _ hm i0
 have hfl: ∀i,0≤i→yC (yas a m) i=(yC a i||i==m):=fun i i0=>by
  unfold yC;rw[hd i i0];by_cases e:m=i
  ·subst e; rw[beq_self_eq_true,Bool.or_true]; rfl
  ·rw[show(m==i)=false from beq_eq_false_iff_ne.2 e,show(i==m)=false from beq_eq_false_iff_ne.2 (fun e2=>e e2.symm),Bool.or_false]; rfl
 have hbd: ∀i n,0≤i→yI (yas a m) i n=yI a i n:=fun i n i0=>by
  unfold yI;rw[hd i i0];by_cases e:m=i
  ·subst e; rw[beq_self_eq_true]; rfl
  ·rw[show(m==i)=false from beq_eq_false_iff_ne.2 e]; rfl
 have hch: ∀f,Ch (yas a m) f→Ch a f:=fun f hf i n i0 i1 n0=>by
  have:=hf i n i0 i1 n0;rw[hd i i0]at this;by_cases e:m=i
  ·subst e; rw[beq_self_eq_true]at this; exact y1Y this
  ·rw[show(m==i)=false from beq_eq_false_iff_ne.2 e]at this; exact this
 obtain⟨B0,R,hB,hr⟩:=h.r
 have key: ∀f fl Lf,Ch (yas a m) f→Al m a.2.1.1 (yC (yas a m)) fl Lf→Wsup a.1 a.2.1 a.2.2.2.2.2.2.2.1 a.2.2.2.2.2.2.1 a.2.2.2.1 B0 Lf 0 f fl∧Wdat a.2.1 a.2.2.2.2.2.2.1 a.2.2.2.2.2.1 R V Lf 0 f fl (yI (yas a m)):=fun f fl Lf hf hal=>by
  have hal2:Al a.2.2.2.1 a.2.1.1 (yC a) fl Lf:=by
   rcases hal with⟨h1,h2⟩ | ⟨h1,h2,h3,h4⟩
   ·exact .inr ⟨by omega,by omega,.inl hl,fun i i0 i1=>by rw[h2 i i0 i1,hfl i i0,h1]⟩
   ·have:m=Lf:=by omega
    refine .inr ⟨h1,h2,.inl hl,fun i i0 i1=> ?_⟩;rw[h4 i i0 i1,hfl i i0,this];cases yC a i<;>cases(i==Lf)<;>rfl
  have hLf:Lf=m:=by rcases hal with⟨h1,_⟩ | ⟨_,_,h3,_⟩<;>omega
  obtain⟨Bf,_,h1,h2⟩:=hr f fl Lf (hch f hf) hal2;have hB0:Bf=0:=by rcases h1.u4 with⟨h3,_⟩ | ⟨_,_,_,_,h3⟩<;>omega
  subst hB0;exact⟨h1,yf4 h2 (fun i n i0 i1 _ _=> .inl ⟨rfl,hbd i n i0⟩) (fun i n i0 i1 hb=>by rw[hbd i n i0]at hb; exact hb)⟩
 exact y0P (T:=a.2.2.2.2.2.2.1) (L:=a.2.2.2.1) (B:=B0) (R:=R) hx ⟨fun _ i s _ _ _ s0 s1=>absurd s1 (by show ¬s<0; omega),fun _ _=>rfl⟩ hk (fun f fl Lf hf hal=>⟨0,key f fl Lf hf hal⟩) (fun f fl Lf hf hal=>(key f fl Lf hf hal).2)
theorem yGg:(yel []).2=false∧(yaA []).2=false:=⟨by unfold yel; rfl,by unfold yaA; rfl⟩
theorem y2I (n:Nat) (k:Int):nth (List.replicate n ([]:List Int)) k []= []:=by
 unfold nth;rw[List.getD_eq_getElem?_getD,List.getElem?_replicate];split<;>rfl
theorem y2E {K:Int} {V:Int→Int→Int} {a:dA} (h:Lv K V a) (hm:inb a.2.2.2.1 a.2.2.1.length=true) (hf0:(nth a.2.2.1 a.2.2.2.1 yc).2.2.1=true) (hk:K+1≤60000) :
  (ya (yy (yV a))=false→Lv (K+1) V (yy (yV a)))∧(ya (yy (yV a))=true→Dd (K+1) (· =V) (yy (yV a))):=by
 have hmi:=zj4.1 hm;have hlen:=h.x.xk.1.2;have hg:=yn.1 h.x.xc.1;have hx:=y0t h.x hm;have hLt:yC a a.2.2.2.1=true:=hf0;have hd: ∀i,0≤i→yi (yV a) i=bif a.2.2.2.1==i then yaY (6+a.2.1.2)else yi a i:=fun i i0=>yIL a.2.2.2.1 _ hm i0
 have hdo: ∀i,0≤i→i≠a.2.2.2.1→yi (yV a) i=yi a i:=fun i i0 hi=>by rw[hd i i0,show(a.2.2.2.1==i)=false from beq_eq_false_iff_ne.2 (fun e=>hi e.symm)]; rfl
 have hdl:yi (yV a) a.2.2.2.1=(List.replicate (6+a.2.1.2).toNat [],[],false,[]):=by rw[hd _ hmi.1,beq_self_eq_true,cond_true,yrX hg.2]
 have hlf:yC (yV a) a.2.2.2.1=false:=by unfold yC; rw[hdl]
 have hlb: ∀n,yI (yV a) a.2.2.2.1 n=false:=fun n=>by unfold yI; rw[hdl]; rfl
 obtain⟨B0,R,hB,hr⟩:=h.r
 have key: ∀f fl Lf,Ch (yV a) f→Al a.2.2.2.1 a.2.1.1 (yC (yV a)) fl Lf→Wsup a.1 a.2.1 a.2.2.2.2.2.2.2.1 a.2.2.2.2.2.2.1 a.2.2.2.1 B0 Lf 0 f fl∧Wdat a.2.1 a.2.2.2.2.2.2.1 a.2.2.2.2.2.1 R V Lf 0 f fl (yI (yV a)):=fun f fl Lf hf hal=>by
  have hLf:Lf=a.2.2.2.1:=by rcases hal with⟨h1,_⟩ | ⟨_,_,h3,_⟩<;>omega
  subst hLf
  have hfn: ∀n,0≤n→f a.2.2.2.1 n= []:=fun n n0=>by
   rcases hf a.2.2.2.1 n hmi.1 (by show a.2.2.2.1<a.2.1.1; omega) n0 with h1 | ⟨w,hw,_⟩
   ·rw[h1,hdl]; exact y2I _ _
   ·rw[hdl]at hw; cases hw
  have hfe: ∀i,0≤i→i<a.2.1.1→i≠a.2.2.2.1→fl i=yC a i:=fun i i0 i1 hi=>by
   have e:yC (yV a) i=yC a i:=by unfold yC; rw[hdo i i0 hi]
   rcases hal with⟨_,h2⟩ | ⟨_,_,_,h2⟩
   ·rw[h2 i i0 i1,e]
   ·rw[h2 i i0 i1,e,show(i==a.2.2.2.1)=false from beq_eq_false_iff_ne.2 hi,Bool.or_false]
  obtain⟨f0,hf0d⟩: ∃f0:Int→Int→List Int,f0=fun i n=>if i=a.2.2.2.1 then yb1 (yi a a.2.2.2.1) n else f i n:=⟨_,rfl⟩
  have hf0e: ∀i n,i≠a.2.2.2.1→f0 i n=f i n:=fun i n hi=>by rw[hf0d]; exact if_neg hi
  have hch:Ch a f0:=fun i n i0 i1 n0=>by
   by_cases e:i=a.2.2.2.1
   ·rw[hf0d]; simp only[if_pos e]; rw[e]; exact ywf _ _
   ·rw[hf0e i n e]
    have:=hf i n i0 i1 n0;rw[hdo i i0 e]at this; exact this
  obtain⟨Bf,_,h1,h2⟩:=hr f0 (yC a) a.2.2.2.1 hch (yKt a)
  have hB0:Bf=0:=by
   rcases h1.u4 with⟨_,_,h3⟩ | ⟨_,_,_,_,h3⟩
   ·rcases h3 with h3 | ⟨h3,_⟩
    ·omega
    ·rw[hLt]at h3; cases h3
   ·exact h3
  subst hB0;have nf: ∀i,0≤i→i<a.2.1.1→yC a i=false→i≠a.2.2.2.1:=fun i _ _ hi e=>by rw[e,hLt]at hi; cases hi
  have nown: ¬(fl a.2.2.2.1=false∧yfk a.1 (f a.2.2.2.1)):=fun⟨_,n,s,hn,hs⟩=>by
   have:=hs.1;rw[hfn n (by omega)]at this;have h2:=yGg.1;rw[this]at h2; cases h2
  refine⟨⟨h1.u0,fun i n s i0 i1 hi hn hs=> ?_,fun i i0 i1 hne=> ?_,?_,.inr ⟨hmi.1,by omega,nown,.inr rfl,rfl⟩⟩,⟨h2.e,h2.q,fun i s i0 i1 s0 s1 hi hlv hb hj=> ?_,fun q q0 q1=> ?_,fun i n r i0 i1 hi h3 h6 hgr=> ?_,h2.v,h2.l,fun i n i0 i1 hi hb=> ?_⟩⟩
  ·by_cases e:i=a.2.2.2.1
   ·subst e
    have:=hs.1;rw[hfn n (by omega)]at this;have h2:=yGg.1;rw[this]at h2; cases h2
   ·exact h1.u1 i n s i0 i1 ((hfe i i0 i1 e).symm.trans hi) hn (by rw[hf0e i n e]; exact hs)
  ·obtain⟨k1,n,s,hn,hs⟩:=h1.u2 i i0 i1 hne
   exact⟨(hfe i i0 i1 hne).trans k1,n,s,hn,by rw[← hf0e i n hne]; exact hs⟩
  ·obtain⟨i,i0,i1,hi,e⟩:=h1.u3
   have hne:=nf i i0 i1 hi;exact⟨i,i0,i1,(hfe i i0 i1 hne).trans hi,by rw[← hf0e i _ hne]; exact e⟩
  ·have hne:i≠a.2.2.2.1:=by omega
   rw[← hf0e i _ hne];refine h2.d i s i0 i1 s0 s1 ((hfe i i0 i1 hne).symm.trans hi) hlv ?_ hj;unfold yI at hb ⊢;rw[hdo i i0 hne]at hb; exact hb
  ·obtain⟨i,i0,i1,hi,e⟩:=h2.r q q0 q1
   have hne:=nf i i0 i1 hi;exact⟨i,i0,i1,(hfe i i0 i1 hne).trans hi,by rw[← hf0e i _ hne]; exact e⟩
  ·by_cases e:i=a.2.2.2.1
   ·subst e
    rw[hfn n (by omega)]at hgr;have h2:=yGg.2;rw[hgr]at h2; cases h2
   ·exact h2.h i n r i0 i1 ((hfe i i0 i1 e).symm.trans hi) h3 h6 (by rw[hf0e i n e]; exact hgr)
  ·by_cases e:i=a.2.2.2.1
   ·subst e; rw[hlb n]at hb; cases hb
   ·refine h2.b i n i0 i1 ((hfe i i0 i1 e).symm.trans hi) ?_
    unfold yI at hb ⊢;rw[hdo i i0 e]at hb; exact hb
 exact y0P (T:=a.2.2.2.2.2.2.1) (L:=a.2.2.2.1) (B:=B0) (R:=R) hx ⟨fun _ i s _ _ _ s0 s1=>absurd s1 (by show ¬s<0; omega),fun _ _=>rfl⟩ hk (fun f fl Lf hf hal=>⟨0,key f fl Lf hf hal⟩) (fun f fl Lf hf hal=>(key f fl Lf hf hal).2)
theorem y1T {id:Int} {g:dG} (hg:ye g=true) (h1:1≤id) (h2:id≤60000):Lv 0 (fun _ _=>0) (yed id g):=by
 have hge:=yn.1 hg;have hd: ∀i,0≤i→i<g.1→yi (yed id g) i=yM id g i:=fun i i0 i1=>y1X hg h1 h2 i0 i1
 have e:=yDX hg h1 h2;have hx:=y3C hg h1 h2;have hfl: ∀i,0≤i→i<g.1→yC (yed id g) i=false:=fun i i0 i1=>by unfold yC; rw[hd i i0 i1,(yoo id i hg).2.2]
 have hbd: ∀i n,0≤i→i<g.1→yI (yed id g) i n=false:=fun i n i0 i1=>by unfold yI yaT; rw[hd i i0 i1,(yoo id i hg).2.2]; rfl
 have hpo: ∀i n v,0≤i→i<g.1→0≤n→ymQ (yi (yed id g) i) n v→v=bif leb 6 n&&ltb n (6+g.2)then[0]else bif n==0 then yl (yev id g 0 0 (-1) 0 i)else[]:=fun i n v i0 i1 n0 h=>by
  have hn:=yM7 (id:=id) (i:=i) hg g.2.toNat (Nat.le_refl _) n n0;rw[hd i i0 i1]at h;rcases h with h | ⟨w,hw,_⟩
  ·have h:v=nth ((List.range g.2.toNat).foldl yon (yiu id g i)).1 n []:=h
   rw[h,hn,show((g.2.toNat:Nat):Int)=g.2 by omega]; rfl
  ·rw[(yoo id i hg).2.2]at hw; cases hw
 refine⟨hx,⟨0,fun _=>(0,[]),by rw[e]; exact Int.le_refl _,fun f fl Lf hf hal=> ?_⟩,⟨fun hn=>absurd (by rw[e]) hn,fun hn=>absurd (by rw[e]) hn⟩⟩;generalize hA:yed id g=A at *;have a1:A.1=id:=by rw[e]
 have a2:A.2.1=g:=by rw[e]
 have a3:A.2.2.2.1= -1:=by rw[e]
 have a5:A.2.2.2.2.2.1=0:=by rw[e]
 have a6:A.2.2.2.2.2.2.1=0:=by rw[e]
 have a7:A.2.2.2.2.2.2.2.1=0:=by rw[e]
 have a4:A.2.2.2.2.1=0:=by rw[e]
 rw[a2,a3]at hal;have hf2: ∀i n,0≤i→i<g.1→0≤n→f i n=bif leb 6 n&&ltb n (6+g.2)then[0]else bif n==0 then yl (yev id g 0 0 (-1) 0 i)else[]:=fun i n i0 i1 n0=>hpo i n _ i0 i1 n0 (hf i n i0 (by rw[a2]; exact i1) n0)
 have f0: ∀i,0≤i→i<g.1→f i 0=yl (yev id g 0 0 (-1) 0 i):=fun i i0 i1=>by rw[hf2 i 0 i0 i1 (Int.le_refl _)]; rfl
 have fn: ∀i n,0≤i→i<g.1→1≤n→n<6→f i n= []:=fun i n i0 i1 h1 h6=>by
  rw[hf2 i n i0 i1 (by omega),zkZ (show n<6 by omega),show(n==0)=false from beq_eq_false_iff_ne.2 (by omega)]; rfl
 have hok: ∀i,0≤i→i<g.1→yD (yev id g 0 0 (-1) 0 i)=true:=fun i i0 i1=>yZ9 (by omega) hg ⟨h1,h2⟩ (by omega) (by omega) (by omega) (.inr rfl) i0 i1
 have nf: ∀i,0≤i→i<g.1→i≠Lf→fl i=false:=fun i i0 i1 hne=>y23 hal (fun i i0 i1 h=>by rw[hfl i i0 i1]at h; cases h) i0 i1 hne
 have own: ∀i,0≤i→i<g.1→yfk id (f i):=fun i i0 i1=>⟨0,_,.inl rfl,by rw[f0 i i0 i1]; exact ywL (hok i i0 i1)⟩
 rw[a1,a2,a3,a5,a6,a7];refine⟨0,⟨fun _=>rfl,fun e1 e2=>absurd (e1.1.trans a3) e2⟩,⟨hok,fun i n s i0 i1 hi hn hs=> ?_,fun i i0 i1 hne=>⟨nf i i0 i1 hne,own i i0 i1⟩,?_,?_⟩,⟨yZF g,by omega,fun i s i0 i1 s0 s1 hi hlv hb hj=> ?_,fun q q0 q1=>by omega,fun i n r i0 i1 hi n2 n6 hr=> ?_,fun q q0 q1=>by omega,fun q q0 q1=>by omega,fun i n i0 i1 hi hb=>by rw[hbd i n i0 i1]at hb; cases hb⟩⟩
 ·rcases hn with rfl | rfl
  ·have hs1:=hs.1
   rw[f0 i i0 i1,yHz (hok i i0 i1)]at hs1;have:=congrArg (fun x=>x.1) hs1;simp only at this;subst this;exact⟨rfl,.inr rfl⟩
  ·have hs1:=hs.1
   rw[fn i 1 i0 i1 (by omega) (by omega)]at hs1;have h3:=yGg.1;rw[hs1]at h3; cases h3
 ·by_cases h:Lf=0
  ·exact⟨1,by omega,by omega,nf 1 (by omega) (by omega) (by omega),f0 1 (by omega) (by omega)⟩
  ·exact⟨0,by omega,by omega,nf 0 (by omega) (by omega) (fun e=>h e.symm),f0 0 (by omega) (by omega)⟩
 ·rcases hal with⟨h3,_⟩ | ⟨h3,h4,h5,h6⟩
  ·exact .inl ⟨h3,rfl,.inl h3⟩
  ·refine .inr ⟨h3,h4,fun h=> ?_,.inl rfl,rfl⟩
   have:=h.1;rw[h6 Lf h3 h4,beq_self_eq_true,Bool.or_true]at this; cases this
 ·rw[hf2 i (s+6) i0 i1 (by omega),zk0 (show 6≤s+6 by omega),zkw (show s+6<6+g.2 by omega)]; rfl
 ·rw[fn i n i0 i1 (by omega) n6]at hr
  have h3:=yGg.2;rw[hr]at h3; cases h3
theorem yFp (ok:Nat→Bool) (c:Nat→dS): ∀n,let r:=(List.range n).foldl (fun s (i:Nat)=>ykT s (ok i) (c i)) (yeo,false)
  (r.2=true→ ∃i,i<n∧ok i=true∧r.1=c i)∧ ∀i,i<n→ok i=true→r.2=true∧(c i).2.1≤r.1.2.1
 | 0=>⟨fun h=>(by cases h),fun i hi=>absurd hi (Nat.not_lt_zero _)⟩
 | n+1=>by
  have ih:=yFp ok c n;simp only at ih ⊢;rw[List.range_succ,List.foldl_append,List.foldl_cons,List.foldl_nil];generalize (List.range n).foldl (fun s (i:Nat)=>ykT s (ok i) (c i)) (yeo,false)=r at ih ⊢;obtain⟨h1,h2⟩:=ih;unfold ykT;cases hk:ok n
  ·refine⟨fun h=> ?_,fun i hi ho=> ?_⟩
   ·obtain⟨i,hi,ho,e⟩:=h1 h
    exact⟨i,by omega,ho,e⟩
   ·rcases Nat.lt_succ_iff_lt_or_eq.1 hi with h | h
    ·exact h2 i h ho
    ·subst h; rw[hk]at ho; cases ho
  ·cases hb:(!r.2||ltb r.1.2.1 (c n).2.1)
   ·rw[Bool.or_eq_false_iff,Bool.not_eq_false']at hb
    have hle:=zkU hb.2;refine⟨fun h=> ?_,fun i hi ho=> ?_⟩
    ·obtain⟨i,hi,ho,e⟩:=h1 h
     exact⟨i,by omega,ho,e⟩
    ·rcases Nat.lt_succ_iff_lt_or_eq.1 hi with h | h
     ·exact h2 i h ho
     ·subst h; exact⟨hb.1,hle⟩
   ·refine⟨fun _=>⟨n,by omega,hk,rfl⟩,fun i hi ho=>⟨rfl,?_⟩⟩
    show(c i).2.1≤(c n).2.1;rcases Nat.lt_succ_iff_lt_or_eq.1 hi with h | h
    ·obtain⟨g1,g2⟩:=h2 i h ho
     rw[g1,Bool.not_true,Bool.false_or,zj8]at hb;omega
    ·subst h; exact Int.le_refl _
structure Fell (S:Int) (m:dM):Prop where
 ok:yu m=true
 len:(m.1.length:Int)=6+S
 cac:m.2.1= []
theorem y1L {S:Int} {m:dM} (h:Fell S m) (hS:1≤S) (hf:m.2.2.1=false) {n:Int} (n0:0≤n) (n6:n<6) (hb:yaT m n=false):yN m n=(nth m.1 n [],true):=by
 rw[yQv h.ok hf (zj4.2 (by have:=h.len; omega)),hb,cond_false];unfold yb1;rw[h.cac]; rfl
theorem yZA {S id:Int} {m:dM} (h:Fell S m) (hS:1≤S) (hf:m.2.2.1=false) {n:Int} (n0:0≤n) (n6:n<6) (hb:yaT m n=false):(ypG m id n=true→yvP id n (nth m.1 n []) (yFq m n))∧ ∀s,yvP id n (nth m.1 n []) s→ypG m id n=true∧yFq m n=s:=by
 have hr:=y1L h hS hf n0 n6 hb;unfold ypG yvP yFq;rw[hr];refine⟨fun hc=> ?_,fun s ⟨h1,h2,h3⟩=> ?_⟩
 ·simp only[Bool.true_and,Bool.and_eq_true,beq_iff_eq]at hc
  exact⟨Prod.ext rfl hc.1,hc.2.1,hc.2.2⟩
 ·rw[h1]
  refine⟨?_,rfl⟩;show(true&&(true&&(s.1==id&&s.2.1.tmod 2==n)))=true;rw[h2,h3,beq_self_eq_true,beq_self_eq_true]; rfl
theorem yIH {S id:Int} {m:dM} (h:Fell S m) (hS:1≤S) (hf:m.2.2.1=false) (hb: ∀n,0≤n→n<6→yaT m n=false) :
  ((yan m id).2=true→ ∃n,(n=0∨n=1)∧yvP id n (nth m.1 n []) (yan m id).1)∧ ∀n s,(n=0∨n=1)→yvP id n (nth m.1 n []) s→(yan m id).2=true∧s.2.1≤(yan m id).1.2.1:=by
 obtain⟨b1,b2⟩:=yFp (fun(i:Nat)=>ypG m id i) (fun(i:Nat)=>yFq m i) 2;have e:yan m id=(List.range 2).foldl (fun s (i:Nat)=>ykT s (ypG m id i) (yFq m i)) (yeo,false):=rfl;rw[← e]at b1 b2;refine⟨fun h2=> ?_,fun n s hn hs=> ?_⟩
 ·obtain⟨i,hi,ho,e1⟩:=b1 h2
  have hc:=(yZA (id:=id) h hS hf (n:=i) (by omega) (by omega) (hb i (by omega) (by omega))).1 ho;exact⟨i,by omega,by rw[e1]; exact hc⟩
 ·obtain⟨k,rfl⟩: ∃k:Nat,n=k:=⟨n.toNat,by omega⟩
  obtain⟨h1,h2⟩:=(yZA (id:=id) h hS hf (n:=k) (by omega) (by omega) (hb k (by omega) (by omega))).2 s hs;have:=b2 k (by omega) h1;rw[h2]at this; exact this
structure FellAll (g:dG) (l:List dM):Prop where
 n:(l.length:Int)=g.1
 f: ∀i,0≤i→i<g.1→Fell g.2 (nth l i yc)
def ywJ (l:List dM) (i n:Int):List Int:=nth (nth l i yc).1 n []
def flF (l:List dM) (i:Int):Bool:=(nth l i yc).2.2.1
def bdF (l:List dM) (i n:Int):Bool:=yaT (nth l i yc) n
theorem yQj {id:Int} {g:dG} {G T L B Lf Bf:Int} {l:List dM} (hl:FellAll g l) (hS:1≤g.2) (hs:Wsup id g G T L B Lf Bf (ywJ l) (flF l)) (hb: ∀i n,0≤i→i<g.1→flF l i=false→bdF l i n=true→6≤n) {i:Int} (i0:0≤i) (i1:i<g.1) :
  (yg8 (nth l i yc) i id=true→flF l i=false∧yfk id (ywJ l i)∧ ∃n,(n=0∨n=1)∧yvP id n (ywJ l i n) (yan (nth l i yc) id).1)∧(flF l i=false→yfk id (ywJ l i)→yg8 (nth l i yc) i id=true):=by
 have hb2:flF l i=false→ ∀n,0≤n→n<6→yaT (nth l i yc) n=false:=fun hf n n0 n6=>by
  cases hx:yaT (nth l i yc) n
  ·rfl
  ·have:=hb i n i0 i1 hf hx; omega
 unfold yg8;constructor
 ·intro h
  simp only[Bool.and_eq_true,Bool.not_eq_true',beq_iff_eq]at h;obtain⟨n,hn,hsv⟩:=(yIH (id:=id) (hl.f i i0 i1) hS h.1 (hb2 h.1)).1 h.2.1;exact⟨h.1,⟨n,_,hn,hsv⟩,n,hn,hsv⟩
 ·intro hf ⟨n,s,hn,hsv⟩
  obtain⟨b1,b2⟩:=yIH (id:=id) (hl.f i i0 i1) hS hf (hb2 hf);obtain⟨g1,_⟩:=b2 n s hn hsv;obtain⟨k,hk,hkv⟩:=b1 g1;have hr:=(hs.u1 i k _ i0 i1 hf hk hkv).1;have hf':(nth l i yc).2.2.1=false:=hf;rw[hf',g1,hr,beq_self_eq_true]; rfl
theorem y06 {id:Int} {g:dG} {G T L B Lf Bf:Int} {l:List dM} (hl:FellAll g l) (hS:1≤g.2) (hs:Wsup id g G T L B Lf Bf (ywJ l) (flF l)) (hb: ∀i n,0≤i→i<g.1→flF l i=false→bdF l i n=true→6≤n): ∃i,(0≤i∧i<g.1)∧ydu l id=(yev id g G T L B i,true):=by
 obtain⟨b1,b2⟩:=yFp (fun(i:Nat)=>yg8 (nth l i yc) i id) (fun(i:Nat)=>(yan (nth l i yc) id).1) l.length;have e:ydu l id=(List.range l.length).foldl (fun s (i:Nat)=>ykT s (yg8 (nth l i yc) i id) (yan (nth l i yc) id).1) (yeo,false):=rfl;rw[← e]at b1 b2;have hn:=hl.n;obtain⟨j,j0,j1,jf,je⟩:=hs.u3;obtain⟨k,rfl⟩: ∃k:Nat,j=k:=⟨j.toNat,by omega⟩;have hsl:=yUf (ye0 (hs.u0 k j0 j1)).1.1;have hsv:yvP id (G.tmod 2) (ywJ l k (G.tmod 2)) (yev id g G T L B k):=by rw[je]; exact ywL (hs.u0 k j0 j1)
 have hown:=(yQj hl hS hs hb j0 j1).2 jf ⟨_,_,hsl,hsv⟩;obtain⟨g1,g2⟩:=b2 k (by omega) hown
 have hb2: ∀n,0≤n→n<6→yaT (nth l k yc) n=false:=fun n n0 n6=>by
  cases hx:yaT (nth l k yc) n
  ·rfl
  ·have:=hb k n j0 j1 jf hx; omega
 have g3:=((yIH (id:=id) (hl.f k j0 j1) hS jf hb2).2 _ _ hsl hsv).2;obtain⟨i,hi,ho,e1⟩:=b1 g1;obtain⟨if0,_,n,hn2,hsv2⟩:=(yQj hl hS hs hb (i:=i) (by omega) (by omega)).1 ho;have h3:=(hs.u1 i n _ (by omega) (by omega) if0 hn2 hsv2).2
 have hge:G≤(yan (nth l i yc) id).1.2.1:=by
  have e2:(ydu l id).1.2.1=(yan (nth l i yc) id).1.2.1:=by rw[e1]
  have e3:(yev id g G T L B k).2.1=G:=rfl;omega
 rcases h3 with h3 | h3
 ·omega
 ·exact⟨i,by omega,Prod.ext (e1.trans h3) g1⟩
theorem yZz {l:List dM} {id L B Lf:Int} (h1: ∀i:Nat,i<l.length→(i:Int)≠Lf→yg8 (nth l i yc) i id=true) (h2: ∀i:Nat,i<l.length→(i:Int)=Lf→yg8 (nth l i yc) i id=false→L= -1∨L=Lf) :
  ∀n,n≤l.length→(List.range n).foldl (yjr l id) (L,B,false)=bif leb 0 Lf&&(ltb Lf n&& !(yg8 (nth l Lf yc) Lf id))then(Lf,0,false)else(L,B,false)
 | 0,_=>by
  cases h0:leb 0 Lf
  ·rfl
  ·rw[zk1 (show((0:Nat):Int)≤Lf from zj5.1 h0)]; rfl
 | n+1,hn=>by
  rw[List.range_succ,List.foldl_append,List.foldl_cons,List.foldl_nil,yZz h1 h2 n (by omega)];by_cases hnL:(n:Int)=Lf
  ·subst hnL
   rw[zk0 (show(0:Int)≤n by omega),zk1 (Int.le_refl _),zkw (show(n:Int)<((n+1:Nat):Int)by omega)];simp only[Bool.true_and,Bool.false_and,cond_false];unfold yjr;cases ho:yg8 (nth l n yc) n id
   ·rcases h2 n (by omega) rfl ho with h3 | h3
    ·subst h3; rfl
    ·subst h3; rw[cond_false,beq_self_eq_true,Bool.or_true]; rfl
   ·rfl
  ·have ho:=h1 n (by omega) hnL
   have e:ltb Lf ((n+1:Nat):Int)=ltb Lf (n:Int):=by rw[Bool.eq_iff_iff,zj8,zj8]; omega
   rw[e];unfold yjr;rw[ho]; rfl
def yml (id:Int) (g:dG) (G T Lf Bf:Int) (l:List dM):dA:=(id,g,l,Lf,Bf,T,T,G,[],-1,false,false)
theorem y2o {id:Int} {g:dG} {G T L B Lf Bf:Int} {l:List dM} (hl:FellAll g l) (hs:Wsup id g G T L B Lf Bf (ywJ l) (flF l)) (hb: ∀i n,0≤i→i<g.1→flF l i=false→bdF l i n=true→6≤n) :
  yfl l id=(yml id g G T Lf Bf l,true)∧yU (yml id g G T Lf Bf l)∧yE (yml id g G T Lf Bf l):=by
 obtain⟨j,j0,j1,jf,_⟩:=hs.u3;obtain⟨s1,s2,s3,s4,s5,s6,s7⟩:=ye0 (hs.u0 j j0 j1);have hg:=yn.1 s2;have hS:1≤g.2:=by omega
 have hn:=hl.n;obtain⟨i,⟨i0,i1⟩,hbest⟩:=y06 hl hS hs hb;have ow:=fun i i0 i1=>yQj hl hS hs hb (i:=i) i0 i1
 have hfold:(List.range l.length).foldl (yjr l id) (L,B,false)=(Lf,Bf,false):=by
  rw[yZz (Lf:=Lf) (fun i hi hne=>by
   obtain⟨k1,k2⟩:=hs.u2 i (by omega) (by omega) hne
   exact(ow i (by omega) (by omega)).2 k1 k2) (fun i hi he ho=>by
   rcases hs.u4 with⟨h1,_,h2⟩ | ⟨_,_,_,h4,_⟩
   ·exact .inr h1.symm
   ·exact h4) _ (Nat.le_refl _)]
  rcases hs.u4 with⟨h1,h2,h3⟩ | ⟨h1,h2,h3,h4,h5⟩
  ·rcases h3 with h3 | ⟨h3,h4⟩
   ·rw[zkZ (show Lf<0 by omega),Bool.false_and,cond_false,h1,h2]
   ·cases h0:leb 0 Lf
    ·rw[Bool.false_and,cond_false,h1,h2]
    ·have h0:=zj5.1 h0
     rw[(ow Lf h0 (by omega)).2 h3 h4,Bool.not_true,Bool.and_false,Bool.and_false,cond_false,h1,h2]
  ·have ho:yg8 (nth l Lf yc) Lf id=false:=by
    cases hx:yg8 (nth l Lf yc) Lf id
    ·rfl
    ·obtain⟨k1,k2,_⟩:=(ow Lf h1 h2).1 hx
     exact absurd ⟨k1,k2⟩ h3
   rw[zk0 h1,zkw (show Lf<((l.length:Nat):Int)by omega),ho,Bool.not_false,h5]; rfl
 have hall:yFU l id=yml id g G T Lf Bf l:=by
  unfold yFU;rw[hbest];show ytl (yev id g G T L B i) l id ((List.range l.length).foldl (yjr l id) (L,B,false))=_;rw[hfold]; rfl
 have hL:(-1≤Lf∧Lf≤g.1-1)∧(0≤Bf∧Bf≤g.2)∧(Lf= -1→Bf=0):=by
  rcases hs.u4 with⟨h1,h2,_⟩ | ⟨h1,h2,_,_,h5⟩
  ·subst h1 h2; exact⟨s5,s6,fun h=>by omega⟩
  ·exact⟨by omega,by omega,fun h=>by omega⟩
 have hcore:yU (yml id g G T Lf Bf l):=⟨s2,s3,rfl,hL.1,hL.2.1,hL.2.2,s4,⟨Int.le_refl _,s4.2⟩,by show T≤T+4; omega,s1.1,s1.2⟩
 have hkeep:yE (yml id g G T Lf Bf l):=by
  refine⟨⟨fun k hk=> ?_,hn⟩,by show -1≤(-1:Int); omega,by show(-1:Int)≤1000; omega⟩;have hk:k<l.length:=hk;have hf:=hl.f k (by omega) (by omega);refine⟨hf.ok,hf.len,fun h=> .inl ?_⟩;show(k:Int)=Lf;by_cases e:(k:Int)=Lf
  ·exact e
  ·have:=(hs.u2 k (by omega) (by omega) e).1
   have h:flF l k=true:=h;rw[h]at this; cases this
 refine⟨?_,hcore,hkeep⟩;unfold yfl;rw[hall,hbest];show(bif true&&(((l.length:Int)==g.1)&&yal (yml id g G T Lf Bf l))then(yml id g G T Lf Bf l,true)else(yaB,false))=_;rw[yFT.2 ⟨hcore,hkeep⟩,hn,beq_self_eq_true]; rfl
theorem y1R {α:Type} (p:α→Bool) (l:List α):leb 0 (yaf p l)=l.any p:=by
 unfold yaf;cases l.any p
 ·rfl
 ·exact zk0 (show(0:Int)≤((l.takeWhile (fun x=> !p x)).length:Int)by omega)
theorem yGL {id:Int} {g:dG} {G T L B Lf Bf:Int} {f:Int→Int→List Int} {fl fl':Int→Bool} (h:Wsup id g G T L B Lf Bf f fl) (e: ∀i,0≤i→i<g.1→fl' i=fl i):Wsup id g G T L B Lf Bf f fl':=by
 refine⟨h.u0,fun i n s i0 i1 hi=>h.u1 i n s i0 i1 ((e i i0 i1).symm.trans hi),fun i i0 i1 hne=> ?_,?_,?_⟩
 ·rw[e i i0 i1]; exact h.u2 i i0 i1 hne
 ·obtain⟨i,i0,i1,h3⟩:=h.u3
  exact⟨i,i0,i1,by rw[e i i0 i1]; exact h3⟩
 ·rcases h.u4 with⟨h1,h2,h3⟩ | ⟨h1,h2,h3⟩
  ·refine .inl ⟨h1,h2,?_⟩
   obtain⟨i,i0,i1,_⟩:=h.u3;have:=(ye0 (h.u0 i i0 i1)).2.2.2.2.1;by_cases hm:Lf= -1
   ·exact .inl hm
   ·rw[e Lf (by omega) (by omega)]; exact h3
  ·refine .inr ⟨h1,h2,?_⟩
   rw[e Lf h1 h2]; exact h3
theorem yKH {g:dG} {T Q:Int} {R:Int→Int×List Int} {V:Int→Int→Int} {Lf Bf:Int} {f:Int→Int→List Int} {fl fl':Int→Bool} {bd:Int→Int→Bool} (h:Wdat g T Q R V Lf Bf f fl bd) (e: ∀i,0≤i→i<g.1→fl' i=fl i):Wdat g T Q R V Lf Bf f fl' bd :=
 ⟨h.e,h.q,fun i s i0 i1 s0 s1 hi=>h.d i s i0 i1 s0 s1 ((e i i0 i1).symm.trans hi),fun q q0 q1=>by
  obtain⟨i,i0,i1,h3⟩:=h.r q q0 q1
  exact⟨i,i0,i1,by rw[e i i0 i1]; exact h3⟩,fun i n r i0 i1 hi=>h.h i n r i0 i1 ((e i i0 i1).symm.trans hi),h.v,h.l,fun i n i0 i1 hi=>h.b i n i0 i1 ((e i i0 i1).symm.trans hi)⟩
theorem yWV {a b:dA} (h:yw b=yw a):b.2.2.2.2.2.2.2.2.1=a.2.2.2.2.2.2.2.2.1:=congrArg (fun x=>x.2.2.2.2.2.2.2.1) h
theorem y1s (a:dA) (r:dN):(yp a r).2.2.2.2.2.2.2.2.1=a.2.2.2.2.2.2.2.2.1:=yWV (ybe a r)
theorem y0m (a:dA) (s:Int) (d:List Int):(yF a s d).2.2.2.2.2.2.2.2.1=a.2.2.2.2.2.2.2.2.1:=yWV (ydU a s d)
structure Way (id:Int) (g:dG) (G T L B Q:Int) (R:Int→Int×List Int) (V:Int→Int→Int) (Lf Bf:Int) (l0:List dM) (a:dA):Prop where
 e1:a.1=id
 e2:a.2.1=g
 e3:a.2.2.2.1=Lf
 e4:a.2.2.2.2.1=Bf
 e6:a.2.2.2.2.2.2.1=T
 e7:a.2.2.2.2.2.2.2.1=G
 e8:a.2.2.2.2.2.2.2.2.1= []
 e9:a.2.2.2.2.2.2.2.2.2.2.2=false
 kp:yE a
 st: ∀f,Ch a f→Wsup id g G T L B Lf Bf f (yC a)∧Wdat g T Q R V Lf Bf f (yC a) (yI a)
 fl: ∀i,0≤i→i<g.1→yC a i=flF l0 i
 bd: ∀i m,0≤i→i<g.1→6≤m→(yI a i m=true→bdF l0 i m=true)∧(T=Q→yI a i m=bdF l0 i m)
structure Rp (id:Int) (g:dG) (G T L B Q:Int) (R:Int→Int×List Int) (V:Int→Int→Int) (Lf Bf:Int) (l0:List dM) (q:Int) (a:dA):Prop where
 w:Way id g G T L B Q R V Lf Bf l0 a
 q0:T≤q
 q1:q≤Q
 s:a.2.2.2.2.2.1=q
 u:ya a=false
 c: ∀i,0≤i→i<g.1→(yi a i).2.1.length≤1
 v: ∀i s,0≤i→i<g.1→0≤s→s<g.2→yZ a s i=true→(∀p,q≤p→p<Q→(R p).1≠s)→yb1 (yi a i) (s+6)= [V s i]
section
variable {id:Int} {g:dG} {G T L B Q:Int} {R:Int→Int×List Int} {V:Int→Int→Int} {Lf Bf:Int} {l0:List dM}
theorem yGa (a:dA):Ch a (fun i n=>yb1 (yi a i) n):=fun i n _ _ _=>ywf _ _
theorem y0X {q:Int} {a:dA} (h:Rp id g G T L B Q R V Lf Bf l0 q a):(q<Q→yay a q=((q,R q),true))∧(q=Q→(yay a q).2=false):=by
 have hst:=h.w.st _ (yGa a);obtain⟨hs,hd⟩:=hst;have hq:=hd.q;have hq0:=h.q0;have hlen:=h.w.kp.1.2;rw[h.w.e2]at hlen;have hsl:=yjW (q:=q) (by omega);obtain⟨j,j0,j1,_⟩:=hs.u3;have hgo:=(ye0 (hs.u0 j j0 j1)).2.1;have hg:=yn.1 hgo
 have rd: ∀i:Nat,i<a.2.2.1.length→yGI a q i=bif yC a i then([],false)else(yb1 (yi a i) (yf q),true):=fun i hi=>by
  have dk:=ydD h.w.kp (i:=i) (by omega) (by rw[h.w.e2]; omega);rw[h.w.e2]at dk;unfold yGI;cases hf:yC a i
  ·have hbf:yaT (yi a i) (yf q)=false:=by
    cases hx:yaT (yi a i) (yf q)
    ·rfl
    ·have:=hd.b i _ (by omega) (by omega) hf hx; omega
   have:=yQv dk.1 hf (n:=yf q) (zj4.2 (by omega));rw[hbf]at this; exact this
  ·have hf:(nth a.2.2.1 i yc).2.2.1=true:=hf
   unfold yN yrO;rw[hf,Bool.not_true,Bool.false_and,Bool.and_false]; rfl
 have hit: ∀i:Nat,i<a.2.2.1.length→yjU a q i=true→q<Q∧yqv a q i=(q,R q):=fun i hi hh=>by
  have r:=rd i hi;unfold yjU yqv at hh;unfold yqv;rw[r]at hh ⊢;cases hf:yC a i
  ·rw[hf]at hh
   simp only[cond_false,Bool.true_and,Bool.and_eq_true,beq_iff_eq]at hh ⊢;have e:yaA (yb1 (yi a i) (yf q))=((yaA (yb1 (yi a i) (yf q))).1,true):=Prod.ext rfl hh.1;obtain⟨k1,k2⟩:=hd.h i (yf q) _ (by omega) (by omega) hf hsl.1 hsl.2.1 e;have hse:=hh.2.1;rw[hse]at k1 k2;exact⟨k1,Prod.ext hse (k2 hq0)⟩
  ·rw[hf]at hh
   simp only[cond_true,Bool.false_and]at hh;cases hh
 refine⟨fun hlt=> ?_,fun he=> ?_⟩
 ·obtain⟨i,i0,i1,hi,e⟩:=hd.r q hq0 hlt
  obtain⟨k,rfl⟩: ∃k:Nat,i=k:=⟨i.toNat,by omega⟩;have hv:=hd.v q hq0 hlt;have hrk:=yKl (q:=q) (by omega) (by omega) hv.1 hv.2.1 hv.2.2;have hstr:=yY.1 hv.1
  have hh:yjU a q k=true:=by
   unfold yjU yqv;rw[rd k (by omega),hi];have e:yb1 (yi a k) (yf q)=yX (q,R q):=e;rw[cond_false,e];show(true&&((yaA (yX (q,R q))).2&&((yaA (yX (q,R q))).1.1==q&&((leb 0 (yaA (yX (q,R q))).1.2.1&&leb (yaA (yX (q,R q))).1.2.1 (a.2.1.2-1))&&((yaA (yX (q,R q))).1.2.2.length:Int)==a.2.1.1-1))))=true;rw[yFr hrk,h.w.e2];show(true&&(true&&(q==q&&((leb 0 (R q).1&&leb (R q).1 (g.2-1))&&((R q).2.length:Int)==g.1-1))))=true;rw[zk0 hstr.2.1,zk0 hstr.2.2,hv.2.1,beq_self_eq_true,beq_self_eq_true]; rfl
  have hsome:(yay a q).2=true:=by
   unfold yay;rw[y1R,List.any_eq_true.2 ⟨k,List.mem_range.2 (by omega),hh⟩]; rfl
  obtain⟨m,hm,h1,h2⟩:=yNL hsome;exact Prod.ext (h2.trans (hit m hm h1).2) hsome
 ·cases hx:(yay a q).2
  ·rfl
  ·obtain⟨m,hm,h1,_⟩:=yNL hx
   have:=(hit m hm h1).1; omega
theorem y3q {q:Int} {a:dA} (h:Way id g G T L B Q R V Lf Bf l0 a) (q0:T≤q) (q1:q<Q):Way id g G T L B Q R V Lf Bf l0 (yp a (q,R q)):=by
 have ok:=ybE h.kp;have ht:=yKG (q,R q) ok;have hc:=ybe a (q,R q);obtain⟨c1,c2,c3,c4,c5,c6,c7⟩:=ybd hc;have hq:=(h.st _ (yGa a)).2.q;have hsl:=yjW (q:=q) (by omega);have htf: ∀i,0≤i→i<g.1→yC (yp a (q,R q)) i=yC a i:=fun i i0 i1=>ht.f i i0 (by rw[h.e2]; exact i1)
 have htb: ∀i m,0≤i→i<g.1→6≤m→yI (yp a (q,R q)) i m=yI a i m:=fun i m i0 i1 m0=>ht.b i m i0 (by rw[h.e2]; exact i1) (fun e=>by have:m=yf q:=e; omega)
 refine⟨c1.trans h.e1,c2.trans h.e2,c3.trans h.e3,c4.trans h.e4,c6.trans h.e6,c7.trans h.e7,(y1s a (q,R q)).trans h.e8,(yqU hc).trans h.e9,ywj _ h.kp,fun f' hf=> ?_,fun i i0 i1=>(htf i i0 i1).trans (h.fl i i0 i1),fun i m i0 i1 m0=>by rw[htb i m i0 i1 m0]; exact h.bd i m i0 i1 m0⟩;obtain⟨f,hf0,hff⟩:=ht.c f' hf;rw[h.e2]at hff;obtain⟨h1,h2⟩:=h.st f hf0;have hfl: ∀i,0≤i→i<g.1→yC (yp a (q,R q)) i=false→yC a i=false:=fun i i0 i1 hi=>(htf i i0 i1).symm.trans hi
 refine⟨yGL (yf5 h1 (fun i n i0 i1 _ hn=> ?_)) htf,yKH (y2V h2 q0 q1 (fun i n i0 i1 _ hn=>hff i n i0 i1 (by omega)) htb (fun i n i0 i1 hb=>ht.d i n i0 (by rw[h.e2]; exact i1) hb)) htf⟩;rcases hff i n i0 i1 (by omega)with e | ⟨e,_⟩
 ·exact e
 ·have:n=yf q:=e
  omega
theorem y2U {q:Int} {a:dA} (h:Way id g G T L B Q R V Lf Bf l0 a) (q0:T≤q) (q1:q<Q):Way id g G T L B Q R V Lf Bf l0 (yF a (R q).1 (R q).2):=by
 have ok:=ybE h.kp;have ht:=yQy (R q).1 (R q).2 ok;have hc:=ydU a (R q).1 (R q).2;obtain⟨c1,c2,c3,c4,c5,c6,c7⟩:=ybd hc;have hst:=(h.st _ (yGa a)).2;have hs1:=yY.1 (hst.v q q0 q1).1;have hg:=yn.1 hs1.1;have hda:=yih (s:=(R q).1) hs1.2.1 (by omega);have htf: ∀i,0≤i→i<g.1→yC (yF a (R q).1 (R q).2) i=yC a i:=fun i i0 i1=>ht.f i i0 (by rw[h.e2]; exact i1)
 refine⟨c1.trans h.e1,c2.trans h.e2,c3.trans h.e3,c4.trans h.e4,c6.trans h.e6,c7.trans h.e7,(y0m a _ _).trans h.e8,(yqU hc).trans h.e9,yEJ _ _ h.kp,fun f' hf=> ?_,fun i i0 i1=>(htf i i0 i1).trans (h.fl i i0 i1),fun i m i0 i1 m0=>⟨fun hb=>(h.bd i m i0 i1 m0).1 (ht.d i m i0 (by rw[h.e2]; exact i1) hb),fun e=>by omega⟩⟩;obtain⟨f,hf0,hff⟩:=ht.c f' hf;rw[h.e2]at hff;obtain⟨h1,h2⟩:=h.st f hf0;refine⟨yGL (yf5 h1 (fun i n i0 i1 _ hn=> ?_)) htf,yKH (yf4 h2 (fun i n i0 i1 hi hn=> ?_) (fun i n i0 i1 hb=>ht.d i n i0 (by rw[h.e2]; exact i1) hb)) htf⟩
 ·rcases hff i n i0 i1 (by omega)with e | ⟨e,_⟩
  ·exact e
  ·omega
 ·by_cases e:n=yx (R q).1
  ·exact .inr (.inl ⟨q,q0,q1,by omega⟩)
  ·rcases hff i n i0 i1 (by omega)with e2 | ⟨e2,_⟩
   ·exact .inl ⟨e2,ht.b i n i0 (by rw[h.e2]; exact i1) e⟩
   ·exact absurd e2 e
theorem y3o {q:Int} {a:dA} (h:Rp id g G T L B Q R V Lf Bf l0 q a) (hq:q<Q):Way id g G T L B Q R V Lf Bf l0 (yhc a)∧(ya (yhc a)=false→Way id g G T L B Q R V Lf Bf l0 (yjV a)∧(ya (yjV a)=false→Rp id g G T L B Q R V Lf Bf l0 (q+1) (yjV a))):=by
 have hfd:=(y0X h).1 hq;have e1:yhc a=yp a (q,R q):=by unfold yhc; rw[h.s,hfd]
 have e2:yjV a=yF (yJ (yp a (q,R q))) (R q).1 (R q).2:=by unfold yjV; rw[e1,h.s,hfd]
 rw[e1,e2];have w1:=y3q h.w h.q0 hq;refine⟨w1,fun hu1=> ?_⟩;have w2:Way id g G T L B Q R V Lf Bf l0 (yJ (yp a (q,R q))):=⟨w1.e1,w1.e2,w1.e3,w1.e4,w1.e6,w1.e7,w1.e8,w1.e9,w1.kp,w1.st,w1.fl,w1.bd⟩;have w3:=y2U w2 h.q0 hq;refine⟨w3,fun hu2=> ?_⟩;have hst:=(h.w.st _ (yGa a)).2;have hv:=hst.v q h.q0 hq;have hs1:=yY.1 hv.1;have hg:=yn.1 hs1.1;have hqq:=hst.q;have hq0:=h.q0;have hlen:=h.w.kp.1.2;rw[h.w.e2]at hlen;have hl1:(yp a (q,R q)).2.2.1.length=a.2.2.1.length:=yKE a _;have hd1: ∀i,0≤i→i<g.1→yi (yp a (q,R q)) i=yz (ydY (yf q) (yX (q,R q)) (yi a i)):=fun i i0 i1=>yKD hu1 i0 (by omega)
 have dk: ∀i,0≤i→i<g.1→yu (yi a i)=true∧((yi a i).1.length:Int)=6+g.2:=fun i i0 i1=>by
  have:=ydD h.w.kp i0 (by rw[h.w.e2]; exact i1);rw[h.w.e2]at this; exact⟨this.1,this.2.1⟩
 have hsq:(yJ (yp a (q,R q))).2.2.2.2.2.1=q+1:=by
  show i64.wrap ((yp a (q,R q)).2.2.2.2.2.1+1)=_;rw[yfm (ybe a (q,R q)),h.s]; exact wr (by omega) (by omega)
 have less1: ∀i,0≤i→i<g.1→yBD g.2 (yi a i) (yi (yp a (q,R q)) i):=fun i i0 i1=>by
  rw[hd1 i i0 i1];exact yG2 (yOE (yjW (q:=q) (by omega)).2.1) (yA0 (yog (dk i i0 i1).1))
 have cac1: ∀i,0≤i→i<g.1→(yi (yp a (q,R q)) i).2.2.1=false→(yi (yp a (q,R q)) i).2.1= []:=fun i i0 i1 hf=>by
  rw[hd1 i i0 i1]at hf ⊢;rw[(yrS _).2]at hf;exact(yAT (yog (dk i i0 i1).1) hf).1
 have cac2: ∀i,0≤i→i<g.1→(yi (yp a (q,R q)) i).2.1.length≤1:=fun i i0 i1=>by
  rw[hd1 i i0 i1];exact Nat.le_trans (ytK (dk i i0 i1).1) (h.c i i0 i1)
 have hlq: ∀i,yab (yp a (q,R q)).2.2.2.1 (yp a (q,R q)).2.2.2.2.1 i=yab Lf Bf i:=fun i=>by rw[w1.e3,w1.e4]
 have hv1: ∀i s,0≤i→i<g.1→0≤s→s<g.2→yZ (yp a (q,R q)) s i=true→(∀p,q≤p→p<Q→(R p).1≠s)→yb1 (yi (yp a (q,R q)) i) (s+6)= [V s i]:=fun i s i0 i1 s0 s1 hh hj=>by
  unfold yZ at hh;rw[hlq,Bool.and_eq_true,Bool.not_eq_true']at hh
  have hf:(yi (yp a (q,R q)) i).2.2.1=false:=by
   have:=hh.1;simp only[yab,Bool.and_eq_true,Bool.not_eq_true']at this; exact this.1
  obtain⟨g1,g2⟩:=less1 i i0 i1 hf;obtain⟨g3,g4⟩:=g2 (s+6) (by omega) (by omega) hh.2;rw[g4];refine h.v i s i0 i1 s0 s1 ?_ hj;unfold yZ;rw[h.w.e3,h.w.e4,g3];have:=hh.1;unfold yab at this ⊢;rw[hf]at this;rw[g1,this]; rfl
 have kd:yE (yJ (yp a (q,R q))):=w2.kp
 have hd2: ∀i,0≤i→i<g.1→yi (yF (yJ (yp a (q,R q))) (R q).1 (R q).2) i=yii Lf Bf (yk g (R q).1) g.1 (R q).1 (R q).2 i (yi (yp a (q,R q)) i):=fun i i0 i1=>by
  have:=yBZ (yNJ (a:=yJ (yp a (q,R q))) (R q).1 (R q).2 hu1) hu2 i0 (by show i<((yp a (q,R q)).2.2.1.length:Int); omega);rw[w2.e2,w2.e3,w2.e4]at this; exact this
 have hda:=yih (s:=(R q).1) hs1.2.1 (by omega);refine⟨w3,by omega,by omega,(yfm (ydU _ _ _)).trans hsq,hu2,fun i i0 i1=> ?_,fun i s i0 i1 s0 s1 hh hj=> ?_⟩
 ·rw[hd2 i i0 i1]
  obtain⟨c1,c2⟩:=yM2 Lf Bf (yk g (R q).1) g.1 (R q).1 (R q).2 i (yi (yp a (q,R q)) i);cases hf:(yi (yp a (q,R q)) i).2.2.1
  ·rw[cac1 i i0 i1 hf]at c1; exact c1
  ·rw[c2 hf]; exact cac2 i i0 i1
 ·unfold yZ at hh
  rw[w3.e3,w3.e4,hd2 i i0 i1,Bool.and_eq_true,Bool.not_eq_true']at hh;rw[hd2 i i0 i1];by_cases hs:s=(R q).1
  ·subst hs
   have hlv:yab Lf Bf i (R q).1 (yi (yp a (q,R q)) i)=true:=by
    have:=hh.1;unfold yab at this ⊢;rw[(yAW (S:=0) (-1) (by omega)).1]at this;exact this
   have hf:(yi (yp a (q,R q)) i).2.2.1=false:=by
    simp only[yab,Bool.and_eq_true,Bool.not_eq_true']at hlv; exact hlv.1
   have dk2:=ydD w1.kp i0 (by rw[w1.e2]; exact i1);rw[w1.e2]at dk2;unfold yii;rw[hlv,cond_true,ymW (ypF dk2.1 hf (by rw[hda]; exact zj4.2 (by omega)) (yxV.2 ⟨by simp,fun x hx=> ?_⟩) (by rw[cac1 i i0 i1 hf]; decide)),hda,beq_self_eq_true,cond_true,hst.l q hq0 hq (fun p p0 p1=>hj p (by omega) p1) i i0 i1];rw[List.mem_singleton.1 hx];exact yrV.1 (yIK hv.2.2)
  ·obtain⟨e1,e2,e3⟩:=yAW (L:=Lf) (B:=Bf) (p:=yk g (R q).1) (N:=g.1) (s:=(R q).1) (i:=i) (d:=(R q).2) (S:=0) (m:=yi (yp a (q,R q)) i) (s+6) (by omega)
   rw[e3];refine hv1 i s i0 i1 s0 s1 ?_ (fun p p0 p1=> ?_)
   ·unfold yZ
    rw[hlq];rw[e2]at hh;have h2:=hh.1;unfold yab at h2 ⊢;rw[e1]at h2;rw[h2,hh.2]; rfl
   ·by_cases e:p=q
    ·subst e; exact fun e=>hs e.symm
    ·exact hj p (by omega) p1
theorem y25: ∀(k i:Nat) (q:Int) (a:dA),Rp id g G T L B Q R V Lf Bf l0 q a→Q≤q+k→(∀b,goE ypu .inl k i a= .inl b→Rp id g G T L B Q R V Lf Bf l0 Q b)∧ ∀b,goE ypu .inl k i a= .inr b→ya b=true∧Way id g G T L B Q R V Lf Bf l0 b
 | 0,i,q,a,h,hk=>by
  have hq:q=Q:=by have:=h.q1; omega
  refine⟨fun b hb=> ?_,fun b hb=> ?_⟩
  ·cases hb; subst hq; exact h
  ·cases hb
 | k+1,i,q,a,h,hk=>by
  have hf:=y0X h;have hq1:=h.q1;have hst:=(h.w.st _ (yGa a)).2.q;unfold goE ypu;by_cases hq:q=Q
  ·have h2:=hf.2 hq
   rw[h.s,h2];refine⟨fun b hb=> ?_,fun b hb=> ?_⟩
   ·cases hb; subst hq; exact h
   ·cases hb
  ·have h2:=hf.1 (by omega)
   obtain⟨w1,w2⟩:=y3o h (by omega);rw[h.s,h2,zkZ (show q<60000 by omega)];cases hu1:ya (yhc a)
   ·obtain⟨w3,w4⟩:=w2 hu1
    cases hu2:ya (yjV a)
    ·exact y25 k (i+1) (q+1) (yjV a) (w4 hu2) (by omega)
    ·refine⟨(fun b hb=>by cases hb),fun b hb=> ?_⟩
     cases hb; exact⟨hu2,w3⟩
   ·refine⟨(fun b hb=>by cases hb),fun b hb=> ?_⟩
    cases hb; exact⟨hu1,w1⟩
end
structure Back (K id:Int) (g:dG) (V:Int→Int→Int) (Lf:Int) (l:List dM) (x:dA):Prop where
 bi:x.1=id
 bg:x.2.1=g
 bl:x.2.2.2.1=Lf
 bc:x.2.2.2.2.2.2.2.2.1= []
 bb:x.2.2.2.2.2.2.2.2.2.2.2=false
 bk:yE x
 bf: ∀i,0≤i→i<g.1→yC x i=flF l i
 be: ∀i m,0≤i→i<g.1→6≤m→yI x i m=true→bdF l i m=true
 dn:ya x=true→ ∀f,Ch x f→WW K id g V Lf f (yC x) (yI x)
 up:ya x=false→Ix K V x∧Rob x.2.2.2.2.1 V x∧x.2.2.2.2.2.2.1=x.2.2.2.2.2.1∧(x.2.2.2.1≠ -1→yC x x.2.2.2.1=true→x.2.2.2.2.1=0)
theorem yW1 {l:List dM} (ks:List Int) {i:Int} (i0:0≤i) (i1:i<(l.length:Int)):nth (yad l ks) i yc=ydE (nth l i yc) (yJq ks i.toNat):=by
 obtain⟨k,rfl⟩: ∃k:Nat,i=k:=⟨i.toNat,by omega⟩;unfold yad;rw[zkQ,zkH (by rw[List.length_map,List.length_range]; omega),List.getElem_map,List.getElem_range]; rfl
theorem y1E (b:dA):(yo b).2.2.2.2.2.2.2.2.2.2.2=b.2.2.2.2.2.2.2.2.2.2.2:=by
 have h1:=yqU (yaD b);unfold yo;cases ya (yd b)
 ·exact(yqU (yij (yQ (yd b)))).trans h1
 ·exact h1
theorem yZ4 {K id:Int} {g:dG} {G T L B Q:Int} {R:Int→Int×List Int} {V:Int→Int→Int} {Lf Bf:Int} {l:List dM} {ks:List Int} {fuse:Int} (hn:(l.length:Int)=g.1) (hm: ∀i,0≤i→i<g.1→yu (nth l i yc)=true∧((nth l i yc).1.length:Int)=6+g.2) (hG:G≤K) (hQ:Q≤K) (hK:K+1≤60000) (hfu: -1≤fuse∧fuse≤1000)
  (hs:Wsup id g G T L B Lf Bf (ywJ (yad l ks)) (flF l)) (hd:Wdat g T Q R V Lf Bf (ywJ (yad l ks)) (flF l) (bdF l)) :
  ∃x,ynp l ks id fuse=(x,true)∧Back (K+1) id g V Lf l x∧x.2.2.2.2.1=Bf∧(T=Q→ ∀i m,0≤i→i<g.1→6≤m→yI x i m=bdF l i m):=by
 have hfn:=fun i i0 i1=>yW1 (l:=l) ks (i:=i) i0 i1
 have hfr: ∀i,0≤i→i<g.1→(nth (yad l ks) i yc).2.1= []∧(nth (yad l ks) i yc).2.2=(nth l i yc).2.2∧(nth (yad l ks) i yc).1.length=(nth l i yc).1.length:=fun i i0 i1=>by
  rw[hfn i i0 (by omega)]; exact yW2 (hm i i0 i1).1 _
 have hFA:FellAll g (yad l ks):=⟨by unfold yad; rw[List.length_map,List.length_range]; exact hn,fun i i0 i1=>⟨by rw[hfn i i0 (by omega)]; exact y3d (hm i i0 i1).1 _,by rw[(hfr i i0 i1).2.2]; exact(hm i i0 i1).2,(hfr i i0 i1).1⟩⟩;have hfl: ∀i,0≤i→i<g.1→flF (yad l ks) i=flF l i:=fun i i0 i1=>by unfold flF; rw[(hfr i i0 i1).2.1]
 have hbd: ∀i m,0≤i→i<g.1→bdF (yad l ks) i m=bdF l i m:=fun i m i0 i1=>by unfold bdF yaT; rw[(hfr i i0 i1).2.1]
 have hs2:=yGL hs hfl;obtain⟨hasm,hcore,hkeep⟩:=y2o hFA hs2 (fun i n i0 i1 hf hb=>hd.b i n i0 i1 ((hfl i i0 i1).symm.trans hf) (by rw[← hbd i n i0 i1]; exact hb));have hcoreq:yw (ykF (yml id g G T Lf Bf (yad l ks)) fuse false)=yw (yml id g G T Lf Bf (yad l ks)):=rfl;obtain⟨a0,ha0⟩: ∃a0,a0=ykF (yml id g G T Lf Bf (yad l ks)) fuse false:=⟨_,rfl⟩;have hk0:yE a0:=by rw[ha0]; exact⟨hkeep.1,hfu⟩
 have hc0:yU a0:=by rw[ha0]; exact yA3 hcoreq hcore
 have hdk: ∀i,yi a0 i=nth (yad l ks) i yc:=fun i=>by rw[ha0]; rfl
 have hrec:ynp l ks id fuse=(yKm a0,true):=by
  unfold ynp;rw[hasm];show(ylg (bif leb (-1) fuse&&leb fuse 1000 then ykF (yml id g G T Lf Bf (yad l ks)) fuse false else yml id g G T Lf Bf (yad l ks)),true)=_;rw[zk0 hfu.1,zk0 hfu.2];show(ylg (ykF (yml id g G T Lf Bf (yad l ks)) fuse false),true)=_;rw[← ha0];unfold ylg;rw[yFT.2 ⟨hc0,hk0⟩];have e1:ya a0=false:=by rw[ha0]; rfl
  have e2:a0.2.2.2.2.2.2.2.2.2.2.2=false:=by rw[ha0]; rfl
  have e3:a0.2.2.2.2.2.2.2.1=G:=by rw[ha0]; rfl
  rw[e1,e2,e3,zkw (show G<60000 by omega)]; rfl
 have hst: ∀f,Ch a0 f→ ∀i n,0≤i→i<g.1→0≤n→f i n=ywJ (yad l ks) i n:=fun f hf i n i0 i1 n0=>by
  rcases hf i n i0 (by rw[ha0]; exact i1) n0 with h | ⟨w,hw,_⟩
  ·rw[h,hdk]; rfl
  ·rw[hdk,(hfr i i0 i1).1]at hw; cases hw
 have hflA: ∀i,0≤i→i<g.1→yC a0 i=flF l i:=fun i i0 i1=>by unfold yC; rw[hdk]; exact hfl i i0 i1
 have hbdA: ∀i m,0≤i→i<g.1→yI a0 i m=bdF l i m:=fun i m i0 i1=>by unfold yI; rw[hdk]; exact hbd i m i0 i1
 have way:Way id g G T L B Q R V Lf Bf l a0:=by
  refine⟨by rw[ha0]; rfl,by rw[ha0]; rfl,by rw[ha0]; rfl,by rw[ha0]; rfl,by rw[ha0]; rfl,by rw[ha0]; rfl,by rw[ha0]; rfl,by rw[ha0]; rfl,hk0,fun f hf=>⟨?_,?_⟩,hflA,fun i m i0 i1 _=>⟨fun h=>by rw[← hbdA i m i0 i1]; exact h,fun _=>hbdA i m i0 i1⟩⟩
  ·exact yGL (yf5 hs (fun i n i0 i1 _ hn=>hst f hf i n i0 i1 (by omega))) hflA
  ·exact yKH (yf4 hd (fun i n i0 i1 _ hn=> .inl ⟨hst f hf i n i0 i1 (by omega),hbdA i n i0 i1⟩) (fun i n i0 i1 h=>by rw[← hbdA i n i0 i1]; exact h)) hflA
 have hq:=hd.q
 have rp:Rp id g G T L B Q R V Lf Bf l T a0:=by
  refine⟨way,Int.le_refl _,hq.2.1,by rw[ha0]; rfl,by rw[ha0]; rfl,fun i i0 i1=>by rw[hdk,(hfr i i0 i1).1]; exact Nat.zero_le _,fun i s i0 i1 s0 s1 hh hj=> ?_⟩;unfold yZ at hh;rw[way.e3,way.e4,Bool.and_eq_true,Bool.not_eq_true']at hh;have h1:=hh.1;simp only[yab,Bool.and_eq_true,Bool.not_eq_true',Bool.or_eq_true,bne_iff_ne,ne_eq,zj8]at h1
  have hc:yb1 (yi a0 i) (s+6)=ywJ (yad l ks) i (s+6):=by
   unfold yb1;rw[hdk,(hfr i i0 i1).1]; rfl
  rw[hc];exact hd.d i s i0 i1 s0 s1 ((hflA i i0 i1).symm.trans h1.1) h1.2 ((hbdA i (s+6) i0 i1).symm.trans hh.2) hj
 obtain⟨g1,g2⟩:=y25 4 0 T a0 rp (by omega);refine⟨yKm a0,hrec,?_⟩;unfold yKm;cases hgo:goE ypu .inl 4 0 a0 with
 | inr b =>
  obtain⟨hdn,w⟩:=g2 b hgo
  exact⟨⟨w.e1,w.e2,w.e3,w.e8,w.e9,w.kp,w.fl,fun i m i0 i1 m0=>(w.bd i m i0 i1 m0).1,fun _ f hf=>by
   obtain⟨h1,h2⟩:=w.st f hf
   exact⟨G,T,L,B,Q,R,Bf,by omega,by omega,h1,h2⟩,fun hu=>by rw[hdn]at hu; cases hu⟩,w.e4,fun e i m i0 i1 m0=>(w.bd i m i0 i1 m0).2 e⟩
 | inl b =>
  have r:=g1 b hgo;have w:=r.w;obtain⟨j,j0,j1,_⟩:=hs.u3;obtain⟨s1,s2,s3,s4,s5,s6,s7⟩:=ye0 (hs.u0 j j0 j1);have hL:(-1≤Lf∧Lf≤g.1-1)∧(0≤Bf∧Bf≤g.2)∧(Lf= -1→Bf=0):=⟨hcore.2.2.2.1,hcore.2.2.2.2.1,hcore.2.2.2.2.2.1⟩
  have hcb:yU b:=by
   unfold yU;rw[w.e1,w.e2,w.e3,w.e4,w.e6,w.e7,w.e8,r.s];exact⟨s2,s3,rfl,hL.1,hL.2.1,hL.2.2,s4,⟨hq.2.1,hq.2.2.2⟩,hq.2.2.1,s1.1,s1.2⟩
  have hwd:=fun f hf=>w.st f hf
  have hix:Ix K V b:=⟨hcb,w.kp,r.u,w.e9,by rw[w.e7]; exact hG,by rw[r.s]; exact hQ,by rw[w.e2]; exact hd.e,fun i s i0 i1 s0 s1 hh=>by
   rw[w.e2]at i1 s1;exact r.v i s i0 i1 s0 s1 hh (fun p p0 p1=>by omega),fun i i0 i1=>by
   rw[w.e2]at i1;have:=r.c i i0 i1
   have h0:(0:Int)≤bif i==b.2.2.2.1 then b.2.2.2.2.1 else 0:=by
    rw[w.e4];cases(i==b.2.2.2.1)
    ·exact Int.le_refl _
    ·exact hL.2.1.1
   omega⟩
  have hz:b.2.2.2.1≠ -1→yC b b.2.2.2.1=true→b.2.2.2.2.1=0:=fun h1 h2=>by
   obtain⟨k1,_⟩:=hwd _ (yGa b);rw[w.e3]at h1 h2;rw[w.e4];rcases k1.u4 with⟨_,_,k3⟩ | ⟨_,_,_,_,k3⟩
   ·rcases k3 with k3 | ⟨k3,_⟩
    ·exact absurd k3 h1
    ·rw[h2]at k3; cases k3
   ·exact k3
  have old: ∀f,Ch b f→ ∃Bg,Wsup b.1 b.2.1 b.2.2.2.2.2.2.2.1 T L B b.2.2.2.1 Bg f (yC b)∧Wdat b.2.1 T b.2.2.2.2.2.1 R V b.2.2.2.1 Bg f (yC b) (yI b):=fun f hf=>by
   rw[w.e1,w.e2,w.e3,w.e7,r.s];exact⟨Bf,hwd f hf⟩
  obtain⟨c1,c2,c3,c4,c5⟩:=yAS b;have hcb2:=fun i m i0 i1 m0=>yxa (b:=b) (m:=m) w.kp (i:=i) i0 (by rw[w.e2]; exact i1) m0
  have hfc: ∀i,0≤i→i<g.1→yC (yo b) i=yC b i:=fun i i0 i1=>(hcb2 i 2 i0 i1 (by omega)).2
  refine⟨⟨c1.trans w.e1,c2.trans w.e2,c3.trans w.e3,(yMY b).trans w.e8,(y1E b).trans w.e9,yAY w.kp,fun i i0 i1=>(hfc i i0 i1).trans (w.fl i i0 i1),fun i m i0 i1 m0 hb=> ?_,fun _ f hf=> ?_,fun hu=>⟨yOD hix hK hu,⟨R,yWS hix hz hK hu old⟩,?_,?_⟩⟩,c4.trans w.e4,fun e i m i0 i1 m0=> ?_⟩
  ·rw[(hcb2 i m i0 i1 (by omega)).1]at hb
   exact(w.bd i m i0 i1 m0).1 hb
  ·have hlr:Lf= -1∨(0≤Lf∧Lf<g.1):=by omega
   have ht:=yRy (Lf:=Lf) (fl:=yC b) hix (by omega) hf (fun i _ _ h=>h) (.inl w.e3.symm) (fun f hf=>by
    have:=old f hf
    rw[w.e3]at this; exact this)
   rw[w.e1,w.e2]at ht;obtain⟨G',T',L',B',Q',R',Bf',k1,k2,k3,k4⟩:=ht;exact⟨G',T',L',B',Q',R',Bf',k1,k2,yGL k3 hfc,yKH k4 hfc⟩
  ·rw[(yWT (b:=b) (by rw[w.e7]; omega) hu).1,c5]
  ·intro h1 h2
   rw[c3]at h1 h2;rw[c4];rw[hfc _ (by rw[w.e3]at h1 ⊢; omega) (by rw[w.e3]; omega)]at h2;exact hz h1 h2
  ·rw[(hcb2 i m i0 i1 (by omega)).1]
   exact(w.bd i m i0 i1 m0).2 e
theorem y3c {a:dA} (hk:yE a) (ks:List Int):Ch a (ywJ (yad a.2.2.1 ks)):=fun i n i0 i1 n0=>by
 have hn:=hk.1.2;unfold ywJ;rw[yW1 ks i0 (by omega)];exact y2v (ydD hk i0 i1).1 _ n0
def Can (K:Int) (P:(Int→Int→Int)→Int→Prop) (a:dA):Prop:= ∀f,Ch a f→ ∃V Lf,P V Lf∧WW K a.1 a.2.1 V Lf f (yC a) (yI a)
theorem y1C {K:Int} {VS:(Int→Int→Int)→Prop} {a:dA} (h:Dd K VS a):Can K (fun V Lf=>VS V∧Lf=a.2.2.2.1) a:=fun f hf=>by
 obtain⟨V,h1,h2⟩:=h f (yC a) a.2.2.2.1 hf (yKt a);exact⟨V,_,⟨h1,rfl⟩,h2⟩
theorem y1D {K:Int} {V:Int→Int→Int} {a:dA} (h:Lv K V a):Can K (fun W Lf=>W=V∧Lf=a.2.2.2.1) a:=by
 obtain⟨B0,hr⟩:=h.r;exact y1C (yZ5 hr h.x.xg h.x.xs)
theorem yNH {K J:Int} {P Q:(Int→Int→Int)→Int→Prop} {a:dA} (h:Can K P a) (hj:K≤J) (hp: ∀V L,P V L→Q V L):Can J Q a:=fun f hf=>by
 obtain⟨V,L,h1,h2⟩:=h f hf;exact⟨V,L,hp V L h1,y02 h2 hj⟩
theorem y0z {K fuse:Int} {P:(Int→Int→Int)→Int→Prop} {a:dA} (hk:yE a) (h:Can K P a) (hK:K+1≤60000) (ks:List Int) (hf: -1≤fuse∧fuse≤1000) :
  ∃x V Lf,ynp a.2.2.1 ks a.1 fuse=(x,true)∧P V Lf∧Back (K+1) a.1 a.2.1 V Lf a.2.2.1 x:=by
 obtain⟨V,Lf,hp,G,T,L,B,Q,R,Bf,h1,h2,h3,h4⟩:=h _ (y3c hk ks)
 obtain⟨x,e,b,_⟩:=yZ4 (ks:=ks) hk.1.2 (fun i i0 i1=>by
  have:=ydD hk i0 i1
  exact⟨this.1,this.2.1⟩) h1 h2 hK hf h3 h4
 exact⟨x,V,Lf,e,hp,b⟩
theorem y0K: ∀(k i:Nat) (a:dA),ycp a→(∀b,goE ypu .inl k i a= .inl b→ycp b)∧ ∀b,goE ypu .inl k i a= .inr b→ycp b
 | 0,_,a,h=>⟨fun b hb=>by cases hb; exact h,fun b hb=>by cases hb⟩
 | k+1,i,a,h=>by
  have h1:ycp (yhc a):=yZG _ h;have h2:ycp (yjV a):=yW4 (a:=yJ (yhc a)) _ _ h1;unfold goE ypu;cases(!(yay a a.2.2.2.2.2.1).2||leb 60000 a.2.2.2.2.2.1)
  ·rw[h1.1,h2.1]
   exact y0K k (i+1) (yjV a) h2
  ·exact⟨fun b hb=>by cases hb; exact h,fun b hb=>by cases hb⟩
theorem y0q {a:dA} (h:ycp a):ycp (ylg a):=by
 unfold ylg;cases(yal a&&(!(ya a)&&(!a.2.2.2.2.2.2.2.2.2.2.2&&ltb a.2.2.2.2.2.2.2.1 60000)))
 ·exact h
 ·obtain⟨h1,h2⟩:=y0K 4 0 a h
  show ycp (yKm a);unfold yKm;cases hg:goE ypu .inl 4 0 a with
  | inl b=>exact y1e (h1 b hg)
  | inr b=>exact h2 b hg
theorem y2n (l:List dM) (id:Int):ya (yfl l id).1=false:=by
 unfold yfl;cases((ydu l id).2&&((l.length:Int)==(ydu l id).1.2.2.2.1&&yal (yFU l id)))<;>rfl
theorem y1t {l:List dM} {ks:List Int} {id:Int} {x:dA} (h:ynp l ks id (-1)=(x,true)):ya x=false:=by
 have hd:=y2n (yad l ks) id;unfold ynp at h;generalize yfl (yad l ks) id=A at h hd;rw[zk0 (show(-1:Int)≤ -1 by omega),zk0 (show(-1:Int)≤1000 by omega),Bool.and_self,cond_true]at h;have hf:ycp (ykF A.1 (-1) (ya A.1)):=⟨hd,rfl⟩;have hr:=(y0q hf).1;generalize ylg (ykF A.1 (-1) (ya A.1))=Z at h hr;cases ha:A.2
 ·rw[ha,cond_false]at h
  exact absurd (congrArg (fun z=>z.2) h) (by simp)
 ·rw[ha,cond_true]at h
  have h:=congrArg (fun z=>z.1) h;simp only at h;rw[← h]; exact hr
theorem y1i {a:dA} (s:Int) (d:List Int) (h:yE a):yE (yK a s d).2:=by
 have hc:yE (yv a):=by
  unfold yv;cases leb 4 (i64.wrap (a.2.2.2.2.2.1-a.2.2.2.2.2.2.1))
  ·exact h
  ·exact yAY h
 unfold yK;have hr:=ywj ((yv a).2.2.2.2.2.1,s,d) hc;generalize yp (yv a) ((yv a).2.2.2.2.2.1,s,d)=R at hr ⊢;have hq:yE (yF (yJ R) s d):=yEJ (a:=yJ R) s d hr;generalize yF (yJ R) s d=Q at hq ⊢;cases ya (yv a)
 ·cases ya R
  ·exact hq
  ·exact hr
 ·exact hc
theorem ySm {a:dA} (s:Int) (h:yE a):yE (yaM a s).2:=by
 unfold yaM;cases ltb (yai a.2.2.2.2.2.2.2.2.1 s) 0
 ·generalize (nth a.2.2.2.2.2.2.2.2.1 (yai a.2.2.2.2.2.2.2.2.1 s) (0,[])).2=D
  have hw:=y1i s D h;cases(yar a s D !=0)
  ·cases((yK a s D).1==0)
   ·exact hw
   ·exact hw
  ·exact h
 ·exact h
theorem yZJ: ∀(k i:Nat) (a:dA),yE a→yE (goE ylp (fun b=>(0,b)) k i a).2
 | 0,_,_,h=>h
 | k+1,i,a,h=>by
  have hf:=ySm (nth a.2.2.2.2.2.2.2.2.1 0 (0,[])).1 h;unfold goE ylp;cases hc:((yaM a (nth a.2.2.2.2.2.2.2.2.1 0 (0,[])).1).1 !=0)
  ·exact yZJ k (i+1) _ hf
  ·exact hf
theorem yYo {a:dA} {m:Int} (h:yE a) (hl:a.2.2.2.1= -1) (hm:inb m a.2.2.1.length=true):yE (yas a m):=by
 have hmi:=zj4.1 hm;obtain⟨⟨g1,g2⟩,g3⟩:=h;refine⟨⟨?_,?_⟩,g3⟩
 ·show yEM m a.2.2.2.2.2.2.2.2.2.2.2 a.2.1.2 (a.2.2.1.set m.toNat (ye7 (nth a.2.2.1 m yc)))
  refine ym0 (fun i hi=> ?_) (fun hi=> ?_)
  ·obtain⟨e1,e2,e3⟩:=g1 i hi
   refine⟨e1,e2,fun e=> ?_⟩;rcases e3 e with e | e
   ·omega
   ·exact .inr e
  ·have:=g1 m.toNat hi
   rw[Int.toNat_of_nonneg hmi.1]at this;exact⟨yU7 this.1,this.2.1,fun _=> .inl (Int.toNat_of_nonneg hmi.1)⟩
 ·show((a.2.2.1.set m.toNat (ye7 (nth a.2.2.1 m yc))).length:Int)=a.2.1.1
  rw[List.length_set]; exact g2
theorem yYp {a:dA} (h:yE a) (hgo:ye a.2.1=true):yE (yV a):=by
 obtain⟨⟨g1,g2⟩,g3⟩:=h;have hg:=yn.1 hgo;refine⟨⟨ym0 g1 (fun hi=>⟨yJu (by omega) (by omega),?_,fun e=> ?_⟩),?_⟩,g3⟩
 ·unfold yaY
  rw[zk0 (show 1≤6+a.2.1.2 by omega),zk0 (show 6+a.2.1.2≤20 by omega)];show((List.replicate (6+a.2.1.2).toNat ([]:List Int)).length:Int)=6+a.2.1.2;rw[List.length_replicate]; omega
 ·unfold yaY at e
  rw[zk0 (show 1≤6+a.2.1.2 by omega),zk0 (show 6+a.2.1.2≤20 by omega)]at e;cases e
 ·show((a.2.2.1.set a.2.2.2.1.toNat (yaY (6+a.2.1.2))).length:Int)=a.2.1.1
  rw[List.length_set]; exact g2
theorem y0u {a b:dA} (h:yE a) (hgo:ye a.2.1=true) (ht:Turned a b):yE b:=by
 cases ht with
 | same=>exact h
 | put b x hb hx=>unfold ypS; cases(ybB a (yb2 a.2.1 b)).2<;>exact h
 | flush s=>exact ySm s h
 | all=>exact yZJ _ 0 a h
 | fail m hl hm =>
  have hf:=yYo h hl hm;unfold yhe;rw[show(a.2.2.2.1== -1)=true from beq_iff_eq.2 hl];show yE (bif(!(ya a)&&(!a.2.2.2.2.2.2.2.2.2.2.2&&ltb a.2.2.2.2.2.2.2.1 60000))then yy (yas a m)else yas a m);cases(!(ya a)&&(!a.2.2.2.2.2.2.2.2.2.2.2&&ltb a.2.2.2.2.2.2.2.1 60000))
  ·exact hf
  ·exact yxK hf
 | spare _ _=>exact yxK (yYp h hgo)
 | step hl _ _ =>
  have hp:yE (yaC a):=ywi h hl;unfold yfg;cases(yP a a.2.2.2.2.1).2
  ·exact h
  ·generalize yaC a=R at hp ⊢
   cases ya R
   ·exact hp
   ·exact hp
 | check=>exact yAY h
 | spoil m s _ hm _ _=>exact ypM h hm (fun g=>⟨yQw _ g.1,by rw[(ynq _ _).1]; exact g.2.1,by rw[(ynq _ _).2]; exact g.2.2⟩)
theorem yoh (p:Nat→Bool): ∀n,decide (ymt p n=0)=(List.range n).all p
 | 0=>rfl
 | n+1=>by
  rw[List.range_succ,List.all_append,← yoh p n,yAZ];cases hp:p n
  ·simp[hp]
  ·simp[hp]
theorem y2C {k:Int} {V:Int→Int→Int} {a:dA} {s:Int} (h:Ix k V a) (s0:0≤s) (s1:s<a.2.1.2):yqx a s=(0,decide (ybr a s=0)):=by
 have hlen:=h.xk.1.2;have hN:a.2.2.1.length=a.2.1.1.toNat:=by omega
 have hw:yB2 a s=decide (ybr a s=0):=by
  unfold yB2 ybr;rw[yoh,hN,Bool.eq_iff_iff,List.all_eq_true,List.all_eq_true];constructor
  ·intro g i hi
   have hi':=List.mem_range.1 hi;have:=g i hi;rwa[(yr3 h.xc.1 h.xk h.xv (show(0:Int)≤(i:Int)by omega) (by omega) s0 s1).1]at this
  ·intro g i hi
   have hi':=List.mem_range.1 hi;rw[(yr3 h.xc.1 h.xk h.xv (show(0:Int)≤(i:Int)by omega) (by omega) s0 s1).1];exact g i hi
 unfold yqx;rw[hw];cases hd:decide (ybr a s=0)
 ·rfl
 ·rw[cond_true,hN]
  congr 1
  have:(List.range a.2.1.1.toNat).map (fun(i:Nat)=>yiH a i s)=yez V a.2.1.1 s:=by
   unfold yez;refine List.map_congr_left fun i hi=> ?_
   have hi':=List.mem_range.1 hi;refine(yr3 h.xc.1 h.xk h.xv (show(0:Int)≤(i:Int)by omega) (by omega) s0 s1).2 ?_;unfold ybr at hd;rw[yoh,List.all_eq_true]at hd;exact hd i hi
  rw[this];exact h.xe.ev s s0 s1
theorem y3g {k:Int} {V:Int→Int→Int} {a:dA} (h:Ix k V a):yY8 a=true:=by
 unfold yY8;rw[List.all_eq_true];intro s hs;have:=List.mem_range.1 hs;rw[y2C h (by omega) (by omega)];simp
theorem yEK {p:Nat→Bool}: ∀{n:Nat} {j:Nat},ymt p n<2→j<n→p j=false→ ∀i,i<n→i≠j→p i=true
 | 0,j,_,hj,_=>absurd hj (Nat.not_lt_zero _)
 | n+1,j,h,hj,hp=>fun i hi hij=>by
  rw[yAZ]at h
  have z: ∀{k:Nat},ymt p n=0→k<n→p k=true:=fun{k} h0 hk=>by
   have:decide (ymt p n=0)=true:=decide_eq_true h0;rw[yoh,List.all_eq_true]at this;exact this k (List.mem_range.2 hk)
  cases hn:p n
  ·rw[hn,cond_false]at h
   have h0:ymt p n=0:=by omega
   by_cases hjn:j=n
   ·exact z h0 (by omega)
   ·have:=z (k:=j) h0 (by omega)
    rw[hp]at this; cases this
  ·rw[hn,cond_true]at h
   have hjn:j≠n:=fun e=>by rw[e,hn]at hp; cases hp
   by_cases hin:i=n
   ·rw[hin]; exact hn
   ·exact yEK h (by omega) hp i (by omega) hij
theorem y2O {B0:Int} {V:Int→Int→Int} {v:List Int} {a:dA} (hk:yE a) (hu:ya a=false) (hm:inb a.2.2.2.1 a.2.2.1.length=true) (hb0:0≤a.2.2.2.2.1) (hb1:a.2.2.2.2.1<1000) (h:Rob B0 V a):Rob B0 V (ybk a a.2.2.2.1 (yx a.2.2.2.2.1) v):=by
 obtain⟨R,hB,hr⟩:=h;have hmi:=zj4.1 hm;have hlen:=hk.1.2;have hda:=yih hb0 (by omega);have hd:=yA4 (yx a.2.2.2.2.1) v hu hm
 have ho: ∀i,0≤i→i≠a.2.2.2.1→yi (ybk a a.2.2.2.1 (yx a.2.2.2.2.1) v) i=yi a i:=fun i i0 hi=>by
  rcases hd.2.2 with⟨_,e⟩ | ⟨_,e⟩
  ·rw[e i i0,show(a.2.2.2.1==i)=false from beq_eq_false_iff_ne.2 (fun e=>hi e.symm)]; rfl
  ·exact e i
 have hl:TrD (yx a.2.2.2.2.1) v (yi a a.2.2.2.1) (yi (ybk a a.2.2.2.1 (yx a.2.2.2.2.1) v) a.2.2.2.1):=by
  rcases hd.2.2 with⟨_,e⟩ | ⟨_,e⟩
  ·rw[e _ hmi.1,beq_self_eq_true]; exact y00 _ _ _
  ·rw[e]; exact ywM _ _ _
 obtain⟨c1,c2,c3,c4,c5,c6,c7⟩:=ybd (ygW a a.2.2.2.1 (yx a.2.2.2.2.1) v);generalize ybk a a.2.2.2.1 (yx a.2.2.2.2.1) v=P at ho hl c1 c2 c3 c4 c5 c6 c7
 have hfl: ∀i,0≤i→i<a.2.1.1→yC P i=yC a i:=fun i i0 i1=>by
  by_cases e:i=a.2.2.2.1
  ·rw[e]; exact hl.2.1
  ·unfold yC; rw[ho i i0 e]
 have hbl: ∀i n,0≤i→yI P i n=true→yI a i n=true:=fun i n i0 hb=>by
  by_cases e:i=a.2.2.2.1
  ·rw[e]at hb ⊢; exact hl.2.2.2 n hb
  ·unfold yI at hb ⊢; rw[ho i i0 e]at hb; exact hb
 refine⟨R,by rw[c4]; exact hB,fun f' fl Lf hf hal=> ?_⟩;rw[c2,c3]at hal;have hal2:=ywU hal hfl;have hLf:Lf=a.2.2.2.1:=by rcases hal with⟨h1,_⟩ | ⟨_,_,h3,_⟩<;>omega
 obtain⟨f,hfd⟩: ∃f:Int→Int→List Int,f=fun i n=>if i=a.2.2.2.1∧n=yx a.2.2.2.2.1 then yb1 (yi a a.2.2.2.1) n else f' i n:=⟨_,rfl⟩
 have hfe: ∀i n,¬(i=a.2.2.2.1∧n=yx a.2.2.2.2.1)→f' i n=f i n:=fun i n hi=>by rw[hfd]; exact(if_neg hi).symm
 have hch:Ch a f:=fun i n i0 i1 n0=>by
  by_cases e:i=a.2.2.2.1∧n=yx a.2.2.2.2.1
  ·rw[hfd]; simp only[if_pos e]; rw[e.1]; exact ywf _ _
  ·rw[← hfe i n e]
   have h1:=hf i n i0 (by rw[c2]; exact i1) n0;by_cases e2:i=a.2.2.2.1
   ·rw[e2]at h1 ⊢
    rcases hl.1 n _ n0 h1 with h2 | ⟨h2,_⟩
    ·exact h2
    ·exact absurd ⟨e2,h2⟩ e
   ·rw[ho i i0 e2]at h1; exact h1
 obtain⟨Bf,⟨p1,p2⟩,h1,h2⟩:=hr f fl Lf hch hal2;have h01: ∀i n,(n=0∨n=1)→f' i n=f i n:=fun i n hn=>hfe i n (fun e=>by omega)
 have he:Eq0 P fl Lf→Eq0 a fl Lf:=fun e=>⟨e.1.trans c3,fun i i0 i1=>(e.2 i i0 (by rw[c2]; exact i1)).trans (hfl i i0 i1)⟩
 have hBf:Bf≤B0:=by
  obtain⟨j,j0,j1,_⟩:=h1.u3;have:=(ye0 (h1.u0 j j0 j1)).2.2.2.2.2.1;rcases h1.u4 with⟨_,h3,_⟩ | ⟨_,_,_,_,h3⟩<;>omega
 rw[c1,c2,c3,c5,c6,c7];refine⟨Bf,⟨fun e=>p1 (he e),fun e e1 e2=> ?_⟩,yf5 h1 (fun i n _ _ _ hn=>h01 i n hn),yf4 h2 (fun i n i0 i1 hi hn=> ?_) (fun i n i0 _ hb=>hbl i n i0 hb)⟩
 ·obtain⟨n,s',hn,hsv⟩:=p2 (he e) e1 e2
  exact⟨n,s',hn,by rw[h01 Lf n hn]; exact hsv⟩
 ·by_cases e:i=a.2.2.2.1∧n=yx a.2.2.2.2.1
  ·exact .inr (.inr ⟨by omega,by omega,by omega⟩)
  ·refine .inl ⟨hfe i n e,?_⟩
   by_cases e2:i=a.2.2.2.1
   ·rw[e2]; exact hl.2.2.1 n (fun e3=>e ⟨e2,e3⟩)
   ·unfold yI; rw[ho i i0 e2]
theorem y3m {K:Int} {V:Int→Int→Int} {a:dA} (h:Lv K V a) (hm:inb a.2.2.2.1 a.2.2.1.length=true) (hf:(nth a.2.2.1 a.2.2.2.1 yc).2.2.1=false) (hb:a.2.2.2.2.1<a.2.1.2) :
  (ya (yfg a).2=false→Lv K V (yfg a).2)∧(ya (yfg a).2=true→Dd K (· =V) (yfg a).2):=by
 have hi:=y3h h.x hm hf hb;have c:=h.x.xc;unfold yU at c;have hg:=yn.1 c.1;have hmi:=zj4.1 hm;have hlen:=h.x.xk.1.2;obtain⟨B0,hR⟩:=h.r;have hxg:=h.x.xg;have hxs:=h.x.xs;unfold yfg at hi ⊢;cases hw:(yP a a.2.2.2.2.1).2
 ·exact⟨fun _=>h,fun hd=>by have hd:ya a=true:=hd; rw[h.x.xu]at hd; cases hd⟩
 ·rw[hw]at hi
  have rs:=y2O (v:= [nth (yP a a.2.2.2.2.1).1 a.2.2.2.1 0]) h.x.xk h.x.xu hm (by omega) (by omega) hR;have hd:=yA4 (yx a.2.2.2.2.1) [nth (yP a a.2.2.2.2.1).1 a.2.2.2.1 0] h.x.xu hm;obtain⟨c1,c2,c3,c4,c5,c6,c7⟩:=ybd (ygW a a.2.2.2.1 (yx a.2.2.2.2.1) [nth (yP a a.2.2.2.2.1).1 a.2.2.2.1 0]);have hS:yaC a=ybk a a.2.2.2.1 (yx a.2.2.2.2.1) [nth (yP a a.2.2.2.2.1).1 a.2.2.2.1 0]:=rfl;rw[← hS]at rs hd c1 c2 c3 c4 c5 c6 c7
  have hlack:ybr a a.2.2.2.2.1<2:=by
   rw[yZI h.x (by omega) hb]at hw;by_cases h2:ybr a a.2.2.2.2.1<2
   ·exact h2
   ·rw[decide_eq_false h2]at hw; cases hw
  generalize yaC a=P at hi rs hd c1 c2 c3 c4 c5 c6 c7;cases hp:ya P
  ·rw[hp]at hi
   have hi2:=hi hp;refine⟨fun _=>⟨hi2,⟨B0,?_⟩,?_⟩,fun hd2=>by have hd2:ya P=true:=hd2; rw[hp]at hd2; cases hd2⟩
   ·obtain⟨R,r1,r2⟩:=rs
    refine⟨R,?_,r2⟩;show B0≤i64.wrap (P.2.2.2.2.1+1);rw[wr (by omega) (by omega)]; omega
   ·refine⟨fun _ i s i0 i1 hne s0 s1=> ?_,fun _ hfl=> ?_⟩
    ·have i1:i<P.2.1.1:=i1
     have hne:i≠P.2.2.2.1:=hne;rw[c2]at i1;rw[c3]at hne;have s1:s<i64.wrap (P.2.2.2.2.1+1):=s1;rw[wr (by omega) (by omega)]at s1;show yI P i (s+6)=false
     have e:yi P i=yi a i:=by
      rcases hd.2.2 with⟨_,e⟩ | ⟨_,e⟩
      ·rw[e i i0,show(a.2.2.2.1==i)=false from beq_eq_false_iff_ne.2 (by omega)]; rfl
      ·exact e i
     show yaT (yi P i) (s+6)=false;rw[e];by_cases hs:s<a.2.2.2.2.1
     ·exact h.n.n (by omega) i s i0 (by omega) (by omega) s0 hs
     ·have hse:s=a.2.2.2.2.1:=by omega
      subst hse
      have hL:(fun(i:Nat)=>yZ a a.2.2.2.2.1 i) a.2.2.2.1.toNat=false:=by
       show yZ a a.2.2.2.2.1 ((a.2.2.2.1.toNat:Nat):Int)=false;rw[Int.toNat_of_nonneg hmi.1];unfold yZ yab;rw[bne_self_eq_false,zk1 (Int.le_refl _),Bool.or_self,Bool.and_false]; rfl
      have:=yEK (p:=fun(i:Nat)=>yZ a a.2.2.2.2.1 i) (n:=a.2.1.1.toNat) (j:=a.2.2.2.1.toNat) hlack (by omega) hL i.toNat (by omega) (by omega);have this:yZ a a.2.2.2.2.1 ((i.toNat:Nat):Int)=true:=this;rw[Int.toNat_of_nonneg i0]at this;unfold yZ at this;rw[Bool.and_eq_true,Bool.not_eq_true']at this;exact this.2
    ·have hfl:yC P P.2.2.2.1=true:=hfl
     rw[c3]at hfl
     have:yC P a.2.2.2.1=yC a a.2.2.2.1:=by
      unfold yC;rcases hd.2.2 with⟨_,e⟩ | ⟨_,e⟩
      ·rw[e _ hmi.1,beq_self_eq_true,cond_true,yEH]
      ·rw[e]
     rw[this]at hfl;have hf:yC a a.2.2.2.1=false:=hf;rw[hf]at hfl; cases hfl
  ·exact⟨(fun hu=>by have hu:ya P=false:=hu; rw[hp]at hu; cases hu),fun _=>yZ5 (a:=P) rs (by rw[c7]; exact hxg) (by rw[c5]; exact hxs)⟩
theorem y1p {m:dM} {n k:Int} {v:List Int} (h:ymQ (spoil m n) k v):ymQ m k v:=by
 unfold spoil at h;cases hc:(yu m&&(inb n m.1.length&& !(m.2.2.2.any (· ==n))))
 ·rw[hc]at h; exact h
 ·rw[hc]at h; exact h
theorem yWQ {m:dM} {n k:Int}:(yaT m k=true→yaT (spoil m n) k=true)∧(yaT (spoil m n) k=true→yaT m k=true∨k=n):=by
 unfold spoil;cases hc:(yu m&&(inb n m.1.length&& !(m.2.2.2.any (· ==n))))
 ·exact⟨id,.inl⟩
 ·have mem: ∀x,x∈ytS m.2.2.2 n↔(x∈m.2.2.2∨x=n):=fun x=>by
   unfold ytS;rw[List.mem_append,List.mem_cons,List.mem_filter,List.mem_filter];constructor
   ·rintro(h | h | h)
    ·exact .inl h.1
    ·exact .inr h
    ·exact .inl h.1
   ·rintro(h | h)
    ·rcases Int.lt_trichotomy x n with g | g | g
     ·exact .inl ⟨h,zkw g⟩
     ·exact .inr (.inl g)
     ·exact .inr (.inr ⟨h,zkw g⟩)
    ·exact .inr (.inl h)
  constructor
  ·intro h
   obtain⟨x,hx,e⟩:=List.any_eq_true.1 (show m.2.2.2.any (· ==k)=true from h);exact List.any_eq_true.2 ⟨x,(mem x).2 (.inl hx),e⟩
  ·intro h
   obtain⟨x,hx,e⟩:=List.any_eq_true.1 (show(ytS m.2.2.2 n).any (· ==k)=true from h);rcases(mem x).1 hx with g | g
   ·exact .inl (List.any_eq_true.2 ⟨x,g,e⟩)
   ·exact .inr (by rw[← beq_iff_eq.1 e,g])
theorem y2F {K m s:Int} {V:Int→Int→Int} {a:dA} (h:Lv K V a) (hl:a.2.2.2.1= -1) (hm:inb m a.2.2.1.length=true) (s0:0≤s) (s1:s<a.2.1.2):Lv K V (ybj a m (spoil (nth a.2.2.1 m yc) (yx s))):=by
 have hx:=y2z (n:=yx s) h.x hm;have hmi:=zj4.1 hm;have hg:=yn.1 h.x.xc.1;have hda:=yih s0 (by omega);have hd: ∀i,0≤i→yi (ybj a m (spoil (nth a.2.2.1 m yc) (yx s))) i=bif m==i then spoil (yi a m) (yx s)else yi a i:=fun i i0=>yKz hm i0
 obtain⟨B0,R,hB,hr⟩:=h.r
 have e1: ∀i,0≤i→yi (ybj a m (spoil (nth a.2.2.1 m yc) (yx s))) i=yi a i∨(i=m∧yi (ybj a m (spoil (nth a.2.2.1 m yc) (yx s))) i=spoil (yi a i) (yx s)):=fun i i0=>by
  by_cases e:m=i
  ·subst e; rw[hd m i0,beq_self_eq_true]; exact .inr ⟨rfl,rfl⟩
  ·rw[hd i i0,show(m==i)=false from beq_eq_false_iff_ne.2 e]; exact .inl rfl
 refine⟨hx,⟨B0,R,hB,fun f fl Lf hf hal=> ?_⟩,⟨fun hn=>absurd hl hn,fun hn=>absurd hl hn⟩⟩
 have hfl: ∀i,0≤i→i<a.2.1.1→yC (ybj a m (spoil (nth a.2.2.1 m yc) (yx s))) i=yC a i:=fun i i0 _=>by
  unfold yC;rcases e1 i i0 with e | ⟨_,e⟩
  ·rw[e]
  ·rw[e,(ynq _ _).2]
 have hal2:Al a.2.2.2.1 a.2.1.1 (yC a) fl Lf:=ywU hal hfl
 have hch:Ch a f:=fun i n i0 i1 n0=>by
  have:=hf i n i0 i1 n0;rcases e1 i i0 with e | ⟨_,e⟩
  ·rw[e]at this; exact this
  ·rw[e]at this; exact y1p this
 obtain⟨Bf,⟨p1,p2⟩,h1,h2⟩:=hr f fl Lf hch hal2;have he:Eq0 (ybj a m (spoil (nth a.2.2.1 m yc) (yx s))) fl Lf→Eq0 a fl Lf:=fun e=>⟨e.1,fun i i0 i1=>(e.2 i i0 i1).trans (hfl i i0 i1)⟩
 refine⟨Bf,⟨fun e=>p1 (he e),fun e=>p2 (he e)⟩,h1,⟨h2.e,h2.q,fun i t i0 i1 t0 t1 hi hlv hb hj=>h2.d i t i0 i1 t0 t1 hi hlv ?_ hj,h2.r,h2.h,h2.v,h2.l,fun i n i0 i1 hi hb=> ?_⟩⟩
 ·cases hx:yI a i (t+6)
  ·rfl
  ·rw[← hb]
   unfold yI at hx ⊢;rcases e1 i i0 with e | ⟨_,e⟩
   ·rw[e]; exact hx.symm
   ·rw[e]; exact(yWQ.1 hx).symm
 ·unfold yI at hb
  rcases e1 i i0 with e | ⟨_,e⟩
  ·rw[e]at hb; exact h2.b i n i0 i1 hi hb
  ·rw[e]at hb
   rcases yWQ.2 hb with h3 | h3
   ·exact h2.b i n i0 i1 hi h3
   ·omega
def Any (_:Int→Int→Int):Prop:=True
theorem yZN {K:Int} {V:Int→Int→Int} {a:dA} (s:Int) (h:Lv K V a) (hk:K+1≤60000) :
  (ya (yaM a s).2=false→ ∃V',Lv (K+2) V' (yaM a s).2)∧(ya (yaM a s).2=true→Dd (K+2) Any (yaM a s).2):=by
 have same:(ya a=false→ ∃V',Lv (K+2) V' a)∧(ya a=true→Dd (K+2) Any a):=⟨fun _=>⟨V,yrW h (by omega)⟩,fun hd=>by rw[h.x.xu]at hd; cases hd⟩;unfold yaM;cases h0:ltb (yai a.2.2.2.2.2.2.2.2.1 s) 0
 ·generalize (nth a.2.2.2.2.2.2.2.2.1 (yai a.2.2.2.2.2.2.2.2.1 s) (0,[])).2=D
  cases hc:(yar a s D !=0)
  ·obtain⟨_,z1,z2,_,z4,_,z6,_⟩:=yEf (bne_eq_false_iff_eq.1 hc)
   obtain⟨w1,w2⟩:=y2G h z4 z1 z2 z6 hk;have wg:=yXl a s D;simp only[cond_false];generalize yK a s D=W at w1 w2 wg;cases hw:(W.1==0)
   ·exact⟨fun hu=>⟨_,(w1 hu).1⟩,fun hu=>yrP (w2 hu).1 (Int.le_refl _) (fun _ _=>trivial)⟩
   ·refine⟨fun hu=>⟨_,y2D (w1 hu).1 (by rw[wg]; exact yWY _ h.x.xc.2.2.1)⟩,fun hu=>absurd (beq_iff_eq.1 hw) (w2 hu).2⟩
  ·exact same
 ·exact same
theorem yZO {k:Int}: ∀(n i:Nat) (j:Int) (V:Int→Int→Int) (a:dA),Lv j V a→j+2*n≤k→k≤60000 →
  (ya (goE ylp (fun b=>((0:Int),b)) n i a).2=false→ ∃V',Lv k V' (goE ylp (fun b=>((0:Int),b)) n i a).2)∧(ya (goE ylp (fun b=>((0:Int),b)) n i a).2=true→Dd k Any (goE ylp (fun b=>((0:Int),b)) n i a).2)
 | 0,_,j,V,a,h,h1,_=>⟨fun _=>⟨V,yrW h (by omega)⟩,fun hd=>by have hd:ya a=true:=hd; rw[h.x.xu]at hd; cases hd⟩
 | n+1,i,j,V,a,h,h1,h2=>by
  have hf:=yZN (nth a.2.2.2.2.2.2.2.2.1 0 (0,[])).1 h (by omega);unfold goE ylp;generalize yaM a (nth a.2.2.2.2.2.2.2.2.1 0 (0,[])).1=F at hf;cases hc:(F.1 !=0)
  ·simp only[cond_false]
   cases hd:ya F.2
   ·obtain⟨V1,h3⟩:=hf.1 hd
    exact yZO n (i+1) (j+2) V1 _ h3 (by omega) h2
   ·have e:(goE ylp (fun b=>((0:Int),b)) n (i+1) F.2).2=F.2:=yWO n (i+1) hd
    unfold ylp at e;rw[e];exact⟨(fun hu=>by rw[hd]at hu; cases hu),fun _=>yrP (hf.2 hd) (by omega) (fun _ h=>h)⟩
  ·simp only[cond_true]
   exact⟨fun hu=>(hf.1 hu).imp (fun V h=>yrW h (by omega)),fun hu=>yrP (hf.2 hu) (by omega) (fun _ h=>h)⟩
theorem y3F {k:Int} {V:Int→Int→Int} {a:dA} (h:Lv k V a) (hk:k+16≤60000):(ya (yIF a).2=false→ ∃V',Lv (k+16) V' (yIF a).2)∧(ya (yIF a).2=true→Dd (k+16) Any (yIF a).2):=by
 have:=yxg h.x.xc.2.2.1 h.x.xc.1;exact yZO _ 0 k V a h (by omega) hk
theorem yJt {k:Int} {V:Int→Int→Int} {a b:dA} (h:Lv k V a) (ht:Turned a b) (hk:k+16≤60000):(ya b=false→ ∃V',Lv (k+16) V' b)∧(ya b=true→Dd (k+16) Any b):=by
 have one: ∀{r:dA} {K:Int},K≤k+16→(ya r=false→Lv K V r)∧(ya r=true→Dd K (· =V) r)→(ya r=false→ ∃V',Lv (k+16) V' r)∧(ya r=true→Dd (k+16) Any r):=fun hK g=>⟨fun hu=>⟨V,yrW (g.1 hu) hK⟩,fun hu=>yrP (g.2 hu) hK (fun _ _=>trivial)⟩
 have stay: ∀{r:dA},Lv k V r→(ya r=false→ ∃V',Lv (k+16) V' r)∧(ya r=true→Dd (k+16) Any r):=fun g=>⟨fun _=>⟨V,yrW g (by omega)⟩,fun hd=>by rw[g.x.xu]at hd; cases hd⟩
 cases ht with
 | same=>exact stay h
 | put b x hb hx=>exact stay (y3H h hb hx)
 | flush s =>
  have g:=yZN s h (by omega);exact⟨fun hu=>(g.1 hu).imp (fun V h=>yrW h (by omega)),fun hu=>yrP (g.2 hu) (by omega) (fun _ h=>h)⟩
 | all=>exact y3F h hk
 | fail m hl hm=>exact one (by omega) (y3k h hl hm (by omega))
 | spare hl hf=>exact one (by omega) (y2E h hl hf (by omega))
 | step hl hf hb=>exact one (by omega) (y3m h hl hf hb)
 | check=>exact one (by omega) (yZM h (by omega))
 | spoil m s hl hm s0 s1=>exact stay (y2F h hl hm s0 s1)
theorem yJr {p:Nat→Bool} {j:Nat}: ∀{n:Nat},(∀i,i<n→i≠j→p i=true)→ymt p n≤1∧(n≤j→ymt p n=0)
 | 0,_=>⟨Nat.zero_le _,fun _=>rfl⟩
 | n+1,h=>by
  obtain⟨h1,h2⟩:=yJr (n:=n) (fun i hi hj=>h i (by omega) hj);rw[yAZ];cases hp:p n
  ·have:n=j:=Classical.byContradiction fun e=>by rw[h n (by omega) e]at hp; cases hp
   rw[cond_false,h2 (by omega)];exact⟨by omega,fun h=>by omega⟩
  ·rw[cond_true]
   exact⟨h1,fun h=>h2 (by omega)⟩
theorem y3j {a:dA} {s j:Int} (j0:0≤j) (h: ∀i,0≤i→i<a.2.1.1→i≠j→yZ a s i=true):ybr a s<2:=by
 have:=(yJr (p:=fun(i:Nat)=>yZ a s i) (j:=j.toNat) (n:=a.2.1.1.toNat) (fun i hi hj=>h i (by omega) (by omega) (by omega))).1;unfold ybr;omega
theorem ySk {K:Int} {V:Int→Int→Int} {a:dA} (h:Ix K V a):yoe a=bif(List.range a.2.1.2.toNat).all (fun(s:Nat)=>decide (ybr a s<2))then(List.range a.2.1.2.toNat).flatMap (fun(s:Nat)=>yKv V a.2.1 s)else[]:=by
 unfold yoe
 have e: ∀s,s∈List.range a.2.1.2.toNat→ydv a (s:Int)=bif decide (ybr a s<2)then(yKv V a.2.1 s,true)else([],false):=fun s hs=>by
  have:=List.mem_range.1 hs;exact y1f h (by omega) (by omega)
 have h1:(List.range a.2.1.2.toNat).all (fun(s:Nat)=>(ydv a s).2)=(List.range a.2.1.2.toNat).all (fun(s:Nat)=>decide (ybr a s<2)):=by
  rw[Bool.eq_iff_iff,List.all_eq_true,List.all_eq_true];constructor
  ·intro g s hs
   have:=g s hs;rw[e s hs]at this;cases hd:decide (ybr a s<2)
   ·rw[hd]at this; cases this
   ·rfl
  ·intro g s hs
   rw[e s hs,g s hs]; rfl
 rw[ySj h,h1,Bool.true_and];cases hc:(List.range a.2.1.2.toNat).all (fun(s:Nat)=>decide (ybr a s<2))
 ·rfl
 ·rw[cond_true,cond_true]
  rw[List.all_eq_true]at hc;rw[List.flatMap_def,List.flatMap_def];refine congrArg List.flatten (List.map_congr_left fun s hs=> ?_);rw[e s hs,hc s hs]; rfl
def y2l (a:dA):Prop:= ∀s,0≤s→s<a.2.1.2→ybr a s<2
theorem yJn {K:Int} {V:Int→Int→Int} {a:dA} (h:Ix K V a) (hf:y2l a):yoe a=(List.range a.2.1.2.toNat).flatMap (fun(s:Nat)=>yKv V a.2.1 s):=by
 rw[ySk h,show(List.range a.2.1.2.toNat).all (fun(s:Nat)=>decide (ybr a s<2))=true from List.all_eq_true.2 fun s hs=>decide_eq_true (hf s (by omega) (by have:=List.mem_range.1 hs; omega))]; rfl
theorem yZE {K:Int} {V:Int→Int→Int} {a:dA} (h:Ix K V a) (hn:(yoe a).length≠0):y2l a:=fun s s0 s1=>by
 rw[ySk h]at hn;cases hc:(List.range a.2.1.2.toNat).all (fun(s:Nat)=>decide (ybr a s<2))
 ·rw[hc]at hn; exact absurd rfl hn
 ·rw[List.all_eq_true]at hc
  have:=of_decide_eq_true (hc s.toNat (List.mem_range.2 (by omega)));rw[Int.toNat_of_nonneg s0]at this; exact this
theorem y3y {K s:Int} {V:Int→Int→Int} {a:dA} (h:Lv K V a) (s0:0≤s) (s1:s<a.2.1.2) (hl:ybr a s<2): ∃j,0≤j∧ ∀i,0≤i→i<a.2.1.1→i≠j→i≠a.2.2.2.1∧yC a i=false∧yI a i (s+6)=false:=by
 have hlr:=h.x.xc.2.2.2.1
 have nf: ∀i,0≤i→i<a.2.1.1→i≠a.2.2.2.1→yC a i=false:=fun i i0 i1 hi=>by
  cases hf:yC a i
  ·rfl
  ·exact absurd (y1g h.x i0 i1 hf) hi
 have has: ∀i,yZ a s i=true→yI a i (s+6)=false:=fun i hh=>by
  unfold yZ at hh;rw[Bool.and_eq_true,Bool.not_eq_true']at hh;exact hh.2
 by_cases hm:a.2.2.2.1= -1
 ·by_cases hz:ybr a s=0
  ·refine⟨0,by omega,fun i i0 i1 _=>⟨by omega,nf i i0 i1 (by omega),has i ?_⟩⟩
   have:decide (ybr a s=0)=true:=decide_eq_true hz;unfold ybr at this;rw[yoh,List.all_eq_true]at this;have:=this i.toNat (List.mem_range.2 (by omega));rw[Int.toNat_of_nonneg i0]at this; exact this
  ·have hx: ∃j,j<a.2.1.1.toNat∧yZ a s (j:Nat)=false:=Classical.byContradiction fun hn=>by
    apply hz
    have:decide (ybr a s=0)=true:=by
     unfold ybr;rw[yoh,List.all_eq_true];intro i hi;cases hb:yZ a s (i:Nat)
     ·exact absurd ⟨i,List.mem_range.1 hi,hb⟩ hn
     ·rfl
    exact of_decide_eq_true this
   obtain⟨j,hj,hb⟩:=hx;refine⟨j,by omega,fun i i0 i1 hi=>⟨by omega,nf i i0 i1 (by omega),has i ?_⟩⟩;have:=yEK (p:=fun(i:Nat)=>yZ a s i) (n:=a.2.1.1.toNat) (j:=j) hl hj hb i.toNat (by omega) (by omega);have this:yZ a s ((i.toNat:Nat):Int)=true:=this;rw[Int.toNat_of_nonneg i0]at this; exact this
 ·refine⟨a.2.2.2.1,by omega,fun i i0 i1 hi=>⟨hi,nf i i0 i1 hi,?_⟩⟩
  by_cases hs:s<a.2.2.2.2.1
  ·exact h.n.n hm i s i0 i1 hi s0 hs
  ·have hb:(fun(i:Nat)=>yZ a s i) a.2.2.2.1.toNat=false:=by
    show yZ a s ((a.2.2.2.1.toNat:Nat):Int)=false;rw[Int.toNat_of_nonneg (by omega)];unfold yZ yab;rw[bne_self_eq_false,zk1 (show a.2.2.2.2.1≤s by omega),Bool.or_self,Bool.and_false]; rfl
   have:=yEK (p:=fun(i:Nat)=>yZ a s i) (n:=a.2.1.1.toNat) (j:=a.2.2.2.1.toNat) hl (by omega) hb i.toNat (by omega) (by omega);have this:yZ a s ((i.toNat:Nat):Int)=true:=this;rw[Int.toNat_of_nonneg i0]at this; exact has i this
theorem y3A {x:dA} {i s:Int} (hl:i≠x.2.2.2.1) (hf:yC x i=false) (hb:yI x i (s+6)=false):yZ x s i=true:=by
 unfold yZ yab;rw[show(yi x i).2.2.1=false from hf,show yaT (yi x i) (s+6)=false from hb,show(i !=x.2.2.2.1)=true from bne_iff_ne.2 hl]; rfl
theorem y1A {K id:Int} {g:dG} {V:Int→Int→Int} {Lf:Int} {l:List dM} {x:dA} (h:Back K id g V Lf l x) (hw: ∀s,0≤s→s<g.2→ ∃j,0≤j∧ ∀i,0≤i→i<g.1→i≠j→i≠Lf∧flF l i=false∧bdF l i (s+6)=false):y2l x:=fun s s0 s1=>by
 rw[h.bg]at s1;obtain⟨j,j0,hj⟩:=hw s s0 s1;refine y3j j0 fun i i0 i1 hi=> ?_
 rw[h.bg]at i1;obtain⟨h1,h2,h3⟩:=hj i i0 i1 hi;refine y3A (by rw[h.bl]; exact h1) ((h.bf i i0 i1).trans h2) ?_;cases hb:yI x i (s+6)
 ·rfl
 ·rw[h.be i (s+6) i0 i1 (by omega) hb]at h3; cases h3
end
def yXG:Code:=(f207.body).getD .skip
def yYc:Env:=zku TT [(162,yF3)] []
theorem yOd:FrOk prog ⟨yYc,18,fun _=>none⟩ yXG:=zky yg yh ⟨yYV,trivial⟩
abbrev yqf:List Par:= [.rd tN]
abbrev yyY:List OT:= [⟨false,tL,(.ow .fz)⟩]
def yum (a0:dN):Option (zaY yyY×zak yqf) :=let r1:=yR a0;bif(!r1)then some ((([]:List Int),()),()) else bif(zkj ([21322,a0.1,a0.2.1,(a0.2.2.length:Int)]:List Int).length a0.2.2.length 8)then some (((([21322,a0.1,a0.2.1,(a0.2.2.length:Int)]:List Int)++a0.2.2),()),()) else none
theorem yTk:ConOk prog 207 ⟨yqf,yyY,fun x=>yum x.1⟩:=zkG (yOd) func207 ntmps207.symm fun x=>by kernel_rfl
def yk7 (a0:dN):List Int:=yX a0
theorem yVF (a0:dN) (hk:zjw yqf (a0,())):yum a0=(fun n=>some ((n,()),())) (yk7 a0):=by
 unfold yum yk7 yX;cases hr:yR a0
 ·rfl
 ·have:=(yrY.1 hr).2.2.1
  rw[zkD.2 (show(([21322,a0.1,a0.2.1,(a0.2.2.length:Int)]:List Int).length+a0.2.2.length)*8≤140737488355328 by simp only[List.length_cons,List.length_nil]; omega)]; rfl
def yEo:Con:=⟨yqf,yyY,fun x=>(fun n=>some ((n,()),())) (yk7 x.1)⟩
theorem yWq:ConOk prog 207 yEo:=(yTk).mono (fun x r hk h=>(yVF x.1 hk).trans h)
def ysb:Code:=(f169.body).getD .skip
def yBr:Env:=zku TT [(91,yEp),(206,yjt),(207,yEo),(208,yms)] []
theorem ySb:FrOk prog ⟨yBr,24,fun _=>none⟩ ysb:=zky yg yh ⟨yWr,yqu,yWq,ywo,trivial⟩
def yFM:Nat→Option Seg:=fun _=>none
def ydl:Shape:=⟨[(0,false,[.ptr 1000000000 0]),(3,false,[.ptr 0 0]),(4,false,[.int .i64])],[(0,[.int .i64,.int .i64,.br tI]),(1000000000,[.int .i64,.int .i64,.int .i64,.at 800000000,.int .i64,.int .i64,.int .i64,.int .i64,.int .i64,.at 800000001,.int .i64,.bool,.bool])],[(800000000,tM,(.pr (.ow .fz) (.pr (.ow (.pr .fz .fz)) (.pr .fz (.ow .fz))))),(800000001,tW,(.pr .fz .fz))]⟩
def yhW:Shape:=⟨[(0,false,[.ptr 1000000000 0]),(3,false,[.ptr 0 0]),(4,false,[.ci .i64 0])],[(0,[.int .i64,.int .i64,.br tI]),(1000000000,[.int .i64,.int .i64,.int .i64,.at 800000000,.int .i64,.int .i64,.int .i64,.int .i64,.int .i64,.at 800000001,.int .i64,.bool,.bool])],[(800000000,tM,(.pr (.ow .fz) (.pr (.ow (.pr .fz .fz)) (.pr .fz (.ow .fz))))),(800000001,tW,(.pr .fz .fz))]⟩
def yhH:Shape:=⟨[(0,false,[.ptr 1000000000 0])],[(1000000000,[.int .i64,.int .i64,.int .i64,.at 800000000,.int .i64,.int .i64,.int .i64,.int .i64,.int .i64,.at 800000001,.int .i64,.bool,.bool])],[(800000000,tM,(.pr (.ow .fz) (.pr (.ow (.pr .fz .fz)) (.pr .fz (.ow .fz))))),(800000001,tW,(.pr .fz .fz))]⟩
def ymi:Shape:=⟨[],[],[]⟩
abbrev yq8 (v0:Int) (v1:dN) (v2:dA):(ydl).X:=((((),()),((),()),(v0,()),()),((v1.1,v1.2.1,v1.2.2,()),(v2.1,v2.2.1.1,v2.2.1.2,(),v2.2.2.2.1,v2.2.2.2.2.1,v2.2.2.2.2.2.1,v2.2.2.2.2.2.2.1,v2.2.2.2.2.2.2.2.1,(),v2.2.2.2.2.2.2.2.2.2.1,v2.2.2.2.2.2.2.2.2.2.2.1,v2.2.2.2.2.2.2.2.2.2.2.2,()),()),(v2.2.2.1,v2.2.2.2.2.2.2.2.2.1,()))
abbrev yOZ (v0:dN) (v1:dA):(yhW).X:=((((),()),((),()),((),()),()),((v0.1,v0.2.1,v0.2.2,()),(v1.1,v1.2.1.1,v1.2.1.2,(),v1.2.2.2.1,v1.2.2.2.2.1,v1.2.2.2.2.2.1,v1.2.2.2.2.2.2.1,v1.2.2.2.2.2.2.2.1,(),v1.2.2.2.2.2.2.2.2.2.1,v1.2.2.2.2.2.2.2.2.2.2.1,v1.2.2.2.2.2.2.2.2.2.2.2,()),()),(v1.2.2.1,v1.2.2.2.2.2.2.2.2.1,()))
abbrev yC7 (v0:dA):(yhH).X:=((((),()),()),((v0.1,v0.2.1.1,v0.2.1.2,(),v0.2.2.2.1,v0.2.2.2.2.1,v0.2.2.2.2.2.1,v0.2.2.2.2.2.2.1,v0.2.2.2.2.2.2.2.1,(),v0.2.2.2.2.2.2.2.2.2.1,v0.2.2.2.2.2.2.2.2.2.2.1,v0.2.2.2.2.2.2.2.2.2.2.2,()),()),(v0.2.2.1,v0.2.2.2.2.2.2.2.2.1,()))
def yrG (v0 v1 v2:Int) (v3:List Int) (v4 v5 v6 v7 v8 v9 v10 v11 v12:Int) (v13 v14:Bool) (v15:List dM) (v16:List dW):Option ((ydl).X ⊕ ((yhH).X ⊕ (ymi).X)) :=bif(ltb v0 (v15.length:Int))then let r4:=yf v1;let r5:=yk7 (v1,v2,v3);bnd (yeX (v4,(v5,v6),v15,v7,v8,v9,v10,v11,v16,v12,v13,v14) v0 r4 r5) fun r6 =>some (.inl ((((),()),((),()),((i64.wrap (v0+1)),()),()),((v1,v2,v3,()),(r6.2.1.1,r6.2.1.2.1.1,r6.2.1.2.1.2,(),r6.2.1.2.2.2.1,r6.2.1.2.2.2.2.1,r6.2.1.2.2.2.2.2.1,r6.2.1.2.2.2.2.2.2.1,r6.2.1.2.2.2.2.2.2.2.1,(),r6.2.1.2.2.2.2.2.2.2.2.2.1,r6.2.1.2.2.2.2.2.2.2.2.2.2.1,r6.2.1.2.2.2.2.2.2.2.2.2.2.2,()),()),(r6.2.1.2.2.1,r6.2.1.2.2.2.2.2.2.2.2.1,()))) else some (.inr (.inl ((((),()),()),((v4,v5,v6,(),v7,v8,v9,v10,v11,(),v12,v13,v14,()),()),(v15,v16,()))))
def ydR (x:(ydl).X):=yrG x.1.2.2.1.1 x.2.1.1.1 x.2.1.1.2.1 x.2.1.1.2.2.1 x.2.1.2.1.1 x.2.1.2.1.2.1 x.2.1.2.1.2.2.1 x.2.1.2.1.2.2.2.2.1 x.2.1.2.1.2.2.2.2.2.1 x.2.1.2.1.2.2.2.2.2.2.1 x.2.1.2.1.2.2.2.2.2.2.2.1 x.2.1.2.1.2.2.2.2.2.2.2.2.1 x.2.1.2.1.2.2.2.2.2.2.2.2.2.2.1 x.2.1.2.1.2.2.2.2.2.2.2.2.2.2.2.1 x.2.1.2.1.2.2.2.2.2.2.2.2.2.2.2.2.1 x.2.2.1 x.2.2.2.1
def yCJ (x:(yhW).X):(ydl).X:=((((),()),((),()),(0,()),()),((x.2.1.1.1,x.2.1.1.2.1,x.2.1.1.2.2.1,()),(x.2.1.2.1.1,x.2.1.2.1.2.1,x.2.1.2.1.2.2.1,(),x.2.1.2.1.2.2.2.2.1,x.2.1.2.1.2.2.2.2.2.1,x.2.1.2.1.2.2.2.2.2.2.1,x.2.1.2.1.2.2.2.2.2.2.2.1,x.2.1.2.1.2.2.2.2.2.2.2.2.1,(),x.2.1.2.1.2.2.2.2.2.2.2.2.2.2.1,x.2.1.2.1.2.2.2.2.2.2.2.2.2.2.2.1,x.2.1.2.1.2.2.2.2.2.2.2.2.2.2.2.2.1,()),()),(x.2.2.1,x.2.2.2.1,()))
def yEc:Code:=(zeJ ysb 64 52).getD .skip
theorem yRt:zeJ ysb 64 13=some (.block 0 (.loop yEc)):=by kernel_rfl
theorem yUb (x:(ydl).X):zhu ⟨yBr,24,yFM⟩ 0 yEc 52 ydl yhH ymi x=ydR x:=by kernel_rfl
def yCZ (x:(yhW).X):Nat:=18446744073709551616
def ysC (x:(yhW).X):Option ((yhH).X ⊕ (ymi).X):=zF ydR (yCZ x) (yCJ x)
def yDD:Seg:=⟨yhW,yhH,ymi,ysC⟩
def yUH:Nat→Option Seg:=fun q=>bif Nat.beq q 13 then some yDD else yFM q
theorem ySc:FrOk prog ⟨yBr,24,yUH⟩ ysb:=(ySb).loop (sg:=yDD) ydl yCJ (by decide) yRt ydR yCZ (by decide) (fun _=>rfl) (fun x r _ h=>h) yUb
abbrev ysU:List Par:= [.pt tA (.pr .fz (.pr (.pr .fz .fz) (.pr (.ow (.pr (.ow .fz) (.pr (.ow (.pr .fz .fz)) (.pr .fz (.ow .fz))))) (.pr .fz (.pr .fz (.pr .fz (.pr .fz (.pr .fz (.pr (.ow (.pr .fz .fz)) (.pr .fz (.pr .fz .fz))))))))))),.rd tN]
abbrev yBX:List OT:= []
def ywE (a0:dA) (a1:dN):Option (zaY yBX×zak ysU) :=zkr (ysC ((((),()),((),()),((),()),()),((a1.1,a1.2.1,a1.2.2,()),(a0.1,a0.2.1.1,a0.2.1.2,(),a0.2.2.2.1,a0.2.2.2.2.1,a0.2.2.2.2.2.1,a0.2.2.2.2.2.2.1,a0.2.2.2.2.2.2.2.1,(),a0.2.2.2.2.2.2.2.2.2.1,a0.2.2.2.2.2.2.2.2.2.2.1,a0.2.2.2.2.2.2.2.2.2.2.2,()),()),(a0.2.2.1,a0.2.2.2.2.2.2.2.2.1,()))) (fun y6 =>let r8:=ydX (y6.2.1.1.1,(y6.2.1.1.2.1,y6.2.1.1.2.2.1),y6.2.2.1,y6.2.1.1.2.2.2.2.1,y6.2.1.1.2.2.2.2.2.1,y6.2.1.1.2.2.2.2.2.2.1,y6.2.1.1.2.2.2.2.2.2.2.1,y6.2.1.1.2.2.2.2.2.2.2.2.1,y6.2.2.2.1,y6.2.1.1.2.2.2.2.2.2.2.2.2.2.1,y6.2.1.1.2.2.2.2.2.2.2.2.2.2.2.1,y6.2.1.1.2.2.2.2.2.2.2.2.2.2.2.2.1);some ((),(r8,()))) (fun y6 =>none)
theorem yWd:ConOk prog 169 ⟨ysU,yBX,fun x=>ywE x.1 x.2.1⟩:=zkG (ySc) func169 ntmps169.symm fun x=>by kernel_rfl
def yjJ (a0:dA) (a1:dN):dA:=yp a0 a1
theorem yYI (a0:dA) (a1:dN) (hk:zjw ysU (a0,a1,())):ywE a0 a1=(fun n=>some ((),(n,()))) (yjJ a0 a1):=by
 have hb:a0.2.2.1.length*80≤2^47:=hk.1.2.2.1.1
 have h1:ysC (yOZ a1 a0)=some (.inl (yC7 ((List.range a0.2.2.1.length).foldl (ya1 a1) a0))) :=
  zkB (step:=ydR) a0.2.2.1.length (fun i s=>yq8 i a1 s) (ya1 a1) (fun _ s=>s.2.2.1.length=a0.2.2.1.length) (fun s=> .inl (yC7 s)) (fun i s hi hs=>⟨by
   simp only[ydR,yq8,yrG,hs,zkw (show(i:Int)<a0.2.2.1.length by omega),cond_true,wq ((i:Int)+1) (by omega) (by omega),Int.natCast_add,Int.natCast_one,Int.toNat_natCast,zkV,yk7];rw[yle s i (yf a1.1) (yX a1) (zkP (by rw[hs]; exact hi))]
   rfl,(ykE a1 s i).trans hs⟩) (fun s hs=>by simp only[ydR,yq8,yrG,hs,zk1 (Int.le_refl _),cond_false]) a0 rfl _ (by show _<18446744073709551616; omega)
 unfold ywE yjJ yp;exact(congrArg (fun z=>zkr z _ _) h1).trans rfl
def yF6:Con:=⟨ysU,yBX,fun x=>(fun n=>some ((),(n,()))) (yjJ x.1 x.2.1)⟩
theorem yYY:ConOk prog 169 yF6:=(yWd).mono (fun x r hk h=>(yYI x.1 x.2.1 hk).trans h)
def yr8:Code:=(f230.body).getD .skip
def yBo:Env:=zku TT [] []
theorem yR2:FrOk prog ⟨yBo,18,fun _=>none⟩ yr8:=zky yg yh trivial
def yFJ:Nat→Option Seg:=fun _=>none
def ydi:Shape:=⟨[(0,false,[.br tI]),(3,false,[.int .i64]),(4,false,[.int .i64])],[],[]⟩
def yhT:Shape:=⟨[(0,false,[.br tI]),(3,false,[.ci .i64 0]),(4,false,[.ci .i64 0])],[],[]⟩
def yhE:Shape:=⟨[(3,false,[.int .i64])],[],[]⟩
def ymf:Shape:=⟨[],[],[]⟩
abbrev yq5 (v0:List Int) (v1 v2:Int):(ydi).X:=(((v0,()),(v1,()),(v2,()),()),(),())
abbrev yOW (v0:List Int):(yhT).X:=(((v0,()),((),()),((),()),()),(),())
abbrev yC5 (v0:Int):(yhE).X:=(((v0,()),()),(),())
def yrD (v0:List Int) (v1 v2:Int):Option ((ydi).X ⊕ ((yhE).X ⊕ (ymf).X)) :=bif(ltb v2 (v0.length:Int))then bif(inb v2 v0.length)then some (.inl (((v0,()),((i64.wrap ((BitVec.ofInt IntKind.i64.bits v1 ^^^ BitVec.ofInt IntKind.i64.bits (nth v0 v2 0)).toNat:Int)),()),((i64.wrap (v2+1)),()),()),(),())) else none else some (.inr (.inl (((v1,()),()),(),())))
def ydO (x:(ydi).X):=yrD x.1.1.1 x.1.2.1.1 x.1.2.2.1.1
def yCF (x:(yhT).X):(ydi).X:=(((x.1.1.1,()),(0,()),(0,()),()),(),())
def yD8:Code:=(zeJ yr8 64 116).getD .skip
theorem yRp:zeJ yr8 64 29=some (.block 0 (.loop yD8)):=by kernel_rfl
theorem yT7 (x:(ydi).X):zhu ⟨yBo,18,yFJ⟩ 0 yD8 116 ydi yhE ymf x=ydO x:=by kernel_rfl
def yCV (x:(yhT).X):Nat:=18446744073709551616
def ysy (x:(yhT).X):Option ((yhE).X ⊕ (ymf).X):=zF ydO (yCV x) (yCF x)
def yDz:Seg:=⟨yhT,yhE,ymf,ysy⟩
def yUE:Nat→Option Seg:=fun q=>bif Nat.beq q 29 then some yDz else yFJ q
theorem yR3:FrOk prog ⟨yBo,18,yUE⟩ yr8:=(yR2).loop (sg:=yDz) ydi yCF (by decide) yRp ydO yCV (by decide) (fun _=>rfl) (fun x r _ h=>h) yT7
abbrev ysQ:List Par:= [.rd tL]
abbrev yBS:List OT:= [⟨false,tI,.fz⟩]
def ywB (a0:List Int):Option (zaY yBS×zak ysQ) :=zkr (ysy (((a0,()),((),()),((),()),()),(),())) (fun y0 =>some ((y0.1.1.1,()),())) (fun y0 =>none)
theorem yV7:ConOk prog 230 ⟨ysQ,yBS,fun x=>ywB x.1⟩:=zkG (yR3) func230 ntmps230.symm fun x=>by kernel_rfl
def yjH (a0:List Int):Int:=yax a0
theorem yYE (a0:List Int) (hk:zjw ysQ (a0,())):ywB a0=(fun n=>some ((n,()),())) (yjH a0):=by
 have hb:a0.length*8≤2^47:=hk.1.1
 have h1:ysy (yOW a0)=some (.inl (yC5 (yax a0))) :=
  zkv (step:=ydO) a0 0 (fun i s=>yq5 a0 s i) xw (fun _ _=>True) (fun s=> .inl (yC5 s)) (fun i s hi _=>⟨by
   simp only[ydO,yq5,yrD,zkw (show(i:Int)<a0.length by omega),cond_true,wq ((i:Int)+1) (by omega) (by omega),Int.natCast_add,Int.natCast_one,Int.toNat_natCast,zkP hi,zkQ]; rfl,trivial⟩) (fun s _=>by simp only[ydO,yq5,yrD,zk1 (Int.le_refl _),cond_false]) 0 trivial _ (by show _<18446744073709551616; omega)
 unfold ywB yjH;rw[h1]; rfl
def yF4:Con:=⟨ysQ,yBS,fun x=>(fun n=>some ((n,()),())) (yjH x.1)⟩
theorem yYW:ConOk prog 230 yF4:=(yV7).mono (fun x r hk h=>(yYE x.1 hk).trans h)
def yKK:Code:=(f210.body).getD .skip
def yKW:Env:=zku TT [(230,yF4)] []
theorem yG0:FrOk prog ⟨yKW,5,fun _=>none⟩ yKK:=zky yg yh ⟨yYW,trivial⟩
abbrev yoP:List Par:= [.rd tL]
abbrev yoS:List OT:= [⟨false,tI,.fz⟩]
def yvc (a0:List Int):Option (zaY yoS×zak yoP) :=let r1:=yjH a0;some ((r1,()),())
theorem yIh:ConOk prog 210 ⟨yoP,yoS,fun x=>yvc x.1⟩:=zkG (yG0) func210 ntmps210.symm fun x=>by kernel_rfl
def yi1 (a0:List Int):Int :=let r1:=yjH a0;r1
def yuN:Con:=⟨yoP,yoS,fun x=>(fun n=>some ((n,()),())) (yi1 x.1)⟩
theorem yJW (a0:List Int):yvc a0=(fun n=>some ((n,()),())) (yi1 a0):=zkT (p:=fun(n:Int)=>((n,()),())) rfl
theorem yJ5:ConOk prog 210 yuN:=(yIh).mono (fun x r _ h=>(yJW x.1).trans h)
def yp1:Code:=(f170.body).getD .skip
def yyh:Env:=zku TT [(113,ye6),(206,yjt),(209,yoV),(210,yuN),(211,ytx)] []
theorem yOx:FrOk prog ⟨yyh,61,fun _=>none⟩ yp1:=zky yg yh ⟨yjP,yqu,yDf,yJ5,yGs,trivial⟩
def yDU:Nat→Option Seg:=fun _=>none
def ydk:Shape:=⟨[(0,false,[.ptr 1000000000 0]),(1,false,[.int .i64]),(2,false,[.br tI]),(6,false,[.int .i64]),(7,false,[.int .i64])],[(1000000000,[.int .i64,.int .i64,.int .i64,.at 800000000,.int .i64,.int .i64,.int .i64,.int .i64,.int .i64,.at 800000001,.int .i64,.bool,.bool])],[(800000000,tM,(.pr (.ow .fz) (.pr (.ow (.pr .fz .fz)) (.pr .fz (.ow .fz))))),(800000001,tW,(.pr .fz .fz))]⟩
def yhV:Shape:=⟨[(0,false,[.ptr 1000000000 0]),(1,false,[.int .i64]),(2,false,[.br tI]),(6,false,[.int .i64]),(7,false,[.ci .i64 0])],[(1000000000,[.int .i64,.int .i64,.int .i64,.at 800000000,.int .i64,.int .i64,.int .i64,.int .i64,.int .i64,.at 800000001,.int .i64,.bool,.bool])],[(800000000,tM,(.pr (.ow .fz) (.pr (.ow (.pr .fz .fz)) (.pr .fz (.ow .fz))))),(800000001,tW,(.pr .fz .fz))]⟩
def yhG:Shape:=⟨[],[(1000000000,[.int .i64,.int .i64,.int .i64,.at 800000000,.int .i64,.int .i64,.int .i64,.int .i64,.int .i64,.at 800000001,.int .i64,.bool,.bool])],[(800000000,tM,(.pr (.ow .fz) (.pr (.ow (.pr .fz .fz)) (.pr .fz (.ow .fz))))),(800000001,tW,(.pr .fz .fz))]⟩
def ymh:Shape:=⟨[],[],[]⟩
abbrev yq7 (v0:Int) (v1:List Int) (v2 v3:Int) (v4:dA):(ydk).X:=((((),()),(v0,()),(v1,()),(v2,()),(v3,()),()),((v4.1,v4.2.1.1,v4.2.1.2,(),v4.2.2.2.1,v4.2.2.2.2.1,v4.2.2.2.2.2.1,v4.2.2.2.2.2.2.1,v4.2.2.2.2.2.2.2.1,(),v4.2.2.2.2.2.2.2.2.2.1,v4.2.2.2.2.2.2.2.2.2.2.1,v4.2.2.2.2.2.2.2.2.2.2.2,()),()),(v4.2.2.1,v4.2.2.2.2.2.2.2.2.1,()))
abbrev yOY (v0:Int) (v1:List Int) (v2:Int) (v3:dA):(yhV).X:=((((),()),(v0,()),(v1,()),(v2,()),((),()),()),((v3.1,v3.2.1.1,v3.2.1.2,(),v3.2.2.2.1,v3.2.2.2.2.1,v3.2.2.2.2.2.1,v3.2.2.2.2.2.2.1,v3.2.2.2.2.2.2.2.1,(),v3.2.2.2.2.2.2.2.2.2.1,v3.2.2.2.2.2.2.2.2.2.2.1,v3.2.2.2.2.2.2.2.2.2.2.2,()),()),(v3.2.2.1,v3.2.2.2.2.2.2.2.2.1,()))
abbrev yC6 (v0:dA):(yhG).X:=((),((v0.1,v0.2.1.1,v0.2.1.2,(),v0.2.2.2.1,v0.2.2.2.2.1,v0.2.2.2.2.2.1,v0.2.2.2.2.2.2.1,v0.2.2.2.2.2.2.2.1,(),v0.2.2.2.2.2.2.2.2.2.1,v0.2.2.2.2.2.2.2.2.2.2.1,v0.2.2.2.2.2.2.2.2.2.2.2,()),()),(v0.2.2.1,v0.2.2.2.2.2.2.2.2.1,()))
def yrF (v0:Int) (v1:List Int) (v2 v3 v4 v5 v6 v7 v8 v9 v10 v11 v12:Int) (v13 v14:Bool) (v15:List dM) (v16:List dW):Option ((ydk).X ⊕ ((yhG).X ⊕ (ymh).X)) :=bif(ltb v3 (v15.length:Int))then let r9:=yi1 v1;bif(v3 !=v2)then bif(v5 !=0)then bif(inb ((i64.wrap ((i64.wrap ((i64.wrap (v3-v2))-1))+v5)).tmod v5) v1.length)then let r10:=ydV (v4,(v5,v6),v15,v7,v8,v9,v10,v11,v16,v12,v13,v14) v3 v0;bif r10 then let r11:=ybD v0;bnd (yeX (v4,(v5,v6),v15,v7,v8,v9,v10,v11,v16,v12,v13,v14) v3 r11 ([(nth v1 ((i64.wrap ((i64.wrap ((i64.wrap (v3-v2))-1))+v5)).tmod v5) 0)]:List Int)) fun r12 =>some (.inl ((((),()),(v0,()),(v1,()),(v2,()),((i64.wrap (v3+1)),()),()),((r12.2.1.1,r12.2.1.2.1.1,r12.2.1.2.1.2,(),r12.2.1.2.2.2.1,r12.2.1.2.2.2.2.1,r12.2.1.2.2.2.2.2.1,r12.2.1.2.2.2.2.2.2.1,r12.2.1.2.2.2.2.2.2.2.1,(),r12.2.1.2.2.2.2.2.2.2.2.2.1,r12.2.1.2.2.2.2.2.2.2.2.2.2.1,r12.2.1.2.2.2.2.2.2.2.2.2.2.2,()),()),(r12.2.1.2.2.1,r12.2.1.2.2.2.2.2.2.2.2.1,()))) else some (.inl ((((),()),(v0,()),(v1,()),(v2,()),((i64.wrap (v3+1)),()),()),((v4,v5,v6,(),v7,v8,v9,v10,v11,(),v12,v13,v14,()),()),(v15,v16,()))) else none else none else let r13:=ydV (v4,(v5,v6),v15,v7,v8,v9,v10,v11,v16,v12,v13,v14) v3 v0;bif r13 then let r14:=ybD v0;bnd (yeX (v4,(v5,v6),v15,v7,v8,v9,v10,v11,v16,v12,v13,v14) v3 r14 ([r9]:List Int)) fun r15 =>some (.inl ((((),()),(v0,()),(v1,()),(v2,()),((i64.wrap (v3+1)),()),()),((r15.2.1.1,r15.2.1.2.1.1,r15.2.1.2.1.2,(),r15.2.1.2.2.2.1,r15.2.1.2.2.2.2.1,r15.2.1.2.2.2.2.2.1,r15.2.1.2.2.2.2.2.2.1,r15.2.1.2.2.2.2.2.2.2.1,(),r15.2.1.2.2.2.2.2.2.2.2.2.1,r15.2.1.2.2.2.2.2.2.2.2.2.2.1,r15.2.1.2.2.2.2.2.2.2.2.2.2.2,()),()),(r15.2.1.2.2.1,r15.2.1.2.2.2.2.2.2.2.2.1,()))) else some (.inl ((((),()),(v0,()),(v1,()),(v2,()),((i64.wrap (v3+1)),()),()),((v4,v5,v6,(),v7,v8,v9,v10,v11,(),v12,v13,v14,()),()),(v15,v16,()))) else some (.inr (.inl ((),((v4,v5,v6,(),v7,v8,v9,v10,v11,(),v12,v13,v14,()),()),(v15,v16,()))))
def ydQ (x:(ydk).X):=yrF x.1.2.1.1 x.1.2.2.1.1 x.1.2.2.2.1.1 x.1.2.2.2.2.1.1 x.2.1.1.1 x.2.1.1.2.1 x.2.1.1.2.2.1 x.2.1.1.2.2.2.2.1 x.2.1.1.2.2.2.2.2.1 x.2.1.1.2.2.2.2.2.2.1 x.2.1.1.2.2.2.2.2.2.2.1 x.2.1.1.2.2.2.2.2.2.2.2.1 x.2.1.1.2.2.2.2.2.2.2.2.2.2.1 x.2.1.1.2.2.2.2.2.2.2.2.2.2.2.1 x.2.1.1.2.2.2.2.2.2.2.2.2.2.2.2.1 x.2.2.1 x.2.2.2.1
def yCI (x:(yhV).X):(ydk).X:=((((),()),(x.1.2.1.1,()),(x.1.2.2.1.1,()),(x.1.2.2.2.1.1,()),(0,()),()),((x.2.1.1.1,x.2.1.1.2.1,x.2.1.1.2.2.1,(),x.2.1.1.2.2.2.2.1,x.2.1.1.2.2.2.2.2.1,x.2.1.1.2.2.2.2.2.2.1,x.2.1.1.2.2.2.2.2.2.2.1,x.2.1.1.2.2.2.2.2.2.2.2.1,(),x.2.1.1.2.2.2.2.2.2.2.2.2.2.1,x.2.1.1.2.2.2.2.2.2.2.2.2.2.2.1,x.2.1.1.2.2.2.2.2.2.2.2.2.2.2.2.1,()),()),(x.2.2.1,x.2.2.2.1,()))
def yEb:Code:=(zeJ yp1 64 28).getD .skip
theorem yRs:zeJ yp1 64 7=some (.block 0 (.loop yEb)):=by kernel_rfl
theorem yUa (x:(ydk).X):zhu ⟨yyh,61,yDU⟩ 0 yEb 28 ydk yhG ymh x=ydQ x:=by kernel_rfl
def yCY (x:(yhV).X):Nat:=18446744073709551616
def ysB (x:(yhV).X):Option ((yhG).X ⊕ (ymh).X):=zF ydQ (yCY x) (yCI x)
def yDC:Seg:=⟨yhV,yhG,ymh,ysB⟩
def yQY:Nat→Option Seg:=fun q=>bif Nat.beq q 7 then some yDC else yDU q
theorem yOy:FrOk prog ⟨yyh,61,yQY⟩ yp1:=(yOx).loop (sg:=yDC) ydk yCI (by decide) yRs ydQ yCY (by decide) (fun _=>rfl) (fun x r _ h=>h) yUa
abbrev ykS:List Par:= [.pt tA (.pr .fz (.pr (.pr .fz .fz) (.pr (.ow (.pr (.ow .fz) (.pr (.ow (.pr .fz .fz)) (.pr .fz (.ow .fz))))) (.pr .fz (.pr .fz (.pr .fz (.pr .fz (.pr .fz (.pr (.ow (.pr .fz .fz)) (.pr .fz (.pr .fz .fz))))))))))),.rd tI,.rd tL]
abbrev yqn:List OT:= []
def yur (a0:dA) (a1:Int) (a2:List Int):Option (zaY yqn×zak ykS) :=let r1:=ydA a0.2.1 a1;zkr (ysB ((((),()),(a1,()),(a2,()),(r1,()),((),()),()),((a0.1,a0.2.1.1,a0.2.1.2,(),a0.2.2.2.1,a0.2.2.2.2.1,a0.2.2.2.2.2.1,a0.2.2.2.2.2.2.1,a0.2.2.2.2.2.2.2.1,(),a0.2.2.2.2.2.2.2.2.2.1,a0.2.2.2.2.2.2.2.2.2.2.1,a0.2.2.2.2.2.2.2.2.2.2.2,()),()),(a0.2.2.1,a0.2.2.2.2.2.2.2.2.1,()))) (fun y15 =>some ((),((y15.2.1.1.1,(y15.2.1.1.2.1,y15.2.1.1.2.2.1),y15.2.2.1,y15.2.1.1.2.2.2.2.1,y15.2.1.1.2.2.2.2.2.1,y15.2.1.1.2.2.2.2.2.2.1,y15.2.1.1.2.2.2.2.2.2.2.1,y15.2.1.1.2.2.2.2.2.2.2.2.1,y15.2.2.2.1,y15.2.1.1.2.2.2.2.2.2.2.2.2.2.1,y15.2.1.1.2.2.2.2.2.2.2.2.2.2.2.1,y15.2.1.1.2.2.2.2.2.2.2.2.2.2.2.2.1),()))) (fun y15 =>none)
theorem yTz:ConOk prog 170 ⟨ykS,yqn,fun x=>yur x.1 x.2.1 x.2.2.1⟩:=zkG (yOy) func170 ntmps170.symm fun x=>by kernel_rfl
def yqq (a0:dA) (a1:Int) (a2:List Int):dA:=yF a0 a1 a2
def ylf (a0:dA) (a1:Int) (a2:List Int):Bool:=yac a0.2.1 a1&&((a2.length:Int)==a0.2.1.1-1&&(a0.2.2.1.length:Int)==a0.2.1.1)
theorem yVP (a0:dA) (a1:Int) (a2:List Int) (hk:zjw ykS (a0,a1,a2,())) (hq:ylf a0 a1 a2=true):yur a0 a1 a2=(fun n=>some ((),(n,()))) (yqq a0 a1 a2):=by
 simp only[ylf,Bool.and_eq_true,beq_iff_eq]at hq;have hg:=yn.1 (yY.1 hq.1).1;have hp:=yj3 hq.1
 have h1:ysB (yOY a1 a2 (yk a0.2.1 a1) a0)=some (.inl (yC6 (yF a0 a1 a2))) :=
  zkB (step:=ydQ) a0.2.2.1.length (fun i s=>yq7 a1 a2 (yk a0.2.1 a1) i s) (ya2 (yk a0.2.1 a1) a0.2.1.1 a1 a2) (fun _ s=>s.2.2.1.length=a0.2.2.1.length∧s.2.1=a0.2.1) (fun s=> .inl (yC6 s)) (fun i s hi hs=>⟨by
   have hN:s.2.1.1=a0.2.1.1:=by rw[hs.2]
   simp only[ydQ,yq7,yrF,hs.1,zkw (show(i:Int)<a0.2.2.1.length by omega),cond_true,wq ((i:Int)+1) (by omega) (by omega),Int.natCast_add,Int.natCast_one,Int.toNat_natCast,zkV,yjH,yi1,ydV,yge,ya2,ycw];rw[← hN];by_cases he:(i:Int)=yk a0.2.1 a1
   ·rw[show((i:Int) !=yk a0.2.1 a1)=false by simp[he],show((i:Int)==yk a0.2.1 a1)=true from beq_iff_eq.2 he]
    rw[yle s i (yx a1) [yax a2] (zkP (by rw[hs.1]; exact hi))];cases ycq s i a1<;>rfl
   ·have hd:=y35 (N:=s.2.1.1) (i:=i) (p:=yk a0.2.1 a1) ⟨by omega,by omega⟩ ⟨by omega,by omega⟩ ⟨hp.1,by omega⟩ he
    rw[show((i:Int) !=yk a0.2.1 a1)=true from bne_iff_ne.2 he,show((i:Int)==yk a0.2.1 a1)=false from beq_eq_false_iff_ne.2 he,show(s.2.1.1 !=0)=true from bne_iff_ne.2 (by omega),
     wq ((i:Int)-yk a0.2.1 a1) (by omega) (by omega),wq ((i:Int)-yk a0.2.1 a1-1) (by omega) (by omega),wq ((i:Int)-yk a0.2.1 a1-1+s.2.1.1) (by omega) (by omega),zj4.2 (show 0≤((i:Int)-yk a0.2.1 a1-1+s.2.1.1).tmod s.2.1.1∧((i:Int)-yk a0.2.1 a1-1+s.2.1.1).tmod s.2.1.1<a2.length by omega)]
    rw[yle s i (yx a1) [nth a2 (((i:Int)-yk a0.2.1 a1-1+s.2.1.1).tmod s.2.1.1) 0] (zkP (by rw[hs.1]; exact hi))]
    cases ycq s i a1<;>rfl,(ypH _ _ _ _ s i).trans hs.1,(yah (yIJ _ _ _ _ s i)).trans hs.2⟩) (fun s hs=>by simp only[ydQ,yq7,yrF,hs.1,zk1 (Int.le_refl _),cond_false]) a0 ⟨rfl,rfl⟩ _ (by show _<18446744073709551616; omega)
 unfold yur yqq ydA;exact(congrArg (fun z=>zkr z _ _) h1).trans rfl
def yhi (a0:dA) (a1:Int) (a2:List Int):Option (zaY yqn×zak ykS):=bif ylf a0 a1 a2 then(fun n=>some ((),(n,()))) (yqq a0 a1 a2)else none
theorem yWE (a0:dA) (a1:Int) (a2:List Int) (h:ylf a0 a1 a2=true):yhi a0 a1 a2=(fun n=>some ((),(n,()))) (yqq a0 a1 a2):=by unfold yhi; rw[h]; rfl
def yEy:Con:=⟨ykS,yqn,fun x=>yhi x.1 x.2.1 x.2.2.1⟩
theorem yWA:ConOk prog 170 yEy:=(yTz).mono (fun x r hk h=>zkW h (fun hq=>yVP x.1 x.2.1 x.2.2.1 hk hq))
def yUv:Code:=(f171.body).getD .skip
def yUV:Env:=zku TT [(174,ymr),(208,yms)] []
theorem yLL:FrOk prog ⟨yUV,17,fun _=>none⟩ yUv:=zky yg yh ⟨ywn,ywo,trivial⟩
abbrev yvN:List Par:= [.pt tA (.pr .fz (.pr (.pr .fz .fz) (.pr (.ow (.pr (.ow .fz) (.pr (.ow (.pr .fz .fz)) (.pr .fz (.ow .fz))))) (.pr .fz (.pr .fz (.pr .fz (.pr .fz (.pr .fz (.pr (.ow (.pr .fz .fz)) (.pr .fz (.pr .fz .fz)))))))))))]
abbrev yv7:List OT:= []
def yDq (a0:dA):Option (zaY yv7×zak yvN) :=let r1:=ydX a0;bif r1.2.2.2.2.2.2.2.2.2.2.1 then some ((),(r1,())) else let r2:=ya0 (r1.1,r1.2.1,r1.2.2.1,r1.2.2.2.1,r1.2.2.2.2.1,r1.2.2.2.2.2.1,r1.2.2.2.2.2.1,r1.2.2.2.2.2.2.2);some ((),(r2,()))
theorem yPU:ConOk prog 171 ⟨yvN,yv7,fun x=>yDq x.1⟩:=zkG (yLL) func171 ntmps171.symm fun x=>by kernel_rfl
def ygd (a0:dA):dA :=let r1:=ydX a0;bif r1.2.2.2.2.2.2.2.2.2.2.1 then r1 else let r2:=ya0 (r1.1,r1.2.1,r1.2.2.1,r1.2.2.2.1,r1.2.2.2.2.1,r1.2.2.2.2.2.1,r1.2.2.2.2.2.1,r1.2.2.2.2.2.2.2);r2
def yqS:Con:=⟨yvN,yv7,fun x=>(fun n=>some ((),(n,()))) (ygd x.1)⟩
theorem ySV (a0:dA):yDq a0=(fun n=>some ((),(n,()))) (ygd a0):=zkT (p:=fun(n:dA)=>((),(n,()))) (zkE (p:=fun(n:dA)=>((),(n,()))) rfl rfl)
theorem yES:ConOk prog 171 yqS:=(yPU).mono (fun x r _ h=>(ySV x.1).trans h)
theorem yHI (a:dA):ygd a=yo a:=by
 unfold ygd yo ydX ya0;show(bif ya (yd a)then yd a else yy (yQ (yd a)))=_;rfl
def yUw:Code:=(f217.body).getD .skip
def yUW:Env:=zku TT [(169,yF6),(170,yEy),(171,yqS)] []
theorem yLM:FrOk prog ⟨yUW,54,fun _=>none⟩ yUw:=zky yg yh ⟨yYY,yWA,yES,trivial⟩
abbrev yjd:List Par:= [.pt tA (.pr .fz (.pr (.pr .fz .fz) (.pr (.ow (.pr (.ow .fz) (.pr (.ow (.pr .fz .fz)) (.pr .fz (.ow .fz))))) (.pr .fz (.pr .fz (.pr .fz (.pr .fz (.pr .fz (.pr (.ow (.pr .fz .fz)) (.pr .fz (.pr .fz .fz))))))))))),.rd tI,.rd tL]
abbrev yn8:List OT:= [⟨false,tI,.fz⟩]
def yrt (a0:dA) (a1:Int) (a2:List Int):Option (zaY yn8×zak yjd) :=bif(leb 4 (i64.wrap (a0.2.2.2.2.2.1-a0.2.2.2.2.2.2.1)))then let r1:=ygd a0;bif r1.2.2.2.2.2.2.2.2.2.2.1 then some ((6,()),(r1,())) else bif(zkj ([]:List Int).length a2.length 8)then let r2:=yjJ r1 (r1.2.2.2.2.2.1,a1,(([]:List Int)++a2));bif r2.2.2.2.2.2.2.2.2.2.2.1 then some ((6,()),(r2,())) else bnd (yhi (r2.1,r2.2.1,r2.2.2.1,r2.2.2.2.1,r2.2.2.2.2.1,(i64.wrap (r2.2.2.2.2.2.1+1)),r2.2.2.2.2.2.2) a1 a2) fun r3 =>bif r3.2.1.2.2.2.2.2.2.2.2.2.2.1 then some ((6,()),(r3.2.1,())) else some ((0,()),(r3.2.1,())) else none else bif a0.2.2.2.2.2.2.2.2.2.2.1 then some ((6,()),(a0,())) else bif(zkj ([]:List Int).length a2.length 8)then let r4:=yjJ a0 (a0.2.2.2.2.2.1,a1,(([]:List Int)++a2));bif r4.2.2.2.2.2.2.2.2.2.2.1 then some ((6,()),(r4,())) else bnd (yhi (r4.1,r4.2.1,r4.2.2.1,r4.2.2.2.1,r4.2.2.2.2.1,(i64.wrap (r4.2.2.2.2.2.1+1)),r4.2.2.2.2.2.2) a1 a2) fun r5 =>bif r5.2.1.2.2.2.2.2.2.2.2.2.2.1 then some ((6,()),(r5.2.1,())) else some ((0,()),(r5.2.1,())) else none
theorem yPV:ConOk prog 217 ⟨yjd,yn8,fun x=>yrt x.1 x.2.1 x.2.2.1⟩:=zkG (yLM) func217 ntmps217.symm fun x=>by kernel_rfl
def yjK (a0:dA) (a1:Int) (a2:List Int):Int×dA:=yK a0 a1 a2
def yjR (a0:dA) (a1:Int) (a2:List Int):Bool:=yac a0.2.1 a1&&((a2.length:Int)==a0.2.1.1-1&&(a0.2.2.1.length:Int)==a0.2.1.1)
theorem ySW (a0:dA) (a1:Int) (a2:List Int) (hk:zjw yjd (a0,a1,a2,())) (hq:yjR a0 a1 a2=true):yrt a0 a1 a2=(fun n=>some ((n.1,()),(n.2,()))) (yjK a0 a1 a2):=by
 have hq':=hq;simp only[yjR,Bool.and_eq_true,beq_iff_eq]at hq;have hg:=yn.1 (yY.1 hq.1).1;have hap:zkj ([]:List Int).length a2.length 8=true:=zkD.2 (by simp only[List.length_nil]; omega)
 have key: ∀b:dA,b.2.1=a0.2.1→b.2.2.1.length=a0.2.2.1.length→yhi (yJ (yp b (b.2.2.2.2.2.1,a1,a2))) a1 a2=some ((),(yF (yJ (yp b (b.2.2.2.2.2.1,a1,a2))) a1 a2,())):=fun b h1 h2=>yWE _ _ _ (by
  unfold ylf;rw[show(yJ (yp b (b.2.2.2.2.2.1,a1,a2))).2.1=a0.2.1 from(yah (ybe _ _)).trans h1,show(yJ (yp b (b.2.2.2.2.2.1,a1,a2))).2.2.1.length=a0.2.2.1.length from(yKE _ _).trans h2]
  exact hq')
 unfold yrt yjK yK yv;simp only[yHI,yjJ,List.nil_append,hap,cond_true];cases leb 4 (i64.wrap (a0.2.2.2.2.2.1-a0.2.2.2.2.2.2.1))
 ·have hd:=key a0 rfl rfl
  simp only[cond_false];generalize yp a0 (a0.2.2.2.2.2.1,a1,a2)=R at hd ⊢;generalize yF (yJ R) a1 a2=Q at hd ⊢;unfold yJ at hd;simp only[cond_false,hd,zkF];unfold ya;cases a0.2.2.2.2.2.2.2.2.2.2.1
  ·cases R.2.2.2.2.2.2.2.2.2.2.1
   ·cases Q.2.2.2.2.2.2.2.2.2.2.1<;>rfl
   ·rfl
  ·rfl
 ·have hd:=key (yo a0) (yWR a0) (y1F a0)
  simp only[cond_true];generalize yo a0=C at hd ⊢;generalize yp C (C.2.2.2.2.2.1,a1,a2)=R at hd ⊢;generalize yF (yJ R) a1 a2=Q at hd ⊢;unfold yJ at hd;simp only[cond_true,hd,zkF];unfold ya;cases C.2.2.2.2.2.2.2.2.2.2.1
  ·cases R.2.2.2.2.2.2.2.2.2.2.1
   ·cases Q.2.2.2.2.2.2.2.2.2.2.1<;>rfl
   ·rfl
  ·rfl
def yos (a0:dA) (a1:Int) (a2:List Int):Option (zaY yn8×zak yjd):=bif yjR a0 a1 a2 then(fun n=>some ((n.1,()),(n.2,()))) (yjK a0 a1 a2)else none
theorem yTY (a0:dA) (a1:Int) (a2:List Int) (h:yjR a0 a1 a2=true):yos a0 a1 a2=(fun n=>some ((n.1,()),(n.2,()))) (yjK a0 a1 a2):=by unfold yos; rw[h]; rfl
def yCu:Con:=⟨yjd,yn8,fun x=>yos x.1 x.2.1 x.2.2.1⟩
theorem yTR:ConOk prog 217 yCu:=(yPV).mono (fun x r hk h=>zkW h (fun hq=>ySW x.1 x.2.1 x.2.2.1 hk hq))
def yUx:Code:=(f179.body).getD .skip
def yUX:Env:=zku TT [(215,yze),(216,yEx),(217,yCu)] [(36928,(.pr .fz .fz))]
theorem yLN:FrOk prog ⟨yUX,63,fun _=>none⟩ yUx:=zky yg yh ⟨yJ7,yWz,yTR,trivial⟩
abbrev yje:List Par:= [.pt tA (.pr .fz (.pr (.pr .fz .fz) (.pr (.ow (.pr (.ow .fz) (.pr (.ow (.pr .fz .fz)) (.pr .fz (.ow .fz))))) (.pr .fz (.pr .fz (.pr .fz (.pr .fz (.pr .fz (.pr (.ow (.pr .fz .fz)) (.pr .fz (.pr .fz .fz))))))))))),.rd tI]
abbrev yn9:List OT:= [⟨false,tI,.fz⟩]
def yru (a0:dA) (a1:Int):Option (zaY yn9×zak yje) :=let r1:=yiE a0 a1;bif(ltb r1 0)then some ((0,()),(a0,())) else bif(inb r1 a0.2.2.2.2.2.2.2.2.1.length)then let r2:=yar a0 a1 ((nth a0.2.2.2.2.2.2.2.2.1 r1 (0,[])).2);bif(r2 !=0)then some ((r2,()),(a0,())) else bif(inb r1 a0.2.2.2.2.2.2.2.2.1.length)then bnd (yos a0 a1 ((nth a0.2.2.2.2.2.2.2.2.1 r1 (0,[])).2)) fun r3 =>bif(r3.1.1==0)then bif(zjY 0 r1 r3.2.1.2.2.2.2.2.2.2.2.1.length)then bif(zkj ([]:List dW).length ((r3.2.1.2.2.2.2.2.2.2.2.1.drop (0:Int).toNat).take (r1-0).toNat).length 32)then bif(zjY (i64.wrap (r1+1)) (r3.2.1.2.2.2.2.2.2.2.2.1.length:Int) r3.2.1.2.2.2.2.2.2.2.2.1.length)then bif(zkj (([]:List dW)++((r3.2.1.2.2.2.2.2.2.2.2.1.drop (0:Int).toNat).take (r1-0).toNat)).length ((r3.2.1.2.2.2.2.2.2.2.2.1.drop ((i64.wrap (r1+1))).toNat).take ((r3.2.1.2.2.2.2.2.2.2.2.1.length:Int)-(i64.wrap (r1+1))).toNat).length 32)then some ((r3.1.1,()),((r3.2.1.1,r3.2.1.2.1,r3.2.1.2.2.1,r3.2.1.2.2.2.1,r3.2.1.2.2.2.2.1,r3.2.1.2.2.2.2.2.1,r3.2.1.2.2.2.2.2.2.1,r3.2.1.2.2.2.2.2.2.2.1,((([]:List dW)++((r3.2.1.2.2.2.2.2.2.2.2.1.drop (0:Int).toNat).take (r1-0).toNat))++((r3.2.1.2.2.2.2.2.2.2.2.1.drop ((i64.wrap (r1+1))).toNat).take ((r3.2.1.2.2.2.2.2.2.2.2.1.length:Int)-(i64.wrap (r1+1))).toNat)),r3.2.1.2.2.2.2.2.2.2.2.2),())) else none else none else none else none else some ((r3.1.1,()),(r3.2.1,())) else none else none
theorem yPW:ConOk prog 179 ⟨yje,yn9,fun x=>yru x.1 x.2.1⟩:=zkG (yLN) func179 ntmps179.symm fun x=>by kernel_rfl
def yjL (a0:dA) (a1:Int):Int×dA:=yaM a0 a1
def ywt (a0:dA) (a1:Int):Bool:=decide (a0.2.2.2.2.2.2.2.2.1.length≤1000)
theorem ySX (a0:dA) (a1:Int) (hk:zjw yje (a0,a1,())) (hq:ywt a0 a1=true):yru a0 a1=(fun n=>some ((n.1,()),(n.2,()))) (yjL a0 a1):=by
 have hq:=of_decide_eq_true hq;unfold yru yjL yaM;simp only[yiE];cases h0:ltb (yai a0.2.2.2.2.2.2.2.2.1 a1) 0
 ·have h1:=zkU h0
  have hi:inb (yai a0.2.2.2.2.2.2.2.2.1 a1) a0.2.2.2.2.2.2.2.2.1.length=true:=(ymY (d:=((0:Int),([]:List Int))) (zk0 h1)).1;simp only[hi,cond_true,cond_false];generalize hD:(nth a0.2.2.2.2.2.2.2.2.1 (yai a0.2.2.2.2.2.2.2.2.1 a1) (0,[])).2=D;cases hc:(yar a0 a1 D !=0)
  ·obtain⟨ha,hl,hw,hd,hs,hb,_⟩:=yEf (bne_eq_false_iff_eq.1 hc)
   rw[yTY a0 a1 D (by unfold yjR; rw[hs,hl,yIG ha]; simp)];simp only[zkF,cond_false,yjK,y0E];have hk:=zj4.1 hi;cases hr:((yK a0 a1 D).1==0)
   ·rfl
   ·generalize yai a0.2.2.2.2.2.2.2.2.1 a1=K at h1 hk
    rw[wq (K+1) (by omega) (by omega),zkx.2 (show(0:Int)≤0∧0≤K∧K≤(a0.2.2.2.2.2.2.2.2.1.length:Int)by omega),zkx.2 (show 0≤K+1∧K+1≤(a0.2.2.2.2.2.2.2.2.1.length:Int)∧(a0.2.2.2.2.2.2.2.2.1.length:Int)≤(a0.2.2.2.2.2.2.2.2.1.length:Int)by omega),
     zkD.2 (by rw[List.length_take,List.length_drop,List.length_nil]; omega),zkD.2 (by rw[List.length_append,List.length_take,List.length_take,List.length_drop,List.length_drop,List.length_nil]; omega),y1I h1 hk.2]
    rw[beq_iff_eq.1 hr]; rfl
  ·rfl
 ·rfl
def ycW (a0:dA) (a1:Int):Option (zaY yn9×zak yje):=bif ywt a0 a1 then(fun n=>some ((n.1,()),(n.2,()))) (yjL a0 a1)else none
theorem yEV (a0:dA) (a1:Int) (h:ywt a0 a1=true):ycW a0 a1=(fun n=>some ((n.1,()),(n.2,()))) (yjL a0 a1):=by unfold ycW; rw[h]; rfl
def yqT:Con:=⟨yje,yn9,fun x=>ycW x.1 x.2.1⟩
theorem yET:ConOk prog 179 yqT:=(yPW).mono (fun x r hk h=>zkW h (fun hq=>ySX x.1 x.2.1 hk hq))
def ysc:Code:=(f117.body).getD .skip
def yBs:Env:=zku TT [(179,yqT)] []
theorem ySd:FrOk prog ⟨yBs,22,fun _=>none⟩ ysc:=zky yg yh ⟨yET,trivial⟩
def yFN:Nat→Option Seg:=fun _=>none
def yei:Shape:=⟨[(0,false,[.ptr 1000000000 0])],[(1000000000,[.int .i64,.int .i64,.int .i64,.at 800000000,.int .i64,.int .i64,.int .i64,.int .i64,.int .i64,.at 800000001,.int .i64,.bool,.bool])],[(800000000,tM,(.pr (.ow .fz) (.pr (.ow (.pr .fz .fz)) (.pr .fz (.ow .fz))))),(800000001,tW,(.pr .fz .fz))]⟩
def yjl:Shape:=⟨[(0,false,[.ptr 1000000000 0])],[(1000000000,[.int .i64,.int .i64,.int .i64,.at 800000000,.int .i64,.int .i64,.int .i64,.int .i64,.int .i64,.at 800000001,.int .i64,.bool,.bool])],[(800000000,tM,(.pr (.ow .fz) (.pr (.ow (.pr .fz .fz)) (.pr .fz (.ow .fz))))),(800000001,tW,(.pr .fz .fz))]⟩
def yjh:Shape:=⟨[],[(1000000000,[.int .i64,.int .i64,.int .i64,.at 800000000,.int .i64,.int .i64,.int .i64,.int .i64,.int .i64,.at 800000001,.int .i64,.bool,.bool])],[(800000000,tM,(.pr (.ow .fz) (.pr (.ow (.pr .fz .fz)) (.pr .fz (.ow .fz))))),(800000001,tW,(.pr .fz .fz))]⟩
def yjp:Shape:=⟨[(2,false,[.int .i64])],[(1000000000,[.int .i64,.int .i64,.int .i64,.at 800000000,.int .i64,.int .i64,.int .i64,.int .i64,.int .i64,.at 800000001,.int .i64,.bool,.bool])],[(800000000,tM,(.pr (.ow .fz) (.pr (.ow (.pr .fz .fz)) (.pr .fz (.ow .fz))))),(800000001,tW,(.pr .fz .fz))]⟩
abbrev ytW (v0:dA):(yei).X:=((((),()),()),((v0.1,v0.2.1.1,v0.2.1.2,(),v0.2.2.2.1,v0.2.2.2.2.1,v0.2.2.2.2.2.1,v0.2.2.2.2.2.2.1,v0.2.2.2.2.2.2.2.1,(),v0.2.2.2.2.2.2.2.2.2.1,v0.2.2.2.2.2.2.2.2.2.2.1,v0.2.2.2.2.2.2.2.2.2.2.2,()),()),(v0.2.2.1,v0.2.2.2.2.2.2.2.2.1,()))
abbrev ySv (v0:dA):(yjl).X:=((((),()),()),((v0.1,v0.2.1.1,v0.2.1.2,(),v0.2.2.2.1,v0.2.2.2.2.1,v0.2.2.2.2.2.1,v0.2.2.2.2.2.2.1,v0.2.2.2.2.2.2.2.1,(),v0.2.2.2.2.2.2.2.2.2.1,v0.2.2.2.2.2.2.2.2.2.2.1,v0.2.2.2.2.2.2.2.2.2.2.2,()),()),(v0.2.2.1,v0.2.2.2.2.2.2.2.2.1,()))
abbrev ySr (v0:dA):(yjh).X:=((),((v0.1,v0.2.1.1,v0.2.1.2,(),v0.2.2.2.1,v0.2.2.2.2.1,v0.2.2.2.2.2.1,v0.2.2.2.2.2.2.1,v0.2.2.2.2.2.2.2.1,(),v0.2.2.2.2.2.2.2.2.2.1,v0.2.2.2.2.2.2.2.2.2.2.1,v0.2.2.2.2.2.2.2.2.2.2.2,()),()),(v0.2.2.1,v0.2.2.2.2.2.2.2.2.1,()))
abbrev ySy (v0:Int) (v1:dA):(yjp).X:=(((v0,()),()),((v1.1,v1.2.1.1,v1.2.1.2,(),v1.2.2.2.1,v1.2.2.2.2.1,v1.2.2.2.2.2.1,v1.2.2.2.2.2.2.1,v1.2.2.2.2.2.2.2.1,(),v1.2.2.2.2.2.2.2.2.2.1,v1.2.2.2.2.2.2.2.2.2.2.1,v1.2.2.2.2.2.2.2.2.2.2.2,()),()),(v1.2.2.1,v1.2.2.2.2.2.2.2.2.1,()))
def yuC (v0 v1 v2 v3 v4 v5 v6 v7 v8:Int) (v9 v10:Bool) (v11:List dM) (v12:List dW):Option ((yei).X ⊕ ((yjh).X ⊕ (yjp).X)) :=bif(ltb 0 (v12.length:Int))then bif(inb 0 v12.length)then bnd (ycW (v0,(v1,v2),v11,v3,v4,v5,v6,v7,v12,v8,v9,v10) ((nth v12 0 (0,[])).1)) fun r2 =>bif(r2.1.1 !=0)then some (.inr (.inr (((r2.1.1,()),()),((r2.2.1.1,r2.2.1.2.1.1,r2.2.1.2.1.2,(),r2.2.1.2.2.2.1,r2.2.1.2.2.2.2.1,r2.2.1.2.2.2.2.2.1,r2.2.1.2.2.2.2.2.2.1,r2.2.1.2.2.2.2.2.2.2.1,(),r2.2.1.2.2.2.2.2.2.2.2.2.1,r2.2.1.2.2.2.2.2.2.2.2.2.2.1,r2.2.1.2.2.2.2.2.2.2.2.2.2.2,()),()),(r2.2.1.2.2.1,r2.2.1.2.2.2.2.2.2.2.2.1,())))) else some (.inl ((((),()),()),((r2.2.1.1,r2.2.1.2.1.1,r2.2.1.2.1.2,(),r2.2.1.2.2.2.1,r2.2.1.2.2.2.2.1,r2.2.1.2.2.2.2.2.1,r2.2.1.2.2.2.2.2.2.1,r2.2.1.2.2.2.2.2.2.2.1,(),r2.2.1.2.2.2.2.2.2.2.2.2.1,r2.2.1.2.2.2.2.2.2.2.2.2.2.1,r2.2.1.2.2.2.2.2.2.2.2.2.2.2,()),()),(r2.2.1.2.2.1,r2.2.1.2.2.2.2.2.2.2.2.1,()))) else none else some (.inr (.inl ((),((v0,v1,v2,(),v3,v4,v5,v6,v7,(),v8,v9,v10,()),()),(v11,v12,()))))
def yet (x:(yei).X):=yuC x.2.1.1.1 x.2.1.1.2.1 x.2.1.1.2.2.1 x.2.1.1.2.2.2.2.1 x.2.1.1.2.2.2.2.2.1 x.2.1.1.2.2.2.2.2.2.1 x.2.1.1.2.2.2.2.2.2.2.1 x.2.1.1.2.2.2.2.2.2.2.2.1 x.2.1.1.2.2.2.2.2.2.2.2.2.2.1 x.2.1.1.2.2.2.2.2.2.2.2.2.2.2.1 x.2.1.1.2.2.2.2.2.2.2.2.2.2.2.2.1 x.2.2.1 x.2.2.2.1
def yEB (x:(yjl).X):(yei).X:=((((),()),()),((x.2.1.1.1,x.2.1.1.2.1,x.2.1.1.2.2.1,(),x.2.1.1.2.2.2.2.1,x.2.1.1.2.2.2.2.2.1,x.2.1.1.2.2.2.2.2.2.1,x.2.1.1.2.2.2.2.2.2.2.1,x.2.1.1.2.2.2.2.2.2.2.2.1,(),x.2.1.1.2.2.2.2.2.2.2.2.2.2.1,x.2.1.1.2.2.2.2.2.2.2.2.2.2.2.1,x.2.1.1.2.2.2.2.2.2.2.2.2.2.2.2.1,()),()),(x.2.2.1,x.2.2.2.1,()))
def yFX:Code:=(zeJ ysc 64 24).getD .skip
theorem yU0:zeJ ysc 64 6=some (.block 0 (.loop yFX)):=by kernel_rfl
theorem yWH (x:(yei).X):zhu ⟨yBs,22,yFN⟩ 0 yFX 24 yei yjh yjp x=yet x:=by kernel_rfl
def yEF (x:(yjl).X):Nat:=18446744073709551616
def yvE (x:(yjl).X):Option ((yjh).X ⊕ (yjp).X):=zF yet (yEF x) (yEB x)
def yFd:Seg:=⟨yjl,yjh,yjp,yvE⟩
def yUI:Nat→Option Seg:=fun q=>bif Nat.beq q 6 then some yFd else yFN q
theorem ySe:FrOk prog ⟨yBs,22,yUI⟩ ysc:=(ySd).loop (sg:=yFd) yei yEB (by decide) yU0 yet yEF (by decide) (fun _=>rfl) (fun x r _ h=>h) yWH
abbrev ymN:List Par:= [.pt tA (.pr .fz (.pr (.pr .fz .fz) (.pr (.ow (.pr (.ow .fz) (.pr (.ow (.pr .fz .fz)) (.pr .fz (.ow .fz))))) (.pr .fz (.pr .fz (.pr .fz (.pr .fz (.pr .fz (.pr (.ow (.pr .fz .fz)) (.pr .fz (.pr .fz .fz)))))))))))]
abbrev yth:List OT:= [⟨false,tI,.fz⟩]
def ywF (a0:dA):Option (zaY yth×zak ymN) :=zkr (yvE ((((),()),()),((a0.1,a0.2.1.1,a0.2.1.2,(),a0.2.2.2.1,a0.2.2.2.2.1,a0.2.2.2.2.2.1,a0.2.2.2.2.2.2.1,a0.2.2.2.2.2.2.2.1,(),a0.2.2.2.2.2.2.2.2.2.1,a0.2.2.2.2.2.2.2.2.2.2.1,a0.2.2.2.2.2.2.2.2.2.2.2,()),()),(a0.2.2.1,a0.2.2.2.2.2.2.2.2.1,()))) (fun y2 =>some ((0,()),((y2.2.1.1.1,(y2.2.1.1.2.1,y2.2.1.1.2.2.1),y2.2.2.1,y2.2.1.1.2.2.2.2.1,y2.2.1.1.2.2.2.2.2.1,y2.2.1.1.2.2.2.2.2.2.1,y2.2.1.1.2.2.2.2.2.2.2.1,y2.2.1.1.2.2.2.2.2.2.2.2.1,y2.2.2.2.1,y2.2.1.1.2.2.2.2.2.2.2.2.2.2.1,y2.2.1.1.2.2.2.2.2.2.2.2.2.2.2.1,y2.2.1.1.2.2.2.2.2.2.2.2.2.2.2.2.1),()))) (fun y2 =>some ((y2.1.1.1,()),((y2.2.1.1.1,(y2.2.1.1.2.1,y2.2.1.1.2.2.1),y2.2.2.1,y2.2.1.1.2.2.2.2.1,y2.2.1.1.2.2.2.2.2.1,y2.2.1.1.2.2.2.2.2.2.1,y2.2.1.1.2.2.2.2.2.2.2.1,y2.2.1.1.2.2.2.2.2.2.2.2.1,y2.2.2.2.1,y2.2.1.1.2.2.2.2.2.2.2.2.2.2.1,y2.2.1.1.2.2.2.2.2.2.2.2.2.2.2.1,y2.2.1.1.2.2.2.2.2.2.2.2.2.2.2.2.1),())))
theorem yWe:ConOk prog 117 ⟨ymN,yth,fun x=>ywF x.1⟩:=zkG (ySe) func117 ntmps117.symm fun x=>by kernel_rfl
def yt3 (a0:dA):Int×dA:=yIF a0
def yDj (a0:dA):Bool:=decide (a0.2.2.2.2.2.2.2.2.1.length≤1000)
theorem yYJ (a0:dA) (hk:zjw ymN (a0,())) (hq:yDj a0=true):ywF a0=(fun n=>some ((n.1,()),(n.2,()))) (yt3 a0):=by
 have hq:=of_decide_eq_true hq
 have h1:=zkA (step:=yet) a0.2.2.2.2.2.2.2.2.1.length (fun _ s=>ytW s) ylp (fun i s=>s.2.2.2.2.2.2.2.2.1.length+i=a0.2.2.2.2.2.2.2.2.1.length) (fun b=>(0,b))
  (fun r=>bif r.1==0 then .inl (ySr r.2)else .inr (ySy r.1 r.2)) (fun i s hi hs=>by
   have hp:0<s.2.2.2.2.2.2.2.2.1.length:=by omega
   constructor
   ·simp only[yet,ytW,yuC,zkV,zkw (show(0:Int)<(s.2.2.2.2.2.2.2.2.1.length:Int)by omega),cond_true,show inb 0 s.2.2.2.2.2.2.2.2.1.length=true from zkP (i:=0) hp]
    rw[yEV s (nth s.2.2.2.2.2.2.2.2.1 0 (0,[])).1 (decide_eq_true (show s.2.2.2.2.2.2.2.2.1.length≤1000 by omega))];simp only[zkF,yjL];unfold ylp;generalize yaM s (nth s.2.2.2.2.2.2.2.2.1 0 (0,[])).1=R;cases hr:(R.1 !=0)
    ·rfl
    ·simp only[cond_true]
     rw[show(R.1==0)=false from beq_eq_false_iff_ne.2 (bne_iff_ne.1 hr)]; rfl
   ·intro s' h
    unfold ylp at h;cases hr:((yaM s (nth s.2.2.2.2.2.2.2.2.1 0 (0,[])).1).1 !=0)
    ·rw[hr]at h
     simp only[cond_false,Sum.inl.injEq]at h;rw[← h,y1d hp (bne_eq_false_iff_eq.1 hr),List.length_drop]; omega
    ·rw[hr]at h; cases h) (fun s hs=>by
   simp only[yet,ytW,yuC,show ltb 0 (s.2.2.2.2.2.2.2.2.1.length:Int)=false from zk1 (by omega)]; rfl) a0 rfl 18446744073709551616 (by omega)
 unfold ywF yt3 yIF;refine(congrArg (fun z=>zkr z _ _) (show yvE (ySv a0)=_ from h1)).trans ?_;generalize goE ylp (fun b=>(0,b)) a0.2.2.2.2.2.2.2.2.1.length 0 a0=R;cases hr:(R.1==0)
 ·rfl
 ·simp only[cond_true,zkL,zkV]
  rw[show R.1=0 from beq_iff_eq.1 hr]
def ynh (a0:dA):Option (zaY yth×zak ymN):=bif yDj a0 then(fun n=>some ((n.1,()),(n.2,()))) (yt3 a0)else none
theorem yY2 (a0:dA) (h:yDj a0=true):ynh a0=(fun n=>some ((n.1,()),(n.2,()))) (yt3 a0):=by unfold ynh; rw[h]; rfl
def yF7:Con:=⟨ymN,yth,fun x=>ynh x.1⟩
theorem yYZ:ConOk prog 117 yF7:=(yWe).mono (fun x r hk h=>zkW h (fun hq=>yYJ x.1 hk hq))
def yZj:Code:=(f80.body).getD .skip
def yZv:Env:=zku TT [(72,yaU)] []
theorem yR4:FrOk prog ⟨yZv,12,fun _=>none⟩ yZj:=zky yg yh ⟨yb4,trivial⟩
abbrev yBB:List Par:= [.pt tU .fz,.rd tL]
abbrev yBT:List OT:= [⟨false,tI,.fz⟩]
def yeq (a0:dU) (a1:List Int):Option (zaY yBT×zak yBB) :=bnd (ym a0 (a1.length:Int)) fun r1 =>bif(inb r1.1.1 a1.length)then some (((nth a1 r1.1.1 0),()),(r1.2.1,())) else none
theorem yV8:ConOk prog 80 ⟨yBB,yBT,fun x=>yeq x.1 x.2.1⟩:=zkG (yR4) func80 ntmps80.symm fun x=>by kernel_rfl
def yod:Con:=⟨yBB,yBT,fun x=>yeq x.1 x.2.1⟩
theorem yzm:ConOk prog 80 yod:=yV8
theorem yZD (u:List Int×Int×Int) (l:List Int) (h:yco u) (hl:l≠ []): ∃(r:Int) (u':List Int×Int×Int),yeq u l=some ((r,()),(u',()))∧r∈l∧yco u':=by
 unfold yeq;obtain⟨r1,u1,e1,q1,d1⟩:=ycL u (l.length:Int) h;have hp:0<l.length:=List.length_pos_iff.2 hl;have hr:=q1.2.1 (by omega);simp only[e1,zkF,zj4.2 ⟨q1.1,hr⟩,cond_true];refine⟨_,_,rfl,?_,d1⟩;have:r1.toNat<l.length:=by have:=q1.1; omega
 unfold nth;rw[List.getD_eq_getElem?_getD,List.getElem?_eq_getElem this,Option.getD_some];exact List.getElem_mem this
def yXJ:Code:=(f120.body).getD .skip
def yYf:Env:=zku TT [(80,yod)] []
theorem yOg:FrOk prog ⟨yYf,6,fun _=>none⟩ yXJ:=zky yg yh ⟨yzm,trivial⟩
abbrev yyw:List Par:= [.pt tU .fz]
abbrev yy1:List OT:= [⟨false,tI,.fz⟩]
def ybi (a0:dU):Option (zaY yy1×zak yyw) :=bnd (yeq a0 ([0,1,2,7,255,256,4660,65535]:List Int)) fun r1 =>some ((r1.1.1,()),(r1.2.1,()))
theorem yTn:ConOk prog 120 ⟨yyw,yy1,fun x=>ybi x.1⟩:=zkG (yOg) func120 ntmps120.symm fun x=>by kernel_rfl
def yEr:Con:=⟨yyw,yy1,fun x=>ybi x.1⟩
theorem yWt:ConOk prog 120 yEr:=yTn
theorem y29 (u:List Int×Int×Int) (h:yco u): ∃(r:Int) (u':List Int×Int×Int),ybi u=some ((r,()),(u',()))∧yb r 0 65535=true∧yco u':=by
 unfold ybi;obtain⟨r1,u1,e1,q1,d1⟩:=yZD u [0,1,2,7,255,256,4660,65535] h (by simp);simp only[e1,zkF];refine⟨_,_,rfl,?_,d1⟩;simp only[List.mem_cons,List.not_mem_nil,or_false]at q1;exact y36 (by omega) (by omega)
def yQN:Code:=(f203.body).getD .skip
def yRe:Env:=zku TT [(174,ymr),(177,yty),(178,ymq)] []
theorem yJi:FrOk prog ⟨yRe,27,fun _=>none⟩ yQN:=zky yg yh ⟨ywn,yGt,ywm,trivial⟩
abbrev yht:List Par:= [.pt tA (.pr .fz (.pr (.pr .fz .fz) (.pr (.ow (.pr (.ow .fz) (.pr (.ow (.pr .fz .fz)) (.pr .fz (.ow .fz))))) (.pr .fz (.pr .fz (.pr .fz (.pr .fz (.pr .fz (.pr (.ow (.pr .fz .fz)) (.pr .fz (.pr .fz .fz)))))))))))]
abbrev ymc:List OT:= [⟨false,tI,.fz⟩]
def yps (a0:dA):Option (zaY ymc×zak yht) :=let r1:=ycy a0.2.1;let r2:=ydW r1;bif(inb a0.2.2.2.1 a0.2.2.1.length)then let r3:=ya0 (a0.1,a0.2.1,(a0.2.2.1.set (a0.2.2.2.1).toNat r2),a0.2.2.2.1,0,a0.2.2.2.2.2);bif r3.2.2.2.2.2.2.2.2.2.2.1 then some ((6,()),(r3,())) else some ((0,()),(r3,())) else none
theorem yMA:ConOk prog 203 ⟨yht,ymc,fun x=>yps x.1⟩:=zkG (yJi) func203 ntmps203.symm fun x=>by kernel_rfl
def ymw (a0:dA):Int×dA:=(bif ya (yy (yV a0))then 6 else 0,yy (yV a0))
def yiy (a0:dA):Bool:=ye a0.2.1&&inb a0.2.2.2.1 a0.2.2.1.length
theorem yPu (a0:dA) (hk:zjw yht (a0,())) (hq:yiy a0=true):yps a0=(fun n=>some ((n.1,()),(n.2,()))) (ymw a0):=by
 simp only[yiy,Bool.and_eq_true]at hq;have hg:=yn.1 hq.1;unfold yps ymw;simp only[ycy,wq (6+a0.2.1.2) (by omega) (by omega),hq.2,ydW,ya0];show(bif ya (yy (yV a0))then some ((6,()),(yy (yV a0),()))else some ((0,()),(yy (yV a0),())))=_;cases ya (yy (yV a0))<;>rfl
def yiw (a0:dA):Option (zaY ymc×zak yht):=bif yiy a0 then(fun n=>some ((n.1,()),(n.2,()))) (ymw a0)else none
theorem yQh (a0:dA) (h:yiy a0=true):yiw a0=(fun n=>some ((n.1,()),(n.2,()))) (ymw a0):=by unfold yiw; rw[h]; rfl
def yz7:Con:=⟨yht,ymc,fun x=>yiw x.1⟩
theorem yQd:ConOk prog 203 yz7:=(yMA).mono (fun x r hk h=>zkW h (fun hq=>yPu x.1 hk hq))
def yUt:Code:=(f204.body).getD .skip
def yUT:Env:=zku TT [(113,ye6),(206,yjt),(227,yqR)] []
theorem yLD:FrOk prog ⟨yUT,49,fun _=>none⟩ yUt:=zky yg yh ⟨yjP,yqu,yER,trivial⟩
abbrev yja:List Par:= [.pt tA (.pr .fz (.pr (.pr .fz .fz) (.pr (.ow (.pr (.ow .fz) (.pr (.ow (.pr .fz .fz)) (.pr .fz (.ow .fz))))) (.pr .fz (.pr .fz (.pr .fz (.pr .fz (.pr .fz (.pr (.ow (.pr .fz .fz)) (.pr .fz (.pr .fz .fz)))))))))))]
abbrev yn5:List OT:= [⟨false,tI,.fz⟩]
def yrp (a0:dA):Option (zaY yn5×zak yja) :=bnd (yjO a0 a0.2.2.2.2.1) fun r1 =>bif(!r1.1.2.1)then some ((5,()),(a0,())) else let r2:=ybD a0.2.2.2.2.1;bif(inb a0.2.2.2.1 r1.1.1.length)then bnd (yeX a0 a0.2.2.2.1 r2 ([(nth r1.1.1 a0.2.2.2.1 0)]:List Int)) fun r3 =>bif r3.2.1.2.2.2.2.2.2.2.2.2.2.1 then some ((6,()),(r3.2.1,())) else some ((0,()),((r3.2.1.1,r3.2.1.2.1,r3.2.1.2.2.1,r3.2.1.2.2.2.1,(i64.wrap (r3.2.1.2.2.2.2.1+1)),r3.2.1.2.2.2.2.2),())) else none
theorem yPP:ConOk prog 204 ⟨yja,yn5,fun x=>yrp x.1⟩:=zkG (yLD) func204 ntmps204.symm fun x=>by kernel_rfl
def yom (a0:dA):Int×dA:=yfg a0
def yjQ (a0:dA):Bool:=ye a0.2.1&&(inb a0.2.2.2.1 a0.2.2.1.length&&inb a0.2.2.2.1 a0.2.1.1.toNat)
theorem ySR (a0:dA) (hk:zjw yja (a0,())) (hq:yjQ a0=true):yrp a0=(fun n=>some ((n.1,()),(n.2,()))) (yom a0):=by
 simp only[yjQ,Bool.and_eq_true]at hq;unfold yrp yom yfg;rw[yEU a0 a0.2.2.2.2.1 hq.1];simp only[zkF,ygc,yge];cases hw:(yP a0 a0.2.2.2.2.1).2
 ·rfl
 ·rw[yKs hw,hq.2.2,yle a0 a0.2.2.2.1 (yx a0.2.2.2.2.1) [nth (yP a0 a0.2.2.2.2.1).1 a0.2.2.2.1 0] hq.2.1]
  simp only[zkF,yng,Bool.not_true,cond_false,cond_true];show(bif ya (yaC a0)then some ((6,()),(yaC a0,()))else some ((0,()),(y14 (yaC a0),())))=_;cases ya (yaC a0)<;>rfl
def yjN (a0:dA):Option (zaY yn5×zak yja):=bif yjQ a0 then(fun n=>some ((n.1,()),(n.2,()))) (yom a0)else none
theorem yTW (a0:dA) (h:yjQ a0=true):yjN a0=(fun n=>some ((n.1,()),(n.2,()))) (yom a0):=by unfold yjN; rw[h]; rfl
def yCs:Con:=⟨yja,yn5,fun x=>yjN x.1⟩
theorem yTP:ConOk prog 204 yCs:=(yPP).mono (fun x r hk h=>zkW h (fun hq=>ySR x.1 hk hq))
def yXO:Code:=(f163.body).getD .skip
def yYk:Env:=zku TT [(72,yaU),(83,yEs),(108,yCr),(112,yz4),(113,ye6),(117,yF7),(118,yF9),(119,ymp),(120,yEr),(171,yqS),(179,yqT),(203,yz7),(204,yCs)] []
theorem yOu:FrOk prog ⟨yYk,160,fun _=>none⟩ yXO:=zky yg yh ⟨yb4,yWu,yTO,yQa,yjP,yYZ,yY1,ywl,yWt,yES,yET,yQd,yTP,trivial⟩
abbrev yq:List Par:= [.pt tU .fz,.pt tA (.pr .fz (.pr (.pr .fz .fz) (.pr (.ow (.pr (.ow .fz) (.pr (.ow (.pr .fz .fz)) (.pr .fz (.ow .fz))))) (.pr .fz (.pr .fz (.pr .fz (.pr .fz (.pr .fz (.pr (.ow (.pr .fz .fz)) (.pr .fz (.pr .fz .fz)))))))))))]
abbrev yr:List OT:= []
def yff (a0:dU) (a1:dA):Option (zaY yr×zak yq) :=bnd (ym a0 14) fun r1 =>let k1:Option (zaY yr×zak yq) :=bnd (yb6 r1.2.1 3) fun r9 =>bif r9.1.1 then bif(a1.2.2.2.1==(-1))then bnd (ym r9.2.1 a1.2.1.1) fun r10 =>bnd (yjM a1 r10.1.1) fun r11 =>some ((),(r10.2.1,r11.2.1,())) else some ((),(r9.2.1,a1,())) else some ((),(r9.2.1,a1,()));let k2:Option (zaY yr×zak yq) :=bif(inb a1.2.2.2.1 a1.2.2.1.length)then bif(((nth a1.2.2.1 a1.2.2.2.1 ([],[],false,[])).2).2).1 then bnd (yiw a1) fun r12 =>some ((),(r1.2.1,r12.2.1,())) else some ((),(r1.2.1,a1,())) else none;let k3:Option (zaY yr×zak yq) :=bif(leb 0 a1.2.2.2.1)then k2 else some ((),(r1.2.1,a1,()));let k4:Option (zaY yr×zak yq) :=bif(inb a1.2.2.2.1 a1.2.2.1.length)then bif(!((((nth a1.2.2.1 a1.2.2.2.1 ([],[],false,[])).2).2).1))then bif(ltb a1.2.2.2.2.1 a1.2.1.2)then bnd (yjN a1) fun r13 =>some ((),(r1.2.1,r13.2.1,())) else some ((),(r1.2.1,a1,())) else some ((),(r1.2.1,a1,())) else none;let k5:Option (zaY yr×zak yq) :=bif(leb 0 a1.2.2.2.1)then k4 else some ((),(r1.2.1,a1,()));let k6:Option (zaY yr×zak yq) :=bnd (yb6 r1.2.1 3) fun r15 =>bif r15.1.1 then bnd (ym r15.2.1 a1.2.1.1) fun r16 =>bif(inb r16.1.1 a1.2.2.1.length)then bnd (ym r16.2.1 a1.2.1.2) fun r17 =>let r18:=ybD r17.1.1;let r19:=ymv ((nth a1.2.2.1 r16.1.1 ([],[],false,[])).1,((nth a1.2.2.1 r16.1.1 ([],[],false,[])).2).1,(((nth a1.2.2.1 r16.1.1 ([],[],false,[])).2).2)) r18;bif(inb r16.1.1 a1.2.2.1.length)then some ((),(r17.2.1,(a1.1,a1.2.1,(a1.2.2.1.set (r16.1.1).toNat r19),a1.2.2.2),())) else none else none else some ((),(r15.2.1,a1,()));let k7:Option (zaY yr×zak yq) :=bif(a1.2.2.2.1==(-1))then k6 else some ((),(r1.2.1,a1,()));let k8:Option (zaY yr×zak yq) :=bif(r1.1.1==12)then let r14:=ygd a1;some ((),(r1.2.1,r14,())) else k7;let k9:Option (zaY yr×zak yq) :=bif(r1.1.1==10)then k5 else k8;let k10:Option (zaY yr×zak yq) :=bif(r1.1.1==11)then k5 else k8;let k11:Option (zaY yr×zak yq) :=bif(r1.1.1==10)then k9 else k10;let k12:Option (zaY yr×zak yq) :=bif(r1.1.1==9)then k3 else k11;let k13:Option (zaY yr×zak yq) :=bif(r1.1.1==8)then k1 else k12;let k14:Option (zaY yr×zak yq) :=bif(r1.1.1==7)then bnd (ynh a1) fun r8 =>some ((),(r1.2.1,r8.2.1,())) else k13;let k15:Option (zaY yr×zak yq) :=bif(r1.1.1==4)then bnd (ym r1.2.1 a1.2.1.2) fun r6 =>bnd (ycW a1 r6.1.1) fun r7 =>some ((),(r6.2.1,r7.2.1,())) else k14;let k16:Option (zaY yr×zak yq) :=bif(r1.1.1==5)then bnd (ym r1.2.1 a1.2.1.2) fun r27 =>bnd (ycW a1 r27.1.1) fun r28 =>some ((),(r27.2.1,r28.2.1,())) else k14;let k17:Option (zaY yr×zak yq) :=bif(r1.1.1==6)then bnd (ym r1.2.1 a1.2.1.2) fun r48 =>bnd (ycW a1 r48.1.1) fun r49 =>some ((),(r48.2.1,r49.2.1,())) else k14;let k18:Option (zaY yr×zak yq) :=bif(r1.1.1==5)then k16 else k17;let k19:Option (zaY yr×zak yq) :=bif(r1.1.1==4)then k15 else k18;bif(r1.1.1==0)then bif(r1.1.1==0)then let r2:=yH a1.2.1;bnd (ym r1.2.1 r2) fun r3 =>bnd (ybi r3.2.1) fun r4 =>bnd (yeY a1 r3.1.1 r4.1.1) fun r5 =>some ((),(r4.2.1,r5.2.1,())) else k19 else bif(r1.1.1==1)then bif(r1.1.1==1)then let r69:=yH a1.2.1;bnd (ym r1.2.1 r69) fun r70 =>bnd (ybi r70.2.1) fun r71 =>bnd (yeY a1 r70.1.1 r71.1.1) fun r72 =>some ((),(r71.2.1,r72.2.1,())) else k19 else bif(r1.1.1==2)then bif(r1.1.1==2)then let r136:=yH a1.2.1;bnd (ym r1.2.1 r136) fun r137 =>bnd (ybi r137.2.1) fun r138 =>bnd (yeY a1 r137.1.1 r138.1.1) fun r139 =>some ((),(r138.2.1,r139.2.1,())) else k19 else bif(r1.1.1==3)then let r203:=yH a1.2.1;bnd (ym r1.2.1 r203) fun r204 =>bnd (ybi r204.2.1) fun r205 =>bnd (yeY a1 r204.1.1 r205.1.1) fun r206 =>some ((),(r205.2.1,r206.2.1,())) else k19
theorem yTw:ConOk prog 163 ⟨yq,yr,fun x=>yff x.1 x.2.1⟩:=zkG (yOu) func163 ntmps163.symm fun x=>by kernel_rfl
def ytC:Con:=⟨yq,yr,fun x=>yff x.1 x.2.1⟩
theorem yGw:ConOk prog 163 ytC:=yTw
def ywZ (a:dA) (z:Option (zaY yr×zak yq)):Prop:= ∃(u':dU) (a':dA),z=some ((),(u',a',()))∧yco u'∧Turned a a'
def y01 (u:dU) (a:dA):Option (zaY yr×zak yq) :=bnd (ym u (yH a.2.1)) fun r3=>bnd (ybi r3.2.1) fun r4=>bnd (yeY a r3.1.1 r4.1.1) fun r5=>some ((),(r4.2.1,r5.2.1,()))
def yXg (u:dU) (a:dA):Option (zaY yr×zak yq) :=bnd (ym u a.2.1.2) fun r6=>bnd (ycW a r6.1.1) fun r7=>some ((),(r6.2.1,r7.2.1,()))
def y0a (u:dU) (a:dA):Option (zaY yr×zak yq) :=bnd (yb6 u 3) fun r9=>bif r9.1.1 then(bif(a.2.2.2.1==(-1))then(bnd (ym r9.2.1 a.2.1.1) fun r10=>bnd (yjM a r10.1.1) fun r11=>some ((),(r10.2.1,r11.2.1,())))else some ((),(r9.2.1,a,())))else some ((),(r9.2.1,a,()))
def yXh (u:dU) (a:dA):Option (zaY yr×zak yq) :=bif leb 0 a.2.2.2.1 then(bif inb a.2.2.2.1 a.2.2.1.length then(bif(nth a.2.2.1 a.2.2.2.1 yc).2.2.1 then(bnd (yiw a) fun r12=>some ((),(u,r12.2.1,())))else some ((),(u,a,())))else none)else some ((),(u,a,()))
def y0b (u:dU) (a:dA):Option (zaY yr×zak yq) :=bif leb 0 a.2.2.2.1 then(bif inb a.2.2.2.1 a.2.2.1.length then(bif !(nth a.2.2.1 a.2.2.2.1 yc).2.2.1 then(bif ltb a.2.2.2.2.1 a.2.1.2 then(bnd (yjN a) fun r13=>some ((),(u,r13.2.1,())))else some ((),(u,a,())))else some ((),(u,a,())))else none)else some ((),(u,a,()))
def yKp (u:dU) (a:dA):Option (zaY yr×zak yq) :=bif(a.2.2.2.1==(-1))then(bnd (yb6 u 3) fun r15=>bif r15.1.1 then(bnd (ym r15.2.1 a.2.1.1) fun r16=>bif inb r16.1.1 a.2.2.1.length then(bnd (ym r16.2.1 a.2.1.2) fun r17 =>bif inb r16.1.1 a.2.2.1.length then some ((),(r17.2.1,ybj a r16.1.1 (spoil (nth a.2.2.1 r16.1.1 yc) (yx r17.1.1)),()))else none)else none)else some ((),(r15.2.1,a,())))else some ((),(u,a,()))
theorem yHs {u:dU} {a:dA} (h:yU a) (hk:yE a) (hu:yco u):ywZ a (y01 u a):=by
 have hg:=yn.1 h.1;have hd:=yxg h.2.2.1 h.1;obtain⟨b,u1,e1,q1,d1⟩:=ycL u (yH a.2.1) hu;obtain⟨x,u2,e2,q2,d2⟩:=y29 u1 d1;have hx:isW x=true:=by rw[ycx]at q2; exact q2
 have hbl:0<yH a.2.1:=by
  rw[yGJ h.1];exact Int.mul_pos (by omega) (by omega)
 have hb:ykn a.2.1 b=true:=by
  have:=q1.2.1 hbl;unfold ykn;rw[zk0 q1.1,zk0 (show b≤yH a.2.1-1 by omega)]; rfl
 unfold y01;rw[e1,zkF,e2,zkF,yY4 a b x (by unfold ynj; rw[yFT.2 ⟨h,hk⟩,hb]; exact decide_eq_true (show a.2.2.2.2.2.2.2.2.1.length≤1000 by omega)),zkF];exact⟨_,_,rfl,d2,.put b x hb hx⟩
theorem yHr {u:dU} {a:dA} (h:yU a) (hu:yco u):ywZ a (yXg u a):=by
 have hd:=yxg h.2.2.1 h.1;obtain⟨s,u1,e1,q1,d1⟩:=ycL u a.2.1.2 hu;unfold yXg;rw[e1,zkF,yEV a s (decide_eq_true (show a.2.2.2.2.2.2.2.2.1.length≤1000 by omega)),zkF];exact⟨_,_,rfl,d1,.flush s⟩
theorem y2T {u:dU} {a:dA} (h:yU a) (hu:yco u):ywZ a (bnd (ynh a) fun r8=>some ((),(u,r8.2.1,()))):=by
 have hd:=yxg h.2.2.1 h.1;rw[yY2 a (decide_eq_true (show a.2.2.2.2.2.2.2.2.1.length≤1000 by omega)),zkF];exact⟨_,_,rfl,hu,.all⟩
theorem y2b {u:dU} {a:dA} (h:yU a) (hk:yE a) (hu:yco u):ywZ a (y0a u a):=by
 have hg:=yn.1 h.1;have hl:=hk.1.2;obtain⟨r,u1,e1,d1⟩:=y0G u 3 hu;unfold y0a;rw[e1,zkF];cases r
 ·exact⟨_,_,rfl,d1,.same⟩
 ·cases h1:(a.2.2.2.1==(-1))
  ·exact⟨_,_,rfl,d1,.same⟩
  ·obtain⟨m,u2,e2,q2,d2⟩:=ycL u1 a.2.1.1 d1
   have hm:inb m a.2.2.1.length=true:=zj4.2 ⟨q2.1,by have:=q2.2.1 (by omega); omega⟩;simp only[cond_true];rw[e2,zkF,yTV a m hm,zkF];exact⟨_,_,rfl,d2,.fail m (beq_iff_eq.1 h1) hm⟩
theorem y1v {u:dU} {a:dA} (h:yU a) (hk:yE a) (hu:yco u):ywZ a (yXh u a):=by
 have hl:=hk.1.2;have hc:=h.2.2.2.1;unfold yXh;cases h0:leb 0 a.2.2.2.1
 ·exact⟨_,_,rfl,hu,.same⟩
 ·have hi:inb a.2.2.2.1 a.2.2.1.length=true:=zj4.2 ⟨zj5.1 h0,by omega⟩
  rw[hi];cases hf:(nth a.2.2.1 a.2.2.2.1 yc).2.2.1
  ·exact⟨_,_,rfl,hu,.same⟩
  ·simp only[cond_true]
   rw[yQh a (by unfold yiy; rw[h.1,hi]; rfl),zkF];exact⟨_,_,rfl,hu,.spare hi hf⟩
theorem yXi {u:dU} {a:dA} (h:yU a) (hk:yE a) (hu:yco u):ywZ a (y0b u a):=by
 have hl:=hk.1.2;have hc:=h.2.2.2.1;unfold y0b;cases h0:leb 0 a.2.2.2.1
 ·exact⟨_,_,rfl,hu,.same⟩
 ·have h0':=zj5.1 h0
  have hi:inb a.2.2.2.1 a.2.2.1.length=true:=zj4.2 ⟨h0',by omega⟩;rw[hi];cases hf:(nth a.2.2.1 a.2.2.2.1 yc).2.2.1
  ·cases hb:ltb a.2.2.2.2.1 a.2.1.2
   ·exact⟨_,_,rfl,hu,.same⟩
   ·simp only[cond_true,Bool.not_false]
    rw[yTW a (by unfold yjQ; rw[h.1,hi,zj4.2 (show 0≤a.2.2.2.1∧a.2.2.2.1<a.2.1.1.toNat by omega)]; rfl),zkF];exact⟨_,_,rfl,hu,.step hi hf (zj8.1 hb)⟩
  ·exact⟨_,_,rfl,hu,.same⟩
theorem y1w {u:dU} {a:dA} (h:yU a) (hk:yE a) (hu:yco u):ywZ a (yKp u a):=by
 have hg:=yn.1 h.1;have hl:=hk.1.2;unfold yKp;cases hlo:(a.2.2.2.1==(-1))
 ·exact⟨_,_,rfl,hu,.same⟩
 ·obtain⟨r,u1,e1,d1⟩:=y0G u 3 hu
  simp only[cond_true];rw[e1,zkF];cases r
  ·exact⟨_,_,rfl,d1,.same⟩
  ·obtain⟨m,u2,e2,q2,d2⟩:=ycL u1 a.2.1.1 d1
   have hm:inb m a.2.2.1.length=true:=zj4.2 ⟨q2.1,by have:=q2.2.1 (by omega); omega⟩;obtain⟨s,u3,e3,q3,d3⟩:=ycL u2 a.2.1.2 d2;simp only[cond_true];rw[e2,zkF];simp only[hm,cond_true];rw[e3,zkF];exact⟨_,_,rfl,d3,.spoil m s (beq_iff_eq.1 hlo) hm q3.1 (q3.2.1 (by omega))⟩
theorem y0I (u:dU) (a:dA) (hu:yco u) (h:yU a) (hk:yE a):ywZ a (yff u a):=by
 obtain⟨r,u1,e1,q1,d1⟩:=ycL u 14 hu;have hr:=q1.2.1 (by omega);have h0:=q1.1;unfold yff;rw[e1,zkF];have hc:(r=0∨r=1∨r=2∨r=3)∨(r=4∨r=5∨r=6)∨r=7∨r=8∨r=9∨(r=10∨r=11)∨r=12∨r=13:=by omega
 rcases hc with(rfl | rfl | rfl | rfl) | (rfl | rfl | rfl) | rfl | rfl | rfl | (rfl | rfl) | rfl | rfl
 ·exact yHs h hk d1
 ·exact yHs h hk d1
 ·exact yHs h hk d1
 ·exact yHs h hk d1
 ·exact yHr h d1
 ·exact yHr h d1
 ·exact yHr h d1
 ·exact y2T h d1
 ·exact y2b h hk d1
 ·exact y1v h hk d1
 ·exact yXi h hk d1
 ·exact yXi h hk d1
 ·refine⟨u1,yo a,?_,d1,.check⟩
  rw[← yHI]; rfl
 ·have:=y1w h hk d1
  unfold yKp at this;simp only[← yge]at this;exact this
def ypZ:Code:=(f124.body).getD .skip
def yyf:Env:=zku TT [(72,yaU),(115,yEm),(116,yF5),(163,ytC)] []
theorem yOp:FrOk prog ⟨yyf,24,fun _=>none⟩ ypZ:=zky yg yh ⟨yb4,yWo,yYX,yGw,trivial⟩
def yDS:Nat→Option Seg:=fun _=>none
def ycI:Shape:=⟨[(0,false,[.ptr 1000000000 0]),(4,false,[.ptr 0 0]),(5,false,[.ptr 4480 0]),(6,false,[.int .i64])],[(0,[.int .i64,.int .i64,.int .i64,.nil,.int .i64,.int .i64,.int .i64,.int .i64,.int .i64,.nil,.int .i64,.bool,.bool]),(4480,[.int .i64,.int .i64,.int .i64,.at 800000000,.int .i64,.int .i64,.int .i64,.int .i64,.int .i64,.at 800000001,.int .i64,.bool,.bool]),(1000000000,[.fz tY,.int .i64,.int .i64])],[(800000000,tM,(.pr (.ow .fz) (.pr (.ow (.pr .fz .fz)) (.pr .fz (.ow .fz))))),(800000001,tW,(.pr .fz .fz))]⟩
def ygE:Shape:=⟨[(0,false,[.ptr 1000000000 0]),(4,false,[.ptr 0 0]),(5,false,[.ptr 4480 0]),(6,false,[.int .i64])],[(0,[.int .i64,.int .i64,.int .i64,.nil,.int .i64,.int .i64,.int .i64,.int .i64,.int .i64,.nil,.int .i64,.bool,.bool]),(4480,[.int .i64,.int .i64,.int .i64,.at 800000000,.int .i64,.int .i64,.int .i64,.int .i64,.int .i64,.at 800000001,.int .i64,.bool,.bool]),(1000000000,[.fz tY,.int .i64,.int .i64])],[(800000000,tM,(.pr (.ow .fz) (.pr (.ow (.pr .fz .fz)) (.pr .fz (.ow .fz))))),(800000001,tW,(.pr .fz .fz))]⟩
def ygt:Shape:=⟨[(4,false,[.ptr 0 0]),(5,false,[.ptr 4480 0])],[(0,[.int .i64,.int .i64,.int .i64,.nil,.int .i64,.int .i64,.int .i64,.int .i64,.int .i64,.nil,.int .i64,.bool,.bool]),(4480,[.int .i64,.int .i64,.int .i64,.at 800000000,.int .i64,.int .i64,.int .i64,.int .i64,.int .i64,.at 800000001,.int .i64,.bool,.bool]),(1000000000,[.fz tY,.int .i64,.int .i64])],[(800000000,tM,(.pr (.ow .fz) (.pr (.ow (.pr .fz .fz)) (.pr .fz (.ow .fz))))),(800000001,tW,(.pr .fz .fz))]⟩
def ykl:Shape:=⟨[],[],[]⟩
abbrev yo4 (v0:Int) (v1 v2:dA) (v3:dU):(ycI).X:=((((),()),((),()),((),()),(v0,()),()),((v1.1,v1.2.1.1,v1.2.1.2,(),v1.2.2.2.1,v1.2.2.2.2.1,v1.2.2.2.2.2.1,v1.2.2.2.2.2.2.1,v1.2.2.2.2.2.2.2.1,(),v1.2.2.2.2.2.2.2.2.2.1,v1.2.2.2.2.2.2.2.2.2.2.1,v1.2.2.2.2.2.2.2.2.2.2.2,()),(v2.1,v2.2.1.1,v2.2.1.2,(),v2.2.2.2.1,v2.2.2.2.2.1,v2.2.2.2.2.2.1,v2.2.2.2.2.2.2.1,v2.2.2.2.2.2.2.2.1,(),v2.2.2.2.2.2.2.2.2.2.1,v2.2.2.2.2.2.2.2.2.2.2.1,v2.2.2.2.2.2.2.2.2.2.2.2,()),(v3.1,v3.2.1,v3.2.2,()),()),(v2.2.2.1,v2.2.2.2.2.2.2.2.2.1,()))
abbrev yL3 (v0:Int) (v1 v2:dA) (v3:dU):(ygE).X:=((((),()),((),()),((),()),(v0,()),()),((v1.1,v1.2.1.1,v1.2.1.2,(),v1.2.2.2.1,v1.2.2.2.2.1,v1.2.2.2.2.2.1,v1.2.2.2.2.2.2.1,v1.2.2.2.2.2.2.2.1,(),v1.2.2.2.2.2.2.2.2.2.1,v1.2.2.2.2.2.2.2.2.2.2.1,v1.2.2.2.2.2.2.2.2.2.2.2,()),(v2.1,v2.2.1.1,v2.2.1.2,(),v2.2.2.2.1,v2.2.2.2.2.1,v2.2.2.2.2.2.1,v2.2.2.2.2.2.2.1,v2.2.2.2.2.2.2.2.1,(),v2.2.2.2.2.2.2.2.2.2.1,v2.2.2.2.2.2.2.2.2.2.2.1,v2.2.2.2.2.2.2.2.2.2.2.2,()),(v3.1,v3.2.1,v3.2.2,()),()),(v2.2.2.1,v2.2.2.2.2.2.2.2.2.1,()))
abbrev yLU (v0 v1:dA) (v2:dU):(ygt).X:=((((),()),((),()),()),((v0.1,v0.2.1.1,v0.2.1.2,(),v0.2.2.2.1,v0.2.2.2.2.1,v0.2.2.2.2.2.1,v0.2.2.2.2.2.2.1,v0.2.2.2.2.2.2.2.1,(),v0.2.2.2.2.2.2.2.2.2.1,v0.2.2.2.2.2.2.2.2.2.2.1,v0.2.2.2.2.2.2.2.2.2.2.2,()),(v1.1,v1.2.1.1,v1.2.1.2,(),v1.2.2.2.1,v1.2.2.2.2.1,v1.2.2.2.2.2.1,v1.2.2.2.2.2.2.1,v1.2.2.2.2.2.2.2.1,(),v1.2.2.2.2.2.2.2.2.2.1,v1.2.2.2.2.2.2.2.2.2.2.1,v1.2.2.2.2.2.2.2.2.2.2.2,()),(v2.1,v2.2.1,v2.2.2,()),()),(v1.2.2.1,v1.2.2.2.2.2.2.2.2.1,()))
def ypC (v0 v1 v2 v3 v4 v5 v6 v7 v8 v9:Int) (v10 v11:Bool) (v12 v13 v14 v15 v16 v17 v18 v19 v20:Int) (v21 v22:Bool) (v23:List Int) (v24 v25:Int) (v26:List dM) (v27:List dW):Option ((ycI).X ⊕ ((ygt).X ⊕ (ykl).X)) :=bif(ltb 0 v0)then bnd (yff (v23,v24,v25) (v12,(v13,v14),v26,v15,v16,v17,v18,v19,v27,v20,v21,v22)) fun r6 =>some (.inl ((((),()),((),()),((),()),((i64.wrap (v0-1)),()),()),((v1,v2,v3,(),v4,v5,v6,v7,v8,(),v9,v10,v11,()),(r6.2.2.1.1,r6.2.2.1.2.1.1,r6.2.2.1.2.1.2,(),r6.2.2.1.2.2.2.1,r6.2.2.1.2.2.2.2.1,r6.2.2.1.2.2.2.2.2.1,r6.2.2.1.2.2.2.2.2.2.1,r6.2.2.1.2.2.2.2.2.2.2.1,(),r6.2.2.1.2.2.2.2.2.2.2.2.2.1,r6.2.2.1.2.2.2.2.2.2.2.2.2.2.1,r6.2.2.1.2.2.2.2.2.2.2.2.2.2.2,()),(r6.2.1.1,r6.2.1.2.1,r6.2.1.2.2,()),()),(r6.2.2.1.2.2.1,r6.2.2.1.2.2.2.2.2.2.2.2.1,()))) else some (.inr (.inl ((((),()),((),()),()),((v1,v2,v3,(),v4,v5,v6,v7,v8,(),v9,v10,v11,()),(v12,v13,v14,(),v15,v16,v17,v18,v19,(),v20,v21,v22,()),(v23,v24,v25,()),()),(v26,v27,()))))
def yc4 (x:(ycI).X):=ypC x.1.2.2.2.1.1 x.2.1.1.1 x.2.1.1.2.1 x.2.1.1.2.2.1 x.2.1.1.2.2.2.2.1 x.2.1.1.2.2.2.2.2.1 x.2.1.1.2.2.2.2.2.2.1 x.2.1.1.2.2.2.2.2.2.2.1 x.2.1.1.2.2.2.2.2.2.2.2.1 x.2.1.1.2.2.2.2.2.2.2.2.2.2.1 x.2.1.1.2.2.2.2.2.2.2.2.2.2.2.1 x.2.1.1.2.2.2.2.2.2.2.2.2.2.2.2.1 x.2.1.2.1.1 x.2.1.2.1.2.1 x.2.1.2.1.2.2.1 x.2.1.2.1.2.2.2.2.1 x.2.1.2.1.2.2.2.2.2.1 x.2.1.2.1.2.2.2.2.2.2.1 x.2.1.2.1.2.2.2.2.2.2.2.1 x.2.1.2.1.2.2.2.2.2.2.2.2.1 x.2.1.2.1.2.2.2.2.2.2.2.2.2.2.1 x.2.1.2.1.2.2.2.2.2.2.2.2.2.2.2.1 x.2.1.2.1.2.2.2.2.2.2.2.2.2.2.2.2.1 x.2.1.2.2.1.1 x.2.1.2.2.1.2.1 x.2.1.2.2.1.2.2.1 x.2.2.1 x.2.2.2.1
def yAi (x:(ygE).X):(ycI).X:=((((),()),((),()),((),()),(x.1.2.2.2.1.1,()),()),((x.2.1.1.1,x.2.1.1.2.1,x.2.1.1.2.2.1,(),x.2.1.1.2.2.2.2.1,x.2.1.1.2.2.2.2.2.1,x.2.1.1.2.2.2.2.2.2.1,x.2.1.1.2.2.2.2.2.2.2.1,x.2.1.1.2.2.2.2.2.2.2.2.1,(),x.2.1.1.2.2.2.2.2.2.2.2.2.2.1,x.2.1.1.2.2.2.2.2.2.2.2.2.2.2.1,x.2.1.1.2.2.2.2.2.2.2.2.2.2.2.2.1,()),(x.2.1.2.1.1,x.2.1.2.1.2.1,x.2.1.2.1.2.2.1,(),x.2.1.2.1.2.2.2.2.1,x.2.1.2.1.2.2.2.2.2.1,x.2.1.2.1.2.2.2.2.2.2.1,x.2.1.2.1.2.2.2.2.2.2.2.1,x.2.1.2.1.2.2.2.2.2.2.2.2.1,(),x.2.1.2.1.2.2.2.2.2.2.2.2.2.2.1,x.2.1.2.1.2.2.2.2.2.2.2.2.2.2.2.1,x.2.1.2.1.2.2.2.2.2.2.2.2.2.2.2.2.1,()),(x.2.1.2.2.1.1,x.2.1.2.2.1.2.1,x.2.1.2.2.1.2.2.1,()),()),(x.2.2.1,x.2.2.2.1,()))
def yCc:Code:=(zeJ ypZ 64 116).getD .skip
theorem yNE:zeJ ypZ 64 29=some (.block 0 (.loop yCc)):=by kernel_rfl
theorem yQs (x:(ycI).X):zhu ⟨yyf,24,yDS⟩ 0 yCc 116 ycI ygt ykl x=yc4 x:=by kernel_rfl
def yAt (x:(ygE).X):Nat:=18446744073709551616
def yqI (x:(ygE).X):Option ((ygt).X ⊕ (ykl).X):=zF yc4 (yAt x) (yAi x)
def yAN:Seg:=⟨ygE,ygt,ykl,yqI⟩
def yQW:Nat→Option Seg:=fun q=>bif Nat.beq q 29 then some yAN else yDS q
theorem yOq:FrOk prog ⟨yyf,24,yQW⟩ ypZ:=(yOp).loop (sg:=yAN) ycI yAi (by decide) yNE yc4 yAt (by decide) (fun _=>rfl) (fun x r _ h=>h) yQs
abbrev yyA:List Par:= [.pt tU .fz,.rd tI]
abbrev yy6:List OT:= [⟨false,tA,(.pr .fz (.pr (.pr .fz .fz) (.pr (.ow (.pr (.ow .fz) (.pr (.ow (.pr .fz .fz)) (.pr .fz (.ow .fz))))) (.pr .fz (.pr .fz (.pr .fz (.pr .fz (.pr .fz (.pr (.ow (.pr .fz .fz)) (.pr .fz (.pr .fz .fz)))))))))))⟩]
def yfe (a0:dU) (a1:Int):Option (zaY yy6×zak yyA) :=bnd (ym a0 2) fun r1 =>bnd (yjT r1.2.1) fun r2 =>let r3:=yk5 (i64.wrap (1+r1.1.1)) r2.1.1;bnd (ym r2.2.1 (i64.wrap (a1+1))) fun r4 =>zkr (yqI ((((),()),((),()),((),()),(r4.1.1,()),()),((0,0,0,(),0,0,0,0,0,(),0,false,false,()),(r3.1,r3.2.1.1,r3.2.1.2,(),r3.2.2.2.1,r3.2.2.2.2.1,r3.2.2.2.2.2.1,r3.2.2.2.2.2.2.1,r3.2.2.2.2.2.2.2.1,(),r3.2.2.2.2.2.2.2.2.2.1,r3.2.2.2.2.2.2.2.2.2.2.1,r3.2.2.2.2.2.2.2.2.2.2.2,()),(r4.2.1.1,r4.2.1.2.1,r4.2.1.2.2,()),()),(r3.2.2.1,r3.2.2.2.2.2.2.2.2.1,()))) (fun y6 =>some (((y6.2.1.2.1.1,(y6.2.1.2.1.2.1,y6.2.1.2.1.2.2.1),y6.2.2.1,y6.2.1.2.1.2.2.2.2.1,y6.2.1.2.1.2.2.2.2.2.1,y6.2.1.2.1.2.2.2.2.2.2.1,y6.2.1.2.1.2.2.2.2.2.2.2.1,y6.2.1.2.1.2.2.2.2.2.2.2.2.1,y6.2.2.2.1,y6.2.1.2.1.2.2.2.2.2.2.2.2.2.2.1,y6.2.1.2.1.2.2.2.2.2.2.2.2.2.2.2.1,y6.2.1.2.1.2.2.2.2.2.2.2.2.2.2.2.2.1),()),((y6.2.1.2.2.1.1,y6.2.1.2.2.1.2.1,y6.2.1.2.2.1.2.2.1),()))) (fun y6 =>none)
theorem yTt:ConOk prog 124 ⟨yyA,yy6,fun x=>yfe x.1 x.2.1⟩:=zkG (yOq) func124 ntmps124.symm fun x=>by kernel_rfl
def ytB:Con:=⟨yyA,yy6,fun x=>yfe x.1 x.2.1⟩
theorem yGv:ConOk prog 124 ytB:=yTt
theorem yW0 {P:Int→dA→Prop} {K:Int} (hP: ∀k a,P k a→yU a∧yE a) (hT: ∀k a b,P k a→Turned a b→k+16≤K→P (k+16) b): ∀(n:Nat) (k:Int) (a:dA) (u:dU) (fuel:Nat),n<fuel→n≤1000→yco u→P k a→k+16*n≤K →
  ∃(a':dA) (u':dU),zF yc4 fuel (yo4 n yaB a u)=some (.inl (yLU yaB a' u'))∧yco u'∧P (k+16*n) a'
 | 0,k,a,u,fuel+1,_,_,hu,h,_=>⟨a,u,by simp only[zF,yc4,yo4,ypC]; rfl,hu,by rw[show k+16*((0:Nat):Int)=k by omega]; exact h⟩
 | n+1,k,a,u,fuel+1,hf,hn,hu,h,hk=>by
  obtain⟨hc,hkp⟩:=hP k a h;obtain⟨u1,a1,e1,d1,h1⟩:=y0I u a hu hc hkp;obtain⟨a',u',e2,d2,h2⟩:=yW0 hP hT n (k+16) a1 u1 fuel (by omega) (by omega) d1 (hT k a a1 h h1 (by omega)) (by omega);refine⟨a',u',?_,d2,by rw[show k+16*((n+1:Nat):Int)=k+16+16*(n:Int)by omega]; exact h2⟩;rw[← e2,zF];simp only[yc4,yo4,ypC,zkw (show(0:Int)<((n+1:Nat):Int)by omega),cond_true,zkV,e1,zkF,show((n+1:Nat):Int)-1=(n:Int)by omega,wq ((n:Int)) (by omega) (by omega)]
theorem yRB {P:Int→dA→Prop} {K:Int} (hP: ∀k a,P k a→yU a∧yE a) (hT: ∀k a b,P k a→Turned a b→k+16≤K→P (k+16) b) (h0P: ∀id g,ye g=true→1≤id→id≤60000→P 0 (yed id g))
  (u:dU) (most:Int) (h:yco u) (h0:0≤most) (h1:most≤1000) (hm:16*most≤K): ∃(a:dA) (u':dU) (k:Int),yfe u most=some ((a,()),(u',()))∧P k a∧k≤16*most∧yco u':=by
 obtain⟨r1,u1,e1,q1,d1⟩:=ycL u 2 h;obtain⟨g,u2,e2,q2,d2⟩:=y2u u1 d1;obtain⟨r3,u3,e3,q3,d3⟩:=ycL u2 (most+1) d2;have:=q1.1; have:=q1.2.1 (by omega); have:=q3.1; have:=q3.2.1 (by omega);have hn:=h0P (1+r1) g q2 (by omega) (by omega);obtain⟨a',u',e4,d4,h4⟩:=yW0 hP hT r3.toNat 0 (yed (1+r1) g) u3 18446744073709551616 (by omega) (by omega) d3 hn (by omega);rw[show((r3.toNat:Nat):Int)=r3 by omega]at e4;unfold yfe;simp only[e1,e2,zkF,wq (most+1) (by omega) (by omega),e3,wq (1+r1) (by omega) (by omega),yk5];refine⟨a',u',_,?_,h4,by omega,d4⟩;exact(congrArg (fun z=>zkr z _ _) (show yqI (yL3 r3 yaB (yed (1+r1) g) u3)=_ from e4)).trans rfl
def yUo:Code:=(f52.body).getD .skip
def yUO:Env:=zku TT [(69,ywd),(71,ytA),(124,ytB)] []
theorem yLw:FrOk prog ⟨yUO,11,fun _=>none⟩ yUo:=zky yg yh ⟨yHE,yGu,yGv,trivial⟩
abbrev yvJ:List Par:= [.kp tYs .fz]
abbrev yv0:List OT:= [⟨false,tA,(.pr .fz (.pr (.pr .fz .fz) (.pr (.ow (.pr (.ow .fz) (.pr (.ow (.pr .fz .fz)) (.pr .fz (.ow .fz))))) (.pr .fz (.pr .fz (.pr .fz (.pr .fz (.pr .fz (.pr (.ow (.pr .fz .fz)) (.pr .fz (.pr .fz .fz)))))))))))⟩]
def ygZ (a0:List Int):Option (zaY yv0×zak yvJ) :=let r1:=ygR a0;let r2:=yaZ a0 24;bnd (yfe r1 (i64.wrap (6+r2))) fun r3 =>some ((r3.1.1,()),())
theorem yPJ:ConOk prog 52 ⟨yvJ,yv0,fun x=>ygZ x.1⟩:=zkG (yLw) func52 ntmps52.symm fun x=>by kernel_rfl
def yCm:Con:=⟨yvJ,yv0,fun x=>ygZ x.1⟩
theorem yTJ:ConOk prog 52 yCm:=yPJ
theorem y0n (a0:List Int) (hb:a0.length≤140737488355328): ∃(a:dA) (V:Int→Int→Int),ygZ a0=some ((a,()),())∧Wk 480 a∧Lv 480 V a:=by
 obtain⟨h1,h2⟩:=y0H a0 24 (by omega) hb
 obtain⟨a,u',k,e,⟨q1,V,q2⟩,hk,d⟩:=yRB (P:=fun k a=>Wk k a∧ ∃V,Lv k V a) (K:=480) (fun k a h=>⟨h.1.1,h.1.2.1⟩)
  (fun k a b h ht hk=>by
   obtain⟨hw,V,hi⟩:=h;have hw':=yXk hw ht (by omega)
   exact⟨yc7 hw' (by omega),(yJt hi ht (by omega)).1 hw'.2.2.1.1⟩) (fun id g g1 g2 g3=>⟨y0g g1 g2 g3,_,y1T g1 g2 g3⟩) _ (6+yaZ a0 24) (y1J a0 hb) (by omega) (by omega) (by omega)
 refine⟨a,V,?_,yc7 q1 (by omega),yrW q2 (by omega)⟩;unfold ygZ;simp only[wq (6+yaZ a0 24) (by omega) (by omega),e,zkF]
def ynR:Code:=(f79.body).getD .skip
def yvB:Env:=zku TT [(72,yaU),(80,yod)] []
theorem yLO:FrOk prog ⟨yvB,19,fun _=>none⟩ ynR:=zky yg yh ⟨yb4,yzm,trivial⟩
def yBj:Nat→Option Seg:=fun _=>none
def yb0:Shape:=⟨[(0,false,[.ptr 1000000000 0]),(3,false,[.at 800000000]),(4,false,[.int .i64])],[(1000000000,[.fz tY,.int .i64,.int .i64])],[(800000000,tI,.fz)]⟩
def yfQ:Shape:=⟨[(0,false,[.ptr 1000000000 0]),(3,false,[.at 800000000]),(4,false,[.ci .i64 0])],[(1000000000,[.fz tY,.int .i64,.int .i64])],[(800000000,tI,.fz)]⟩
def yfE:Shape:=⟨[(3,false,[.at 800000000])],[(1000000000,[.fz tY,.int .i64,.int .i64])],[(800000000,tI,.fz)]⟩
def yiW:Shape:=⟨[],[],[]⟩
abbrev ynd (v0:Int) (v1:dU) (v2:List Int):(yb0).X:=((((),()),((),()),(v0,()),()),((v1.1,v1.2.1,v1.2.2,()),()),(v2,()))
abbrev yJN (v0:dU) (v1:List Int):(yfQ).X:=((((),()),((),()),((),()),()),((v0.1,v0.2.1,v0.2.2,()),()),(v1,()))
abbrev yJB (v0:dU) (v1:List Int):(yfE).X:=((((),()),()),((v0.1,v0.2.1,v0.2.2,()),()),(v1,()))
def ynE (v0:Int) (v1:List Int) (v2 v3:Int) (v4:List Int):Option ((yb0).X ⊕ ((yfE).X ⊕ (yiW).X)) :=bif(ltb v0 5)then bnd (ym (v1,v2,v3) 4096) fun r3 =>bnd (yeq r3.2.1 ([0,1,2,3,5,7,1048575,r3.1.1]:List Int)) fun r4 =>bif(zkj v4.length ([r4.1.1]:List Int).length 8)then some (.inl ((((),()),((),()),((i64.wrap (v0+1)),()),()),((r4.2.1.1,r4.2.1.2.1,r4.2.1.2.2,()),()),((v4++([r4.1.1]:List Int)),()))) else none else some (.inr (.inl ((((),()),()),((v1,v2,v3,()),()),(v4,()))))
def ycl (x:(yb0).X):=ynE x.1.2.2.1.1 x.2.1.1.1 x.2.1.1.2.1 x.2.1.1.2.2.1 x.2.2.1
def yxu (x:(yfQ).X):(yb0).X:=((((),()),((),()),(0,()),()),((x.2.1.1.1,x.2.1.1.2.1,x.2.1.1.2.2.1,()),()),(x.2.2.1,()))
def yzR:Code:=(zeJ ynR 64 116).getD .skip
theorem yLa:zeJ ynR 64 29=some (.block 0 (.loop yzR)):=by kernel_rfl
theorem yMX (x:(yb0).X):zhu ⟨yvB,19,yBj⟩ 0 yzR 116 yb0 yfE yiW x=ycl x:=by kernel_rfl
def yxJ (x:(yfQ).X):Nat:=18446744073709551616
def yoM (x:(yfQ).X):Option ((yfE).X ⊕ (yiW).X):=zF ycl (yxJ x) (yxu x)
def yx9:Seg:=⟨yfQ,yfE,yiW,yoM⟩
def yNr:Nat→Option Seg:=fun q=>bif Nat.beq q 29 then some yx9 else yBj q
theorem yLP:FrOk prog ⟨yvB,19,yNr⟩ ynR:=(yLO).loop (sg:=yx9) yb0 yxu (by decide) yLa ycl yxJ (by decide) (fun _=>rfl) (fun x r _ h=>h) yMX
abbrev yvO:List Par:= [.pt tU .fz]
abbrev yv8:List OT:= [⟨false,tL,(.ow .fz)⟩]
def yg0 (a0:dU):Option (zaY yv8×zak yvO) :=zkr (yoM ((((),()),((),()),((),()),()),((a0.1,a0.2.1,a0.2.2,()),()),(([]:List Int),()))) (fun y4 =>some ((y4.2.2.1,()),((y4.2.1.1.1,y4.2.1.1.2.1,y4.2.1.1.2.2.1),()))) (fun y4 =>none)
theorem yPX:ConOk prog 79 ⟨yvO,yv8,fun x=>yg0 x.1⟩:=zkG (yLP) func79 ntmps79.symm fun x=>by kernel_rfl
def yCv:Con:=⟨yvO,yv8,fun x=>yg0 x.1⟩
theorem yTS:ConOk prog 79 yCv:=yPX
theorem yM0: ∀(n:Nat) (u:dU) (l:List Int) (fuel:Nat),n≤5→n<fuel→yco u→n+l.length≤1000 →
  ∃(u':dU) (l':List Int),zF ycl fuel (ynd (5-(n:Int)) u l)=some (.inl (yJB u' l'))∧yco u'∧l'.length=n+l.length
 | 0,u,l,fuel+1,_,_,hu,_=>⟨u,l,by simp only[zF,ycl,ynd,ynE]; rfl,hu,by omega⟩
 | n+1,u,l,fuel+1,hn,hf,hu,hl=>by
  obtain⟨x,u1,e1,_,d1⟩:=ycL u 4096 hu;obtain⟨y,u2,e2,_,d2⟩:=yZD u1 [0,1,2,3,5,7,1048575,x] d1 (by simp);obtain⟨u',l',e3,d3,h3⟩:=yM0 n u2 (l++ [y]) fuel (by omega) (by omega) d2 (by rw[List.length_append]; simp only[List.length_cons,List.length_nil]; omega);refine⟨u',l',?_,d3,by rw[h3,List.length_append]; simp only[List.length_cons,List.length_nil]; omega⟩;rw[← e3,zF]
  simp only[ycl,ynd,ynE,zkw (show(5-((n+1:Nat):Int))<5 by omega),cond_true,zkV,e1,e2,zkF,wq ((5-((n+1:Nat):Int))+1) (by omega) (by omega),show(5-((n+1:Nat):Int))+1=5-(n:Int)by omega,wq (5-(n:Int)) (by omega) (by omega),
   zkD.2 (show(l.length+ [y].length)*8≤140737488355328 by simp only[List.length_cons,List.length_nil]; omega)]
theorem y1b (u:dU) (h:yco u): ∃(l:List Int) (u':dU),yg0 u=some ((l,()),(u',()))∧l.length=5∧yco u':=by
 obtain⟨u',l',e,d,hl⟩:=yM0 5 u [] 18446744073709551616 (by omega) (by omega) h (by simp);unfold yg0;refine⟨l',u',?_,by rw[hl]; rfl,d⟩;exact(congrArg (fun z=>zkr z _ _) (show yoM (yJN u [])=_ from e)).trans rfl
def ylR:Code:=(f93.body).getD .skip
def ysp:Env:=zku TT [(72,yaU),(80,yod),(124,ytB),(163,ytC)] []
theorem yJl:FrOk prog ⟨ysp,29,fun _=>none⟩ ylR:=zky yg yh ⟨yb4,yzm,yGv,yGw,trivial⟩
def yzD:Nat→Option Seg:=fun _=>none
def ybz:Shape:=⟨[(0,false,[.ptr 1000000000 0]),(4,false,[.ptr 0 0]),(5,false,[.ptr 4288 0]),(6,false,[.int .i64])],[(0,[.int .i64,.int .i64,.int .i64,.nil,.int .i64,.int .i64,.int .i64,.int .i64,.int .i64,.nil,.int .i64,.bool,.bool]),(4288,[.int .i64,.int .i64,.int .i64,.at 800000000,.int .i64,.int .i64,.int .i64,.int .i64,.int .i64,.at 800000001,.int .i64,.bool,.bool]),(1000000000,[.fz tY,.int .i64,.int .i64])],[(800000000,tM,(.pr (.ow .fz) (.pr (.ow (.pr .fz .fz)) (.pr .fz (.ow .fz))))),(800000001,tW,(.pr .fz .fz))]⟩
def yeP:Shape:=⟨[(0,false,[.ptr 1000000000 0]),(4,false,[.ptr 0 0]),(5,false,[.ptr 4288 0]),(6,false,[.int .i64])],[(0,[.int .i64,.int .i64,.int .i64,.nil,.int .i64,.int .i64,.int .i64,.int .i64,.int .i64,.nil,.int .i64,.bool,.bool]),(4288,[.int .i64,.int .i64,.int .i64,.at 800000000,.int .i64,.int .i64,.int .i64,.int .i64,.int .i64,.at 800000001,.int .i64,.bool,.bool]),(1000000000,[.fz tY,.int .i64,.int .i64])],[(800000000,tM,(.pr (.ow .fz) (.pr (.ow (.pr .fz .fz)) (.pr .fz (.ow .fz))))),(800000001,tW,(.pr .fz .fz))]⟩
def yeH:Shape:=⟨[(4,false,[.ptr 0 0]),(5,false,[.ptr 4288 0])],[(0,[.int .i64,.int .i64,.int .i64,.nil,.int .i64,.int .i64,.int .i64,.int .i64,.int .i64,.nil,.int .i64,.bool,.bool]),(4288,[.int .i64,.int .i64,.int .i64,.at 800000000,.int .i64,.int .i64,.int .i64,.int .i64,.int .i64,.at 800000001,.int .i64,.bool,.bool]),(1000000000,[.fz tY,.int .i64,.int .i64])],[(800000000,tM,(.pr (.ow .fz) (.pr (.ow (.pr .fz .fz)) (.pr .fz (.ow .fz))))),(800000001,tW,(.pr .fz .fz))]⟩
def yid:Shape:=⟨[],[],[]⟩
abbrev yb7 (v0:Int) (v1 v2:dA) (v3:dU):(ybz).X:=((((),()),((),()),((),()),(v0,()),()),((v1.1,v1.2.1.1,v1.2.1.2,(),v1.2.2.2.1,v1.2.2.2.2.1,v1.2.2.2.2.2.1,v1.2.2.2.2.2.2.1,v1.2.2.2.2.2.2.2.1,(),v1.2.2.2.2.2.2.2.2.2.1,v1.2.2.2.2.2.2.2.2.2.2.1,v1.2.2.2.2.2.2.2.2.2.2.2,()),(v2.1,v2.2.1.1,v2.2.1.2,(),v2.2.2.2.1,v2.2.2.2.2.1,v2.2.2.2.2.2.1,v2.2.2.2.2.2.2.1,v2.2.2.2.2.2.2.2.1,(),v2.2.2.2.2.2.2.2.2.2.1,v2.2.2.2.2.2.2.2.2.2.2.1,v2.2.2.2.2.2.2.2.2.2.2.2,()),(v3.1,v3.2.1,v3.2.2,()),()),(v2.2.2.1,v2.2.2.2.2.2.2.2.2.1,()))
abbrev yIa (v0:Int) (v1 v2:dA) (v3:dU):(yeP).X:=((((),()),((),()),((),()),(v0,()),()),((v1.1,v1.2.1.1,v1.2.1.2,(),v1.2.2.2.1,v1.2.2.2.2.1,v1.2.2.2.2.2.1,v1.2.2.2.2.2.2.1,v1.2.2.2.2.2.2.2.1,(),v1.2.2.2.2.2.2.2.2.2.1,v1.2.2.2.2.2.2.2.2.2.2.1,v1.2.2.2.2.2.2.2.2.2.2.2,()),(v2.1,v2.2.1.1,v2.2.1.2,(),v2.2.2.2.1,v2.2.2.2.2.1,v2.2.2.2.2.2.1,v2.2.2.2.2.2.2.1,v2.2.2.2.2.2.2.2.1,(),v2.2.2.2.2.2.2.2.2.2.1,v2.2.2.2.2.2.2.2.2.2.2.1,v2.2.2.2.2.2.2.2.2.2.2.2,()),(v3.1,v3.2.1,v3.2.2,()),()),(v2.2.2.1,v2.2.2.2.2.2.2.2.2.1,()))
abbrev yH2 (v0 v1:dA) (v2:dU):(yeH).X:=((((),()),((),()),()),((v0.1,v0.2.1.1,v0.2.1.2,(),v0.2.2.2.1,v0.2.2.2.2.1,v0.2.2.2.2.2.1,v0.2.2.2.2.2.2.1,v0.2.2.2.2.2.2.2.1,(),v0.2.2.2.2.2.2.2.2.2.1,v0.2.2.2.2.2.2.2.2.2.2.1,v0.2.2.2.2.2.2.2.2.2.2.2,()),(v1.1,v1.2.1.1,v1.2.1.2,(),v1.2.2.2.1,v1.2.2.2.2.1,v1.2.2.2.2.2.1,v1.2.2.2.2.2.2.1,v1.2.2.2.2.2.2.2.1,(),v1.2.2.2.2.2.2.2.2.2.1,v1.2.2.2.2.2.2.2.2.2.2.1,v1.2.2.2.2.2.2.2.2.2.2.2,()),(v2.1,v2.2.1,v2.2.2,()),()),(v1.2.2.1,v1.2.2.2.2.2.2.2.2.1,()))
def yee (v0 v1 v2 v3 v4 v5 v6 v7 v8 v9:Int) (v10 v11:Bool) (v12 v13 v14 v15 v16 v17 v18 v19 v20:Int) (v21 v22:Bool) (v23:List Int) (v24 v25:Int) (v26:List dM) (v27:List dW):Option ((ybz).X ⊕ ((yeH).X ⊕ (yid).X)) :=bif(ltb 0 v0)then bif(!v21)then bnd (yff (v23,v24,v25) (v12,(v13,v14),v26,v15,v16,v17,v18,v19,v27,v20,v21,v22)) fun r5 =>some (.inl ((((),()),((),()),((),()),((i64.wrap (v0-1)),()),()),((v1,v2,v3,(),v4,v5,v6,v7,v8,(),v9,v10,v11,()),(r5.2.2.1.1,r5.2.2.1.2.1.1,r5.2.2.1.2.1.2,(),r5.2.2.1.2.2.2.1,r5.2.2.1.2.2.2.2.1,r5.2.2.1.2.2.2.2.2.1,r5.2.2.1.2.2.2.2.2.2.1,r5.2.2.1.2.2.2.2.2.2.2.1,(),r5.2.2.1.2.2.2.2.2.2.2.2.2.1,r5.2.2.1.2.2.2.2.2.2.2.2.2.2.1,r5.2.2.1.2.2.2.2.2.2.2.2.2.2.2,()),(r5.2.1.1,r5.2.1.2.1,r5.2.1.2.2,()),()),(r5.2.2.1.2.2.1,r5.2.2.1.2.2.2.2.2.2.2.2.1,()))) else some (.inr (.inl ((((),()),((),()),()),((v1,v2,v3,(),v4,v5,v6,v7,v8,(),v9,v10,v11,()),(v12,v13,v14,(),v15,v16,v17,v18,v19,(),v20,v21,v22,()),(v23,v24,v25,()),()),(v26,v27,())))) else some (.inr (.inl ((((),()),((),()),()),((v1,v2,v3,(),v4,v5,v6,v7,v8,(),v9,v10,v11,()),(v12,v13,v14,(),v15,v16,v17,v18,v19,(),v20,v21,v22,()),(v23,v24,v25,()),()),(v26,v27,()))))
def yam (x:(ybz).X):=yee x.1.2.2.2.1.1 x.2.1.1.1 x.2.1.1.2.1 x.2.1.1.2.2.1 x.2.1.1.2.2.2.2.1 x.2.1.1.2.2.2.2.2.1 x.2.1.1.2.2.2.2.2.2.1 x.2.1.1.2.2.2.2.2.2.2.1 x.2.1.1.2.2.2.2.2.2.2.2.1 x.2.1.1.2.2.2.2.2.2.2.2.2.2.1 x.2.1.1.2.2.2.2.2.2.2.2.2.2.2.1 x.2.1.1.2.2.2.2.2.2.2.2.2.2.2.2.1 x.2.1.2.1.1 x.2.1.2.1.2.1 x.2.1.2.1.2.2.1 x.2.1.2.1.2.2.2.2.1 x.2.1.2.1.2.2.2.2.2.1 x.2.1.2.1.2.2.2.2.2.2.1 x.2.1.2.1.2.2.2.2.2.2.2.1 x.2.1.2.1.2.2.2.2.2.2.2.2.1 x.2.1.2.1.2.2.2.2.2.2.2.2.2.2.1 x.2.1.2.1.2.2.2.2.2.2.2.2.2.2.2.1 x.2.1.2.1.2.2.2.2.2.2.2.2.2.2.2.2.1 x.2.1.2.2.1.1 x.2.1.2.2.1.2.1 x.2.1.2.2.1.2.2.1 x.2.2.1 x.2.2.2.1
def yuW (x:(yeP).X):(ybz).X:=((((),()),((),()),((),()),(x.1.2.2.2.1.1,()),()),((x.2.1.1.1,x.2.1.1.2.1,x.2.1.1.2.2.1,(),x.2.1.1.2.2.2.2.1,x.2.1.1.2.2.2.2.2.1,x.2.1.1.2.2.2.2.2.2.1,x.2.1.1.2.2.2.2.2.2.2.1,x.2.1.1.2.2.2.2.2.2.2.2.1,(),x.2.1.1.2.2.2.2.2.2.2.2.2.2.1,x.2.1.1.2.2.2.2.2.2.2.2.2.2.2.1,x.2.1.1.2.2.2.2.2.2.2.2.2.2.2.2.1,()),(x.2.1.2.1.1,x.2.1.2.1.2.1,x.2.1.2.1.2.2.1,(),x.2.1.2.1.2.2.2.2.1,x.2.1.2.1.2.2.2.2.2.1,x.2.1.2.1.2.2.2.2.2.2.1,x.2.1.2.1.2.2.2.2.2.2.2.1,x.2.1.2.1.2.2.2.2.2.2.2.2.1,(),x.2.1.2.1.2.2.2.2.2.2.2.2.2.2.1,x.2.1.2.1.2.2.2.2.2.2.2.2.2.2.2.1,x.2.1.2.1.2.2.2.2.2.2.2.2.2.2.2.2.1,()),(x.2.1.2.2.1.1,x.2.1.2.2.1.2.1,x.2.1.2.2.1.2.2.1,()),()),(x.2.2.1,x.2.2.2.1,()))
def yw9:Code:=(zeJ ylR 64 244).getD .skip
theorem yIE:zeJ ylR 64 61=some (.block 0 (.loop yw9)):=by kernel_rfl
theorem yKj (x:(ybz).X):zhu ⟨ysp,29,yzD⟩ 0 yw9 244 ybz yeH yid x=yam x:=by kernel_rfl
def yu5 (x:(yeP).X):Nat:=18446744073709551616
def ymL (x:(yeP).X):Option ((yeH).X ⊕ (yid).X):=zF yam (yu5 x) (yuW x)
def yvl:Seg:=⟨yeP,yeH,yid,ymL⟩
def yKT:Nat→Option Seg:=fun q=>bif Nat.beq q 61 then some yvl else yzD q
theorem yJm:FrOk prog ⟨ysp,29,yKT⟩ ylR:=(yJl).loop (sg:=yvl) ybz yuW (by decide) yIE yam yu5 (by decide) (fun _=>rfl) (fun x r _ h=>h) yKj
abbrev ysV:List Par:= [.pt tU .fz,.rd tI]
abbrev ytk:List OT:= [⟨false,tA,(.pr .fz (.pr (.pr .fz .fz) (.pr (.ow (.pr (.ow .fz) (.pr (.ow (.pr .fz .fz)) (.pr .fz (.ow .fz))))) (.pr .fz (.pr .fz (.pr .fz (.pr .fz (.pr .fz (.pr (.ow (.pr .fz .fz)) (.pr .fz (.pr .fz .fz)))))))))))⟩]
def yf0 (a0:dU) (a1:Int):Option (zaY ytk×zak ysV) :=bnd (yfe a0 a1) fun r1 =>bnd (yeq r1.2.1 ([(-1),0,1,2,3,4,6,8,11,15,20]:List Int)) fun r2 =>bnd (ym r2.2.1 3) fun r3 =>zkr (ymL ((((),()),((),()),((),()),((i64.wrap (1+r3.1.1)),()),()),((0,0,0,(),0,0,0,0,0,(),0,false,false,()),(r1.1.1.1,r1.1.1.2.1.1,r1.1.1.2.1.2,(),r1.1.1.2.2.2.1,r1.1.1.2.2.2.2.1,r1.1.1.2.2.2.2.2.1,r1.1.1.2.2.2.2.2.2.1,r1.1.1.2.2.2.2.2.2.2.1,(),r2.1.1,r1.1.1.2.2.2.2.2.2.2.2.2.2.1,r1.1.1.2.2.2.2.2.2.2.2.2.2.2,()),(r3.2.1.1,r3.2.1.2.1,r3.2.1.2.2,()),()),(r1.1.1.2.2.1,r1.1.1.2.2.2.2.2.2.2.2.1,()))) (fun y5 =>some (((y5.2.1.2.1.1,(y5.2.1.2.1.2.1,y5.2.1.2.1.2.2.1),y5.2.2.1,y5.2.1.2.1.2.2.2.2.1,y5.2.1.2.1.2.2.2.2.2.1,y5.2.1.2.1.2.2.2.2.2.2.1,y5.2.1.2.1.2.2.2.2.2.2.2.1,y5.2.1.2.1.2.2.2.2.2.2.2.2.1,y5.2.2.2.1,y5.2.1.2.1.2.2.2.2.2.2.2.2.2.2.1,y5.2.1.2.1.2.2.2.2.2.2.2.2.2.2.2.1,y5.2.1.2.1.2.2.2.2.2.2.2.2.2.2.2.2.1),()),((y5.2.1.2.2.1.1,y5.2.1.2.2.1.2.1,y5.2.1.2.2.1.2.2.1),()))) (fun y5 =>none)
theorem yMD:ConOk prog 93 ⟨ysV,ytk,fun x=>yf0 x.1 x.2.1⟩:=zkG (yJm) func93 ntmps93.symm fun x=>by kernel_rfl
def yz9:Con:=⟨ysV,ytk,fun x=>yf0 x.1 x.2.1⟩
theorem yQf:ConOk prog 93 yz9:=yMD
def yQI:Code:=(f53.body).getD .skip
def yQ9:Env:=zku TT [(69,ywd),(71,ytA),(72,yaU),(79,yCv),(93,yz9)] []
theorem yI9:FrOk prog ⟨yQ9,21,fun _=>none⟩ yQI:=zky yg yh ⟨yHE,yGu,yb4,yTS,yQf,trivial⟩
abbrev ysN:List Par:= [.kp tYs .fz]
abbrev ys8:List OT:= [⟨false,tA,(.pr .fz (.pr (.pr .fz .fz) (.pr (.ow (.pr (.ow .fz) (.pr (.ow (.pr .fz .fz)) (.pr .fz (.ow .fz))))) (.pr .fz (.pr .fz (.pr .fz (.pr .fz (.pr .fz (.pr (.ow (.pr .fz .fz)) (.pr .fz (.pr .fz .fz)))))))))))⟩,⟨false,tL,(.ow .fz)⟩,⟨false,tI,.fz⟩]
def yfZ (a0:List Int):Option (zaY ys8×zak ysN) :=let r1:=ygR a0;bnd (yg0 r1) fun r2 =>bnd (ym r2.2.1 20) fun r3 =>let r4:=yaZ a0 24;bnd (yf0 r3.2.1 (i64.wrap (6+r4))) fun r5 =>some ((r5.1.1,r2.1.1,r3.1.1,()),())
theorem yMt:ConOk prog 53 ⟨ysN,ys8,fun x=>yfZ x.1⟩:=zkG (yI9) func53 ntmps53.symm fun x=>by kernel_rfl
def yz2:Con:=⟨ysN,ys8,fun x=>yfZ x.1⟩
theorem yP8:ConOk prog 53 yz2:=yMt
theorem y3l {K x:Int} {V:Int→Int→Int} {a:dA} (h:Lv K V a) (hx: -1≤x∧x≤1000):Lv K V (ykF a x false):=by
 obtain⟨⟨x1,x2,x3,x4,x5,x6,x7,x8,x9⟩,r,n⟩:=h;exact⟨⟨x1,⟨x2.1,hx⟩,rfl,x4,x5,x6,x7,x8,x9⟩,r,⟨n.n,n.z⟩⟩
def Fin (K:Int) (a:dA):Prop:=yE a∧Can K (fun _ _=>True) a
theorem y3z {K:Int} {V:Int→Int→Int} {a:dA} (h:Lv K V a):Fin K a:=⟨h.x.xk,yNH (y1D h) (Int.le_refl _) (fun _ _ _=>trivial)⟩
theorem yNK {K J:Int} {a:dA} (h:Fin K a) (hj:K≤J):Fin J a:=⟨h.1,yNH h.2 hj (fun _ _ h=>h)⟩
theorem yMZ: ∀(n:Nat) (k:Int) (V:Int→Int→Int) (a:dA) (u:dU) (fuel:Nat),n<fuel→n≤1000→yco u→Lv k V a→k+16*n≤60000 →
  ∃(a':dA) (u':dU),zF yam fuel (yb7 n yaB a u)=some (.inl (yH2 yaB a' u'))∧Fin (k+16*n) a'
 | 0,k,V,a,u,fuel+1,_,_,hu,h,_=>⟨a,u,by simp only[zF,yam,yb7,yee]; rfl,yNK (y3z h) (by omega)⟩
 | n+1,k,V,a,u,fuel+1,hf,hn,hu,h,hk=>by
  obtain⟨u1,a1,e1,d1,h1⟩:=y0I u a hu h.x.xc h.x.xk;have ht:=yJt h h1 (by omega);rcases Bool.eq_false_or_eq_true (ya a1)with hd | hd
  ·refine⟨a1,u1,?_,y0u h.x.xk h.x.xc.1 h1,yNH (y1C (ht.2 hd)) (by omega) (fun _ _ _=>trivial)⟩
   rw[zF];simp only[yam,yb7,yee,zkw (show(0:Int)<((n+1:Nat):Int)by omega),cond_true,zkV,show((n+1:Nat):Int)-1=(n:Int)by omega,wq ((n:Int)) (by omega) (by omega)];rw[yZB (show a.2.2.2.2.2.2.2.2.2.2.1=false from h.x.xu),e1,zkF];simp only[zkV];obtain⟨fuel,rfl⟩: ∃m,fuel=m+1:=⟨fuel-1,by omega⟩;show zF yam (fuel+1) (yb7 n yaB a1 u1)=_;rw[zF];simp only[yam,yb7,yee,zkV];cases ltb 0 ((n:Nat):Int)
   ·rfl
   ·rw[cond_true,y1G (show a1.2.2.2.2.2.2.2.2.2.2.1=true from hd)]
  ·obtain⟨V1,h2⟩:=ht.1 hd
   obtain⟨a',u',e2,g2⟩:=yMZ n (k+16) V1 a1 u1 fuel (by omega) (by omega) d1 h2 (by omega);refine⟨a',u',?_,yNK g2 (by omega)⟩;rw[← e2,zF];simp only[yam,yb7,yee,zkw (show(0:Int)<((n+1:Nat):Int)by omega),cond_true,zkV,show((n+1:Nat):Int)-1=(n:Int)by omega,wq ((n:Int)) (by omega) (by omega)];rw[yZB (show a.2.2.2.2.2.2.2.2.2.2.1=false from h.x.xu),e1,zkF]
theorem y3a (u:dU) (most:Int) (h:yco u) (h0:0≤most) (h1:most≤30): ∃(a:dA) (u':dU),yf0 u most=some ((a,()),(u',()))∧Fin 600 a:=by
 obtain⟨a,u1,k,e1,⟨w1,V,w2⟩,hk,d1⟩:=yRB (P:=fun k a=>Wk k a∧ ∃V,Lv k V a) (K:=480) (fun k a h=>⟨h.1.1,h.1.2.1⟩)
  (fun k a b h ht hk=>by
   obtain⟨hw,V,hi⟩:=h;have hw':=yXk hw ht (by omega)
   exact⟨yc7 hw' (by omega),(yJt hi ht (by omega)).1 hw'.2.2.1.1⟩) (fun id g g1 g2 g3=>⟨y0g g1 g2 g3,_,y1T g1 g2 g3⟩) u most h (by omega) (by omega) (by omega)
 obtain⟨x,u2,e2,q3,d2⟩:=yZD u1 [(-1),0,1,2,3,4,6,8,11,15,20] d1 (by simp);obtain⟨r,u3,e3,q4,d3⟩:=ycL u2 3 d2;simp only[List.mem_cons,List.not_mem_nil,or_false]at q3;have:=q4.1; have:=q4.2.1 (by omega);have hlv:=y3l (x:=x) w2 (by omega);obtain⟨a',u',e4,g1⟩:=yMZ (1+r).toNat k V (ykF a x false) u3 18446744073709551616 (by omega) (by omega) d3 hlv (by omega);rw[show(((1+r).toNat:Nat):Int)=1+r by omega]at e4;unfold yf0;simp only[e1,e2,e3,zkF,wq (1+r) (by omega) (by omega)];refine⟨a',u',?_,yNK g1 (by omega)⟩
 have hu:ykF a x false=(a.1,a.2.1,a.2.2.1,a.2.2.2.1,a.2.2.2.2.1,a.2.2.2.2.2.1,a.2.2.2.2.2.2.1,a.2.2.2.2.2.2.2.1,a.2.2.2.2.2.2.2.2.1,x,a.2.2.2.2.2.2.2.2.2.2.1,a.2.2.2.2.2.2.2.2.2.2.2):=by
  unfold ykF;rw[show a.2.2.2.2.2.2.2.2.2.2.1=false from w2.x.xu]
 rw[hu]at e4;exact(congrArg (fun z=>zkr z _ _) (show ymL (yIa (1+r) yaB (a.1,a.2.1,a.2.2.1,a.2.2.2.1,a.2.2.2.2.1,a.2.2.2.2.2.1,a.2.2.2.2.2.2.1,a.2.2.2.2.2.2.2.1,a.2.2.2.2.2.2.2.2.1,x,a.2.2.2.2.2.2.2.2.2.2.1,a.2.2.2.2.2.2.2.2.2.2.2) u3)=_ from e4)).trans rfl
theorem y0o (a0:List Int) (hb:a0.length≤140737488355328): ∃(a:dA) (ks:List Int) (n:Int),yfZ a0=some ((a,ks,n,()),())∧Fin 600 a∧0≤n∧n<20:=by
 unfold yfZ;obtain⟨h1,h2⟩:=y0H a0 24 (by omega) hb;obtain⟨ks,u1,e1,q1,d1⟩:=y1b _ (y1J a0 hb);obtain⟨n,u2,e2,q2,d2⟩:=ycL u1 20 d1;obtain⟨a,u3,e3,q3⟩:=y3a u2 (6+yaZ a0 24) d2 (by omega) (by omega);simp only[e1,e2,e3,zkF,wq (6+yaZ a0 24) (by omega) (by omega)];exact⟨a,ks,n,rfl,q3,q2.1,q2.2.1 (by omega)⟩
def yIr:Code:=(f191.body).getD .skip
def yIv:Env:=zku TT [(81,yO),(185,yoc)] []
theorem yGb:FrOk prog ⟨yIv,20,fun _=>none⟩ yIr:=zky yg yh ⟨yaa,yzl,trivial⟩
abbrev yhq:List Par:= [.rd tL,.rd tI]
abbrev ymR:List OT:= [⟨false,tI,.fz⟩]
def ykB (a0:List Int) (a1:Int):Option (zaY ymR×zak yhq) :=let r1:=ycs a0;let r2:=yj a1 0 (i64.wrap ((a0.length:Int)-1));bif r2 then bif(inb a1 a0.length)then some (((i64.wrap ((BitVec.ofInt IntKind.i64.bits r1 ^^^ BitVec.ofInt IntKind.i64.bits (nth a0 a1 0)).toNat:Int)),()),()) else none else some ((r1,()),())
theorem yHd:ConOk prog 191 ⟨yhq,ymR,fun x=>ykB x.1 x.2.1⟩:=zkG (yGb) func191 ntmps191.symm fun x=>by kernel_rfl
def yeU (a0:List Int) (a1:Int):Int:=ym1 a0 a1
theorem yIb (a0:List Int) (a1:Int) (hk:zjw yhq (a0,a1,())):ykB a0 a1=(fun n=>some ((n,()),())) (yeU a0 a1):=by
 have hb:a0.length*8≤2^47:=hk.1.1;unfold ykB yeU ym1 ycs;rw[yau,ymZ (show a0.length≤1152921504606846976 by omega)];cases inb a1 a0.length<;>rfl
def yts:Con:=⟨yhq,ymR,fun x=>(fun n=>some ((n,()),())) (yeU x.1 x.2.1)⟩
theorem yIi:ConOk prog 191 yts:=(yHd).mono (fun x r hk h=>(yIb x.1 x.2.1 hk).trans h)
def yr5:Code:=(f138.body).getD .skip
def yBl:Env:=zku TT [(55,yf6),(109,yeS),(141,ytv),(191,yts)] []
theorem yRO:FrOk prog ⟨yBl,62,fun _=>none⟩ yr5:=zky yg yh ⟨ylb,yi2,yGr,yIi,trivial⟩
def yFF:Nat→Option Seg:=fun _=>none
def ycB:Shape:=⟨[(1,false,[.int .i64]),(2,false,[.ptr 0 0]),(6,false,[.at 800000000]),(7,false,[.int .i64]),(28,false,[.int .i64]),(29,false,[.int .i64])],[(0,[.int .i64,.int .i64,.int .i64,.br tM,.int .i64,.int .i64,.int .i64,.int .i64,.int .i64,.br tW,.int .i64,.bool,.bool])],[(800000000,tI,.fz)]⟩
def ygx:Shape:=⟨[(1,false,[.int .i64]),(2,false,[.ptr 0 0]),(6,false,[.at 800000000]),(7,false,[.ci .i64 (-1)]),(28,false,[.int .i64]),(29,false,[.ci .i64 0])],[(0,[.int .i64,.int .i64,.int .i64,.br tM,.int .i64,.int .i64,.int .i64,.int .i64,.int .i64,.br tW,.int .i64,.bool,.bool])],[(800000000,tI,.fz)]⟩
def ygm:Shape:=⟨[(6,false,[.at 800000000]),(7,false,[.int .i64])],[],[(800000000,tI,.fz)]⟩
def ygI:Shape:=⟨[(4,false,[.nil]),(5,false,[.bool])],[],[]⟩
abbrev yoZ (v0 v1 v2 v3:Int) (v4:dA) (v5:List Int):(ycB).X:=(((v0,()),((),()),((),()),(v1,()),(v2,()),(v3,()),()),((v4.1,v4.2.1.1,v4.2.1.2,v4.2.2.1,v4.2.2.2.1,v4.2.2.2.2.1,v4.2.2.2.2.2.1,v4.2.2.2.2.2.2.1,v4.2.2.2.2.2.2.2.1,v4.2.2.2.2.2.2.2.2.1,v4.2.2.2.2.2.2.2.2.2.1,v4.2.2.2.2.2.2.2.2.2.2.1,v4.2.2.2.2.2.2.2.2.2.2.2,()),()),(v5,()))
abbrev yLX (v0 v1:Int) (v2:dA) (v3:List Int):(ygx).X:=(((v0,()),((),()),((),()),((),()),(v1,()),((),()),()),((v2.1,v2.2.1.1,v2.2.1.2,v2.2.2.1,v2.2.2.2.1,v2.2.2.2.2.1,v2.2.2.2.2.2.1,v2.2.2.2.2.2.2.1,v2.2.2.2.2.2.2.2.1,v2.2.2.2.2.2.2.2.2.1,v2.2.2.2.2.2.2.2.2.2.1,v2.2.2.2.2.2.2.2.2.2.2.1,v2.2.2.2.2.2.2.2.2.2.2.2,()),()),(v3,()))
abbrev yLR (v0:Int) (v1:List Int):(ygm).X:=((((),()),(v0,()),()),(),(v1,()))
abbrev yL6 (v0:Bool):(ygI).X:=((((),()),(v0,()),()),(),())
def ypw (v0 v1 v2 v3 v4 v5 v6:Int) (v7:List dM) (v8 v9 v10 v11 v12:Int) (v13:List dW) (v14:Int) (v15 v16:Bool) (v17:List Int):Option ((ycB).X ⊕ ((ygm).X ⊕ (ygI).X)) :=bif(ltb v3 v2)then bnd (yla (v4,(v5,v6),v7,v8,v9,v10,v11,v12,v13,v14,v15,v16) v3 v0) fun r4 =>bif(!r4.1.2.1)then bif(leb 0 v1)then some (.inr (.inr ((((),()),(false,()),()),(),()))) else bif(!r4.1.2.1)then bif(zkj v17.length ([r4.1.1]:List Int).length 8)then some (.inl (((v0,()),((),()),((),()),(v3,()),(v2,()),((i64.wrap (v3+1)),()),()),((v4,v5,v6,v7,v8,v9,v10,v11,v12,v13,v14,v15,v16,()),()),((v17++([r4.1.1]:List Int)),()))) else none else bif(zkj v17.length ([r4.1.1]:List Int).length 8)then some (.inl (((v0,()),((),()),((),()),(v1,()),(v2,()),((i64.wrap (v3+1)),()),()),((v4,v5,v6,v7,v8,v9,v10,v11,v12,v13,v14,v15,v16,()),()),((v17++([r4.1.1]:List Int)),()))) else none else bif(!r4.1.2.1)then bif(zkj v17.length ([r4.1.1]:List Int).length 8)then some (.inl (((v0,()),((),()),((),()),(v3,()),(v2,()),((i64.wrap (v3+1)),()),()),((v4,v5,v6,v7,v8,v9,v10,v11,v12,v13,v14,v15,v16,()),()),((v17++([r4.1.1]:List Int)),()))) else none else bif(zkj v17.length ([r4.1.1]:List Int).length 8)then some (.inl (((v0,()),((),()),((),()),(v1,()),(v2,()),((i64.wrap (v3+1)),()),()),((v4,v5,v6,v7,v8,v9,v10,v11,v12,v13,v14,v15,v16,()),()),((v17++([r4.1.1]:List Int)),()))) else none else some (.inr (.inl ((((),()),(v1,()),()),(),(v17,()))))
def ycY (x:(ycB).X):=ypw x.1.1.1 x.1.2.2.2.1.1 x.1.2.2.2.2.1.1 x.1.2.2.2.2.2.1.1 x.2.1.1.1 x.2.1.1.2.1 x.2.1.1.2.2.1 x.2.1.1.2.2.2.1 x.2.1.1.2.2.2.2.1 x.2.1.1.2.2.2.2.2.1 x.2.1.1.2.2.2.2.2.2.1 x.2.1.1.2.2.2.2.2.2.2.1 x.2.1.1.2.2.2.2.2.2.2.2.1 x.2.1.1.2.2.2.2.2.2.2.2.2.1 x.2.1.1.2.2.2.2.2.2.2.2.2.2.1 x.2.1.1.2.2.2.2.2.2.2.2.2.2.2.1 x.2.1.1.2.2.2.2.2.2.2.2.2.2.2.2.1 x.2.2.1
def yAb (x:(ygx).X):(ycB).X:=(((x.1.1.1,()),((),()),((),()),((-1),()),(x.1.2.2.2.2.1.1,()),(0,()),()),((x.2.1.1.1,x.2.1.1.2.1,x.2.1.1.2.2.1,x.2.1.1.2.2.2.1,x.2.1.1.2.2.2.2.1,x.2.1.1.2.2.2.2.2.1,x.2.1.1.2.2.2.2.2.2.1,x.2.1.1.2.2.2.2.2.2.2.1,x.2.1.1.2.2.2.2.2.2.2.2.1,x.2.1.1.2.2.2.2.2.2.2.2.2.1,x.2.1.1.2.2.2.2.2.2.2.2.2.2.1,x.2.1.1.2.2.2.2.2.2.2.2.2.2.2.1,x.2.1.1.2.2.2.2.2.2.2.2.2.2.2.2.1,()),()),(x.2.2.1,()))
def yB5:Code:=(zeJ yr5 64 500).getD .skip
theorem yNx:zeJ yr5 64 125=some (.block 0 (.loop yB5)):=by kernel_rfl
theorem yQl (x:(ycB).X):zhu ⟨yBl,62,yFF⟩ 0 yB5 500 ycB ygm ygI x=ycY x:=by kernel_rfl
def yAm (x:(ygx).X):Nat:=18446744073709551616
def yqC (x:(ygx).X):Option ((ygm).X ⊕ (ygI).X):=zF ycY (yAm x) (yAb x)
def yAG:Seg:=⟨ygx,ygm,ygI,yqC⟩
def yUA:Nat→Option Seg:=fun q=>bif Nat.beq q 125 then some yAG else yFF q
theorem yRP:FrOk prog ⟨yBl,62,yUA⟩ yr5:=(yRO).loop (sg:=yAG) ycB yAb (by decide) yNx ycY yAm (by decide) (fun _=>rfl) (fun x r _ h=>h) yQl
abbrev ysI:List Par:= [.rd tA,.rd tI]
abbrev yBK:List OT:= [⟨false,tL,(.ow .fz)⟩,⟨false,tB,.fz⟩]
def yww (a0:dA) (a1:Int):Option (zaY yBK×zak ysI) :=let r1:=yaj a0;bif(!(!r1))then bif(!a0.2.2.2.2.2.2.2.2.2.2.2)then let r2:=yaV a0.2.1 a1;bif(!r2)then some (([],false,()),()) else zkr (yqC (((a1,()),((),()),((),()),((),()),((a0.2.2.1.length:Int),()),((),()),()),((a0.1,a0.2.1.1,a0.2.1.2,a0.2.2.1,a0.2.2.2.1,a0.2.2.2.2.1,a0.2.2.2.2.2.1,a0.2.2.2.2.2.2.1,a0.2.2.2.2.2.2.2.1,a0.2.2.2.2.2.2.2.2.1,a0.2.2.2.2.2.2.2.2.2.1,a0.2.2.2.2.2.2.2.2.2.2.1,a0.2.2.2.2.2.2.2.2.2.2.2,()),()),(([]:List Int),()))) (fun y4 =>bif(leb 0 y4.1.2.1.1)then let r6:=yeU y4.2.2.1 y4.1.2.1.1;bif(inb y4.1.2.1.1 y4.2.2.1.length)then some (((y4.2.2.1.set (y4.1.2.1.1).toNat r6),true,()),()) else none else some ((y4.2.2.1,true,()),())) (fun y4 =>some (([],y4.1.2.1.1,()),())) else some (([],false,()),()) else some (([],false,()),())
theorem yVZ:ConOk prog 138 ⟨ysI,yBK,fun x=>yww x.1 x.2.1⟩:=zkG (yRP) func138 ntmps138.symm fun x=>by kernel_rfl
def yne (a0:dA) (a1:Int):List Int×Bool:=bif yal a0&&(!a0.2.2.2.2.2.2.2.2.2.2.2&&yac a0.2.1 a1)then yP a0 a1 else([],false)
theorem yYw (a0:dA) (a1:Int) (hk:zjw ysI (a0,a1,())):yww a0 a1=(fun n=>some ((n.1,n.2,()),())) (yne a0 a1):=by
 unfold yww yne yaj;rw[yFt];cases ha:yal a0
 ·rfl
 have hg:=yn.1 (yrK ha);have hl:=yIG ha
 have h1:yqC (yLX a1 a0.2.2.1.length a0 [])=some (bif yey (fun(i:Nat)=>yA a0 i a1) a0.2.1.1.toNat then .inr (yL6 false)else .inl (yLR (yG (fun(i:Nat)=>yA a0 i a1) a0.2.1.1.toNat) (yae a0 a1 a0.2.1.1.toNat))) :=
  zjh (step:=ycY) (fun i=>yoZ a1 (yG (fun(i:Nat)=>yA a0 i a1) i) a0.2.2.1.length i a0 (yae a0 a1 i)) a0.2.1.1.toNat (fun i=> !yA a0 i a1&&leb 0 (yG (fun(i:Nat)=>yA a0 i a1) i)) _ _ (fun i hi=>by
   simp only[ycY,yoZ,ypw,zkw (show(i:Int)<a0.2.2.1.length by omega),cond_true,wq ((i:Int)+1) (by omega) (by omega),Int.natCast_add,Int.natCast_one,Int.toNat_natCast,zkV,yGy a0 i a1 (zkP (show i<a0.2.2.1.length by omega)),yhh,zkF,yG];rw[zkD.2 (show((yae a0 a1 i).length+ [yiH a0 i a1].length)*8≤140737488355328 by simp only[List.length_cons,List.length_nil,ye1]; omega),yHJ]
   cases yA a0 i a1<;>cases leb 0 (yG (fun(i:Nat)=>yA a0 i a1) i)<;>rfl) (by simp only[ycY,yoZ,ypw,zk1 (show(a0.2.2.1.length:Int)≤(a0.2.1.1.toNat:Int)by omega),cond_false]) _ (by show _<18446744073709551616; omega)
 rw[h1];cases a0.2.2.2.2.2.2.2.2.2.2.2
 ·cases yac a0.2.1 a1
  ·rfl
  ·unfold yP
   cases yey (fun(i:Nat)=>yA a0 i a1) a0.2.1.1.toNat
   ·simp only[cond_false,zkL,yeU]
    cases hm:leb 0 (yG (fun(i:Nat)=>yA a0 i a1) a0.2.1.1.toNat)
    ·rfl
    ·obtain⟨h2,h3⟩:=yXd a0 a1 a0.2.1.1.toNat hm
     rw[h2,h3]; rfl
   ·rfl
 ·rfl
def yF0:Con:=⟨ysI,yBK,fun x=>(fun n=>some ((n.1,n.2,()),())) (yne x.1 x.2.1)⟩
theorem yYS:ConOk prog 138 yF0:=(yVZ).mono (fun x r hk h=>(yYw x.1 x.2.1 hk).trans h)
def ypV:Code:=(f68.body).getD .skip
def yyb:Env:=zku TT [(138,yF0),(142,ytq)] []
theorem yNO:FrOk prog ⟨yyb,39,fun _=>none⟩ ypV:=zky yg yh ⟨yYS,yGn,trivial⟩
def yDM:Nat→Option Seg:=fun _=>none
def ybP:Shape:=⟨[(1,false,[.int .i64]),(2,false,[.ptr 0 0]),(6,false,[.at 800000000]),(8,false,[.at 800000001]),(22,false,[.int .i64]),(23,false,[.int .i64])],[(0,[.int .i64,.int .i64,.int .i64,.br tM,.int .i64,.int .i64,.int .i64,.int .i64,.int .i64,.br tW,.int .i64,.bool,.bool])],[(800000000,tI,.fz),(800000001,tI,.fz)]⟩
def yfF:Shape:=⟨[(1,false,[.int .i64]),(2,false,[.ptr 0 0]),(6,false,[.at 800000000]),(8,false,[.at 800000001]),(22,false,[.int .i64]),(23,false,[.ci .i64 0])],[(0,[.int .i64,.int .i64,.int .i64,.br tM,.int .i64,.int .i64,.int .i64,.int .i64,.int .i64,.br tW,.int .i64,.bool,.bool])],[(800000000,tI,.fz),(800000001,tI,.fz)]⟩
def yft:Shape:=⟨[(8,false,[.at 800000000])],[],[(800000000,tI,.fz)]⟩
def yiO:Shape:=⟨[],[],[]⟩
abbrev ym2 (v0 v1 v2:Int) (v3:dA) (v4 v5:List Int):(ybP).X:=(((v0,()),((),()),((),()),((),()),(v1,()),(v2,()),()),((v3.1,v3.2.1.1,v3.2.1.2,v3.2.2.1,v3.2.2.2.1,v3.2.2.2.2.1,v3.2.2.2.2.2.1,v3.2.2.2.2.2.2.1,v3.2.2.2.2.2.2.2.1,v3.2.2.2.2.2.2.2.2.1,v3.2.2.2.2.2.2.2.2.2.1,v3.2.2.2.2.2.2.2.2.2.2.1,v3.2.2.2.2.2.2.2.2.2.2.2,()),()),(v4,v5,()))
abbrev yJC (v0 v1:Int) (v2:dA) (v3 v4:List Int):(yfF).X:=(((v0,()),((),()),((),()),((),()),(v1,()),((),()),()),((v2.1,v2.2.1.1,v2.2.1.2,v2.2.2.1,v2.2.2.2.1,v2.2.2.2.2.1,v2.2.2.2.2.2.1,v2.2.2.2.2.2.2.1,v2.2.2.2.2.2.2.2.1,v2.2.2.2.2.2.2.2.2.1,v2.2.2.2.2.2.2.2.2.2.1,v2.2.2.2.2.2.2.2.2.2.2.1,v2.2.2.2.2.2.2.2.2.2.2.2,()),()),(v3,v4,()))
abbrev yxL (v0:List Int):(yft).X:=((((),()),()),(),(v0,()))
def ynr (v0 v1 v2 v3 v4 v5:Int) (v6:List dM) (v7 v8 v9 v10 v11:Int) (v12:List dW) (v13:Int) (v14 v15:Bool) (v16 v17:List Int):Option ((ybP).X ⊕ ((yft).X ⊕ (yiO).X)) :=bif(ltb v2 v1)then let r3:=yfo (v4,v5) v0 v2;bif(inb r3 v16.length)then bif(zkj v17.length ([(nth v16 r3 0)]:List Int).length 8)then some (.inl (((v0,()),((),()),((),()),((),()),(v1,()),((i64.wrap (v2+1)),()),()),((v3,v4,v5,v6,v7,v8,v9,v10,v11,v12,v13,v14,v15,()),()),(v16,(v17++([(nth v16 r3 0)]:List Int)),()))) else none else none else some (.inr (.inl ((((),()),()),(),(v17,()))))
def yb8 (x:(ybP).X):=ynr x.1.1.1 x.1.2.2.2.2.1.1 x.1.2.2.2.2.2.1.1 x.2.1.1.1 x.2.1.1.2.1 x.2.1.1.2.2.1 x.2.1.1.2.2.2.1 x.2.1.1.2.2.2.2.1 x.2.1.1.2.2.2.2.2.1 x.2.1.1.2.2.2.2.2.2.1 x.2.1.1.2.2.2.2.2.2.2.1 x.2.1.1.2.2.2.2.2.2.2.2.1 x.2.1.1.2.2.2.2.2.2.2.2.2.1 x.2.1.1.2.2.2.2.2.2.2.2.2.2.1 x.2.1.1.2.2.2.2.2.2.2.2.2.2.2.1 x.2.1.1.2.2.2.2.2.2.2.2.2.2.2.2.1 x.2.2.1 x.2.2.2.1
def yxh (x:(yfF).X):(ybP).X:=(((x.1.1.1,()),((),()),((),()),((),()),(x.1.2.2.2.2.1.1,()),(0,()),()),((x.2.1.1.1,x.2.1.1.2.1,x.2.1.1.2.2.1,x.2.1.1.2.2.2.1,x.2.1.1.2.2.2.2.1,x.2.1.1.2.2.2.2.2.1,x.2.1.1.2.2.2.2.2.2.1,x.2.1.1.2.2.2.2.2.2.2.1,x.2.1.1.2.2.2.2.2.2.2.2.1,x.2.1.1.2.2.2.2.2.2.2.2.2.1,x.2.1.1.2.2.2.2.2.2.2.2.2.2.1,x.2.1.1.2.2.2.2.2.2.2.2.2.2.2.1,x.2.1.1.2.2.2.2.2.2.2.2.2.2.2.2.1,()),()),(x.2.2.1,x.2.2.2.1,()))
def yzE:Code:=(zeJ ypV 64 500).getD .skip
theorem yKX:zeJ ypV 64 125=some (.block 0 (.loop yzE)):=by kernel_rfl
theorem yMK (x:(ybP).X):zhu ⟨yyb,39,yDM⟩ 0 yzE 500 ybP yft yiO x=yb8 x:=by kernel_rfl
def yxw (x:(yfF).X):Nat:=18446744073709551616
def yoz (x:(yfF).X):Option ((yft).X ⊕ (yiO).X):=zF yb8 (yxw x) (yxh x)
def yxW:Seg:=⟨yfF,yft,yiO,yoz⟩
def yQQ:Nat→Option Seg:=fun q=>bif Nat.beq q 125 then some yxW else yDM q
theorem yNP:FrOk prog ⟨yyb,39,yQQ⟩ ypV:=(yNO).loop (sg:=yxW) ybP yxh (by decide) yKX yb8 yxw (by decide) (fun _=>rfl) (fun x r _ h=>h) yMK
abbrev yp4:List Par:= [.rd tA,.rd tI]
abbrev yyF:List OT:= [⟨false,tL,(.ow .fz)⟩,⟨false,tB,.fz⟩]
def yua (a0:dA) (a1:Int):Option (zaY yyF×zak yp4) :=let r1:=yne a0 a1;bif(!r1.2)then some (([],false,()),()) else zkr (yoz (((a1,()),((),()),((),()),((),()),((i64.wrap (a0.2.1.1-1)),()),((),()),()),((a0.1,a0.2.1.1,a0.2.1.2,a0.2.2.1,a0.2.2.2.1,a0.2.2.2.2.1,a0.2.2.2.2.2.1,a0.2.2.2.2.2.2.1,a0.2.2.2.2.2.2.2.1,a0.2.2.2.2.2.2.2.2.1,a0.2.2.2.2.2.2.2.2.2.1,a0.2.2.2.2.2.2.2.2.2.2.1,a0.2.2.2.2.2.2.2.2.2.2.2,()),()),(r1.1,([]:List Int),()))) (fun y3 =>some ((y3.2.2.1,true,()),())) (fun y3 =>none)
theorem yS0:ConOk prog 68 ⟨yp4,yyF,fun x=>yua x.1 x.2.1⟩:=zkG (yNP) func68 ntmps68.symm fun x=>by kernel_rfl
def yk0 (a0:dA) (a1:Int):List Int×Bool:=ydv a0 a1
theorem yVl (a0:dA) (a1:Int) (hk:zjw yp4 (a0,a1,())):yua a0 a1=(fun n=>some ((n.1,n.2,()),())) (yk0 a0 a1):=by
 unfold yua yk0 ydv yne;cases hc:(yal a0&&(!a0.2.2.2.2.2.2.2.2.2.2.2&&yac a0.2.1 a1))
 ·rfl
 simp only[Bool.and_eq_true]at hc;have hg:=yn.1 (yrK hc.1);have hs:=hc.2.2;unfold yqo;simp only[cond_true];cases hw:(yP a0 a1).2
 ·rfl
 ·have hL:=yKs hw
  have h1:yoz (yJC a1 (a0.2.1.1-1) a0 (yP a0 a1).1 [])=some (.inl (yxL ((List.range (a0.2.1.1-1).toNat).foldl (fun l (i:Nat)=>l++ [nth (yP a0 a1).1 (ybA a0.2.1 a1 i) 0]) []))) :=
   zkB (step:=yb8) (a0.2.1.1-1).toNat (fun i s=>ym2 a1 (a0.2.1.1-1) i a0 (yP a0 a1).1 s) (fun l (i:Nat)=>l++ [nth (yP a0 a1).1 (ybA a0.2.1 a1 i) 0]) (fun i s=>s.length=i) (fun s=> .inl (yxL s)) (fun i s hi hs2=>⟨by
    have hd:=yU6 hs (show(0:Int)≤i by omega) (show(i:Int)≤a0.2.1.1-2 by omega);simp only[yb8,ym2,ynr,zkw (show(i:Int)<a0.2.1.1-1 by omega),cond_true,wq ((i:Int)+1) (by omega) (by omega),Int.natCast_add,Int.natCast_one,Int.toNat_natCast,zkV,yfo,zj4.2 (show 0≤ybA a0.2.1 a1 i∧ybA a0.2.1 a1 i<(yP a0 a1).1.length by omega)]
    rw[zkD.2 (show(s.length+ [nth (yP a0 a1).1 (ybA a0.2.1 a1 i) 0].length)*8≤140737488355328 by simp only[List.length_cons,List.length_nil]; omega)]; rfl,by simp[hs2]⟩) (fun s hs2=>by simp only[yb8,ym2,ynr,zk1 (show a0.2.1.1-1≤((a0.2.1.1-1).toNat:Int)by omega),cond_false]) [] rfl _ (by show _<18446744073709551616; omega)
  simp only[wq (a0.2.1.1-1) (by omega) (by omega)];rw[h1,yof]; rfl
def yEg:Con:=⟨yp4,yyF,fun x=>(fun n=>some ((n.1,n.2,()),())) (yk0 x.1 x.2.1)⟩
theorem yWh:ConOk prog 68 yEg:=(yS0).mono (fun x r hk h=>(yVl x.1 x.2.1 hk).trans h)
end
end Go.Tf
